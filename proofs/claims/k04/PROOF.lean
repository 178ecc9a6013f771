import PyProof.Rows.All
import Wide.All
import OpenK.AllK
import Wide.FinOn
import HandS.ForMost
import HandS.ForExc
import HandS.IsInst
import HandS.TupAny
import HandS.TupMul
import HandS.Deep
import HandS.Wide
import HandS.WideBits
import HandS.CallSlots
import HandS.CallLocal
import HandS.ExcCtx
import HandS.SuiteRaise
import HandS.Walk
import HandS.Iter
import HandS.Zip
import HandS.Lambda
import HandS.SetFor
import HandS.Strs
import HandS.SortInts
import KE.GoesEnum
import HandS.Style
import PyProof.Rows.StrMul
import HandS.ExcSuper
import HandS.ExcInit
import HandS.ExcField
import KE.KSuper
import HandS.RaiseFrom
import HandS.HotCalls
import HandS.ExcIs
import HandS.ExcInitHot
import KE.KExcIs
import KE.GoesNew
import KE.GoesMore
import HandS.Conv
import HandS.ListItems
import KE.KDictZip
import PyProof.EnumMake
import HandS.Dict
import HandS.More
import HandS.DictComp
import PySem.Challenge.RW_doneorundone_k04_arguments_of_trees
/-! Dn1 -/
set_option Elab.async false
set_option linter.all false
set_option maxRecDepth 100000
set_option maxHeartbeats 1000000
/-! Dn1: data, the monad, how data lie in the heap, the states. -/
namespace Dn
open PySem PySem.Spec L2
open PyProof.Rows hiding St

/-- plain data -/
inductive D where
  | non | bl (b : Bool) | int (i : Int) | str (x : Str)
  | tup (xs : List D) | lst (xs : List D)
  | dct (ks vs : List D)
  | fn (i : Nat)
  | scr (ns : List Int)

inductive Exn where
  | raise (k : Nat) (d : D)
  | stuck

abbrev M := Except Exn
abbrev stuck {α : Type} : M α := .error .stuck

/-- what is fixed in a law: the written part, where the defs stand that are values, the error classes -/
structure Cc where
  K : PySem.W.Frag
  fa : Nat → Option Addr
  ec : Nat → Option Addr
  en : Nat → Str

def dk : Key → D
  | .inl i => .int i
  | .inr x => .str x

mutual
def IsD (c : Cc) (H : Hp) : D → V → Prop
  | .non, v => v = .non
  | .bl b, v => v = .bl b
  | .int i, v => v = .int i
  | .str x, v => v = .str x
  | .tup xs, v => ∃ a vs, v = .ref a ∧ SqT c.K H a vs ∧ IsDs c H xs vs
  | .lst xs, v => ∃ a vs, v = .ref a ∧ H a = some (.lst vs) ∧ IsDs c H xs vs
  | .scr ns, v => ∃ a, v = .ref a ∧ SqL c.K H a (ns.map V.int)
  | .dct ks ws, v => ∃ a, v = .ref a ∧ ∃ kvs : List (Key × V), Rd H a (.dK kvs) ∧ ks = kvs.map (fun p => dk p.1) ∧ IsDs c H ws (kvs.map (·.2))
  | .fn i, v => ∃ a, c.fa i = some a ∧ v = .ref a
def IsDs (c : Cc) (H : Hp) : List D → List V → Prop
  | [], vs => vs = []
  | d :: ds, vs => ∃ v r, vs = v :: r ∧ IsD c H d v ∧ IsDs c H ds r
end

theorem Rd.same {H H' : Hp} {a : Addr} {u : HO} (e : Same H H') (r : Rd H a u) : Rd H' a u := by
  rcases r with r | ⟨o, r⟩
  · exact .inl (e _ _ r)
  · exact .inr ⟨o, e _ _ r⟩
theorem SqT.same {K : PySem.W.Frag} {H H' : Hp} {a : Addr} {xs : List V} (e : Same H H') (r : SqT K H a xs) : SqT K H' a xs := by
  rcases r with r | r
  · exact .inl (Rd.same e r)
  · exact .inr r

mutual
theorem IsD.same {c : Cc} {H H' : Hp} (e : Same H H') : ∀ (d : D) (v : V), IsD c H d v → IsD c H' d v
  | .non, v, h => by unfold IsD at h ⊢; exact h
  | .bl _, v, h => by unfold IsD at h ⊢; exact h
  | .int _, v, h => by unfold IsD at h ⊢; exact h
  | .str _, v, h => by unfold IsD at h ⊢; exact h
  | .tup xs, v, h => by
    unfold IsD at h ⊢
    obtain ⟨a, vs, e1, e2, e3⟩ := h
    exact ⟨a, vs, e1, SqT.same e e2, IsDs.same e xs vs e3⟩
  | .lst xs, v, h => by
    unfold IsD at h ⊢
    obtain ⟨a, vs, e1, e2, e3⟩ := h
    exact ⟨a, vs, e1, e _ _ e2, IsDs.same e xs vs e3⟩
  | .scr ns, v, h => by
    unfold IsD at h ⊢
    obtain ⟨a, e1, e2⟩ := h
    exact ⟨a, e1, e.seq e2⟩
  | .dct ks ws, v, h => by
    unfold IsD at h ⊢
    obtain ⟨a, e1, kvs, h1, h2, h3⟩ := h
    exact ⟨a, e1, kvs, Rd.same e h1, h2, IsDs.same e ws _ h3⟩
  | .fn _, v, h => by unfold IsD at h ⊢; exact h
theorem IsDs.same {c : Cc} {H H' : Hp} (e : Same H H') : ∀ (ds : List D) (vs : List V), IsDs c H ds vs → IsDs c H' ds vs
  | [], vs, h => by unfold IsDs at h ⊢; exact h
  | d :: ds, vs, h => by
    unfold IsDs at h ⊢
    obtain ⟨v, r, e1, h1, h2⟩ := h
    exact ⟨v, r, e1, IsD.same e d v h1, IsDs.same e ds r h2⟩
end

section
variable {c : Cc} {H : Hp}
theorem IsDs.len : ∀ {ds : List D} {vs : List V}, IsDs c H ds vs → ds.length = vs.length
  | [], vs, h => by unfold IsDs at h; subst h; rfl
  | d :: ds, vs, h => by
    unfold IsDs at h
    obtain ⟨v, r, rfl, h1, h2⟩ := h
    simp [IsDs.len h2]
theorem IsDs.nil : IsDs c H [] [] := by unfold IsDs; rfl
theorem IsDs.cons {d : D} {v : V} {ds : List D} {vs : List V} (h : IsD c H d v) (t : IsDs c H ds vs) : IsDs c H (d :: ds) (v :: vs) := by
  unfold IsDs; exact ⟨v, vs, rfl, h, t⟩
theorem IsDs.get : ∀ {ds : List D} {vs : List V} {i : Nat} {v : V}, IsDs c H ds vs → vs[i]? = some v → ∃ d, ds[i]? = some d ∧ IsD c H d v
  | [], vs, i, v, h, e => by unfold IsDs at h; subst h; simp at e
  | d :: ds, vs, i, v, h, e => by
    unfold IsDs at h
    obtain ⟨w, r, rfl, h1, h2⟩ := h
    cases i with
    | zero => simp at e; subst e; exact ⟨d, rfl, h1⟩
    | succ i => obtain ⟨d', e1, e2⟩ := IsDs.get (i := i) h2 (by simpa using e); exact ⟨d', by simpa using e1, e2⟩
theorem IsDs.getD : ∀ {ds : List D} {vs : List V} {i : Nat} {d : D}, IsDs c H ds vs → ds[i]? = some d → ∃ v, vs[i]? = some v ∧ IsD c H d v
  | [], vs, i, v, h, e => by simp at e
  | d :: ds, vs, i, d', h, e => by
    unfold IsDs at h
    obtain ⟨w, r, rfl, h1, h2⟩ := h
    cases i with
    | zero => simp at e; subst e; exact ⟨w, rfl, h1⟩
    | succ i => obtain ⟨v', e1, e2⟩ := IsDs.getD (i := i) h2 (by simpa using e); exact ⟨v', by simpa using e1, e2⟩
theorem IsDs.append : ∀ {ds es : List D} {vs ws : List V}, IsDs c H ds vs → IsDs c H es ws → IsDs c H (ds ++ es) (vs ++ ws)
  | [], es, vs, ws, h, h' => by unfold IsDs at h; subst h; exact h'
  | d :: ds, es, vs, ws, h, h' => by
    unfold IsDs at h
    obtain ⟨w, r, rfl, h1, h2⟩ := h
    exact IsDs.cons h1 (IsDs.append h2 h')
theorem IsDs.drop : ∀ {ds : List D} {vs : List V} (n : Nat), IsDs c H ds vs → IsDs c H (ds.drop n) (vs.drop n)
  | ds, vs, 0, h => h
  | [], vs, n + 1, h => by unfold IsDs at h; subst h; exact IsDs.nil
  | d :: ds, vs, n + 1, h => by
    unfold IsDs at h
    obtain ⟨w, r, rfl, h1, h2⟩ := h
    exact IsDs.drop n h2
theorem IsDs.take : ∀ {ds : List D} {vs : List V} (n : Nat), IsDs c H ds vs → IsDs c H (ds.take n) (vs.take n)
  | ds, vs, 0, h => IsDs.nil
  | [], vs, n + 1, h => by unfold IsDs at h; subst h; exact IsDs.nil
  | d :: ds, vs, n + 1, h => by
    unfold IsDs at h
    obtain ⟨w, r, rfl, h1, h2⟩ := h
    exact IsDs.cons h1 (IsDs.take n h2)
theorem IsDs.set : ∀ {ds : List D} {vs : List V} {d : D} {v : V} (n : Nat), IsDs c H ds vs → IsD c H d v → IsDs c H (ds.set n d) (vs.set n v)
  | [], vs, d, v, n, h, _ => by unfold IsDs at h; subst h; exact IsDs.nil
  | d :: ds, vs, d', v, n, h, h' => by
    unfold IsDs at h
    obtain ⟨w, r, rfl, h1, h2⟩ := h
    cases n with
    | zero => exact IsDs.cons h' h2
    | succ n => exact IsDs.cons h1 (IsDs.set n h2 h')
theorem IsDs.reverse : ∀ {ds : List D} {vs : List V}, IsDs c H ds vs → IsDs c H ds.reverse vs.reverse
  | [], vs, h => by unfold IsDs at h; subst h; exact IsDs.nil
  | d :: ds, vs, h => by
    unfold IsDs at h
    obtain ⟨w, r, rfl, h1, h2⟩ := h
    rw [List.reverse_cons, List.reverse_cons]
    exact IsDs.append (IsDs.reverse h2) (IsDs.cons h1 IsDs.nil)
theorem IsDs.dropLast {ds : List D} {vs : List V} (h : IsDs c H ds vs) : IsDs c H ds.dropLast vs.dropLast := by
  rw [List.dropLast_eq_take, List.dropLast_eq_take, h.len]
  exact h.take _
theorem IsDs.eraseIdx : ∀ {ds : List D} {vs : List V} (n : Nat), IsDs c H ds vs → IsDs c H (ds.eraseIdx n) (vs.eraseIdx n)
  | [], vs, n, h => by unfold IsDs at h; subst h; exact IsDs.nil
  | d :: ds, vs, n, h => by
    unfold IsDs at h
    obtain ⟨w, r, rfl, h1, h2⟩ := h
    cases n with
    | zero => exact h2
    | succ n => exact IsDs.cons h1 (IsDs.eraseIdx n h2)
end

/-! ### hiding -/
open Classical in
noncomputable def hide (H : Hp) (P : Addr → Prop) : Hp := fun a => if P a then none else H a
theorem hide_of {H : Hp} {P : Addr → Prop} {a : Addr} (h : ¬ P a) : hide H P a = H a := by unfold hide; rw [if_neg h]
theorem hide_yes {H : Hp} {P : Addr → Prop} {a : Addr} (h : P a) : hide H P a = none := by unfold hide; rw [if_pos h]
theorem hide_some {H : Hp} {P : Addr → Prop} {a : Addr} {o : HO} (h : hide H P a = some o) : ¬ P a ∧ H a = some o := by
  by_cases p : P a
  · rw [hide_yes p] at h; cases h
  · rw [hide_of p] at h; exact ⟨p, h⟩
theorem hide_same {H H' : Hp} {P : Addr → Prop} (e : Same H H') : Same (hide H P) (hide H' P) := fun b o h => by
  obtain ⟨h1, h2⟩ := hide_some h
  rw [hide_of h1]; exact e _ _ h2
theorem hide_sub {H : Hp} {P P' : Addr → Prop} (e : ∀ a, P' a → P a) : Same (hide H P) (hide H P') := fun b o h => by
  obtain ⟨h1, h2⟩ := hide_some h
  rw [hide_of fun p => h1 (e _ p)]; exact h2
theorem hide_full {H : Hp} {P : Addr → Prop} : Same (hide H P) H := fun b o h => (hide_some h).2
theorem same_new {H : Hp} {p : Addr} {o : HO} (n : H p = none) : Same H (upd H p o) := fun b u h => by
  rw [upd_ne (ne_of_none h n)]; exact h

/-! ### the states -/
inductive Sl where
  | un | va (d : D) | ow (d : D)
abbrev En := List Sl

/-- an owned object's content -/
def ObjRep (c : Cc) (G : Hp) : D → HO → Prop
  | .lst ds, o => ∃ vs, o = .lst vs ∧ IsDs c G ds vs
  | .dct ks ws, o => ∃ kvs : List (Key × V), o = .dK kvs ∧ ks = kvs.map (fun p => dk p.1) ∧ IsDs c G ws (kvs.map (·.2))
  | _, _ => False
theorem ObjRep.same {c : Cc} {G G' : Hp} (e : Same G G') {d : D} {o : HO} (h : ObjRep c G d o) : ObjRep c G' d o := by
  cases d with
  | lst ds => obtain ⟨vs, e1, h⟩ := h; exact ⟨vs, e1, h.same e⟩
  | dct ks ws =>
    obtain ⟨kvs, e1, e2, h⟩ := h
    exact ⟨kvs, e1, e2, h.same e⟩
  | _ => exact h

def Owns (env : En) (σ : St) (a : Addr) : Prop := ∃ (i : Nat) (d : D), env[i]? = some (Sl.ow d) ∧ σ[i]? = some (some (V.ref a))
abbrev Hid (xs : Addr → Prop) (env : En) (σ : St) : Addr → Prop := fun a => Owns env σ a ∨ xs a

structure StOk (c : Cc) (xs : Addr → Prop) (env : En) (σ : St) (H : Hp) : Prop where
  len : env.length = σ.length
  xb : ∀ a, xs a → H a ≠ none ∧ ¬ Owns env σ a
  va : ∀ (i : Nat) (d : D), env[i]? = some (Sl.va d) → ∃ v, σ[i]? = some (some v) ∧ IsD c (hide H (Hid xs env σ)) d v
  ow : ∀ (i : Nat) (d : D), env[i]? = some (Sl.ow d) → ∃ a o, σ[i]? = some (some (V.ref a)) ∧ H a = some o ∧ ObjRep c (hide H (Hid xs env σ)) d o
  inj : ∀ (i j : Nat) (d e : D) (a : Addr), env[i]? = some (Sl.ow d) → env[j]? = some (Sl.ow e) → σ[i]? = some (some (V.ref a)) → σ[j]? = some (some (V.ref a)) → i = j

section
variable {c : Cc} {xs : Addr → Prop} {env : En} {σ : St} {H H' : Hp}
/-- nothing changed -/
theorem StOk.same (S : StOk c xs env σ H) (e : Same H H') : StOk c xs env σ H' where
  len := S.len
  xb := fun a h => by
    refine ⟨fun n => ?_, (S.xb a h).2⟩
    cases q : H a with
    | none => exact (S.xb a h).1 q
    | some o => rw [e _ _ q] at n; cases n
  va := fun i d h => let ⟨v, h1, h2⟩ := S.va i d h; ⟨v, h1, h2.same (hide_same e)⟩
  ow := fun i d h => let ⟨a, o, h1, h2, h3⟩ := S.ow i d h; ⟨a, o, h1, e _ _ h2, h3.same (hide_same e)⟩
  inj := S.inj
/-- hidden addresses are taken -/
theorem StOk.hid (S : StOk c xs env σ H) {a : Addr} (h : Hid xs env σ a) : H a ≠ none := by
  rcases h with ⟨i, d, h1, h2⟩ | h
  · obtain ⟨b, o, h3, h4, _⟩ := S.ow i d h1
    rw [h2] at h3; cases h3
    rw [h4]; exact fun z => nomatch z
  · exact (S.xb a h).1
theorem StOk.newHid (S : StOk c xs env σ H) {p : Addr} (n : H p = none) : ¬ Hid xs env σ p := fun h => S.hid h n
end
end Dn

/-! Dn2 -/
set_option Elab.async false
set_option linter.all false
set_option maxRecDepth 100000
set_option maxHeartbeats 1000000
/-! Dn2: readings by data: expressions, tests, arguments, statements. -/
namespace Dn
open PySem PySem.Spec L2
open PyProof.Rows hiding St

/-- as Cc, without the written part -/
structure Ce where
  fa : Nat → Option Addr
  ec : Nat → Option Addr
  en : Nat → Str
abbrev cc (X : Cx) (g : Ce) : Cc := ⟨X.K, g.fa, g.ec, g.en⟩

def bnd {α β : Type} (x : M α) (f : α → M β) : M β :=
  match x with
  | .ok a => f a
  | .error e => .error e
@[simp] theorem bnd_ok {α β : Type} (a : α) (f : α → M β) : bnd (.ok a) f = f a := rfl
@[simp] theorem bnd_err {α β : Type} (e : Exn) (f : α → M β) : bnd (.error e : M α) f = .error e := rfl

/-! ### how a value is held: clean, or by its shell -/
def RepS (c : Cc) (P : Addr → Prop) (H : Hp) : D → V → Prop
  | .lst ds, v => ∃ a vs, v = .ref a ∧ H a = some (.lst vs) ∧ IsDs c (hide H P) ds vs
  | .dct ks ws, v => ∃ a, v = .ref a ∧ ∃ kvs : List (Key × V), Rd H a (.dK kvs) ∧ ks = kvs.map (fun p => dk p.1) ∧ IsDs c (hide H P) ws (kvs.map (·.2))
  | d, v => IsD c (hide H P) d v
def Rep (c : Cc) (sh : Bool) (P : Addr → Prop) (H : Hp) (d : D) (v : V) : Prop := if sh = true then RepS c P H d v else IsD c (hide H P) d v
theorem RepS.of {c : Cc} {P : Addr → Prop} {H : Hp} {d : D} {v : V} (h : IsD c (hide H P) d v) : RepS c P H d v := by
  cases d with
  | lst ds => unfold IsD at h; obtain ⟨a, vs, e1, e2, e3⟩ := h; exact ⟨a, vs, e1, hide_full _ _ e2, e3⟩
  | dct ks ws =>
    unfold IsD at h
    obtain ⟨a, e1, kvs, h1, h2⟩ := h
    exact ⟨a, e1, kvs, Rd.same hide_full h1, h2⟩
  | _ => exact h
theorem RepS.same {c : Cc} {P : Addr → Prop} {H H' : Hp} {d : D} {v : V} (e : Same H H') (h : RepS c P H d v) : RepS c P H' d v := by
  cases d with
  | lst ds => obtain ⟨a, vs, e1, e2, e3⟩ := h; exact ⟨a, vs, e1, e _ _ e2, e3.same (hide_same e)⟩
  | dct ks ws =>
    obtain ⟨a, e1, kvs, h1, h2, h3⟩ := h
    exact ⟨a, e1, kvs, Rd.same e h1, h2, h3.same (hide_same e)⟩
  | _ => exact IsD.same (hide_same e) _ _ h
theorem Rep.shell {c : Cc} {sh : Bool} {P : Addr → Prop} {H : Hp} {d : D} {v : V} (h : Rep c sh P H d v) : RepS c P H d v := by
  unfold Rep at h
  split at h
  · exact h
  · exact RepS.of h
theorem Rep.clean {c : Cc} {P : Addr → Prop} {H : Hp} {d : D} {v : V} (h : Rep c false P H d v) : IsD c (hide H P) d v := h
theorem Rep.of {c : Cc} {sh : Bool} {P : Addr → Prop} {H : Hp} {d : D} {v : V} (h : IsD c (hide H P) d v) : Rep c sh P H d v := by
  unfold Rep
  split
  · exact RepS.of h
  · exact h

def isOw (env : En) (j : Nat) : Bool := match env[j]? with
  | some (.ow _) => true
  | _ => false
theorem isOw_of {env : En} {j : Nat} {d : D} (h : env[j]? = some (Sl.ow d)) : isOw env j = true := by unfold isOw; rw [h]
theorem of_isOw {env : En} {j : Nat} (h : isOw env j = true) : ∃ d, env[j]? = some (Sl.ow d) := by
  unfold isOw at h
  split at h
  · rename_i d q; exact ⟨d, q⟩
  · cases h
theorem owns_shape {env env' : En} {σ : St} (h : ∀ j, isOw env' j = isOw env j) : Owns env' σ = Owns env σ := by
  funext a
  apply propext
  constructor
  · rintro ⟨i, d, h1, h2⟩
    obtain ⟨e, he⟩ := of_isOw ((h i).symm.trans (isOw_of h1))
    exact ⟨i, e, he, h2⟩
  · rintro ⟨i, d, h1, h2⟩
    obtain ⟨e, he⟩ := of_isOw ((h i).trans (isOw_of h1))
    exact ⟨i, e, he, h2⟩
/-- an evaluation's step -/
structure Stp (c : Cc) (xs : Addr → Prop) (pu : Bool) (env env' : En) (σ : St) (H H' : Hp) : Prop where
  st : StOk c xs env' σ H'
  shp : ∀ j, isOw env' j = isOw env j
  sm : Same (hide H (Owns env σ)) (hide H' (Owns env σ))
  pr : pu = true → env' = env ∧ Same H H'
section
variable {c : Cc} {xs : Addr → Prop} {pu pu' : Bool} {env env' env'' : En} {σ : St} {H H' H'' : Hp}
theorem Stp.own (s : Stp c xs pu env env' σ H H') : Owns env' σ = Owns env σ := owns_shape s.shp
theorem Stp.hid (s : Stp c xs pu env env' σ H H') : Hid xs env' σ = Hid xs env σ := by
  funext a; unfold Hid; rw [s.own]
theorem Stp.smH (s : Stp c xs pu env env' σ H H') : Same (hide H (Hid xs env σ)) (hide H' (Hid xs env σ)) := fun b o h => by
  obtain ⟨h1, h2⟩ := hide_some h
  have h3 := s.sm b o (by rw [hide_of fun z => h1 (.inl z)]; exact h2)
  rw [hide_of h1]
  exact (hide_some h3).2
theorem Stp.th (s : Stp c xs pu env env' σ H H') (a : Addr) (h : H a ≠ none) : H' a ≠ none := fun n => by
  by_cases z : Owns env σ a
  · exact s.st.hid (.inl (by rw [s.own]; exact z)) n
  · cases q : H a with
    | none => exact h q
    | some o =>
      have := s.sm a o (by rw [hide_of z]; exact q)
      rw [(hide_some this).2] at n; cases n
theorem Stp.trans (s : Stp c xs pu env env' σ H H') (s' : Stp c xs pu' env' env'' σ H' H'') : Stp c xs (pu && pu') env env'' σ H H'' where
  st := s'.st
  shp := fun j => (s'.shp j).trans (s.shp j)
  sm := s.sm.trans (by have := s'.sm; rw [s.own] at this; exact this)
  pr := fun h => by
    simp only [Bool.and_eq_true] at h
    obtain ⟨e1, k1⟩ := s.pr h.1
    obtain ⟨e2, k2⟩ := s'.pr h.2
    exact ⟨e2.trans e1, k1.trans k2⟩
theorem Stp.refl (S : StOk c xs env σ H) : Stp c xs pu env env σ H H := ⟨S, fun _ => rfl, Same.refl _, fun _ => ⟨rfl, Same.refl _⟩⟩
theorem Stp.grow (s : Stp c xs pu env env' σ H H') (k : Same H' H'') : Stp c xs pu env env' σ H H'' :=
  ⟨s.st.same k, s.shp, s.sm.trans (hide_same k), fun h => ⟨(s.pr h).1, (s.pr h).2.trans k⟩⟩
theorem Stp.weak (s : Stp c xs pu env env' σ H H') (h : pu' = true → pu = true) : Stp c xs pu' env env' σ H H' := ⟨s.st, s.shp, s.sm, fun q => s.pr (h q)⟩
/-- a value held ahead of a step is held behind it -/
theorem Stp.rep (s : Stp c xs pu env env' σ H H') {sh : Bool} {d : D} {v : V} (h : sh = false ∨ pu = true) (r : Rep c sh (Hid xs env σ) H d v) : Rep c sh (Hid xs env σ) H' d v := by
  rcases h with rfl | h
  · exact IsD.same s.smH _ _ r
  · have k := (s.pr h).2
    cases sh with
    | true => exact RepS.same k r
    | false => exact IsD.same (hide_same k) _ _ r
end

def ExcRep (c : Cc) (H : Hp) (k : Nat) (p : D) (cls : Value) (dd : Option Addr) : Prop := ∃ C d v, c.ec k = some C ∧ cls = .ref C ∧ dd = some d ∧ H d = some (.xd [(c.en k, v)]) ∧ IsD c H p v

abbrev Ev := En → M (D × En)
abbrev Tv := En → M (Bool × En)
abbrev Av := En → M (List D × En)

/-- what is wanted of an evaluation's outcome -/
def Want {α β : Type} (c : Cc) (xs : Addr → Prop) (pu : Bool) (env : En) (σ : St) (H : Hp) (R : α → En → β → Hp → Prop) (W : WX) (Q : β → Hp → Prop) : M (α × En) → Prop
  | .ok (d, env') => ∀ v H', Stp c xs pu env env' σ H H' → R d env' v H' → Q v H'
  | .error (.raise k p) => ∀ cls dd H', Same (hide H (Owns env σ)) H' → ExcRep c H' k p cls dd → W cls dd σ H'
  | .error .stuck => False

def tE (c : Cc) (pu sh : Bool) (m : Ev) (W : WX) : TE := fun σ H Q => ∃ xs env, StOk c xs env σ H ∧ Want c xs pu env σ H (fun d _ v H' => Rep c sh (Hid xs env σ) H' d v) W Q (m env)
/-- a new object, by values -/
def RepV (c : Cc) (P : Addr → Prop) (H H' : Hp) (d : D) (v : V) : Prop := ∃ a o, v = .ref a ∧ H a = none ∧ H' a = some o ∧ ObjRep c (hide H' (fun b => P b ∨ b = a)) d o
/-- a new object that nothing else leans on -/
def RepF (c : Cc) (xs : Addr → Prop) (σ : St) (H : Hp) (d : D) (env' : En) (v : V) (H' : Hp) : Prop := ∃ a o, v = .ref a ∧ H a = none ∧ H' a = some o ∧ StOk c (fun b => xs b ∨ b = a) env' σ H' ∧ ObjRep c (hide H' (fun b => Hid xs env' σ b ∨ b = a)) d o
def tF (c : Cc) (pu : Bool) (m : Ev) (W : WX) : TE := fun σ H Q => ∃ xs env, StOk c xs env σ H ∧ Want c xs pu env σ H (RepF c xs σ H) W Q (m env)
theorem StOk.newX {c : Cc} {xs : Addr → Prop} {env : En} {σ : St} {H H' : Hp} {a : Addr} {o : HO} (S : StOk c xs env σ H) (k : Same H H') (n : H a = none) (ho : H' a = some o) : StOk c (fun b => xs b ∨ b = a) env σ H' := by
  have up : Same (hide H (Hid xs env σ)) (hide H' (Hid (fun b => xs b ∨ b = a) env σ)) := fun b u hb => by
    obtain ⟨h1, h2⟩ := hide_some hb
    have ne := ne_of_none h2 n
    rw [hide_of fun z => z.elim (fun z => h1 (.inl z)) fun z => z.elim (fun z => h1 (.inr z)) ne]
    exact k _ _ h2
  have S' := S.same k
  refine ⟨S.len, fun b hb => ?_, fun i d h => ?_, fun i d h => ?_, S.inj⟩
  · rcases hb with hb | rfl
    · exact S'.xb b hb
    · exact ⟨fun z => by rw [ho] at z; (cases z), fun z => S.hid (.inl z) n⟩
  · obtain ⟨v, h1, h2⟩ := S.va i d h
    exact ⟨v, h1, h2.same up⟩
  · obtain ⟨b, u, h1, h2, h3⟩ := S.ow i d h
    exact ⟨b, u, h1, k _ _ h2, h3.same up⟩
def tT (c : Cc) (pu : Bool) (m : Tv) (W : WX) : TT := fun σ H Q => ∃ xs env, StOk c xs env σ H ∧ Want c xs pu env σ H (fun d _ v _ => v = d) W Q (m env)
def Reps (c : Cc) (P : Addr → Prop) (H : Hp) : List Bool → List D → List V → Prop
  | [], [], [] => True
  | s :: ss, d :: ds, v :: vs => Rep c s P H d v ∧ Reps c P H ss ds vs
  | _, _, _ => False
def tA (c : Cc) (pu : Bool) (shs : List Bool) (m : Av) (W : WX) : TA := fun σ H Q => ∃ xs env, StOk c xs env σ H ∧ Want c xs pu env σ H (fun ds _ vs H' => Reps c (Hid xs env σ) H' shs ds vs) W Q (m env)

inductive Fl where
  | nx | bk | ct | rt (d : D) | rf (d : D) | ro (i : Nat)
abbrev Sv := En → M (Fl × En)
/-- what a statement leaves as it was -/
structure Kept (env : En) (σ : St) (H : Hp) (env' : En) (σ' : St) (H' : Hp) : Prop where
  sm : Same (hide H (Owns env σ)) (hide H' (Owns env' σ'))
  th : ∀ a, H a ≠ none → H' a ≠ none
  fx : isOw env 0 = true → isOw env' 0 = true ∧ σ'[0]? = σ[0]?
  ln : σ'.length = σ.length
theorem Kept.trans {env env' env'' : En} {σ σ' σ'' : St} {H H' H'' : Hp} (a : Kept env σ H env' σ' H') (b : Kept env' σ' H' env'' σ'' H'') : Kept env σ H env'' σ'' H'' := ⟨a.sm.trans b.sm, fun x h => b.th x (a.th x h), fun h => ⟨(b.fx (a.fx h).1).1, (b.fx (a.fx h).1).2.trans (a.fx h).2⟩, b.ln.trans a.ln⟩
theorem Kept.refl {env : En} {σ : St} {H : Hp} : Kept env σ H env σ H := ⟨Same.refl _, fun _ h => h, fun h => ⟨h, rfl⟩, rfl⟩
/-- a store in slot i: not in slot 0 while it holds a def's own list -/
def put (i : Nat) (s : Sl) (env : En) : M En := if (i == 0 && isOw env 0) = true then stuck else .ok (env.set i s)
theorem put_ok {i : Nat} {s : Sl} {env env' : En} (h : put i s env = .ok env') : env' = env.set i s ∧ (isOw env 0 = true → i ≠ 0) := by
  unfold put at h
  split at h
  · cases h
  · rename_i q
    cases h
    refine ⟨rfl, fun h z => q ?_⟩
    subst z
    simpa using h
theorem put_cases (i : Nat) (s : Sl) (env : En) : put i s env = stuck ∨ (put i s env = .ok (env.set i s) ∧ (isOw env 0 = true → i ≠ 0)) := by
  cases q : put i s env with
  | error x =>
    left
    unfold put at q
    split at q <;> cases q
    rfl
  | ok e =>
    obtain ⟨h1, h2⟩ := put_ok q
    subst h1
    exact .inr ⟨rfl, h2⟩
@[simp] theorem put_succ {i : Nat} {s : Sl} {env : En} : put (i + 1) s env = .ok (env.set (i + 1) s) := rfl
theorem Same.th {H H' : Hp} (k : Same H H') (a : Addr) (h : H a ≠ none) : H' a ≠ none := fun n => by
  cases q : H a with
  | none => exact h q
  | some o => rw [k a o q] at n; cases n
/-- a new object that is returned -/
def RepR (c : Cc) (xs : Addr → Prop) (env : En) (σ : St) (H : Hp) (env' : En) (σ' : St) (H' : Hp) (d : D) (v : V) : Prop := ∃ a o, v = .ref a ∧ H a = none ∧ H' a = some o ∧ ¬ Hid xs env' σ' a ∧ ObjRep c (hide H' (fun b => Hid xs env' σ' b ∨ b = a)) d o
def WantS (c : Cc) (xs : Addr → Prop) (env : En) (σ : St) (H : Hp) (W : WX) (E : Ends) : M (Fl × En) → Prop
  | .ok (.nx, env') => ∀ σ' H', StOk c xs env' σ' H' → Kept env σ H env' σ' H' → E.nx σ' H'
  | .ok (.bk, env') => ∀ σ' H', StOk c xs env' σ' H' → Kept env σ H env' σ' H' → E.bk σ' H'
  | .ok (.ct, env') => ∀ σ' H', StOk c xs env' σ' H' → Kept env σ H env' σ' H' → E.ct σ' H'
  | .ok (.rt d, env') => ∀ σ' v H', StOk c xs env' σ' H' → Kept env σ H env' σ' H' → IsD c (hide H' (Hid xs env' σ')) d v → E.rt v H'
  | .ok (.rf d, env') => ∀ σ' v H', StOk c xs env' σ' H' → Kept env σ H env' σ' H' → RepR c xs env σ H env' σ' H' d v → E.rt v H'
  | .ok (.ro i, env') => ∀ σ' a H', StOk c xs env' σ' H' → Kept env σ H env' σ' H' → σ'[i]? = some (some (V.ref a)) → (∃ d, env'[i]? = some (Sl.ow d)) → E.rt (.ref a) H'
  | .error (.raise k p) => ∀ cls dd σ' H', σ'.length = σ.length → Same (hide H (Owns env σ)) H' → ExcRep c H' k p cls dd → W cls dd σ' H'
  | .error .stuck => False
def tS (c : Cc) (m : Sv) (W : WX) : TS := fun E σ H => ∃ xs env, StOk c xs env σ H ∧ WantS c xs env σ H W E (m env)

/-! ### changing a reading -/
theorem PE.imp {X : Cx} {e : Expr} {t t' : TE} (h : PE X e t) (k : ∀ σ H Q, t' σ H Q → t σ H Q) : PE X e t' := ⟨fun pins s σ H Q I w => h.run pins s σ H Q I (k _ _ _ w)⟩
theorem PT.imp {X : Cx} {e : Expr} {t t' : TT} (h : PT X e t) (k : ∀ σ H Q, t' σ H Q → t σ H Q) : PT X e t' := ⟨fun pins s σ H Q I w => h.run pins s σ H Q I (k _ _ _ w)⟩
theorem PW.imp {X : Cx} {e : Expr} {t t' : TT} (h : PW X e t) (k : ∀ σ H Q, t' σ H Q → t σ H Q) : PW X e t' := ⟨fun wh pins s σ H Q I w => h.run wh pins s σ H Q I (k _ _ _ w)⟩
theorem PA.imp {X : Cx} {e : List Expr} {t t' : TA} (h : PA X e t) (k : ∀ σ H Q, t' σ H Q → t σ H Q) : PA X e t' := ⟨fun pos pins s σ H Q I w => h.run pos pins s σ H Q I (k _ _ _ w)⟩
theorem PS.imp {X : Cx} {e : Stmt} {t t' : TS} (h : PS X e t) (k : ∀ E σ H, t' E σ H → t E σ H) : PS X e t' := ⟨fun pins s σ H E I w => h.run pins s σ H E I (k _ _ _ w)⟩
theorem PSs.imp {X : Cx} {e : List Stmt} {t t' : TS} (h : PSs X e t) (k : ∀ E σ H, t' E σ H → t E σ H) : PSs X e t' := ⟨fun pins s σ H E I w => h.run pins s σ H E I (k _ _ _ w)⟩

section
variable {X : Cx} {g : Ce}
abbrev DE (X : Cx) (g : Ce) (pu sh : Bool) (e : Expr) (m : Ev) (W : WX) : Prop := PE X e (tE (cc X g) pu sh m W)
abbrev DF (X : Cx) (g : Ce) (pu : Bool) (e : Expr) (m : Ev) (W : WX) : Prop := PE X e (tF (cc X g) pu m W)
abbrev DT (X : Cx) (g : Ce) (pu : Bool) (e : Expr) (m : Tv) (W : WX) : Prop := PT X e (tT (cc X g) pu m W)
abbrev DW (X : Cx) (g : Ce) (pu : Bool) (e : Expr) (m : Tv) (W : WX) : Prop := PW X e (tT (cc X g) pu m W)
abbrev DA (X : Cx) (g : Ce) (pu : Bool) (shs : List Bool) (es : List Expr) (m : Av) (W : WX) : Prop := PA X es (tA (cc X g) pu shs m W)
abbrev DS (X : Cx) (g : Ce) (s : Stmt) (m : Sv) (W : WX) : Prop := PS X s (tS (cc X g) m W)
abbrev DSs (X : Cx) (g : Ce) (s : List Stmt) (m : Sv) (W : WX) : Prop := PSs X s (tS (cc X g) m W)
end

/-! ### combining outcomes -/
section
variable {c : Cc} {xs : Addr → Prop} {pu pu' : Bool} {env env' : En} {σ : St} {H H' : Hp} {W : WX}
/-- from an outcome to the next one -/
theorem Want.bind {α β γ δ : Type} {R : α → En → β → Hp → Prop} {R' : γ → En → δ → Hp → Prop} {Q : β → Hp → Prop} {Q' : δ → Hp → Prop} {m : M (α × En)} {f : α × En → M (γ × En)}
    (h : Want c xs pu' env σ H R' W Q' (bnd m f))
    (k : ∀ d env' v H', m = .ok (d, env') → Stp c xs pu env env' σ H H' → R d env' v H' → Want c xs pu' env σ H R' W Q' (f (d, env')) → Q v H') : Want c xs pu env σ H R W Q m := by
  cases m with
  | error e => cases e with
    | raise k p => exact h
    | stuck => exact h
  | ok p =>
    obtain ⟨d, env'⟩ := p
    exact fun v H' s r => k d env' v H' rfl s r h
/-- started again behind a step -/
theorem Want.after {α β : Type} {R : α → En → β → Hp → Prop} {Q : β → Hp → Prop} {m : M (α × En)} (s : Stp c xs pu env env' σ H H') (h : Want c xs (pu && pu') env σ H R W Q m) : Want c xs pu' env' σ H' R W Q m := by
  cases m with
  | error e => cases e with
    | raise k p => exact fun cls dd H'' q r => h cls dd H'' (s.sm.trans (by rw [s.own] at q; exact q)) r
    | stuck => exact h
  | ok p =>
    obtain ⟨d, env''⟩ := p
    exact fun v H'' s' r => h v H'' (s.trans s') r
theorem Want.imp {α β : Type} {R R' : α → En → β → Hp → Prop} {Q Q' : β → Hp → Prop} {m : M (α × En)} (h : Want c xs pu env σ H R W Q m)
    (k : ∀ d env' v H', m = .ok (d, env') → Stp c xs pu' env env' σ H H' → R' d env' v H' → (Stp c xs pu env env' σ H H' → R d env' v H' → Q v H') → Q' v H') : Want c xs pu' env σ H R' W Q' m := by
  cases m with
  | error e => cases e with
    | raise k p => exact h
    | stuck => exact h
  | ok p =>
    obtain ⟨d, env''⟩ := p
    exact fun v H'' s' r => k d env'' v H'' rfl s' r fun s r => h v H'' s r
end
end Dn

/-! Dn3 -/
set_option Elab.async false
set_option linter.all false
set_option maxRecDepth 100000
set_option maxHeartbeats 1000000
/-! Dn3: combinators: names, constants, operators, tests. -/
namespace Dn
open PySem PySem.Spec L2
open PyProof.Rows hiding St

section
variable {X : Cx} {g : Ce} {W : WX} {pu pu1 pu2 pu3 sh sh1 sh2 sh3 : Bool} {m m1 m2 m3 : Ev} {a b e : Expr} {pos : Pos}

/-! ### weakening -/
theorem DE.shell (h : DE X g pu false e m W) : DE X g pu true e m W := PE.imp h fun σ H Q ⟨xs, env, S, w⟩ =>
  ⟨xs, env, S, w.imp fun d env' v H' e s r k => k s (RepS.of r)⟩
theorem DE.impure (h : DE X g true sh e m W) : DE X g false sh e m W := PE.imp h fun σ H Q ⟨xs, env, S, w⟩ =>
  ⟨xs, env, S, w.imp fun d env' v H' e s r k => k (s.weak fun z => nomatch z) r⟩
theorem DF.impure (h : DF X g true e m W) : DF X g false e m W := PE.imp h fun σ H Q ⟨xs, env, S, w⟩ =>
  ⟨xs, env, S, w.imp fun d env' v H' e s r k => k (s.weak fun z => nomatch z) r⟩
theorem DT.impure {m : Tv} (h : DT X g true e m W) : DT X g false e m W := PT.imp h fun σ H Q ⟨xs, env, S, w⟩ =>
  ⟨xs, env, S, w.imp fun d env' v H' e s r k => k (s.weak fun z => nomatch z) r⟩
theorem DW.impure {m : Tv} (h : DW X g true e m W) : DW X g false e m W := PW.imp h fun σ H Q ⟨xs, env, S, w⟩ =>
  ⟨xs, env, S, w.imp fun d env' v H' e s r k => k (s.weak fun z => nomatch z) r⟩
theorem DA.impure {shs : List Bool} {es : List Expr} {m : Av} (h : DA X g true shs es m W) : DA X g false shs es m W := PA.imp h fun σ H Q ⟨xs, env, S, w⟩ =>
  ⟨xs, env, S, w.imp fun d env' v H' e s r k => k (s.weak fun z => nomatch z) r⟩
/-- a new object as a value -/
theorem ObjRep.isD {c : Cc} {P : Addr → Prop} {H : Hp} {d : D} {a : Addr} {o : HO} (h : ObjRep c (hide H (fun b => P b ∨ b = a)) d o) (ho : H a = some o) (hp : ¬ P a) : IsD c (hide H P) d (.ref a) := by
  have k : Same (hide H (fun b => P b ∨ b = a)) (hide H P) := hide_sub fun _ z => .inl z
  have ho' : hide H P a = some o := by rw [hide_of hp]; exact ho
  cases d with
  | lst ds => obtain ⟨vs, e1, h⟩ := h; subst e1; unfold IsD; exact ⟨a, vs, rfl, ho', h.same k⟩
  | dct ks ws =>
    unfold IsD
    obtain ⟨kvs, e1, e2, h⟩ := h
    subst e1
    exact ⟨a, rfl, kvs, Rd.of ho', e2, h.same k⟩
  | _ => exact h.elim
theorem DF.val (h : DF X g pu e m W) : DE X g pu false e m W := PE.imp h fun σ H Q ⟨xs, env, S, w⟩ =>
  ⟨xs, env, S, w.imp fun d env' v H' e s r k => k s (by
    obtain ⟨a, o, rfl, n, h1, _, h2⟩ := r
    rw [s.hid] at h2
    exact h2.isD h1 (S.newHid n))⟩

/-! ### names and constants -/
def dVar (i : Nat) : Ev := fun env => match env[i]? with
  | some (.va d) => .ok (d, env)
  | _ => stuck
def dVarO (i : Nat) : Ev := fun env => match env[i]? with
  | some (.va d) => .ok (d, env)
  | some (.ow d) => .ok (d, env)
  | _ => stuck
theorem e_var (i : Nat) {x : Str} (h : PE X (.Name x pos) (tVar i)) : DE X g true false (.Name x pos) (dVar i) W := PE.imp h fun σ H Q ⟨xs, env, S, w⟩ => by
  unfold dVar at w
  split at w
  · rename_i d hd
    obtain ⟨v, h1, h2⟩ := S.va i d hd
    exact ⟨v, h1, w v H (.refl S) h2⟩
  · exact w.elim
theorem e_varO (i : Nat) {x : Str} (h : PE X (.Name x pos) (tVar i)) : DE X g true true (.Name x pos) (dVarO i) W := PE.imp h fun σ H Q ⟨xs, env, S, w⟩ => by
  unfold dVarO at w
  split at w
  · rename_i d hd
    obtain ⟨v, h1, h2⟩ := S.va i d hd
    exact ⟨v, h1, w v H (.refl S) (RepS.of h2)⟩
  · rename_i d hd
    obtain ⟨a, o, h1, h2, h3⟩ := S.ow i d hd
    refine ⟨.ref a, h1, w _ H (.refl S) ?_⟩
    cases d with
    | lst ds => obtain ⟨vs, e1, h3⟩ := h3; subst e1; exact ⟨a, vs, rfl, h2, h3⟩
    | dct ks ws =>
      obtain ⟨kvs, e1, e2, h3⟩ := h3
      subst e1
      exact ⟨a, rfl, kvs, Rd.of h2, e2, h3⟩
    | _ => exact h3.elim
  · exact w.elim

def dC (d : D) : Ev := fun env => .ok (d, env)
theorem e_const {d : D} {v : V} (h : PE X e (tC v)) (k : ∀ c H, IsD c H d v) : DE X g true false e (dC d) W := PE.imp h fun σ H Q ⟨xs, env, S, w⟩ => w v H (.refl S) (k _ _)
theorem e_int {i : Int} {j pos} : DE X g true false (.Constant (.int i) j pos) (dC (.int i)) W := e_const pe_int fun _ _ => by unfold IsD; rfl
theorem e_bl {i : Bool} {j pos} : DE X g true false (.Constant (.bool i) j pos) (dC (.bl i)) W := e_const pe_bl fun _ _ => by unfold IsD; rfl
theorem e_non {j pos} : DE X g true false (.Constant .none j pos) (dC .non) W := e_const pe_non fun _ _ => by unfold IsD; rfl
theorem e_str {x : Str} {j pos} : DE X g true false (.Constant (.str x) j pos) (dC (.str x)) W := e_const pe_str fun _ _ => by unfold IsD; rfl

/-! ### two-place operators by values -/
/-- what an operation of the machine says of data; the operands by their shells -/
def VB (c : Cc) (r : R2) (f : D → D → M D) : Prop := ∀ (P : Addr → Prop) (H : Hp) (x y : V) (d1 d2 d : D) (Q : VK), (∀ a, P a → H a ≠ none) → RepS c P H d1 x → RepS c P H d2 y →
  f d1 d2 = .ok d → (∀ v H', Same H H' → IsD c (hide H' P) d v → Q v H') → r x y H Q
/-- f raises nothing of the program's own -/
def NoR (f : M D) : Prop := ∀ k p, f ≠ .error (.raise k p)
def dBin (f : D → D → M D) (m1 m2 : Ev) : Ev := fun env => bnd (m1 env) fun p => bnd (m2 p.2) fun q => bnd (f p.1 q.1) fun d => .ok (d, q.2)
def NoR2 (f : D → D → M D) : Prop := ∀ d1 d2 k p, f d1 d2 ≠ .error (.raise k p)
theorem t_bin {r : R2} {f : D → D → M D} (hv : VB (cc X g) r f) (nr : NoR2 f) (hc : sh1 = false ∨ pu2 = true) {σ : St} {H : Hp} {Q : VK} (h : tE (cc X g) (pu1 && pu2) false (dBin f m1 m2) W σ H Q) :
    tOp r (tE (cc X g) pu1 sh1 m1 W) (tE (cc X g) pu2 sh2 m2 W) σ H Q := by
  obtain ⟨xs, env, S, w⟩ := h
  refine ⟨xs, env, S, w.bind fun d1 env1 x H1 e1 s1 r1 w1 => ?_⟩
  refine ⟨xs, env1, s1.st, Want.bind (pu' := pu2) (w1.after s1) fun d2 env2 y H2 e2 s2 r2 w2 => ?_⟩
  rw [← s1.hid] at r1
  have r1' := (s2.rep hc r1).shell
  have r2' := r2.shell
  cases q : f d1 d2 with
  | error e => cases e with
    | raise k p => exact absurd q (nr _ _ _ _)
    | stuck => rw [q] at w2; exact w2.elim
  | ok d =>
    rw [q] at w2
    refine hv (Hid xs env1 σ) H2 x y d1 d2 d Q (fun a ha => s2.st.hid (by rw [s2.hid]; exact ha)) r1' r2' q fun v H' k hd => ?_
    rw [s1.hid] at hd
    exact w2 v H' (s2.grow k) hd
theorem e_bin {op : Operator} {r : R2} {f : D → D → M D} (ho : OpR X (binaryOp op) r) (hv : VB (cc X g) r f) (nr : NoR2 f) (hc : sh1 = false ∨ pu2 = true) (ha : DE X g pu1 sh1 a m1 W) (hb : DE X g pu2 sh2 b m2 W) :
    DE X g (pu1 && pu2) false (.BinOp a op b pos) (dBin f m1 m2) W := PE.imp (pe_op ho ha hb) fun _ _ _ h => t_bin hv nr hc h
theorem e_cmp {op : CmpOp} {r : R2} {f : D → D → M D} (ho : OpR X (compareOp op) r) (hv : VB (cc X g) r f) (nr : NoR2 f) (hc : sh1 = false ∨ pu2 = true) (hm : behindInMarks op b = false) (ha : DE X g pu1 sh1 a m1 W) (hb : DE X g pu2 sh2 b m2 W) :
    DE X g (pu1 && pu2) false (.Compare a [op] [b] pos) (dBin f m1 m2) W := PE.imp (pe_cmpR ho ha hb hm) fun _ _ _ h => t_bin hv nr hc h
end
end Dn

/-! Dn4 -/
set_option Elab.async false
set_option linter.all false
set_option maxRecDepth 100000
set_option maxHeartbeats 1000000
/-! Dn4: the operators by values. -/
namespace Dn
open PySem PySem.Spec L2
open PyProof.Rows hiding St

theorem OpR.or {X : Cx} {f : Value → Value → Sem Value} {r r' : R2} (h : OpR X f r) (h' : OpR X f r') : OpR X f (fun x y H Q => r x y H Q ∨ r' x y H Q) := by
  intro pins s σ H x y v u Q I rx ry q
  rcases q with q | q
  · exact h pins s σ H x y v u Q I rx ry q
  · exact h' pins s σ H x y v u Q I rx ry q

section
variable {c : Cc} {P : Addr → Prop} {H : Hp} {v : V}
theorem RepS.int {i : Int} (h : RepS c P H (.int i) v) : v = .int i := by unfold RepS IsD at h; exact h
theorem RepS.bl {b : Bool} (h : RepS c P H (.bl b) v) : v = .bl b := by unfold RepS IsD at h; exact h
theorem RepS.str {x : Str} (h : RepS c P H (.str x) v) : v = .str x := by unfold RepS IsD at h; exact h
theorem RepS.non (h : RepS c P H .non v) : v = .non := by unfold RepS IsD at h; exact h
theorem RepS.lst {ds : List D} (h : RepS c P H (.lst ds) v) : ∃ a vs, v = .ref a ∧ H a = some (.lst vs) ∧ IsDs c (hide H P) ds vs := h
theorem RepS.tup {ds : List D} (h : RepS c P H (.tup ds) v) : ∃ a vs, v = .ref a ∧ SqT c.K H a vs ∧ IsDs c (hide H P) ds vs := by
  unfold RepS IsD at h
  obtain ⟨a, vs, e, h1, h2⟩ := h
  exact ⟨a, vs, e, SqT.same hide_full h1, h2⟩
theorem isInt {G : Hp} {i : Int} : IsD c G (.int i) (.int i) := by unfold IsD; rfl
theorem isBl {G : Hp} {b : Bool} : IsD c G (.bl b) (.bl b) := by unfold IsD; rfl
theorem isStr {G : Hp} {x : Str} : IsD c G (.str x) (.str x) := by unfold IsD; rfl
theorem isNon {G : Hp} : IsD c G .non .non := by unfold IsD; rfl
/-- a new list, a new tuple -/
theorem isNewL {p : Addr} {ds : List D} {vs : List V} (hp : H p = none) (hP : ∀ a, P a → H a ≠ none) (h : IsDs c (hide H P) ds vs) : IsD c (hide (upd H p (.lst vs)) P) (.lst ds) (.ref p) := by
  unfold IsD
  exact ⟨p, vs, rfl, by rw [hide_of fun z => hP p z hp]; exact upd_same, h.same (hide_same (same_new hp))⟩
theorem isNewT {p : Addr} {ds : List D} {vs : List V} (hp : H p = none) (hP : ∀ a, P a → H a ≠ none) (h : IsDs c (hide H P) ds vs) : IsD c (hide (upd H p (.tup vs)) P) (.tup ds) (.ref p) := by
  unfold IsD
  exact ⟨p, vs, rfl, SqT.of (by rw [hide_of fun z => hP p z hp]; exact upd_same), h.same (hide_same (same_new hp))⟩
end

/-- the longest sequence that the model has -/
def maxSeq : Nat := 16777216
theorem maxSeq_eq : sizeLine = maxSeq := sizeLine_eq

/-- ints in, an int out, under a check -/
def dIntOp (ok : Int → Int → Bool) (f : Int → Int → Int) : D → D → M D
  | .int i, .int j => if ok i j then .ok (.int (f i j)) else stuck
  | _, _ => stuck
theorem dIntOp_inv {ok : Int → Int → Bool} {f : Int → Int → Int} {d1 d2 d : D} (h : dIntOp ok f d1 d2 = .ok d) : ∃ i j, d1 = .int i ∧ d2 = .int j ∧ ok i j = true ∧ d = .int (f i j) := by
  unfold dIntOp at h
  split at h
  · split at h
    · rename_i i j hq; cases h; exact ⟨i, j, rfl, rfl, hq, rfl⟩
    · cases h
  · cases h
theorem dIntOp_nr {ok : Int → Int → Bool} {f : Int → Int → Int} : NoR2 (dIntOp ok f) := fun d1 d2 k p h => by
  unfold dIntOp at h
  split at h
  · split at h <;> cases h
  · cases h
theorem vb_int {c : Cc} {C : Int → Int → Prop} {ok : Int → Int → Bool} {f : Int → Int → Int} (hk : ∀ i j, ok i j = true → C i j) : VB c (rI C fun i j => .int (f i j)) (dIntOp ok f) := by
  intro P H x y d1 d2 d Q hP r1 r2 e k
  obtain ⟨i, j, rfl, rfl, ho, rfl⟩ := dIntOp_inv e
  exact ⟨i, j, r1.int, r2.int, hk i j ho, k _ H (Same.refl _) isInt⟩
theorem vb_int0 {c : Cc} {f : Int → Int → Int} : VB c (rI0 fun i j => .int (f i j)) (dIntOp (fun _ _ => true) f) := by
  intro P H x y d1 d2 d Q hP r1 r2 e k
  obtain ⟨i, j, rfl, rfl, ho, rfl⟩ := dIntOp_inv e
  exact ⟨i, j, r1.int, r2.int, k _ H (Same.refl _) isInt⟩

/-! ### + -/
def dAdd : D → D → M D
  | .int i, .int j => .ok (.int (i + j))
  | .str x, .str y => if x.length + y.length ≤ maxSeq then .ok (.str (x ++ y)) else stuck
  | .lst xs, .lst ys => if xs.length + ys.length ≤ maxSeq then .ok (.lst (xs ++ ys)) else stuck
  | .tup xs, .tup ys => if xs.length + ys.length ≤ maxSeq then .ok (.tup (xs ++ ys)) else stuck
  | _, _ => stuck
theorem dAdd_nr : NoR2 dAdd := fun d1 d2 k p h => by
  unfold dAdd at h
  split at h <;> first | cases h | (split at h <;> cases h)
def rAddD (K : PySem.W.Frag) : R2 := fun x y H Q => (rI0 (fun i j => .int (i + j)) x y H Q ∨ (∃ i j, x = .str i ∧ y = .str j ∧ i.length + j.length ≤ sizeLine ∧ Q (.str (i ++ j)) H)) ∨ (rCat x y H Q ∨ rCatA K x y H Q)
theorem op_addD {X : Cx} : OpR X (binaryOp .Add) (rAddD X.K) := OpR.or (OpR.or op_add op_add_str) (OpR.or op_cat op_catA)
theorem vb_add {c : Cc} : VB c (rAddD c.K) dAdd := by
  intro P H x y d1 d2 d Q hP r1 r2 e k
  unfold dAdd at e
  split at e
  · cases e
    exact .inl (.inl ⟨_, _, r1.int, r2.int, k _ H (Same.refl _) isInt⟩)
  · split at e
    · rename_i hz; cases e
      exact .inl (.inr ⟨_, _, r1.str, r2.str, by rw [maxSeq_eq]; exact hz, k _ H (Same.refl _) isStr⟩)
    · cases e
  · split at e
    · rename_i hz; cases e
      obtain ⟨a, vs, e1, h1, h2⟩ := r1.lst
      obtain ⟨b, ws, e2, h3, h4⟩ := r2.lst
      exact .inr (.inl ⟨a, b, vs, ws, e1, e2, h1, h3, by rw [maxSeq_eq, ← h2.len, ← h4.len]; exact hz, fun p hp => k _ _ (same_new hp) (isNewL hp hP (h2.append h4))⟩)
    · cases e
  · split at e
    · rename_i hz; cases e
      obtain ⟨a, vs, e1, h1, h2⟩ := r1.tup
      obtain ⟨b, ws, e2, h3, h4⟩ := r2.tup
      refine .inr (.inr ⟨a, b, vs, ws, e1, e2, h1, h3, by rw [maxSeq_eq, ← h2.len, ← h4.len]; exact hz, fun q => ?_, fun _ q => ?_, fun _ _ p hp => k _ _ (same_new hp) (isNewT hp hP (h2.append h4))⟩)
      · subst q
        have := h2.len
        obtain rfl := List.eq_nil_of_length_eq_zero (show _ = 0 from this)
        subst e2
        have r2' : IsD c (hide H P) (.tup _) (.ref b) := r2
        exact k _ H (Same.refl _) r2'
      · subst q
        have := h4.len
        obtain rfl := List.eq_nil_of_length_eq_zero (show _ = 0 from this)
        subst e1
        have r1' : IsD c (hide H P) (.tup _) (.ref a) := r1
        rw [List.append_nil] at k
        exact k _ H (Same.refl _) r1'
    · cases e
  · cases e

/-! ### -, *, //, %, **, <<, >>, &, | -/
abbrev dSub : D → D → M D := dIntOp (fun _ _ => true) fun i j => i - j
/-- big: a factor below it is taken without a look at the other one -/
def bitsOf (i : Int) : Nat := i.natAbs.log2
def mulOk (i j : Int) : Bool := decide (bitsOf i + bitsOf j < 1000000)
def divOk (_ j : Int) : Bool := decide (0 < j) && decide (bitsOf j < 9000)
abbrev dFdiv : D → D → M D := dIntOp divOk fun i j => i / j
abbrev dMod : D → D → M D := dIntOp (fun _ j => decide (0 < j)) fun i j => i % j
def powOk (i j : Int) : Bool := decide (0 ≤ j) && decide (j ≤ 1000000) && decide (i.natAbs < 2 ^ 64)
abbrev dPow : D → D → M D := dIntOp powOk fun i j => i ^ j.toNat
abbrev dShl : D → D → M D := dIntOp powOk fun i j => i * 2 ^ j.toNat
abbrev dShr : D → D → M D := dIntOp (fun _ j => decide (0 ≤ j)) fun i j => i / 2 ^ j.toNat
abbrev dAnd2 : D → D → M D := dIntOp (fun _ _ => true) Builtin.bitAnd
abbrev dOr2 : D → D → M D := dIntOp (fun _ _ => true) Builtin.bitOr
theorem vb_sub {c : Cc} : VB c (rI0 fun i j => .int (i - j)) dSub := vb_int0
theorem vb_fdiv {c : Cc} : VB c (rI CDivW fun i j => .int (i / j)) dFdiv := vb_int fun i j h => by
  unfold divOk at h
  simp only [Bool.and_eq_true, decide_eq_true_eq] at h
  exact ⟨h.1, h.2⟩
theorem vb_mod {c : Cc} : VB c (rI (fun _ j => 0 < j) fun i j => .int (i % j)) dMod := vb_int fun i j h => by simpa using h
theorem powOk_of {i j : Int} (h : powOk i j = true) : CPow i j := by
  unfold powOk at h
  simp only [Bool.and_eq_true, decide_eq_true_eq] at h
  exact ⟨h.1.1, h.1.2, h.2⟩
theorem vb_pow {c : Cc} : VB c (rI CPow fun i j => .int (i ^ j.toNat)) dPow := vb_int fun i j h => powOk_of h
theorem vb_shl {c : Cc} : VB c (rI CPow fun i j => .int (i * 2 ^ j.toNat)) dShl := vb_int fun i j h => powOk_of h
theorem vb_shr {c : Cc} : VB c (rI (fun _ j => 0 ≤ j) fun i j => .int (i / 2 ^ j.toNat)) dShr := vb_int fun i j h => by simpa using h
theorem vb_and {c : Cc} : VB c (rI0 fun i j => .int (Builtin.bitAnd i j)) dAnd2 := vb_int0
theorem vb_or {c : Cc} : VB c (rI0 fun i j => .int (Builtin.bitOr i j)) dOr2 := vb_int0

/-! ### comparisons -/
def dCmpI (f : Int → Int → Bool) (fs : List Nat → List Nat → Bool) : D → D → M D
  | .int i, .int j => .ok (.bl (f i j))
  | .str x, .str y => .ok (.bl (fs x.cps.toList y.cps.toList))
  | _, _ => stuck
theorem dCmpI_nr {f fs} : NoR2 (dCmpI f fs) := fun d1 d2 k p h => by
  unfold dCmpI at h
  split at h <;> cases h
def rCmpD (f : Int → Int → Bool) (fs : List Nat → List Nat → Bool) : R2 := fun x y H Q => rI0 (fun i j => .bl (f i j)) x y H Q ∨ ∃ i j, x = .str i ∧ y = .str j ∧ Q (.bl (fs i.cps.toList j.cps.toList)) H
theorem vb_cmpI {c : Cc} {f : Int → Int → Bool} {fs : List Nat → List Nat → Bool} : VB c (rCmpD f fs) (dCmpI f fs) := by
  intro P H x y d1 d2 d Q hP r1 r2 e k
  unfold dCmpI at e
  split at e
  · cases e
    exact .inl ⟨_, _, r1.int, r2.int, k _ H (Same.refl _) isBl⟩
  · cases e
    exact .inr ⟨_, _, r1.str, r2.str, k _ H (Same.refl _) isBl⟩
  · cases e
abbrev dLt : D → D → M D := dCmpI (fun i j => decide (i < j)) fun x y => decide (x < y)
abbrev dLe : D → D → M D := dCmpI (fun i j => decide (i ≤ j)) fun x y => !decide (y < x)
abbrev dGt : D → D → M D := dCmpI (fun i j => decide (j < i)) fun x y => decide (y < x)
abbrev dGe : D → D → M D := dCmpI (fun i j => decide (j ≤ i)) fun x y => !decide (x < y)
section
variable {X : Cx}
theorem op_ltD : OpR X (compareOp .Lt) (rCmpD (fun i j => decide (i < j)) fun x y => decide (x < y)) := OpR.or op_lt op_lt_str
theorem op_leD : OpR X (compareOp .LtE) (rCmpD (fun i j => decide (i ≤ j)) fun x y => !decide (y < x)) := OpR.or op_le op_le_str
theorem op_gtD : OpR X (compareOp .Gt) (rCmpD (fun i j => decide (j < i)) fun x y => decide (y < x)) := OpR.or op_gt op_gt_str
theorem op_geD : OpR X (compareOp .GtE) (rCmpD (fun i j => decide (j ≤ i)) fun x y => !decide (x < y)) := OpR.or op_ge op_ge_str
end

/-! ### == of data -/
mutual
def D.eqv : D → D → Bool
  | .non, .non => true
  | .bl a, .bl b => a == b
  | .bl a, .int j => (if a then 1 else 0) == j
  | .int i, .bl b => i == (if b then 1 else 0)
  | .int i, .int j => i == j
  | .str x, .str y => x == y
  | .lst xs, .lst ys => D.eqvs xs ys
  | .tup xs, .tup ys => D.eqvs xs ys
  | _, _ => false
def D.eqvs : List D → List D → Bool
  | [], [] => true
  | x :: xs, y :: ys => D.eqv x y && D.eqvs xs ys
  | _, _ => false
end
mutual
def D.lay : D → Bool
  | .non | .bl _ | .int _ => true
  | .str x => x.cps.all (· < 0x110000)
  | .lst xs | .tup xs => D.lays xs
  | _ => false
def D.lays : List D → Bool
  | [] => true
  | x :: xs => D.lay x && D.lays xs
end
mutual
def D.dep : D → Nat
  | .lst xs | .tup xs => D.deps xs + 1
  | _ => 0
def D.deps : List D → Nat
  | [] => 0
  | x :: xs => max (D.dep x) (D.deps xs)
end
mutual
def D.toP : D → PyData
  | .non => .none
  | .bl b => .bool b
  | .int i => .int i
  | .str x => .str x
  | .lst xs => .list (D.toPs xs)
  | .tup xs => .tuple (D.toPs xs)
  | _ => .none
def D.toPs : List D → List PyData
  | [] => []
  | x :: xs => D.toP x :: D.toPs xs
end
/-- may be compared -/
def D.ok (d : D) : Bool := d.lay && decide (d.dep ≤ 64)
mutual
theorem eqv_toP : ∀ (x y : D), x.lay = true → y.lay = true → PyData.eqv x.toP y.toP = D.eqv x y
  | .non, y, h, h' => by cases y <;> first | rfl | (simp [D.lay] at h'; done) | simp [D.toP, PyData.eqv, D.eqv]
  | .bl a, y, h, h' => by cases y <;> first | rfl | (simp [D.lay] at h'; done) | simp [D.toP, PyData.eqv, D.eqv]
  | .int a, y, h, h' => by cases y <;> first | rfl | (simp [D.lay] at h'; done) | simp [D.toP, PyData.eqv, D.eqv]
  | .str a, y, h, h' => by cases y <;> first | rfl | (simp [D.lay] at h'; done) | simp [D.toP, PyData.eqv, D.eqv]
  | .lst xs, y, h, h' => by
    cases y with
    | lst ys => simp only [D.toP, PyData.eqv, D.eqv]; exact eqvs_toP xs ys (by simpa [D.lay] using h) (by simpa [D.lay] using h')
    | _ => first | rfl | (simp [D.lay] at h'; done) | simp [D.toP, PyData.eqv, D.eqv]
  | .tup xs, y, h, h' => by
    cases y with
    | tup ys => simp only [D.toP, PyData.eqv, D.eqv]; exact eqvs_toP xs ys (by simpa [D.lay] using h) (by simpa [D.lay] using h')
    | _ => first | rfl | (simp [D.lay] at h'; done) | simp [D.toP, PyData.eqv, D.eqv]
  | .dct _ _, y, h, h' => by simp [D.lay] at h
  | .fn _, y, h, h' => by simp [D.lay] at h
  | .scr _, y, h, h' => by simp [D.lay] at h
theorem eqvs_toP : ∀ (xs ys : List D), D.lays xs = true → D.lays ys = true → PyData.eqvAll (D.toPs xs) (D.toPs ys) = D.eqvs xs ys
  | [], [], h, h' => by simp [D.toPs, PyData.eqvAll, D.eqvs]
  | [], y :: ys, h, h' => by simp [D.toPs, PyData.eqvAll, D.eqvs]
  | x :: xs, [], h, h' => by simp [D.toPs, PyData.eqvAll, D.eqvs]
  | x :: xs, y :: ys, h, h' => by
    simp only [D.lays, Bool.and_eq_true] at h h'
    simp only [D.toPs, PyData.eqvAll, D.eqvs]
    rw [eqv_toP x y h.1 h'.1, eqvs_toP xs ys h.2 h'.2]
end
mutual
theorem lay_toP : ∀ (x : D), x.lay = true → x.toP.canLay0 = true
  | .non, h => by simp [D.toP, PyData.canLay0]
  | .bl a, h => by simp [D.toP, PyData.canLay0]
  | .int a, h => by simp [D.toP, PyData.canLay0]
  | .str a, h => by simp only [D.toP, PyData.canLay0]; exact h
  | .lst xs, h => by simp only [D.toP, PyData.canLay0]; exact lays_toP xs (by simpa [D.lay] using h)
  | .tup xs, h => by simp only [D.toP, PyData.canLay0]; exact lays_toP xs (by simpa [D.lay] using h)
  | .dct _ _, h => by simp [D.lay] at h
  | .fn _, h => by simp [D.lay] at h
  | .scr _, h => by simp [D.lay] at h
theorem lays_toP : ∀ (xs : List D), D.lays xs = true → PyData.canLayAll0 (D.toPs xs) = true
  | [], h => by simp [D.toPs, PyData.canLayAll0]
  | x :: xs, h => by
    simp only [D.lays, Bool.and_eq_true] at h
    simp only [D.toPs, PyData.canLayAll0, lay_toP x h.1, lays_toP xs h.2, Bool.and_self]
end
mutual
theorem dep_toP : ∀ (x : D), x.toP.depth = x.dep
  | .non => by simp [D.toP, PyData.depth, D.dep]
  | .bl a => by simp [D.toP, PyData.depth, D.dep]
  | .int a => by simp [D.toP, PyData.depth, D.dep]
  | .str a => by simp [D.toP, PyData.depth, D.dep]
  | .lst xs => by simp only [D.toP, PyData.depth, D.dep, deps_toP xs]
  | .tup xs => by simp only [D.toP, PyData.depth, D.dep, deps_toP xs]
  | .dct _ _ => by simp [D.toP, PyData.depth, D.dep]
  | .fn _ => by simp [D.toP, PyData.depth, D.dep]
  | .scr _ => by simp [D.toP, PyData.depth, D.dep]
theorem deps_toP : ∀ (xs : List D), PyData.depthAll (D.toPs xs) = D.deps xs
  | [] => by simp [D.toPs, PyData.depthAll, D.deps]
  | x :: xs => by simp only [D.toPs, PyData.depthAll, D.deps, dep_toP x, deps_toP xs]
end
theorem ok_toP {d : D} (h : d.ok = true) : SeqAt.shaped d.toP = true := by
  unfold D.ok at h
  simp only [Bool.and_eq_true, decide_eq_true_eq] at h
  unfold SeqAt.shaped
  rw [lay_toP d h.1, dep_toP]
  simpa using h.2
theorem ok_lay {d : D} (h : d.ok = true) : d.lay = true := by
  unfold D.ok at h
  simp only [Bool.and_eq_true] at h
  exact h.1
mutual
theorem IsD.dp {c : Cc} {H : Hp} : ∀ (d : D) (v : V), d.lay = true → IsD c H d v → Dp c.K H v d.toP
  | .non, v, l, h => by unfold IsD at h; subst h; exact .non
  | .bl b, v, l, h => by unfold IsD at h; subst h; exact .bl b
  | .int b, v, l, h => by unfold IsD at h; subst h; exact .int b
  | .str b, v, l, h => by unfold IsD at h; subst h; exact .str b
  | .lst xs, v, l, h => by
    unfold IsD at h
    obtain ⟨a, vs, rfl, h1, h2⟩ := h
    exact .lst (SqL.of h1) (IsDs.dp xs vs (by simpa [D.lay] using l) h2)
  | .tup xs, v, l, h => by
    unfold IsD at h
    obtain ⟨a, vs, rfl, h1, h2⟩ := h
    exact .tup h1 (IsDs.dp xs vs (by simpa [D.lay] using l) h2)
  | .dct _ _, v, l, h => by simp [D.lay] at l
  | .fn _, v, l, h => by simp [D.lay] at l
  | .scr _, v, l, h => by simp [D.lay] at l
theorem IsDs.dp {c : Cc} {H : Hp} : ∀ (ds : List D) (vs : List V), D.lays ds = true → IsDs c H ds vs → DpAll c.K H vs (D.toPs ds)
  | [], vs, l, h => by unfold IsDs at h; subst h; exact .nil
  | d :: ds, vs, l, h => by
    unfold IsDs at h
    obtain ⟨v, r, rfl, h1, h2⟩ := h
    simp only [D.lays, Bool.and_eq_true] at l
    exact .cons (IsD.dp d v l.1 h1) (IsDs.dp ds r l.2 h2)
end
theorem RepS.dp {c : Cc} {P : Addr → Prop} {H : Hp} {d : D} {v : V} (l : d.lay = true) (h : RepS c P H d v) : Dp c.K H v d.toP := by
  cases d with
  | lst ds =>
    obtain ⟨a, vs, rfl, h1, h2⟩ := h
    exact .lst (SqL.of h1) (IsDs.dp ds vs (by simpa [D.lay] using l) (h2.same hide_full))
  | dct _ _ => simp [D.lay] at l
  | _ => exact IsD.dp _ _ l (IsD.same (hide_full (P := P)) _ _ h)
def dEq (d1 d2 : D) : M D := if d1.ok && d2.ok then .ok (.bl (D.eqv d1 d2)) else stuck
def dNe (d1 d2 : D) : M D := if d1.ok && d2.ok then .ok (.bl (!D.eqv d1 d2)) else stuck
theorem dEq_nr : NoR2 dEq := fun d1 d2 k p h => by unfold dEq at h; split at h <;> cases h
theorem dNe_nr : NoR2 dNe := fun d1 d2 k p h => by unfold dNe at h; split at h <;> cases h
theorem vb_eq {c : Cc} : VB c (rEqD c.K) dEq := by
  intro P H x y d1 d2 d Q hP r1 r2 e k
  unfold dEq at e
  split at e
  · rename_i hk
    simp only [Bool.and_eq_true] at hk
    cases e
    exact ⟨_, _, r1.dp (ok_lay hk.1), r2.dp (ok_lay hk.2), ok_toP hk.1, ok_toP hk.2, by rw [eqv_toP _ _ (ok_lay hk.1) (ok_lay hk.2)]; exact k _ H (Same.refl _) isBl⟩
  · cases e
theorem vb_ne {c : Cc} : VB c (rNeD c.K) dNe := by
  intro P H x y d1 d2 d Q hP r1 r2 e k
  unfold dNe at e
  split at e
  · rename_i hk
    simp only [Bool.and_eq_true] at hk
    cases e
    exact ⟨_, _, r1.dp (ok_lay hk.1), r2.dp (ok_lay hk.2), ok_toP hk.1, ok_toP hk.2, by rw [eqv_toP _ _ (ok_lay hk.1) (ok_lay hk.2)]; exact k _ H (Same.refl _) isBl⟩
  · cases e

/-! ### in, not in: lists, tuples, one text in another -/
def inOk (d : D) (ds : List D) : Bool := d.ok && (D.lst ds).ok
def dIn : D → D → M D
  | d, .lst ds => if inOk d ds then .ok (.bl (ds.any fun z => D.eqv z d)) else stuck
  | d, .tup ds => if inOk d ds then .ok (.bl (ds.any fun z => D.eqv z d)) else stuck
  | _, _ => stuck
def dNotIn : D → D → M D
  | d, .lst ds => if inOk d ds then .ok (.bl (!ds.any fun z => D.eqv z d)) else stuck
  | d, .tup ds => if inOk d ds then .ok (.bl (!ds.any fun z => D.eqv z d)) else stuck
  | _, _ => stuck
theorem dIn_nr : NoR2 dIn := fun d1 d2 k p h => by unfold dIn at h; split at h <;> first | cases h | (split at h <;> cases h)
theorem dNotIn_nr : NoR2 dNotIn := fun d1 d2 k p h => by unfold dNotIn at h; split at h <;> first | cases h | (split at h <;> cases h)
def rInT (K : PySem.W.Frag) (neg : Bool) : R2 := fun x y H Q => ∃ d ds, Dp K H x d ∧ Dp K H y (.tuple ds) ∧ SeqAt.shaped d = true ∧ SeqAt.shaped (.list ds) = true ∧ Q (.bl (if neg then !ds.any (fun z => PyData.eqv z d) else ds.any fun z => PyData.eqv z d)) H
theorem op_inT {X : Cx} (hu : X.A.units + 65 < cLine) : OpR X (compareOp .In) (rInT X.K false) := by
  intro pins s σ H x y v u Q I rx ry ⟨d, ds, hd, he, sd, se, q⟩
  obtain ⟨as, r1⟩ := Dp.reads I d x v hd rx
  obtain ⟨bs, r2⟩ := Dp.reads I (.tuple ds) y u he ry
  exact SeqAt.in_tuple_reads r2 r1 (SeqAt.canLay_of_shaped se) (SeqAt.canLay_of_shaped sd) (room_in_shaped sd hu) ⟨.bl _, H, I, rfl, q⟩
theorem op_notInT {X : Cx} (hu : X.A.units + 65 < cLine) : OpR X (compareOp .NotIn) (rInT X.K true) := by
  intro pins s σ H x y v u Q I rx ry ⟨d, ds, hd, he, sd, se, q⟩
  obtain ⟨as, r1⟩ := Dp.reads I d x v hd rx
  obtain ⟨bs, r2⟩ := Dp.reads I (.tuple ds) y u he ry
  exact SeqAt.notIn_tuple_reads r2 r1 (SeqAt.canLay_of_shaped se) (SeqAt.canLay_of_shaped sd) (room_in_shaped sd hu) ⟨.bl _, H, I, rfl, q⟩
def rInD' (K : PySem.W.Frag) : R2 := fun x y H Q => rInD K x y H Q ∨ rInT K false x y H Q
def rNotInD' (K : PySem.W.Frag) : R2 := fun x y H Q => rNotInD K x y H Q ∨ rInT K true x y H Q
theorem op_inS {X : Cx} (hu : X.A.units + 65 < cLine) : OpR X (compareOp .In) (rInD' X.K) := OpR.or (op_inD hu) (op_inT hu)
theorem op_notInS {X : Cx} (hu : X.A.units + 65 < cLine) : OpR X (compareOp .NotIn) (rNotInD' X.K) := OpR.or (op_notInD hu) (op_notInT hu)
theorem toPs_map : ∀ ds : List D, D.toPs ds = ds.map D.toP
  | [] => rfl
  | d :: ds => by simp only [D.toPs, List.map_cons, toPs_map ds]
theorem lays_mem : ∀ {ds : List D} {z : D}, D.lays ds = true → z ∈ ds → z.lay = true
  | d :: ds, z, h, m => by
    simp only [D.lays, Bool.and_eq_true] at h
    rcases List.mem_cons.mp m with rfl | m
    · exact h.1
    · exact lays_mem h.2 m
theorem any_toP {d : D} {ds : List D} (hd : d.lay = true) (hs : D.lays ds = true) : ((D.toPs ds).any fun z => PyData.eqv z d.toP) = ds.any fun z => D.eqv z d := by
  rw [toPs_map, List.any_map]
  rw [Bool.eq_iff_iff]
  simp only [List.any_eq_true, Function.comp]
  constructor
  · rintro ⟨z, m, h⟩; exact ⟨z, m, by rw [← eqv_toP z d (lays_mem hs m) hd]; exact h⟩
  · rintro ⟨z, m, h⟩; exact ⟨z, m, by rw [eqv_toP z d (lays_mem hs m) hd]; exact h⟩
theorem inOk_of {d : D} {ds : List D} (h : inOk d ds = true) : d.lay = true ∧ D.lays ds = true ∧ SeqAt.shaped d.toP = true ∧ SeqAt.shaped (.list (D.toPs ds)) = true := by
  unfold inOk at h
  simp only [Bool.and_eq_true] at h
  have h2 := ok_lay h.2
  exact ⟨ok_lay h.1, by simpa [D.lay] using h2, ok_toP h.1, by have := ok_toP h.2; simpa only [D.toP] using this⟩
theorem vb_in {c : Cc} : VB c (rInD' c.K) dIn := by
  intro P H x y d1 d2 d Q hP r1 r2 e k
  unfold dIn at e
  split at e
  · split at e
    · rename_i hk
      cases e
      obtain ⟨h1, h2, h3, h4⟩ := inOk_of hk
      refine .inl ⟨_, _, r1.dp h1, ?_, h3, h4, by rw [any_toP h1 h2]; exact k _ H (Same.refl _) isBl⟩
      have := r2.dp (show (D.lst _).lay = true by simpa [D.lay] using h2)
      simpa only [D.toP] using this
    · cases e
  · split at e
    · rename_i hk
      cases e
      obtain ⟨h1, h2, h3, h4⟩ := inOk_of hk
      refine .inr ⟨_, _, r1.dp h1, ?_, h3, h4, by rw [any_toP h1 h2]; exact k _ H (Same.refl _) isBl⟩
      have := r2.dp (show (D.tup _).lay = true by simpa [D.lay] using h2)
      simpa only [D.toP] using this
    · cases e
  · cases e
theorem vb_notIn {c : Cc} : VB c (rNotInD' c.K) dNotIn := by
  intro P H x y d1 d2 d Q hP r1 r2 e k
  unfold dNotIn at e
  split at e
  · split at e
    · rename_i hk
      cases e
      obtain ⟨h1, h2, h3, h4⟩ := inOk_of hk
      refine .inl ⟨_, _, r1.dp h1, ?_, h3, h4, by rw [any_toP h1 h2]; exact k _ H (Same.refl _) isBl⟩
      have := r2.dp (show (D.lst _).lay = true by simpa [D.lay] using h2)
      simpa only [D.toP] using this
    · cases e
  · split at e
    · rename_i hk
      cases e
      obtain ⟨h1, h2, h3, h4⟩ := inOk_of hk
      refine .inr ⟨_, _, r1.dp h1, ?_, h3, h4, by rw [any_toP h1 h2]; exact k _ H (Same.refl _) isBl⟩
      have := r2.dp (show (D.tup _).lay = true by simpa [D.lay] using h2)
      simpa only [D.toP] using this
    · cases e
  · cases e

/-! ### is None -/
def dIsN : D → D → M D
  | .non, .non => .ok (.bl true)
  | _, .non => .ok (.bl false)
  | _, _ => stuck
def dNotN : D → D → M D
  | .non, .non => .ok (.bl false)
  | _, .non => .ok (.bl true)
  | _, _ => stuck
theorem dIsN_nr : NoR2 dIsN := fun d1 d2 k p h => by unfold dIsN at h; split at h <;> cases h
theorem dNotN_nr : NoR2 dNotN := fun d1 d2 k p h => by unfold dNotN at h; split at h <;> cases h
theorem RepS.ne_non {c : Cc} {P : Addr → Prop} {H : Hp} {d : D} {v : V} (h : RepS c P H d v) (hd : d ≠ .non) : v ≠ .non := by
  intro e
  subst e
  cases d with
  | non => exact hd rfl
  | lst ds => obtain ⟨a, vs, e, _⟩ := h; cases e
  | dct ks ws => obtain ⟨a, e, _⟩ := h; cases e
  | tup ds => obtain ⟨a, vs, e, _⟩ := h.tup; cases e
  | bl b => cases h.bl
  | int b => cases h.int
  | str b => cases h.str
  | fn i => unfold RepS IsD at h; obtain ⟨a, _, e⟩ := h; cases e
  | scr i => unfold RepS IsD at h; obtain ⟨a, e, _⟩ := h; cases e
theorem vb_isN {c : Cc} : VB c (fun x y H Q => y = .non ∧ Q (.bl (decide (x = .non))) H) dIsN := by
  intro P H x y d1 d2 d Q hP r1 r2 e k
  unfold dIsN at e
  split at e
  · cases e
    refine ⟨r2.non, ?_⟩
    rw [decide_eq_true r1.non]
    exact k _ H (Same.refl _) isBl
  · rename_i hn
    cases e
    refine ⟨r2.non, ?_⟩
    rw [decide_eq_false (r1.ne_non fun q => hn (by rw [q]))]
    exact k _ H (Same.refl _) isBl
  · cases e
theorem vb_notN {c : Cc} : VB c (fun x y H Q => y = .non ∧ Q (.bl (!decide (x = .non))) H) dNotN := by
  intro P H x y d1 d2 d Q hP r1 r2 e k
  unfold dNotN at e
  split at e
  · cases e
    refine ⟨r2.non, ?_⟩
    rw [decide_eq_true r1.non]
    exact k _ H (Same.refl _) isBl
  · rename_i hn
    cases e
    refine ⟨r2.non, ?_⟩
    rw [decide_eq_false (r1.ne_non fun q => hn (by rw [q]))]
    exact k _ H (Same.refl _) isBl
  · cases e
end Dn

/-! Dn5 -/
set_option Elab.async false
set_option linter.all false
set_option maxRecDepth 100000
set_option maxHeartbeats 1000000
/-! Dn5: tests, conditional values, displays, arguments, calls of built-ins, subscripts, slices. -/
namespace Dn
open PySem PySem.Spec L2
open PyProof.Rows hiding St

theorem and_l {a b : Bool} (h : (a && b) = true) : a = true := by simp only [Bool.and_eq_true] at h; exact h.1
theorem and_r {a b : Bool} (h : (a && b) = true) : b = true := by simp only [Bool.and_eq_true] at h; exact h.2

section
variable {X : Cx} {g : Ce} {W : WX} {pu pu1 pu2 pu3 sh sh1 sh2 sh3 : Bool} {m m1 m2 m3 : Ev} {a b e : Expr} {pos : Pos} {t t1 t2 : Tv} {rest : List Expr}

/-! ### tests -/
def dTb (m : Ev) : Tv := fun env => bnd (m env) fun p => match p.1 with
  | .bl k => .ok (k, p.2)
  | _ => stuck
theorem tT_of {c : Cc} {σ : St} {H : Hp} {Q : Bool → Hp → Prop} (h : tT c pu (dTb m) W σ H Q) : tE c pu false m W σ H (fun x H' => ∃ k, x = .bl k ∧ Q k H') := by
  obtain ⟨xs, env, S, w⟩ := h
  refine ⟨xs, env, S, Want.bind w fun d env' v H' e s r w' => ?_⟩
  have r' : RepS c _ H' d v := Rep.shell r
  dsimp only at w'
  split at w'
  · rename_i k
    exact ⟨k, r'.bl, w' k H' s rfl⟩
  · exact w'.elim
theorem t_cmp {op : CmpOp} {r : R2} {f : D → D → M D} (ho : OpR X (compareOp op) r) (hv : VB (cc X g) r f) (nr : NoR2 f) (hc : sh1 = false ∨ pu2 = true) (hm : behindInMarks op b = false) (ha : DE X g pu1 sh1 a m1 W) (hb : DE X g pu2 sh2 b m2 W) :
    DT X g (pu1 && pu2) (.Compare a [op] [b] pos) (dTb (dBin f m1 m2)) W := PT.imp (pt_cmpR ho ha hb hm) fun _ _ _ h => t_bin hv nr hc (tT_of h)

def truth : D → M Bool
  | .non => .ok false
  | .bl b => .ok b
  | .int i => .ok (i != 0)
  | .str x => if x.length ≤ maxSeq then .ok ((x.length : Int) != 0) else stuck
  | .tup xs => .ok (!xs.isEmpty)
  | .lst xs => .ok (!xs.isEmpty)
  | _ => stuck
def dTr (m : Ev) : Tv := fun env => bnd (m env) fun p => bnd (truth p.1) fun k => .ok (k, p.2)
theorem truth_nr {d : D} {k p} : truth d ≠ .error (.raise k p) := fun h => by
  unfold truth at h
  split at h <;> first | cases h | (split at h <;> cases h)
theorem isDs_empty {c : Cc} {H : Hp} {ds : List D} {vs : List V} (h : IsDs c H ds vs) : ds.isEmpty = vs.isEmpty := by
  have := h.len
  cases ds <;> cases vs <;> simp_all
theorem truth_of {c : Cc} {P : Addr → Prop} {H : Hp} {d : D} {v : V} {k : Bool} (h : truth d = .ok k) (r : RepS c P H d v) : TruV c.K v H k := by
  unfold truth at h
  split at h
  · cases h; rw [r.non]; rfl
  · cases h; rw [r.bl]; rfl
  · cases h; rw [r.int]; rfl
  · split at h
    · rename_i hz; cases h; rw [r.str]; exact ⟨by rw [maxSeq_eq]; exact hz, rfl⟩
    · cases h
  · cases h
    obtain ⟨a, vs, rfl, h1, h2⟩ := r.tup
    exact .inr (.inl ⟨vs, h1, by rw [isDs_empty h2]⟩)
  · cases h
    obtain ⟨a, vs, rfl, h1, h2⟩ := r.lst
    exact .inl ⟨vs, SqL.of h1, by rw [isDs_empty h2]⟩
  · cases h
theorem t_truth (he : ∀ whole, isTrue a X.env whole = (do let v ← whole; standAt a.pos; holding [v] (truthy v))) (ha : DE X g pu sh a m W) : DT X g pu a (dTr m) W := by
  refine PT.imp (pt_truth ha he) fun σ H Q ⟨xs, env, S, w⟩ => ⟨xs, env, S, Want.bind w fun d env' v H' e s r w' => ?_⟩
  cases q : truth d with
  | error x => cases x with
    | raise k p => exact absurd q truth_nr
    | stuck => rw [q] at w'; exact w'.elim
  | ok k =>
    rw [q] at w'
    exact ⟨k, truth_of (c := cc X g) q r.shell, w' k H' s rfl⟩

def dTNot (t : Tv) : Tv := fun env => bnd (t env) fun p => .ok (!p.1, p.2)
theorem t_not (h : DT X g pu a t W) : DT X g pu (.UnaryOp .Not a pos) (dTNot t) W :=
  PT.imp (pt_not h) fun σ H Q ⟨xs, env, S, w⟩ => ⟨xs, env, S, Want.bind w fun d env' v H' e s r w' => by subst r; exact w' _ H' s rfl⟩
def dTAnd (t1 t2 : Tv) : Tv := fun env => bnd (t1 env) fun p => if p.1 = true then t2 p.2 else .ok (false, p.2)
def dTOr (t1 t2 : Tv) : Tv := fun env => bnd (t1 env) fun p => if p.1 = true then .ok (true, p.2) else t2 p.2
theorem w_and1 (h : DT X g pu a t W) : DW X g pu (.BoolOp .And [a] pos) t W := pw_and1 h
theorem w_or1 (h : DT X g pu a t W) : DW X g pu (.BoolOp .Or [a] pos) t W := pw_or1 h
theorem w_and (h1 : DT X g pu1 a t1 W) (h2 : DW X g pu2 (.BoolOp .And (b :: rest) pos) t2 W) : DW X g (pu1 && pu2) (.BoolOp .And (a :: b :: rest) pos) (dTAnd t1 t2) W :=
  PW.imp (pw_and h1 h2) fun σ H Q ⟨xs, env, S, w⟩ => ⟨xs, env, S, Want.bind w fun d env' v H' e s r w' => by
    have r' : v = d := r
    subst r'
    dsimp only at w'
    cases v with
    | true => exact ⟨xs, env', s.st, Want.after s w'⟩
    | false => exact w' false H' (s.weak and_l) rfl⟩
theorem w_or (h1 : DT X g pu1 a t1 W) (h2 : DW X g pu2 (.BoolOp .Or (b :: rest) pos) t2 W) : DW X g (pu1 && pu2) (.BoolOp .Or (a :: b :: rest) pos) (dTOr t1 t2) W :=
  PW.imp (pw_or h1 h2) fun σ H Q ⟨xs, env, S, w⟩ => ⟨xs, env, S, Want.bind w fun d env' v H' e s r w' => by
    have r' : v = d := r
    subst r'
    dsimp only at w'
    cases v with
    | false => exact ⟨xs, env', s.st, Want.after s w'⟩
    | true => exact w' true H' (s.weak and_l) rfl⟩
theorem t_w (h : DW X g pu a t W) : DT X g pu a t W := h.pt

/-! ### and, or, not as values (bools, all but the last) -/
def dAndV (m1 m2 : Ev) : Ev := fun env => bnd (m1 env) fun p => match p.1 with
  | .bl true => m2 p.2
  | .bl false => .ok (.bl false, p.2)
  | _ => stuck
def dOrV (m1 m2 : Ev) : Ev := fun env => bnd (m1 env) fun p => match p.1 with
  | .bl true => .ok (.bl true, p.2)
  | .bl false => m2 p.2
  | _ => stuck
def dNotV (m : Ev) : Ev := fun env => bnd (m env) fun p => match p.1 with
  | .bl k => .ok (.bl (!k), p.2)
  | _ => stuck
theorem e_one {op} (h : DE X g pu sh a m W) : DE X g pu sh (.BoolOp op [a] pos) m W := pe_one h
/-- what a later part finds -/
theorem Want.afterE {α β : Type} {c : Cc} {xs : Addr → Prop} {env env' : En} {σ : St} {H H' : Hp} {R : α → En → β → Hp → Prop} {Q : β → Hp → Prop} {m : M (α × En)} (s : Stp c xs pu1 env env' σ H H') (h : Want c xs (pu1 && pu2) env σ H R W Q m) :
    Want c xs pu2 env' σ H' R W Q m := Want.after s h
theorem e_and (h1 : DE X g pu1 sh1 a m1 W) (h2 : DE X g pu2 sh (.BoolOp .And (b :: rest) pos) m2 W) : DE X g (pu1 && pu2) sh (.BoolOp .And (a :: b :: rest) pos) (dAndV m1 m2) W :=
  PE.imp (pe_and h1 h2) fun σ H Q ⟨xs, env, S, w⟩ => ⟨xs, env, S, Want.bind w fun d env' v H' e s r w' => by
    have r' := Rep.shell r
    dsimp only at w'
    split at w'
    · refine ⟨true, r'.bl, ?_⟩
      rw [if_pos rfl]
      refine ⟨xs, env', s.st, ?_⟩
      rw [s.hid]
      exact Want.after s w'
    · refine ⟨false, r'.bl, ?_⟩
      rw [if_neg Bool.false_ne_true]
      exact w' _ H' (s.weak and_l) (Rep.of isBl)
    · exact w'.elim⟩
theorem e_or (h1 : DE X g pu1 sh1 a m1 W) (h2 : DE X g pu2 sh (.BoolOp .Or (b :: rest) pos) m2 W) : DE X g (pu1 && pu2) sh (.BoolOp .Or (a :: b :: rest) pos) (dOrV m1 m2) W :=
  PE.imp (pe_or h1 h2) fun σ H Q ⟨xs, env, S, w⟩ => ⟨xs, env, S, Want.bind w fun d env' v H' e s r w' => by
    have r' := Rep.shell r
    dsimp only at w'
    split at w'
    · refine ⟨true, r'.bl, ?_⟩
      rw [if_pos rfl]
      exact w' _ H' (s.weak and_l) (Rep.of isBl)
    · refine ⟨false, r'.bl, ?_⟩
      rw [if_neg Bool.false_ne_true]
      refine ⟨xs, env', s.st, ?_⟩
      rw [s.hid]
      exact Want.after s w'
    · exact w'.elim⟩
theorem e_not (h : DE X g pu sh a m W) : DE X g pu false (.UnaryOp .Not a pos) (dNotV m) W :=
  PE.imp (pe_not h) fun σ H Q ⟨xs, env, S, w⟩ => ⟨xs, env, S, Want.bind w fun d env' v H' e s r w' => by
    have r' := Rep.shell r
    dsimp only at w'
    split at w'
    · exact ⟨_, r'.bl, w' _ H' s (Rep.of isBl)⟩
    · exact w'.elim⟩
/-! ### a if t else b -/
def dIf (t : Tv) (m1 m2 : Ev) : Ev := fun env => bnd (t env) fun p => if p.1 = true then m1 p.2 else m2 p.2
theorem e_if (ht : DT X g pu e t W) (h1 : DE X g pu1 sh a m1 W) (h2 : DE X g pu1 sh b m2 W) : DE X g (pu && pu1) sh (.IfExp e a b pos) (dIf t m1 m2) W :=
  PE.imp (pe_ifExp ht h1 h2) fun σ H Q ⟨xs, env, S, w⟩ => ⟨xs, env, S, Want.bind w fun d env' v H' e s r w' => by
    have r' : v = d := r
    subst r'
    dsimp only at w'
    cases v with
    | true =>
      rw [if_pos rfl]
      refine ⟨xs, env', s.st, ?_⟩
      rw [s.hid]
      exact Want.after s w'
    | false =>
      rw [if_neg Bool.false_ne_true]
      refine ⟨xs, env', s.st, ?_⟩
      rw [s.hid]
      exact Want.after s w'⟩
/-- chained comparisons -/
def dChain (f f' : D → D → M D) (m1 m2 m3 : Ev) : Ev := fun env => bnd (m1 env) fun p => bnd (m2 p.2) fun q => bnd (f p.1 q.1) fun k => match k with
  | .bl true => bnd (m3 q.2) fun r => bnd (f' q.1 r.1) fun d => .ok (d, r.2)
  | .bl false => .ok (.bl false, q.2)
  | _ => stuck
theorem t_chain' {r r' : R2} {f f' : D → D → M D} (hv : VB (cc X g) r f) (hv' : VB (cc X g) r' f') (nr : NoR2 f) (nr' : NoR2 f') {σ : St} {H : Hp} {Q : VK} (h : tE (cc X g) true false (dChain f f' m1 m2 m3) W σ H Q) :
    tChain r r' (tE (cc X g) true sh1 m1 W) (tE (cc X g) true sh2 m2 W) (tE (cc X g) true sh3 m3 W) σ H Q := by
  obtain ⟨xs, env, S, w⟩ := h
  refine ⟨xs, env, S, w.bind fun d1 env1 x H1 e1 s1 r1 w1 => ?_⟩
  refine ⟨xs, env1, s1.st, Want.bind (pu' := true) (Want.after s1 w1) fun d2 env2 y H2 e2 s2 r2 w2 => ?_⟩
  rw [← s1.hid] at r1
  have r1' := (s2.rep (.inr rfl) r1).shell
  have r2' := r2.shell
  have hP : ∀ a, Hid xs env1 σ a → H2 a ≠ none := fun a ha => s2.st.hid (by rw [s2.hid]; exact ha)
  cases q : f d1 d2 with
  | error e => cases e with
    | raise k p => exact absurd q (nr _ _ _ _)
    | stuck => rw [q] at w2; exact w2.elim
  | ok d =>
    rw [q] at w2
    refine hv (Hid xs env1 σ) H2 x y d1 d2 d _ hP r1' r2' q fun v H3 k hd => ?_
    dsimp only [bnd] at w2
    split at w2
    · have hv := (RepS.of hd).bl
      subst hv
      refine ⟨true, rfl, ?_⟩
      rw [if_pos rfl]
      refine ⟨xs, env2, s2.st.same k, Want.bind (pu' := true) (Want.after (s2.grow k) w2) fun d3 env3 z H4 e3 s3 r3 w3 => ?_⟩
      have r2'' : RepS (cc X g) (Hid xs env1 σ) H4 d2 y := ((RepS.same k r2').same (s3.pr rfl).2)
      have r3' := r3.shell
      rw [s2.hid] at r3'
      cases q' : f' d2 d3 with
      | error e => cases e with
        | raise k p => exact absurd q' (nr' _ _ _ _)
        | stuck => rw [q'] at w3; exact w3.elim
      | ok d' =>
        rw [q'] at w3
        refine hv' (Hid xs env1 σ) H4 y z d2 d3 d' Q (fun a ha => s3.st.hid (by rw [s3.hid, s2.hid]; exact ha)) r2'' r3' q' fun v' H5 k' hd' => ?_
        rw [s1.hid] at hd'
        exact w3 v' H5 (s3.grow k') hd'
    · have hv := (RepS.of hd).bl
      subst hv
      refine ⟨false, rfl, ?_⟩
      rw [if_neg Bool.false_ne_true]
      exact w2 _ H3 (s2.grow k) (Rep.of isBl)
    · exact w2.elim
theorem e_chain {op op' : CmpOp} {r r' : R2} {f f' : D → D → M D} (ho : OpR X (compareOp op) r) (ho' : OpR X (compareOp op') r') (hv : VB (cc X g) r f) (hv' : VB (cc X g) r' f') (nr : NoR2 f) (nr' : NoR2 f')
    (hm : lastMarks [op, op'] [b, e] = false) (ha : DE X g true sh1 a m1 W) (hb : DE X g true sh2 b m2 W) (he : DE X g true sh3 e m3 W) : DE X g true false (.Compare a [op, op'] [b, e] pos) (dChain f f' m1 m2 m3) W :=
  PE.imp (pe_chain ho ho' ha hb he hm) fun _ _ _ h => t_chain' hv hv' nr nr' h
theorem t_chain {op op' : CmpOp} {r r' : R2} {f f' : D → D → M D} (ho : OpR X (compareOp op) r) (ho' : OpR X (compareOp op') r') (hv : VB (cc X g) r f) (hv' : VB (cc X g) r' f') (nr : NoR2 f) (nr' : NoR2 f')
    (hm : lastMarks [op, op'] [b, e] = false) (ha : DE X g true sh1 a m1 W) (hb : DE X g true sh2 b m2 W) (he : DE X g true sh3 e m3 W) : DT X g true (.Compare a [op, op'] [b, e] pos) (dTb (dChain f f' m1 m2 m3)) W :=
  PT.imp (pt_chain ho ho' ha hb he hm) fun _ _ _ h => t_chain' hv hv' nr nr' (tT_of h)
end
end Dn

/-! Dn6 -/
set_option Elab.async false
set_option linter.all false
set_option maxRecDepth 100000
set_option maxHeartbeats 1000000
/-! Dn6: arguments, displays, calls of built-ins, subscripts, slices. -/
namespace Dn
open PySem PySem.Spec L2
open PyProof.Rows hiding St

section
variable {X : Cx} {g : Ce} {W : WX} {pu pu1 pu2 pu3 sh sh1 sh2 sh3 : Bool} {m m1 m2 m3 : Ev} {a b e : Expr} {es : List Expr} {pos : Pos} {ma : Av} {shs : List Bool}

/-! ### arguments -/
def dNil : Av := fun env => .ok ([], env)
def dCons (m : Ev) (ms : Av) : Av := fun env => bnd (m env) fun p => bnd (ms p.2) fun q => .ok (p.1 :: q.1, q.2)
theorem a_nil : DA X g true [] [] dNil W := PA.imp pa_nil fun σ H Q ⟨xs, env, S, w⟩ => w [] H (.refl S) trivial
theorem Stp.reps {c : Cc} {xs : Addr → Prop} {env env' : En} {σ : St} {H H' : Hp} (s : Stp c xs pu env env' σ H H') : ∀ {shs : List Bool} {ds : List D} {vs : List V}, (shs.all (!·) = true ∨ pu = true) → Reps c (Hid xs env σ) H shs ds vs → Reps c (Hid xs env σ) H' shs ds vs
  | [], [], [], _, r => r
  | s' :: ss, d :: ds, v :: vs, h, r => by
    obtain ⟨r1, r2⟩ := r
    refine ⟨s.rep ?_ r1, Stp.reps s ?_ r2⟩
    · rcases h with h | h
      · simp only [List.all_cons, Bool.and_eq_true] at h
        exact .inl (by simpa using h.1)
      · exact .inr h
    · rcases h with h | h
      · simp only [List.all_cons, Bool.and_eq_true] at h
        exact .inl h.2
      · exact .inr h
  | [], [], _ :: _, _, r => r.elim
  | [], _ :: _, _, _, r => r.elim
  | _ :: _, [], _, _, r => r.elim
  | _ :: _, _ :: _, [], _, r => r.elim
theorem a_cons (hc : sh = false ∨ pu2 = true) (h1 : DE X g pu1 sh e m W) (h2 : DA X g pu2 shs es ma W) (hs : starEach (e :: es) X.env = (false, eval e X.env) :: starEach es X.env := by rfl) : DA X g (pu1 && pu2) (sh :: shs) (e :: es) (dCons m ma) W :=
  PA.imp (pa_cons h1 h2 hs) fun σ H Q ⟨xs, env, S, w⟩ => ⟨xs, env, S, Want.bind w fun d env1 v H1 e1 s1 r1 w1 => by
    refine ⟨xs, env1, s1.st, Want.bind (pu' := pu2) (Want.after s1 w1) fun ds env2 vs H2 e2 s2 r2 w2 => ?_⟩
    rw [← s1.hid] at r1
    have r1' := s2.rep hc r1
    rw [s1.hid] at r1' r2
    exact w2 (v :: vs) H2 s2 ⟨r1', r2⟩⟩

/-! ### displays -/
def dTup (ms : Av) : Ev := fun env => bnd (ms env) fun p => if p.1.length ≤ maxSeq then .ok (.tup p.1, p.2) else stuck
def dLst (ms : Av) : Ev := fun env => bnd (ms env) fun p => if p.1.length ≤ maxSeq then .ok (.lst p.1, p.2) else stuck
theorem Reps.clean {c : Cc} {P : Addr → Prop} {H : Hp} : ∀ {shs : List Bool} {ds : List D} {vs : List V}, shs.all (!·) = true → Reps c P H shs ds vs → IsDs c (hide H P) ds vs
  | [], [], [], _, _ => IsDs.nil
  | s :: ss, d :: ds, v :: vs, h, ⟨r1, r2⟩ => by
    simp only [List.all_cons, Bool.and_eq_true] at h
    have e : s = false := by simpa using h.1
    subst e
    exact IsDs.cons r1 (Reps.clean h.2 r2)
  | [], [], _ :: _, _, r => r.elim
  | [], _ :: _, _, _, r => r.elim
  | _ :: _, [], _, _, r => r.elim
  | _ :: _, _ :: _, [], _, r => r.elim
theorem e_tup {x1} (hs : shs.all (!·) = true) (h : DA X g pu shs es ma W) : DE X g pu false (.Tuple es x1 pos) (dTup ma) W :=
  PE.imp (pe_tup h) fun σ H Q ⟨xs, env, S, w⟩ => ⟨xs, env, S, Want.bind w fun ds env' vs H' e s r w' => by
    have c := r.clean hs
    dsimp only at w'
    split at w'
    · rename_i hz
      refine ⟨by rw [maxSeq_eq, ← c.len]; exact hz, fun p hp => ?_⟩
      refine w' _ _ (s.grow (same_new hp)) (Rep.of ?_)
      exact isNewT hp (fun a ha => s.st.hid (by rw [s.hid]; exact ha)) c
    · exact w'.elim⟩
/-- a new list -/
theorem RepF.lst {c : Cc} {xs : Addr → Prop} {env env' : En} {σ : St} {H H' : Hp} {ds : List D} {vs : List V} (s : Stp c xs pu env env' σ H H') (r : IsDs c (hide H' (Hid xs env σ)) ds vs) {p : Addr} (hp : H' p = none) (h0 : H p = none) :
    RepF c xs σ H (.lst ds) env' (.ref p) (upd H' p (.lst vs)) := by
  refine ⟨p, _, rfl, h0, upd_same, s.st.newX (same_new hp) hp upd_same, vs, rfl, r.same ?_⟩
  intro b o hb
  obtain ⟨h1, h2⟩ := hide_some hb
  have ne : b ≠ p := ne_of_none h2 hp
  rw [s.hid, hide_of fun z => z.elim h1 ne, upd_ne ne]
  exact h2
/-- a new object by values, behind a step -/
theorem RepV.step {c : Cc} {xs : Addr → Prop} {env env' : En} {σ : St} {H H' H2 : Hp} {d : D} {v : V} (s : Stp c xs pu env env' σ H H') (S : StOk c xs env σ H) (k : Same H' H2) (r : RepV c (Hid xs env σ) H' H2 d v) (hf : ∀ p, H' p = none → H p = none) : RepF c xs σ H d env' v H2 := by
  obtain ⟨a, o, e1, e2, e3, e4⟩ := r
  exact ⟨a, o, e1, hf a e2, e3, s.st.newX k e2 e3, by rw [s.hid]; exact e4⟩
theorem Stp.free {c : Cc} {xs : Addr → Prop} {env env' : En} {σ : St} {H H' : Hp} (s : Stp c xs pu env env' σ H H') (S : StOk c xs env σ H) {p : Addr} (hp : H' p = none) : H p = none := by
  cases q : H p with
  | none => rfl
  | some o =>
    by_cases hP : Hid xs env σ p
    · exact absurd hp (s.st.hid (by rw [s.hid]; exact hP))
    · have := s.smH p o (by rw [hide_of hP]; exact q)
      rw [hide_of hP, hp] at this; cases this
theorem f_lst (hs : shs.all (!·) = true) (h : DA X g pu shs es ma W) : DF X g pu (.List es pos) (dLst ma) W :=
  PE.imp (pe_lst h) fun σ H Q ⟨xs, env, S, w⟩ => ⟨xs, env, S, Want.bind w fun ds env' vs H' e s r w' => by
    have c := r.clean hs
    dsimp only at w'
    split at w'
    · rename_i hz
      refine ⟨by rw [maxSeq_eq, ← c.len]; exact hz, fun p hp => ?_⟩
      exact w' _ _ (s.grow (same_new hp)) (RepF.lst s c hp (s.free S hp))
    · exact w'.elim⟩

/-! ### calls of built-ins by values -/
abbrev RC := List V → Hp → VK → Prop
def RepsS (c : Cc) (P : Addr → Prop) (H : Hp) : List D → List V → Prop
  | [], [] => True
  | d :: ds, v :: vs => RepS c P H d v ∧ RepsS c P H ds vs
  | _, _ => False
theorem Reps.shell {c : Cc} {P : Addr → Prop} {H : Hp} : ∀ {shs : List Bool} {ds : List D} {vs : List V}, Reps c P H shs ds vs → RepsS c P H ds vs
  | [], [], [], _ => trivial
  | s :: ss, d :: ds, v :: vs, ⟨r1, r2⟩ => ⟨r1.shell, Reps.shell r2⟩
  | [], [], _ :: _, r => r.elim
  | [], _ :: _, _, r => r.elim
  | _ :: _, [], _, r => r.elim
  | _ :: _, _ :: _, [], r => r.elim
/-- a built-in's call, of data -/
def VC (c : Cc) (r : RC) (f : List D → M D) : Prop := ∀ (P : Addr → Prop) (H : Hp) (vs : List V) (ds : List D) (d : D) (Q : VK), (∀ a, P a → H a ≠ none) → RepsS c P H ds vs →
  f ds = .ok d → (∀ v H', Same H H' → IsD c (hide H' P) d v → Q v H') → r vs H Q
/-- .. that makes a new object -/
def VCF (c : Cc) (r : RC) (f : List D → M D) : Prop := ∀ (P : Addr → Prop) (H : Hp) (vs : List V) (ds : List D) (d : D) (Q : VK), (∀ a, P a → H a ≠ none) → RepsS c P H ds vs →
  f ds = .ok d → (∀ v H', Same H H' → RepV c P H H' d v → Q v H') → r vs H Q
def NoRL (f : List D → M D) : Prop := ∀ ds k p, f ds ≠ .error (.raise k p)
def dCall (f : List D → M D) (ms : Av) : Ev := fun env => bnd (ms env) fun p => bnd (f p.1) fun d => .ok (d, p.2)
theorem t_callB {r : RC} {f : List D → M D} (hv : VC (cc X g) r f) (nr : NoRL f) {σ : St} {H : Hp} {Q : VK} (h : tE (cc X g) pu false (dCall f ma) W σ H Q) : tCB r (tA (cc X g) pu shs ma W) σ H Q := by
  obtain ⟨xs, env, S, w⟩ := h
  refine ⟨xs, env, S, Want.bind w fun ds env' vs H' e s r w' => ?_⟩
  cases q : f ds with
  | error x => cases x with
    | raise k p => exact absurd q (nr _ _ _)
    | stuck => rw [q] at w'; exact w'.elim
  | ok d =>
    rw [q] at w'
    exact hv (Hid xs env σ) H' vs ds d Q (fun a ha => s.st.hid (by rw [s.hid]; exact ha)) r.shell q fun v H2 k hd => w' v H2 (s.grow k) (Rep.of hd)
theorem t_callF {r : RC} {f : List D → M D} (hv : VCF (cc X g) r f) (nr : NoRL f) {σ : St} {H : Hp} {Q : VK} (h : tF (cc X g) pu (dCall f ma) W σ H Q) : tCB r (tA (cc X g) pu shs ma W) σ H Q := by
  obtain ⟨xs, env, S, w⟩ := h
  refine ⟨xs, env, S, Want.bind w fun ds env' vs H' e s r w' => ?_⟩
  cases q : f ds with
  | error x => cases x with
    | raise k p => exact absurd q (nr _ _ _)
    | stuck => rw [q] at w'; exact w'.elim
  | ok d =>
    rw [q] at w'
    refine hv (Hid xs env σ) H' vs ds d Q (fun a ha => s.st.hid (by rw [s.hid]; exact ha)) r.shell q fun v H2 k hr => w' v H2 (s.grow k) (hr.step s S k fun p hp => s.free S hp)
variable {x : Str} {p : Pos} {id T : String} {r : RC} {f : List D → M D}
theorem e_callB (hc : CallR X (.builtin id) r) (hv : VC (cc X g) r f) (nr : NoRL f) (hg : Gl X x) (hm : X.mg x = none) (hb : bootBuiltins x = some (.builtin id)) (ha : DA X g pu shs (e :: es) ma W) (hn : x ≠ "__name__" := by decide) (hdb : (x == ("__debug__" : Str)) = false := by decide)
    (he : starEach (e :: es) X.env = (false, eval e X.env) :: starEach es X.env := by rfl) (hpl : (backTo pos (starEach es X.env)).any (·.1) = false := by rfl) : DE X g pu false (.Call (.Name x p) (e :: es) [] pos) (dCall f ma) W :=
  PE.imp (pe_callB hc hg hm hb ha hn hdb he hpl) fun _ _ _ h => t_callB hv nr h
theorem f_callB (hc : CallR X (.builtin id) r) (hv : VCF (cc X g) r f) (nr : NoRL f) (hg : Gl X x) (hm : X.mg x = none) (hb : bootBuiltins x = some (.builtin id)) (ha : DA X g pu shs (e :: es) ma W) (hn : x ≠ "__name__" := by decide) (hdb : (x == ("__debug__" : Str)) = false := by decide)
    (he : starEach (e :: es) X.env = (false, eval e X.env) :: starEach es X.env := by rfl) (hpl : (backTo pos (starEach es X.env)).any (·.1) = false := by rfl) : DF X g pu (.Call (.Name x p) (e :: es) [] pos) (dCall f ma) W :=
  PE.imp (pe_callB hc hg hm hb ha hn hdb he hpl) fun _ _ _ h => t_callF hv nr h
theorem e_callT (hc : CallR X (.type T) r) (hv : VC (cc X g) r f) (nr : NoRL f) (hg : Gl X x) (hm : X.mg x = none) (hb : bootBuiltins x = some (.type T)) (ha : DA X g pu shs (e :: es) ma W) (hn : x ≠ "__name__" := by decide) (hdb : (x == ("__debug__" : Str)) = false := by decide)
    (he : starEach (e :: es) X.env = (false, eval e X.env) :: starEach es X.env := by rfl) (hpl : (backTo pos (starEach es X.env)).any (·.1) = false := by rfl) : DE X g pu false (.Call (.Name x p) (e :: es) [] pos) (dCall f ma) W :=
  PE.imp (pe_callTy hc hg hm hb ha hn hdb he hpl) fun _ _ _ h => t_callB hv nr h
theorem f_callT (hc : CallR X (.type T) r) (hv : VCF (cc X g) r f) (nr : NoRL f) (hg : Gl X x) (hm : X.mg x = none) (hb : bootBuiltins x = some (.type T)) (ha : DA X g pu shs (e :: es) ma W) (hn : x ≠ "__name__" := by decide) (hdb : (x == ("__debug__" : Str)) = false := by decide)
    (he : starEach (e :: es) X.env = (false, eval e X.env) :: starEach es X.env := by rfl) (hpl : (backTo pos (starEach es X.env)).any (·.1) = false := by rfl) : DF X g pu (.Call (.Name x p) (e :: es) [] pos) (dCall f ma) W :=
  PE.imp (pe_callTy hc hg hm hb ha hn hdb he hpl) fun _ _ _ h => t_callF hv nr h
/-- a new object is a value -/
theorem VCF.val {c : Cc} {r : RC} {f : List D → M D} (h : VCF c r f) : VC c r f := fun P H vs ds d Q hP hr hf k => h P H vs ds d Q hP hr hf fun v H' s ⟨a, o, e1, e2, e3, e4⟩ => k v H' s (by
  subst e1
  exact e4.isD e3 fun z => hP a z e2)

/-! ### subscripts -/
theorem e_ix {r : R2} {f : D → D → M D} (ho : IxR X r) (hv : VB (cc X g) r f) (nr : NoR2 f) (hc : sh1 = false ∨ pu2 = true) (ha : DE X g pu1 sh1 a m1 W) (hb : DE X g pu2 sh2 b m2 W) (hs : PlainIx b) : DE X g (pu1 && pu2) false (.Subscript a b pos) (dBin f m1 m2) W :=
  PE.imp (pe_ix ho ha hb hs) fun _ _ _ h => t_bin hv nr hc h
def dIx : D → D → M D
  | .lst xs, .int i => match atI xs i with
    | some d => .ok d
    | none => stuck
  | .tup xs, .int i => match atI xs i with
    | some d => .ok d
    | none => stuck
  | .str x, .int i => if x.length ≤ maxSeq then (match atI x.cps.toList i with
    | some k => .ok (.str ⟨#[k]⟩)
    | none => stuck) else stuck
  | _, _ => stuck
theorem dIx_nr : NoR2 dIx := fun d1 d2 k p h => by
  unfold dIx at h
  split at h
  · split at h <;> cases h
  · split at h <;> cases h
  · split at h
    · split at h <;> cases h
    · cases h
  · cases h
theorem atI_rep {c : Cc} {H : Hp} {ds : List D} {vs : List V} {i : Int} {d : D} (r : IsDs c H ds vs) (h : atI ds i = some d) : ∃ v, atI vs i = some v ∧ IsD c H d v := by
  unfold atI at h ⊢
  rw [← r.len]
  cases q : ixN ds.length i with
  | none => rw [q] at h; cases h
  | some j =>
    rw [q] at h
    obtain ⟨v, h1, h2⟩ := r.getD (show ds[j]? = some d from h)
    exact ⟨v, h1, h2⟩
theorem vb_ix {c : Cc} : VB c (rIx c.K) dIx := by
  intro P H x y d1 d2 d Q hP r1 r2 e k
  unfold dIx at e
  split at e
  · split at e
    · rename_i q
      cases e
      obtain ⟨a, vs, rfl, h1, h2⟩ := r1.lst
      obtain ⟨v, h3, h4⟩ := atI_rep h2 q
      exact .inl ⟨a, vs, _, v, rfl, r2.int, SqL.of h1, h3, k v H (Same.refl _) h4⟩
    · cases e
  · split at e
    · rename_i q
      cases e
      obtain ⟨a, vs, rfl, h1, h2⟩ := r1.tup
      obtain ⟨v, h3, h4⟩ := atI_rep h2 q
      exact .inr (.inl ⟨a, vs, _, v, rfl, r2.int, h1, h3, k v H (Same.refl _) h4⟩)
    · cases e
  · split at e
    · rename_i hz
      split at e
      · rename_i q
        cases e
        exact .inr (.inr ⟨_, _, _, r1.str, r2.int, by rw [maxSeq_eq]; exact hz, q, k _ H (Same.refl _) isStr⟩)
      · cases e
    · cases e
  · cases e

/-! ### slices -/
abbrev Ov := En → M (Option Int × En)
def tO (c : Cc) (pu : Bool) (m : Ov) (W : WX) : TO := fun σ H Q => ∃ xs env, StOk c xs env σ H ∧ Want c xs pu env σ H (fun d _ v _ => v = d) W Q (m env)
abbrev DO (X : Cx) (g : Ce) (pu : Bool) (e : Option Expr) (m : Ov) (W : WX) : Prop := PO X e (tO (cc X g) pu m W)
theorem PO.imp {X : Cx} {e : Option Expr} {t t' : TO} (h : PO X e t) (k : ∀ σ H Q, t' σ H Q → t σ H Q) : PO X e t' := ⟨fun pins s σ H Q I w => h.run pins s σ H Q I (k _ _ _ w)⟩
def dONone : Ov := fun env => .ok (none, env)
def dOSome (m : Ev) : Ov := fun env => bnd (m env) fun p => match p.1 with
  | .int i => .ok (some i, p.2)
  | _ => stuck
theorem o_none : DO X g true none dONone W := PO.imp po_none fun σ H Q ⟨xs, env, S, w⟩ => w _ H (.refl S) rfl
theorem o_some (h : DE X g pu sh e m W) : DO X g pu (some e) (dOSome m) W := PO.imp (po_some h) fun σ H Q ⟨xs, env, S, w⟩ => ⟨xs, env, S, Want.bind w fun d env' v H' e s r w' => by
  have r' := Rep.shell r
  dsimp only at w'
  split at w'
  · exact ⟨_, r'.int, w' _ H' s rfl⟩
  · exact w'.elim⟩
def cutD {α : Type} (xs : List α) (lo hi : Option Int) : List α := (xs.drop (HT.sIx xs.length 0 lo)).take (HT.sIx xs.length xs.length hi - HT.sIx xs.length 0 lo)
def dSlice1 : D → Option Int → Option Int → M D
  | .lst xs, lo, hi => .ok (.lst (cutD xs lo hi))
  | .tup xs, lo, hi => .ok (.tup (cutD xs lo hi))
  | .str x, lo, hi => if x.length ≤ maxSeq then .ok (.str ⟨(cutD x.cps.toList lo hi).toArray⟩) else stuck
  | _, _, _ => stuck
end
end Dn

/-! Dn7 -/
set_option Elab.async false
set_option linter.all false
set_option maxRecDepth 100000
set_option maxHeartbeats 1000000
/-! Dn7: slots set; statements; own calls; defs. -/
namespace Dn
open PySem PySem.Spec L2
open PyProof.Rows hiding St

section
variable {c : Cc} {xs : Addr → Prop} {env env' : En} {σ σ' : St} {H H' H0 : Hp} {pu : Bool}
theorem owns_set_va {i : Nat} {d : D} {v : V} {a : Addr} (h : Owns (env.set i (.va d)) (σ.set i (some v)) a) : Owns env σ a := by
  obtain ⟨j, e, h1, h2⟩ := h
  by_cases hj : i = j
  · subst hj
    rw [List.getElem?_set] at h1
    rw [if_pos rfl] at h1
    split at h1 <;> cases h1
  · rw [List.getElem?_set_ne hj] at h1 h2
    exact ⟨j, e, h1, h2⟩
theorem owns_set_un {i : Nat} {o : Option V} {a : Addr} (h : Owns (env.set i .un) (σ.set i o) a) : Owns env σ a := by
  obtain ⟨j, e, h1, h2⟩ := h
  by_cases hj : i = j
  · subst hj
    rw [List.getElem?_set] at h1
    rw [if_pos rfl] at h1
    split at h1 <;> cases h1
  · rw [List.getElem?_set_ne hj] at h1 h2
    exact ⟨j, e, h1, h2⟩
theorem StOk.setVa (S : StOk c xs env σ H) (i : Nat) {d : D} {v : V} (h : IsD c (hide H (Hid xs env σ)) d v) : StOk c xs (env.set i (.va d)) (σ.set i (some v)) H := by
  have sub : Same (hide H (Hid xs env σ)) (hide H (Hid xs (env.set i (.va d)) (σ.set i (some v)))) := hide_sub fun a z => z.elim (fun z => .inl (owns_set_va z)) .inr
  refine ⟨by simp [S.len], fun a h => ⟨(S.xb a h).1, fun z => (S.xb a h).2 (owns_set_va z)⟩, fun j e he => ?_, fun j e he => ?_, fun j k e f a h1 h2 h3 h4 => ?_⟩
  · by_cases hj : i = j
    · subst hj
      rw [List.getElem?_set, if_pos rfl] at he
      split at he
      · rename_i hl
        cases he
        exact ⟨v, by rw [List.getElem?_set, if_pos rfl, if_pos (by rw [← S.len]; exact hl)], h.same sub⟩
      · cases he
    · rw [List.getElem?_set_ne hj] at he
      obtain ⟨u, h1, h2⟩ := S.va j e he
      exact ⟨u, by rw [List.getElem?_set_ne hj]; exact h1, h2.same sub⟩
  · by_cases hj : i = j
    · subst hj
      rw [List.getElem?_set, if_pos rfl] at he
      split at he <;> cases he
    · rw [List.getElem?_set_ne hj] at he
      obtain ⟨a, o, h1, h2, h3⟩ := S.ow j e he
      exact ⟨a, o, by rw [List.getElem?_set_ne hj]; exact h1, h2, h3.same sub⟩
  · have nj : i ≠ j := fun z => by
      subst z
      rw [List.getElem?_set, if_pos rfl] at h1
      split at h1 <;> cases h1
    have nk : i ≠ k := fun z => by
      subst z
      rw [List.getElem?_set, if_pos rfl] at h2
      split at h2 <;> cases h2
    rw [List.getElem?_set_ne nj] at h1 h3
    rw [List.getElem?_set_ne nk] at h2 h4
    exact S.inj j k e f a h1 h2 h3 h4
theorem StOk.setUn (S : StOk c xs env σ H) (i : Nat) (o : Option V) : StOk c xs (env.set i .un) (σ.set i o) H := by
  have sub : Same (hide H (Hid xs env σ)) (hide H (Hid xs (env.set i .un) (σ.set i o))) := hide_sub fun a z => z.elim (fun z => .inl (owns_set_un z)) .inr
  refine ⟨by simp [S.len], fun a h => ⟨(S.xb a h).1, fun z => (S.xb a h).2 (owns_set_un z)⟩, fun j e he => ?_, fun j e he => ?_, fun j k e f a h1 h2 h3 h4 => ?_⟩
  · by_cases hj : i = j
    · subst hj
      rw [List.getElem?_set, if_pos rfl] at he
      split at he <;> cases he
    · rw [List.getElem?_set_ne hj] at he
      obtain ⟨u, h1, h2⟩ := S.va j e he
      exact ⟨u, by rw [List.getElem?_set_ne hj]; exact h1, h2.same sub⟩
  · by_cases hj : i = j
    · subst hj
      rw [List.getElem?_set, if_pos rfl] at he
      split at he <;> cases he
    · rw [List.getElem?_set_ne hj] at he
      obtain ⟨a, o, h1, h2, h3⟩ := S.ow j e he
      exact ⟨a, o, by rw [List.getElem?_set_ne hj]; exact h1, h2, h3.same sub⟩
  · have nj : i ≠ j := fun z => by
      subst z
      rw [List.getElem?_set, if_pos rfl] at h1
      split at h1 <;> cases h1
    have nk : i ≠ k := fun z => by
      subst z
      rw [List.getElem?_set, if_pos rfl] at h2
      split at h2 <;> cases h2
    rw [List.getElem?_set_ne nj] at h1 h3
    rw [List.getElem?_set_ne nk] at h2 h4
    exact S.inj j k e f a h1 h2 h3 h4
theorem owns_set_ow {i : Nat} {d : D} {b a : Addr} (h : Owns (env.set i (.ow d)) (σ.set i (some (.ref b))) a) : Owns env σ a ∨ a = b := by
  obtain ⟨j, e, h1, h2⟩ := h
  by_cases hj : i = j
  · subst hj
    rw [List.getElem?_set, if_pos rfl] at h2
    split at h2
    · cases h2; exact .inr rfl
    · cases h2
  · rw [List.getElem?_set_ne hj] at h1 h2
    exact .inl ⟨j, e, h1, h2⟩
theorem StOk.setOw (S : StOk c xs env σ H) (i : Nat) {d : D} {a : Addr} {o : HO} (n : ¬ Hid xs env σ a) (ho : H a = some o) (h : ObjRep c (hide H (fun b => Hid xs env σ b ∨ b = a)) d o)
    (hv : ∀ (j : Nat) (e : D) (v : V), env[j]? = some (Sl.va e) → σ[j]? = some (some v) → IsD c (hide H (fun b => Hid xs env σ b ∨ b = a)) e v)
    (hw : ∀ (j : Nat) (e : D) (b : Addr) (u : HO), env[j]? = some (Sl.ow e) → σ[j]? = some (some (V.ref b)) → H b = some u → ObjRep c (hide H (fun b => Hid xs env σ b ∨ b = a)) e u) :
    StOk c xs (env.set i (.ow d)) (σ.set i (some (.ref a))) H := by
  have sub : Same (hide H (fun b => Hid xs env σ b ∨ b = a)) (hide H (Hid xs (env.set i (.ow d)) (σ.set i (some (.ref a))))) := hide_sub fun b z => by
    rcases z with z | z
    · rcases owns_set_ow z with z | z
      · exact .inl (.inl z)
      · exact .inr z
    · exact .inl (.inr z)
  refine ⟨by simp [S.len], fun b hb => ⟨(S.xb b hb).1, fun z => ?_⟩, fun j e he => ?_, fun j e he => ?_, fun j k e f b h1 h2 h3 h4 => ?_⟩
  · rcases owns_set_ow z with z | z
    · exact (S.xb b hb).2 z
    · rw [z] at hb; exact n (.inr hb)
  · by_cases hj : i = j
    · subst hj
      rw [List.getElem?_set, if_pos rfl] at he
      split at he <;> cases he
    · rw [List.getElem?_set_ne hj] at he
      obtain ⟨u, h1, h2⟩ := S.va j e he
      exact ⟨u, by rw [List.getElem?_set_ne hj]; exact h1, (hv j e u he h1).same sub⟩
  · by_cases hj : i = j
    · subst hj
      rw [List.getElem?_set, if_pos rfl] at he
      split at he
      · rename_i hl
        cases he
        exact ⟨a, o, by rw [List.getElem?_set, if_pos rfl, if_pos (by rw [← S.len]; exact hl)], ho, h.same sub⟩
      · cases he
    · rw [List.getElem?_set_ne hj] at he
      obtain ⟨b, u, h1, h2, h3⟩ := S.ow j e he
      exact ⟨b, u, by rw [List.getElem?_set_ne hj]; exact h1, h2, (hw j e b u he h1 h2).same sub⟩
  · by_cases hj : i = j
    · by_cases hk : i = k
      · rw [← hj, ← hk]
      · subst hj
        rw [List.getElem?_set_ne hk] at h2 h4
        rw [List.getElem?_set, if_pos rfl] at h3
        split at h3
        · cases h3
          exact absurd (.inl ⟨k, f, h2, h4⟩) n
        · cases h3
    · rw [List.getElem?_set_ne hj] at h1 h3
      by_cases hk : i = k
      · subst hk
        rw [List.getElem?_set, if_pos rfl] at h4
        split at h4
        · cases h4
          exact absurd (.inl ⟨j, e, h1, h3⟩) n
        · cases h4
      · rw [List.getElem?_set_ne hk] at h2 h4
        exact S.inj j k e f b h1 h2 h3 h4
theorem isOw_get0 {env env' : En} {j : Nat} (h : env[j]? = env'[j]?) : isOw env j = isOw env' j := by unfold isOw; rw [h]
/-- a fresh object behind an evaluation goes to a slot -/
theorem Stp.setOw (S : StOk c xs env σ H) (s : Stp c xs pu env env' σ H H') (i : Nat) (h0 : isOw env' 0 = true → i ≠ 0) {d : D} {v : V} (r : RepF c xs σ H d env' v H') :
    StOk c xs (env'.set i (.ow d)) (σ.set i (some v)) H' ∧ Kept env σ H (env'.set i (.ow d)) (σ.set i (some v)) H' := by
  obtain ⟨a, o, rfl, n, ho, sx, h⟩ := r
  have e : (Hid (fun b => xs b ∨ b = a) env' σ) = fun b => Hid xs env' σ b ∨ b = a := by
    funext b; apply propext
    constructor
    · rintro (z | z | z)
      · exact .inl (.inl z)
      · exact .inl (.inr z)
      · exact .inr z
    · rintro ((z | z) | z)
      · exact .inl z
      · exact .inr (.inl z)
      · exact .inr (.inr z)
  have na : ¬ Hid xs env' σ a := by rw [s.hid]; exact S.newHid n
  refine ⟨StOk.setOw s.st i na ho h (fun j e' v h1 h2 => ?_) (fun j e' b u h1 h2 h3 => ?_), ⟨fun b u hb => ?_, s.th, fun h => ?_, by rw [List.length_set]⟩⟩
  · obtain ⟨v', h3, h4⟩ := sx.va j e' h1
    rw [h2] at h3; cases h3
    rw [← e]; exact h4
  · obtain ⟨b', u', h4, h5, h6⟩ := sx.ow j e' h1
    rw [h2] at h4; cases h4
    rw [h3] at h5; cases h5
    rw [← e]; exact h6
  · obtain ⟨h1, h2⟩ := hide_some hb
    have h3 := s.sm b u hb
    have ne := ne_of_none h2 n
    rw [hide_of fun z => (owns_set_ow z).elim (fun z => h1 (by rw [← s.own]; exact z)) ne]
    exact (hide_some h3).2
  · rw [← s.shp 0] at h
    have hi := h0 h
    exact ⟨(isOw_get0 (by rw [List.getElem?_set_ne hi])).trans h, by rw [List.getElem?_set_ne hi]⟩
end

/-! ### own defs -/
/-- run out of a body: what is handed back -/
def fin : M (Fl × En) → M D
  | .ok (.nx, _) => .ok .non
  | .ok (.rt d, _) => .ok d
  | .ok (.rf d, _) => .ok d
  | .ok (.ro i, env) => match env[i]? with
    | some (.ow d) => .ok d
    | _ => stuck
  | .ok _ => stuck
  | .error e => .error e
/-- the state at a def's entry -/
def enter (n : Nat) (ds : List D) : En := ds.map Sl.va ++ List.replicate (n - ds.length) Sl.un

/-- a def that changes none of its arguments -/
def spP (c : Cc) (n : Nat) (f : List D → M D) : Sp := fun vs H Q E => ∃ (xs : Addr → Prop) (ds : List D), ds.length = n ∧ (∀ a, xs a → H a ≠ none) ∧ IsDs c (hide H xs) ds vs ∧
  match f ds with
  | .ok d => ∀ v H', Same H H' → IsD c (hide H' xs) d v → Q v H'
  | .error (.raise k p) => ∀ cls dd H', Same H H' → ExcRep c H' k p cls dd → E cls dd H'
  | .error .stuck => False
/-- .. and hands back a new object -/
def spF (c : Cc) (n : Nat) (f : List D → M D) : Sp := fun vs H Q E => ∃ (xs : Addr → Prop) (ds : List D), ds.length = n ∧ (∀ a, xs a → H a ≠ none) ∧ IsDs c (hide H xs) ds vs ∧
  match f ds with
  | .ok d => ∀ v H', Same H H' → RepV c xs H H' d v → Q v H'
  | .error (.raise k p) => ∀ cls dd H', Same H H' → ExcRep c H' k p cls dd → E cls dd H'
  | .error .stuck => False
/-- a def that may change its first argument's object -/
def spO (c : Cc) (n : Nat) (f : D → List D → M (D × D)) : Sp := fun vs H Q E => ∃ (xs : Addr → Prop) (a : Addr) (o : HO) (s : D) (ds : List D) (ws : List V), vs = .ref a :: ws ∧ ds.length = n ∧ (∀ b, xs b → H b ≠ none ∧ b ≠ a) ∧
  H a = some o ∧ ObjRep c (hide H (fun b => b = a ∨ xs b)) s o ∧ IsDs c (hide H (fun b => b = a ∨ xs b)) ds ws ∧
  match f s ds with
  | .ok (d, s') => ∀ v H' o', Same (hide H (· = a)) (hide H' (· = a)) → H' a = some o' → ObjRep c (hide H' (fun b => b = a ∨ xs b)) s' o' → IsD c (hide H' (fun b => b = a ∨ xs b)) d v → Q v H'
  | .error (.raise k p) => ∀ cls dd H', Same (hide H (· = a)) H' → ExcRep c H' k p cls dd → E cls dd H'
  | .error .stuck => False

section
variable {P : Program} {w : World} {K : PySem.W.Frag} {mg : Str → Option Value} {base : Heap} {g : Ce}
abbrev ck (K : PySem.W.Frag) (g : Ce) : Cc := ⟨K, g.fa, g.ec, g.en⟩
theorem enter_get {n : Nat} {ds : List D} {i : Nat} {s : Sl} (h : (enter n ds)[i]? = some s) : (∃ d, ds[i]? = some d ∧ s = .va d) ∨ s = .un := by
  unfold enter at h
  rw [List.getElem?_append] at h
  split at h
  · rw [List.getElem?_map] at h
    cases q : ds[i]? with
    | none => rw [q] at h; cases h
    | some d => rw [q] at h; cases h; exact .inl ⟨d, rfl, rfl⟩
  · rw [List.getElem?_replicate] at h
    split at h
    · cases h; exact .inr rfl
    · cases h
theorem enter_owns {n : Nat} {ds : List D} {σ : St} {a : Addr} : ¬ Owns (enter n ds) σ a := fun ⟨i, d, h, _⟩ => by
  rcases enter_get h with ⟨e, _, h⟩ | h <;> cases h
theorem enter_ok {N : List Str} {ds : List D} {vs : List V} {H : Hp} {c : Cc} {xs : Addr → Prop} (hN : ds.length ≤ N.length) (hx : ∀ a, xs a → H a ≠ none) (r : IsDs c (hide H xs) ds vs) : StOk c xs (enter N.length ds) (L2.start N vs) H := by
  refine ⟨?_, fun a h => ⟨hx a h, enter_owns⟩, fun i d h => ?_, fun i d h => ?_, fun i j d e a h => ?_⟩
  · unfold enter L2.start
    simp [r.len]
  · rcases enter_get h with ⟨e, h1, h2⟩ | h
    · cases h2
      obtain ⟨v, h3, h4⟩ := r.getD h1
      have q : (L2.start N vs)[i]? = some (some v) := by
        unfold L2.start
        rw [List.getElem?_append_left (by rw [List.length_map]; exact (List.getElem?_eq_some_iff.mp h3).1), List.getElem?_map, h3]
        rfl
      have k : Same (hide H xs) (hide H (Hid xs (enter N.length ds) (L2.start N vs))) := hide_sub fun a z => z.elim (fun z => (enter_owns z).elim) id
      exact ⟨v, q, h4.same k⟩
    · cases h
  · rcases enter_get h with ⟨e, _, h⟩ | h <;> cases h
  · rcases enter_get h with ⟨e, _, h⟩ | h <;> cases h

/-! ### where one stands -/
def lookB (sc : Scope) (x : Str) : Option NameKind := sc.names.lookup x
/-- nn: every error of its own has no context -/
def CXn (nn : Bool) (P : Program) (w : World) : CXT := match nn with
  | true => L2N.CX P w
  | false => L2.CX P w
def Tk (nn : Bool) (X : Cx) (W : WX) : Prop := match nn with
  | true => L2N.Takes X W
  | false => L2.Takes X W
structure Cok (nn : Bool) (X : Cx) (W : WX) (P : Program) (w : World) (K : PySem.W.Frag) (mg : Str → Option Value) (base : Heap) (N : List Str) (sc : Scope) (k : Nat) (bk : Bool) : Prop where
  eP : X.prog = P
  ew : X.w = w
  eK : X.K = K
  em : X.mg = mg
  eb : X.base = base
  eN : X.N = N
  es : X.env.scope = sc
  calm : X.calm = true
  room : Room k X.A
  nd : N.Nodup
  fn : bk = false → ∀ x : Str, X.fn x = true
  tk : Tk nn X W
  own : bk = false → PassesOwn (model X.prog X.w) X.A X.env X.xe
  sf : bk = false → X.stack = X.env :: X.outer ∧ X.env.frame = some X.env.locals

/-- the outcome of a body, wanted as a promise wants it -/
theorem body_end {c : Cc} {N : List Str} {ds : List D} {vs : List V} {H : Hp} {xs : Addr → Prop} {Q : VK} {E : XK} {r : M (Fl × En)}
    (h : match fin r with
      | .ok d => ∀ v H', Same H H' → IsD c (hide H' xs) d v → Q v H'
      | .error (.raise k p) => ∀ cls dd H', Same H H' → ExcRep c H' k p cls dd → E cls dd H'
      | .error .stuck => False) :
    WantS c xs (enter N.length ds) (L2.start N vs) H (fun cls d _ H => E cls d H) { nx := fun _ H' => Q .non H', rt := Q } r := by
  have own0 : ∀ {H' : Hp}, Same (hide H (Owns (enter N.length ds) (L2.start N vs))) H' → Same H H' := fun k b o e => k b o (by rw [hide_of enter_owns]; exact e)
  cases r with
  | error e => cases e with
    | raise k p => exact fun cls dd σ' H' _ k' r => h cls dd H' (own0 k') r
    | stuck => exact h
  | ok p =>
    obtain ⟨fl, env'⟩ := p
    cases fl with
    | nx => exact fun σ' H' S' k => h _ H' (own0 (Same.trans k.sm hide_full)) isNon
    | bk => exact h.elim
    | ct => exact h.elim
    | rt d => exact fun σ' v H' S' k hd => h v H' (own0 (Same.trans k.sm hide_full)) (hd.same (hide_sub fun a z => .inr z))
    | rf d =>
      rintro σ' v H' S' k ⟨a, o, e1, e2, e3, e4, e5⟩
      subst e1
      refine h _ H' (own0 (Same.trans k.sm hide_full)) (ObjRep.isD (e5.same (hide_sub fun b z => ?_)) e3 fun z => e4 (.inr z))
      rcases z with z | z
      · exact .inl (.inr z)
      · exact .inr z
    | ro i =>
      rintro σ' a H' S' k hi ⟨d, hd⟩
      obtain ⟨b, o, e1, e2, e3⟩ := S'.ow i d hd
      rw [hi] at e1; cases e1
      unfold fin at h
      simp only [hd] at h
      refine h _ H' (own0 (Same.trans k.sm hide_full)) (ObjRep.isD (e3.same ?_) e2 fun z => (S'.xb a z).2 ⟨i, d, hd, hi⟩)
      refine hide_sub fun b z => ?_
      rcases z with z | z
      · exact .inr z
      · subst z; exact .inl ⟨i, d, hd, hi⟩
/-- .. a new object -/
theorem body_endF {c : Cc} {N : List Str} {ds : List D} {vs : List V} {H : Hp} {xs : Addr → Prop} {Q : VK} {E : XK} {r : M (Fl × En)} (hnf : ∀ d env, r ≠ .ok (.rt d, env)) (hnx : ∀ env, r ≠ .ok (.nx, env))
    (h : match fin r with
      | .ok d => ∀ v H', Same H H' → RepV c xs H H' d v → Q v H'
      | .error (.raise k p) => ∀ cls dd H', Same H H' → ExcRep c H' k p cls dd → E cls dd H'
      | .error .stuck => False) :
    WantS c xs (enter N.length ds) (L2.start N vs) H (fun cls d _ H => E cls d H) { nx := fun _ H' => Q .non H', rt := Q } r := by
  have own0 : ∀ {H' : Hp}, Same (hide H (Owns (enter N.length ds) (L2.start N vs))) H' → Same H H' := fun k b o e => k b o (by rw [hide_of enter_owns]; exact e)
  cases r with
  | error e => cases e with
    | raise k p => exact fun cls dd σ' H' _ k' r => h cls dd H' (own0 k') r
    | stuck => exact h
  | ok p =>
    obtain ⟨fl, env'⟩ := p
    cases fl with
    | nx => exact absurd rfl (hnx _)
    | bk => exact h.elim
    | ct => exact h.elim
    | rt d => exact absurd rfl (hnf _ _)
    | rf d =>
      rintro σ' v H' S' k ⟨a, o, e1, e2, e3, e4, e5⟩
      subst e1
      refine h _ H' (own0 (Same.trans k.sm hide_full)) ⟨a, o, rfl, e2, e3, e5.same (hide_sub fun b z => ?_)⟩
      rcases z with z | z
      · exact .inl (.inr z)
      · exact .inr z
    | ro i =>
      rintro σ' a H' S' k hi ⟨d, hd⟩
      obtain ⟨b, o, e1, e2, e3⟩ := S'.ow i d hd
      rw [hi] at e1; cases e1
      unfold fin at h
      simp only [hd] at h
      have n : H a = none := by
        cases q : H a with
        | none => rfl
        | some u =>
          have := k.sm a u (by rw [hide_of enter_owns]; exact q)
          exact absurd (show Owns env' σ' a from ⟨i, d, hd, hi⟩) (hide_some this).1
      refine h _ H' (own0 (Same.trans k.sm hide_full)) ⟨a, o, rfl, n, e2, e3.same (hide_sub fun b z => ?_)⟩
      rcases z with z | z
      · exact .inr z
      · subst z; exact .inl ⟨i, d, hd, hi⟩

abbrev PaOk (X : Cx) : Prop := ∀ hd : Option Value, PassesOwnAt (model X.prog X.w) (X.A.mark hd) X.A X.env X.xe
theorem ctx_def {nn : Bool} {N ps : List Str} {k : Nat} {qual : Str} {st : Stmt} {f : Addr} (S : FnScope N ps (defScope st)) {cdv : Value} {A : Around} {outer : List Env} {s : Shared} {H : Hp} {E : XK} (hr : Room k (A.deeper (envOfC qual (defScope st) s.heap.objs.size f cdv))) :
    Cok nn (cxOf (CXn nn P w) P w K mg base N qual (defScope st) f cdv A outer s H E) (fun cls d _ H => E cls d H) P w K mg base N (defScope st) k false :=
  ⟨rfl, rfl, rfl, rfl, rfl, rfl, rfl, rfl, hr, S.nd, fun _ _ => rfl, by cases nn <;> first | exact L2.takes_of rfl rfl rfl rfl | exact L2N.takes_of rfl rfl rfl rfl, fun _ => passes_of rfl, fun _ => ⟨rfl, rfl⟩⟩

theorem fun_ok {CX : CXT} {x qual : Str} {st : Stmt} {f : Addr} {fd : FuncData} {N ps : List Str} {k : Nat} {sp : Sp} (F : Fun K x qual st f fd) (S : FnScope N ps (defScope st)) (len : ∀ vs H Q E, sp vs H Q E → vs.length = ps.length)
    (hbody : ∀ (cdv : Value) (A : Around) (outer : List Env) (s : Shared) (H : Hp) (vs : List V) (Q : VK) (E : XK), Room k (A.deeper (envOfC qual (defScope st) s.heap.objs.size f cdv)) → sp vs H Q E →
      ∃ t, PSs (cxOf CX P w K mg base N qual (defScope st) f cdv A outer s H E) (defBody st) t ∧ t { nx := fun _ H' => Q .non H', rt := Q } (L2.start N vs) H) : FnOk P w K mg base CX (k + 1) f fd ps sp := by
  obtain ⟨oc, od, kV, doc, pm, an, cdv, ct, osl, rfl, lk, hcd⟩ := F.ex
  exact fn_of lk hcd S len fun A outer s H vs Q E hr hsp => hbody cdv A outer s H vs Q E hr hsp
/-- THE RULE for a def that changes none of its arguments -/
theorem def_pure {nn : Bool} {x qual : Str} {st : Stmt} {f : Addr} {fd : FuncData} {N ps : List Str} {k : Nat} {mf : List D → M D} {body : Sv} (F : Fun K x qual st f fd) (S : FnScope N ps (defScope st)) (hN : ps.length ≤ N.length) (hf : ∀ ds, mf ds = fin (body (enter N.length ds)))
    (hbody : ∀ (X : Cx) (W : WX), Cok nn X W P w K mg base N (defScope st) k false → PaOk X → DSs X g (defBody st) body W) :
    FnOk P w K mg base (CXn nn P w) (k + 1) f fd ps (spP (ck K g) ps.length mf) := by
  refine fun_ok F S (fun vs H Q E ⟨xs, ds, h1, h2, h3, _⟩ => by rw [← h3.len, h1]) (fun cdv A outer s H vs Q E hr ⟨xs, ds, h1, h2, h3, h⟩ => ?_)
  refine ⟨_, hbody _ _ (ctx_def S hr) (L2H.passesAt_of rfl), xs, enter N.length ds, enter_ok (by rw [h1]; exact hN) h2 h3, ?_⟩
  rw [hf] at h
  exact body_end h
/-- .. that hands back a new object -/
theorem def_fresh {nn : Bool} {x qual : Str} {st : Stmt} {f : Addr} {fd : FuncData} {N ps : List Str} {k : Nat} {mf : List D → M D} {body : Sv} (F : Fun K x qual st f fd) (S : FnScope N ps (defScope st)) (hN : ps.length ≤ N.length) (hf : ∀ ds, mf ds = fin (body (enter N.length ds)))
    (hnf : ∀ ds d env, body (enter N.length ds) ≠ .ok (.rt d, env)) (hnx : ∀ ds env, body (enter N.length ds) ≠ .ok (.nx, env))
    (hbody : ∀ (X : Cx) (W : WX), Cok nn X W P w K mg base N (defScope st) k false → PaOk X → DSs X g (defBody st) body W) :
    FnOk P w K mg base (CXn nn P w) (k + 1) f fd ps (spF (ck K g) ps.length mf) := by
  refine fun_ok F S (fun vs H Q E ⟨xs, ds, h1, h2, h3, _⟩ => by rw [← h3.len, h1]) (fun cdv A outer s H vs Q E hr ⟨xs, ds, h1, h2, h3, h⟩ => ?_)
  refine ⟨_, hbody _ _ (ctx_def S hr) (L2H.passesAt_of rfl), xs, enter N.length ds, enter_ok (by rw [h1]; exact hN) h2 h3, ?_⟩
  rw [hf] at h
  exact body_endF (hnf ds) (hnx ds) h
end
end Dn

/-! Dn8 -/
set_option Elab.async false
set_option linter.all false
set_option maxRecDepth 100000
set_option maxHeartbeats 1000000
/-! Dn8: names, calls of own defs, plain statements. -/
namespace Dn
open PySem PySem.Spec L2
open PyProof.Rows hiding St

section
variable {X : Cx} {W : WX} {P : Program} {w : World} {K : PySem.W.Frag} {mg : Str → Option Value} {base : Heap} {N : List Str} {sc : Scope} {k : Nat} {bk nn : Bool} {g : Ce}
variable {pu pu1 pu2 sh sh1 sh2 : Bool} {m m1 m2 : Ev} {a b e : Expr} {es : List Expr} {pos p : Pos} {ma : Av} {shs : List Bool} {x : Str}

/-! ### names -/
def visB (sc : Scope) (x : Str) : Bool := match sc.names.lookup x with
  | some .local | some .cell | some .free => true
  | _ => false
def locB (sc : Scope) (x : Str) : Bool := match sc.names.lookup x with
  | some .local | some .cell => true
  | _ => false
def gloB (sc : Scope) (x : Str) : Bool := match sc.names.lookup x with
  | some .globalImplicit => true
  | _ => false
theorem visB_of (h : visB sc x = true) : Vis sc x := by
  unfold visB at h
  split at h
  · rename_i q; exact .inl q
  · rename_i q; exact .inr (.inl q)
  · rename_i q; exact .inr (.inr q)
  · cases h
theorem locB_of (h : locB sc x = true) : Loc sc x := by
  unfold locB at h
  split at h
  · rename_i q; exact .inl q
  · rename_i q; exact .inr q
  · cases h
theorem gloB_of (C : Cok nn X W P w K mg base N sc k bk) (h : gloB sc x = true) : Gl X x := by
  unfold gloB at h
  split at h
  · rename_i q
    show X.env.scope.names.lookup x = _
    rw [C.es]; exact q
  · cases h
theorem n_pe (C : Cok nn X W P w K mg base N sc k bk) (i : Nat) (x : Str) (hi : N[i]? = some x) (hv : visB sc x = true) (hd : (x == ("__debug__" : Str)) = false) (hcd : (x == ("__classdict__" : Str)) = false) : PE X (.Name x pos) (tVar i) :=
  pe_var (by rw [C.eN]; exact hi) (by rw [C.es]; exact visB_of hv) hd hcd
theorem n_var (C : Cok nn X W P w K mg base N sc k bk) (i : Nat) (x : Str) (hi : N[i]? = some x) (hv : visB sc x = true) (hd : (x == ("__debug__" : Str)) = false) (hcd : (x == ("__classdict__" : Str)) = false) : DE X g true false (.Name x pos) (dVar i) W := e_var i (n_pe C i x hi hv hd hcd)
theorem n_varO (C : Cok nn X W P w K mg base N sc k bk) (i : Nat) (x : Str) (hi : N[i]? = some x) (hv : visB sc x = true) (hd : (x == ("__debug__" : Str)) = false) (hcd : (x == ("__classdict__" : Str)) = false) : DE X g true true (.Name x pos) (dVarO i) W := e_varO i (n_pe C i x hi hv hd hcd)
theorem n_pg (C : Cok nn X W P w K mg base N sc k false) (i : Nat) (x : Str) (hi : N[i]? = some x) (hv : locB sc x = true) : PG X (.Name x pos) (gName i) := by
  have hl := locB_of hv
  refine pg_name (by rw [C.eN]; exact C.nd) (by rw [C.eN]; exact hi) (by rw [C.es]; exact hl) ?_
  rcases hl with h | h
  · exact .inr (by rw [C.es]; exact h)
  · exact .inl (C.fn rfl x)
/-- a module's int constant -/
theorem n_const (C : Cok nn X W P w K mg base N sc k bk) {i : Int} {t : Tok} (hg : gloB sc x = true) (hm : mg x = some (.int i t)) (hd : (x == ("__debug__" : Str)) = false) : DE X g true false (.Name x pos) (dC (.int i)) W :=
  e_const (pe_glob (v := .int i) (u := .int i t) (gloB_of C hg) (by rw [C.em]; exact hm) ⟨t, rfl⟩ hd) fun _ _ => isInt
/-- a def as a value -/
theorem n_fn (C : Cok nn X W P w K mg base N sc k bk) {i : Nat} {f : Addr} (hg : gloB sc x = true) (hm : mg x = some (.ref f)) (hf : g.fa i = some f) (hd : (x == ("__debug__" : Str)) = false) : DE X g true false (.Name x pos) (dC (.fn i)) W :=
  e_const' (pe_glob (v := .ref f) (gloB_of C hg) (by rw [C.em]; exact hm) rfl hd) fun H => by unfold IsD; exact ⟨f, hf, rfl⟩
where
  e_const' {X : Cx} {W : WX} {g : Ce} {e : Expr} {d : D} {v : V} (h : PE X e (tC v)) (k : ∀ H, IsD (cc X g) H d v) : DE X g true false e (dC d) W := PE.imp h fun σ H Q ⟨xs, env, S, w⟩ => w v H (.refl S) (k _)

/-! ### calls of own defs -/
theorem Reps.len {c : Cc} {Z : Addr → Prop} {H : Hp} : ∀ {shs : List Bool} {ds : List D} {vs : List V}, Reps c Z H shs ds vs → ds.length = shs.length
  | [], [], [], _ => rfl
  | _ :: ss, d :: ds, v :: vs, ⟨_, r2⟩ => by simp [Reps.len r2]
  | [], [], _ :: _, r => r.elim
  | [], _ :: _, _, r => r.elim
  | _ :: _, [], _, r => r.elim
  | _ :: _, _ :: _, [], r => r.elim
theorem t_callP {mf : List D → M D} (hs : shs.all (!·) = true) {σ : St} {H : Hp} {Q : VK} (h : tE (cc X g) pu false (dCall mf ma) W σ H Q) : tCallS (spP (cc X g) shs.length mf) (WE W) (tA (cc X g) pu shs ma W) σ H Q := by
  obtain ⟨xs, env, S, w⟩ := h
  refine ⟨xs, env, S, Want.bind w fun ds env' vs H' e s r w' => ?_⟩
  refine ⟨Hid xs env σ, ds, r.len, fun a ha => s.st.hid (by rw [s.hid]; exact ha), r.clean hs, ?_⟩
  dsimp only at w'
  cases q : mf ds with
  | error x =>
    rw [q] at w'
    cases x with
    | raise kk p => exact fun cls dd H2 k2 hx => w' cls dd H2 (s.sm.trans (Same.trans hide_full k2)) hx
    | stuck => exact w'.elim
  | ok d =>
    rw [q] at w'
    exact fun v H2 k2 hd => w' v H2 (s.grow k2) (Rep.of hd)
theorem t_callPF {mf : List D → M D} (hs : shs.all (!·) = true) {σ : St} {H : Hp} {Q : VK} (h : tF (cc X g) pu (dCall mf ma) W σ H Q) : tCallS (spF (cc X g) shs.length mf) (WE W) (tA (cc X g) pu shs ma W) σ H Q := by
  obtain ⟨xs, env, S, w⟩ := h
  refine ⟨xs, env, S, Want.bind w fun ds env' vs H' e s r w' => ?_⟩
  refine ⟨Hid xs env σ, ds, r.len, fun a ha => s.st.hid (by rw [s.hid]; exact ha), r.clean hs, ?_⟩
  dsimp only at w'
  cases q : mf ds with
  | error x =>
    rw [q] at w'
    cases x with
    | raise kk p => exact fun cls dd H2 k2 hx => w' cls dd H2 (s.sm.trans (Same.trans hide_full k2)) hx
    | stuck => exact w'.elim
  | ok d =>
    rw [q] at w'
    exact fun v H2 k2 hr => w' v H2 (s.grow k2) (hr.step s S k2 fun p hp => s.free S hp)
end
/-! nothing but tuples and plain values -/
mutual
def D.flat : D → Bool
  | .non | .bl _ | .int _ | .str _ => true
  | .tup xs => D.flats xs
  | _ => false
def D.flats : List D → Bool
  | [] => true
  | x :: xs => D.flat x && D.flats xs
end
mutual
theorem flat_hide {c : Cc} {H : Hp} {Z Z' : Addr → Prop} (hz : ∀ a ys, Z' a → ¬ Z a → ¬ Rd H a (.tup ys)) : ∀ (d : D) (v : V), d.flat = true → IsD c (hide H Z) d v → IsD c (hide H Z') d v
  | .non, v, _, h => by unfold IsD at h ⊢; exact h
  | .bl _, v, _, h => by unfold IsD at h ⊢; exact h
  | .int _, v, _, h => by unfold IsD at h ⊢; exact h
  | .str _, v, _, h => by unfold IsD at h ⊢; exact h
  | .tup xs, v, f, h => by
    unfold IsD at h ⊢
    obtain ⟨a, vs, e1, e2, e3⟩ := h
    refine ⟨a, vs, e1, ?_, flats_hide hz xs vs (by simpa [D.flat] using f) e3⟩
    rcases e2 with e2 | e2
    · have hn : ¬ Z a := by
        rcases e2 with e2 | ⟨o, e2⟩
        · exact (hide_some e2).1
        · exact (hide_some e2).1
      have hr : Rd H a (.tup vs) := Rd.same hide_full e2
      have hz' : ¬ Z' a := fun z => hz a vs z hn hr
      rcases hr with hr | ⟨o, hr⟩
      · exact .inl (.inl (by rw [hide_of hz']; exact hr))
      · exact .inl (.inr ⟨o, by rw [hide_of hz']; exact hr⟩)
    · exact .inr e2
  | .lst _, v, f, h => by simp [D.flat] at f
  | .dct _ _, v, f, h => by simp [D.flat] at f
  | .fn _, v, f, h => by simp [D.flat] at f
  | .scr _, v, f, h => by simp [D.flat] at f
theorem flats_hide {c : Cc} {H : Hp} {Z Z' : Addr → Prop} (hz : ∀ a ys, Z' a → ¬ Z a → ¬ Rd H a (.tup ys)) : ∀ (ds : List D) (vs : List V), D.flats ds = true → IsDs c (hide H Z) ds vs → IsDs c (hide H Z') ds vs
  | [], vs, _, h => by unfold IsDs at h ⊢; exact h
  | d :: ds, vs, f, h => by
    unfold IsDs at h ⊢
    obtain ⟨v, r, e1, e2, e3⟩ := h
    simp only [D.flats, Bool.and_eq_true] at f
    exact ⟨v, r, e1, flat_hide hz d v f.1 e2, flats_hide hz ds r f.2 e3⟩
end
/-- a shell, seen by who may read all but some tuples -/
def TupsOf (Z : Addr → Prop) (H : Hp) : Addr → Prop := fun b => Z b ∧ ∃ ys, Rd H b (.tup ys)
theorem notTup_lst {H : Hp} {a : Addr} {vs : List V} (h : H a = some (.lst vs)) (ys : List V) : ¬ Rd H a (.tup ys) := fun r => by
  rcases r with r | ⟨o, r⟩ <;> (rw [h] at r; cases r)
theorem notTup_dK {H : Hp} {a : Addr} {kvs : List (Key × V)} (h : Rd H a (.dK kvs)) (ys : List V) : ¬ Rd H a (.tup ys) := fun r => by
  rcases h with h | ⟨u, h⟩ <;> rcases r with r | ⟨o, r⟩ <;> (rw [h] at r; cases r)
theorem notTup_dT {H : Hp} {a : Addr} {kvs : List (List Key × V)} (h : Rd H a (.dT kvs)) (ys : List V) : ¬ Rd H a (.tup ys) := fun r => by
  rcases h with h | ⟨u, h⟩ <;> rcases r with r | ⟨o, r⟩ <;> (rw [h] at r; cases r)
theorem rd_hide {H : Hp} {Z : Addr → Prop} {a : Addr} {o : HO} (h : Rd H a o) (n : ¬ Z a) : Rd (hide H Z) a o := by
  rcases h with h | ⟨u, h⟩
  · exact .inl (by rw [hide_of n]; exact h)
  · exact .inr ⟨u, by rw [hide_of n]; exact h⟩
theorem RepS.open {c : Cc} {Z : Addr → Prop} {H : Hp} {d : D} {v : V} (r : RepS c Z H d v) : IsD c (hide H (TupsOf Z H)) d v := by
  have sub : Same (hide H Z) (hide H (TupsOf Z H)) := hide_sub fun a z => z.1
  cases d with
  | lst ds =>
    obtain ⟨a, vs, rfl, h1, h2⟩ := r
    unfold IsD
    exact ⟨a, vs, rfl, by rw [hide_of fun ⟨_, ys, z⟩ => notTup_lst h1 ys z]; exact h1, h2.same sub⟩
  | dct ks ws =>
    obtain ⟨a, rfl, kvs, h1, h2, h3⟩ := r
    unfold IsD
    exact ⟨a, rfl, kvs, rd_hide h1 fun ⟨_, ys, z⟩ => notTup_dK h1 ys z, h2, h3.same sub⟩
  | _ => exact IsD.same sub _ _ r
theorem RepsS.open {c : Cc} {Z : Addr → Prop} {H : Hp} : ∀ {ds : List D} {vs : List V}, RepsS c Z H ds vs → IsDs c (hide H (TupsOf Z H)) ds vs
  | [], [], _ => IsDs.nil
  | d :: ds, v :: vs, ⟨r1, r2⟩ => IsDs.cons r1.open (RepsS.open r2)
  | [], _ :: _, r => r.elim
  | _ :: _, [], r => r.elim

section
variable {X : Cx} {W : WX} {P : Program} {w : World} {K : PySem.W.Frag} {mg : Str → Option Value} {base : Heap} {N : List Str} {sc : Scope} {k : Nat} {bk nn : Bool} {g : Ce}
variable {pu pu1 pu2 sh sh1 sh2 : Bool} {m m1 m2 : Ev} {a b e : Expr} {es : List Expr} {pos p : Pos} {ma : Av} {shs : List Bool} {x : Str}
/-- a call that is handed lists of one's own: what comes back must be flat -/
def dCallS (f : List D → M D) (ms : Av) : Ev := fun env => bnd (ms env) fun p => bnd (f p.1) fun d => if d.flat = true then .ok (d, p.2) else stuck
theorem t_callPS {mf : List D → M D} {σ : St} {H : Hp} {Q : VK} (h : tE (cc X g) pu false (dCallS mf ma) W σ H Q) : tCallS (spP (cc X g) shs.length mf) (WE W) (tA (cc X g) pu shs ma W) σ H Q := by
  obtain ⟨xs, env, S, w⟩ := h
  refine ⟨xs, env, S, Want.bind w fun ds env' vs H' e s r w' => ?_⟩
  have hP : ∀ a, Hid xs env σ a → H' a ≠ none := fun a ha => s.st.hid (by rw [s.hid]; exact ha)
  refine ⟨TupsOf (Hid xs env σ) H', ds, r.len, fun a ha => hP a ha.1, r.shell.open, ?_⟩
  dsimp only at w'
  cases q : mf ds with
  | error x =>
    rw [q] at w'
    cases x with
    | raise kk p => exact fun cls dd H2 k2 hx => w' cls dd H2 (s.sm.trans (Same.trans hide_full k2)) hx
    | stuck => exact w'.elim
  | ok d =>
    rw [q] at w'
    intro v H2 k2 hd
    dsimp only [bnd] at w'
    split at w'
    · rename_i hf
      refine w' v H2 (s.grow k2) (Rep.of (flat_hide (fun a ys h1 h2 h3 => h2 ⟨h1, ys, ?_⟩) d v hf hd))
      cases q : H' a with
      | none => exact absurd q (hP a h1)
      | some o =>
        have q2 := k2 a o q
        rcases h3 with h3 | ⟨u, h3⟩
        · rw [q2] at h3; cases h3; exact .inl q
        · rw [q2] at h3; cases h3; exact .inr ⟨u, q⟩
    · exact w'.elim

variable {f : Addr} {fd : FuncData} {ps : List Str} {mf : List D → M D}
/-- what a call of an own def wants -/
structure Fok (nn : Bool) (P : Program) (w : World) (K : PySem.W.Frag) (mg : Str → Option Value) (base : Heap) (k : Nat) (x : Str) (sp : Sp) : Prop where
  ex : ∃ (f : Addr) (fd : FuncData) (ps : List Str), mg x = some (.ref f) ∧ FnOk P w K mg base (CXn nn P w) k f fd ps sp ∧ PySem.W.keepIn K (.ref f) = true ∧ Binds K fd ps []
theorem passAtN {X : Cx} {W : WX} {nn : Bool} (tk : Tk nn X W) (σ : St) : PassesAt (CXn nn X.prog X.w) X σ (WE W σ) := by
  cases nn with
  | true => exact L2N.passAt tk σ
  | false => exact L2.passAt tk σ
theorem call_pe (C : Cok nn X W P w K mg base N sc k bk) {j : Nat} {sp : Sp} (F : Fok nn P w K mg base j x sp) (hj : j ≤ k) {t : TA} (hg : gloB sc x = true) (ha : PA X (e :: es) t) (hdb : (x == ("__debug__" : Str)) = false)
    (he : starEach (e :: es) X.env = (false, eval e X.env) :: starEach es X.env) (hpl : (backTo pos (starEach es X.env)).any (·.1) = false) : PE X (.Call (.Name x p) (e :: es) [] pos) (tCallS sp (WE W) t) := by
  obtain ⟨f, fd, ps, hm, G, hk, hb⟩ := F.ex
  have hgl := gloB_of C hg
  have tk := C.tk
  have hr := C.room.mono hj
  obtain ⟨rfl, rfl, rfl, rfl, rfl⟩ := And.intro C.eP (And.intro C.ew (And.intro C.eK (And.intro C.em C.eb)))
  exact pe_callS G hr hgl hm hk hb (fun σ => passAtN tk σ) ha hdb he hpl
theorem e_call (C : Cok nn X W P w K mg base N sc k bk) {j : Nat} (F : Fok nn P w K mg base j x (spP (ck K g) shs.length mf)) (hj : j ≤ k) (hg : gloB sc x = true) (hs : shs.all (!·) = true) (ha : DA X g pu shs (e :: es) ma W) (hdb : (x == ("__debug__" : Str)) = false := by rfl)
    (he : starEach (e :: es) X.env = (false, eval e X.env) :: starEach es X.env := by rfl) (hpl : (backTo pos (starEach es X.env)).any (·.1) = false := by rfl) : DE X g pu false (.Call (.Name x p) (e :: es) [] pos) (dCall mf ma) W := by
  have h := call_pe (p := p) C F hj hg ha hdb he hpl
  obtain rfl := C.eK
  exact PE.imp h fun _ _ _ h => t_callP hs h
theorem f_call (C : Cok nn X W P w K mg base N sc k bk) {j : Nat} (F : Fok nn P w K mg base j x (spF (ck K g) shs.length mf)) (hj : j ≤ k) (hg : gloB sc x = true) (hs : shs.all (!·) = true) (ha : DA X g pu shs (e :: es) ma W) (hdb : (x == ("__debug__" : Str)) = false := by rfl)
    (he : starEach (e :: es) X.env = (false, eval e X.env) :: starEach es X.env := by rfl) (hpl : (backTo pos (starEach es X.env)).any (·.1) = false := by rfl) : DF X g pu (.Call (.Name x p) (e :: es) [] pos) (dCall mf ma) W := by
  have h := call_pe (p := p) C F hj hg ha hdb he hpl
  obtain rfl := C.eK
  exact PE.imp h fun _ _ _ h => t_callPF hs h
theorem e_callS (C : Cok nn X W P w K mg base N sc k bk) {j : Nat} (F : Fok nn P w K mg base j x (spP (ck K g) shs.length mf)) (hj : j ≤ k) (hg : gloB sc x = true) (ha : DA X g pu shs (e :: es) ma W) (hdb : (x == ("__debug__" : Str)) = false := by rfl)
    (he : starEach (e :: es) X.env = (false, eval e X.env) :: starEach es X.env := by rfl) (hpl : (backTo pos (starEach es X.env)).any (·.1) = false := by rfl) : DE X g pu false (.Call (.Name x p) (e :: es) [] pos) (dCallS mf ma) W := by
  have h := call_pe (p := p) C F hj hg ha hdb he hpl
  obtain rfl := C.eK
  exact PE.imp h fun _ _ _ h => t_callPS h

/-! ### a call that changes the object in one's own slot i, its first argument -/
def dCallO (f : D → List D → M (D × D)) (i : Nat) (ms : Av) : Ev := fun env => match env[i]? with
  | some (.ow _) => bnd (ms env) fun p => match p.2[i]? with
    | some (.ow s) => bnd (f s p.1) fun q => .ok (q.1, p.2.set i (.ow q.2))
    | _ => stuck
  | _ => stuck
theorem isOw_keep {env : En} {i : Nat} {d d' : D} (h : env[i]? = some (Sl.ow d)) (j : Nat) : isOw (env.set i (.ow d')) j = isOw env j := by
  by_cases hj : i = j
  · subst hj
    rw [isOw_of h, isOw_of (d := d') (by rw [List.getElem?_set, if_pos rfl, if_pos (List.getElem?_eq_some_iff.mp h).1])]
  · unfold isOw; rw [List.getElem?_set_ne hj]
theorem owns_keep {env : En} {σ : St} {i : Nat} {d d' : D} (h : env[i]? = some (Sl.ow d)) : Owns (env.set i (.ow d')) σ = Owns env σ := by
  funext a
  apply propext
  constructor
  · rintro ⟨j, e, h1, h2⟩
    by_cases hj : i = j
    · subst hj; exact ⟨i, d, h, h2⟩
    · rw [List.getElem?_set_ne hj] at h1; exact ⟨j, e, h1, h2⟩
  · rintro ⟨j, e, h1, h2⟩
    by_cases hj : i = j
    · subst hj
      exact ⟨i, d', by rw [List.getElem?_set, if_pos rfl, if_pos (List.getElem?_eq_some_iff.mp h).1], h2⟩
    · exact ⟨j, e, by rw [List.getElem?_set_ne hj]; exact h1, h2⟩
theorem hide_ne {H : Hp} {a b : Addr} (h : b ≠ a) : hide H (· = a) b = H b := hide_of (P := (· = a)) h
/-- an owned object changed -/
theorem StOk.change {c : Cc} {xs : Addr → Prop} {env : En} {σ : St} {H H' : Hp} {i : Nat} {d d' : D} {a : Addr} {o' : HO} (S : StOk c xs env σ H) (hi : env[i]? = some (Sl.ow d)) (ha : σ[i]? = some (some (V.ref a)))
    (k : Same (hide H (· = a)) (hide H' (· = a))) (ho : H' a = some o') (r : ObjRep c (hide H' (Hid xs env σ)) d' o') : Stp c xs false env (env.set i (.ow d')) σ H H' := by
  have own := owns_keep (σ := σ) (d' := d') hi
  have hid : Hid xs (env.set i (.ow d')) σ = Hid xs env σ := by funext b; unfold Hid; rw [own]
  have oa : Owns env σ a := ⟨i, d, hi, ha⟩
  have up : Same (hide H (Owns env σ)) (hide H' (Owns env σ)) := fun b u hb => by
    obtain ⟨h1, h2⟩ := hide_some hb
    have ne : ¬ b = a := fun z => h1 (z ▸ oa)
    have := k b u (by rw [hide_ne ne]; exact h2)
    rw [hide_of h1]; exact (hide_some this).2
  have upH : Same (hide H (Hid xs env σ)) (hide H' (Hid xs env σ)) := fun b u hb => by
    obtain ⟨h1, h2⟩ := hide_some hb
    have := up b u (by rw [hide_of fun z => h1 (.inl z)]; exact h2)
    rw [hide_of h1]; exact (hide_some this).2
  have at_ : ∀ b u, b ≠ a → H b = some u → H' b = some u := fun b u ne hb => (hide_some (k b u (by rw [hide_ne ne]; exact hb))).2
  refine ⟨⟨by simp [S.len], fun b hb => ?_, fun j e he => ?_, fun j e he => ?_, fun j l e f b h1 h2 h3 h4 => ?_⟩, isOw_keep hi, up, fun z => nomatch z⟩
  · rw [own]
    refine ⟨fun n => ?_, (S.xb b hb).2⟩
    have ne : b ≠ a := fun z => (S.xb b hb).2 (z ▸ oa)
    cases q : H b with
    | none => exact (S.xb b hb).1 q
    | some u => rw [at_ b u ne q] at n; cases n
  · by_cases hj : i = j
    · subst hj
      rw [List.getElem?_set, if_pos rfl] at he
      split at he <;> cases he
    · rw [List.getElem?_set_ne hj] at he
      obtain ⟨v, h1, h2⟩ := S.va j e he
      rw [hid]
      exact ⟨v, h1, h2.same upH⟩
  · rw [hid]
    by_cases hj : i = j
    · subst hj
      rw [List.getElem?_set, if_pos rfl] at he
      split at he
      · cases he
        exact ⟨a, o', ha, ho, r⟩
      · cases he
    · rw [List.getElem?_set_ne hj] at he
      obtain ⟨b, u, h1, h2, h3⟩ := S.ow j e he
      have ne : b ≠ a := fun z => by
        subst z
        exact hj (S.inj i j _ _ _ hi he ha h1)
      exact ⟨b, u, h1, at_ b u ne h2, h3.same upH⟩
  · have key : ∀ {j : Nat} {e : D}, (env.set i (.ow d'))[j]? = some (Sl.ow e) → ∃ e', env[j]? = some (Sl.ow e') := fun {j e} h => by
      by_cases hj : i = j
      · subst hj; exact ⟨d, hi⟩
      · rw [List.getElem?_set_ne hj] at h; exact ⟨e, h⟩
    obtain ⟨e1, q1⟩ := key h1
    obtain ⟨e2, q2⟩ := key h2
    exact S.inj j l e1 e2 b q1 q2 h3 h4
theorem t_callO {mf : D → List D → M (D × D)} {i : Nat} (hs : shs.all (!·) = true) {σ : St} {H : Hp} {Q : VK} (h : tE (cc X g) false false (dCallO mf i ma) W σ H Q) : tCallS (spO (cc X g) shs.length mf) (WE W) (tCons (tVar i) (tA (cc X g) pu shs ma W)) σ H Q := by
  obtain ⟨xs, env, S, w⟩ := h
  unfold dCallO at w
  split at w
  · rename_i d0 hi0
    obtain ⟨a, o0, ha, ho0, hr0⟩ := S.ow i d0 hi0
    refine ⟨.ref a, ha, xs, env, S, Want.bind w fun ds env' vs H' e s r w' => ?_⟩
    dsimp only at w'
    split at w'
    · rename_i d1 hi
      obtain ⟨a', o, ha', ho, hr⟩ := s.st.ow i d1 hi
      rw [ha] at ha'; cases ha'
      have hid := s.hid
      have oa : Owns env σ a := ⟨i, d0, hi0, ha⟩
      have eq : (fun b => b = a ∨ (Hid xs env σ b ∧ b ≠ a)) = Hid xs env σ := by
        funext b
        apply propext
        constructor
        · rintro (rfl | h)
          · exact .inl oa
          · exact h.1
        · intro h
          by_cases q : b = a
          · exact .inl q
          · exact .inr ⟨h, q⟩
      refine ⟨fun b => Hid xs env σ b ∧ b ≠ a, a, o, d1, ds, vs, rfl, r.len, fun b hb => ⟨s.st.hid (by rw [hid]; exact hb.1), hb.2⟩, ho, ?_, ?_, ?_⟩
      · rw [eq, ← hid]; exact hr
      · rw [eq]; exact r.clean hs
      · have oa' : Owns env' σ a := ⟨i, d1, hi, ha⟩
        have upO : ∀ {H2 : Hp}, Same (hide H' (· = a)) H2 → Same (hide H' (Owns env' σ)) H2 := fun k2 b u hb => by
          obtain ⟨h1, h2⟩ := hide_some hb
          have ne : b ≠ a := fun z => h1 (by rw [z]; exact oa')
          exact k2 b u (by rw [hide_ne ne]; exact h2)
        cases q : mf d1 ds with
        | error x =>
          rw [q] at w'
          cases x with
          | raise kk p => exact fun cls dd H2 k2 hx => w' cls dd H2 (s.sm.trans (by have := upO k2; rw [s.own] at this; exact this)) hx
          | stuck => exact w'.elim
        | ok p =>
          obtain ⟨d, s'⟩ := p
          rw [q] at w'
          intro v H2 o' k2 ho' hr' hd
          rw [eq] at hr' hd
          have st2 := s.st.change (d' := s') hi ha k2 ho' (by rw [hid]; exact hr')
          exact w' v H2 ((s.trans st2).weak fun z => nomatch z) hd
    · exact w'.elim
  · exact w.elim
theorem e_callO (C : Cok nn X W P w K mg base N sc k bk) {j : Nat} {mf : D → List D → M (D × D)} {y : Str} {py : Pos} (F : Fok nn P w K mg base j x (spO (ck K g) shs.length mf)) (hj : j ≤ k) (hg : gloB sc x = true) (hs : shs.all (!·) = true) (i : Nat) (hy : PE X (.Name y py) (tVar i)) (ha : DA X g pu shs es ma W)
    (hdb : (x == ("__debug__" : Str)) = false := by rfl) (he : starEach (.Name y py :: es) X.env = (false, eval (.Name y py) X.env) :: starEach es X.env := by rfl) (hpl : (backTo pos (starEach es X.env)).any (·.1) = false := by rfl) :
    DE X g false false (.Call (.Name x p) (.Name y py :: es) [] pos) (dCallO mf i ma) W := by
  have h := call_pe (p := p) C F hj hg (pa_cons hy ha he) hdb he hpl
  obtain rfl := C.eK
  exact PE.imp h fun _ _ _ h => t_callO hs h
end
end Dn

/-! Dn9 -/
set_option Elab.async false
set_option linter.all false
set_option maxRecDepth 100000
set_option maxHeartbeats 1000000
/-! Dn9: statements. -/
namespace Dn
open PySem PySem.Spec L2
open PyProof.Rows hiding St

/-! ### going on behind a statement -/
section
variable {c : Cc} {xs : Addr → Prop} {env env' : En} {σ σ' : St} {H H' : Hp} {W : WX} {E E' : Ends} {r : M (Fl × En)} {pu : Bool}
theorem WantS.after (k : Kept env σ H env' σ' H') (h : WantS c xs env σ H W E r) : WantS c xs env' σ' H' W E r := by
  cases r with
  | error e => cases e with
    | raise kk p => exact fun cls dd σ2 H2 hl q hx => h cls dd σ2 H2 (hl.trans k.ln) (k.sm.trans q) hx
    | stuck => exact h
  | ok p =>
    obtain ⟨fl, env2⟩ := p
    cases fl with
    | nx => exact fun σ2 H2 S q => h σ2 H2 S (k.trans q)
    | bk => exact fun σ2 H2 S q => h σ2 H2 S (k.trans q)
    | ct => exact fun σ2 H2 S q => h σ2 H2 S (k.trans q)
    | rt d => exact fun σ2 v H2 S q hd => h σ2 v H2 S (k.trans q) hd
    | rf d =>
      rintro σ2 v H2 S q ⟨a, o, e1, e2, e3⟩
      refine h σ2 v H2 S (k.trans q) ⟨a, o, e1, ?_, e3⟩
      cases z : H a with
      | none => rfl
      | some u => exact absurd e2 (k.th a (by rw [z]; exact fun w => nomatch w))
    | ro i => exact fun σ2 a H2 S q h1 h2 => h σ2 a H2 S (k.trans q) h1 h2
theorem WantS.ends {nx bk ct : St → Hp → Prop} (h : WantS c xs env σ H W E r)
    (h1 : ∀ env' σ' H', r = .ok (.nx, env') → StOk c xs env' σ' H' → Kept env σ H env' σ' H' → nx σ' H') (h2 : ∀ env' σ' H', r = .ok (.bk, env') → StOk c xs env' σ' H' → Kept env σ H env' σ' H' → bk σ' H')
    (h3 : ∀ env' σ' H', r = .ok (.ct, env') → StOk c xs env' σ' H' → Kept env σ H env' σ' H' → ct σ' H') : WantS c xs env σ H W { E with nx := nx, bk := bk, ct := ct } r := by
  cases r with
  | error e => cases e with
    | raise kk p => exact h
    | stuck => exact h
  | ok p =>
    obtain ⟨fl, env2⟩ := p
    cases fl with
    | nx => exact fun σ2 H2 S q => h1 env2 σ2 H2 rfl S q
    | bk => exact fun σ2 H2 S q => h2 env2 σ2 H2 rfl S q
    | ct => exact fun σ2 H2 S q => h3 env2 σ2 H2 rfl S q
    | rt d => exact h
    | rf d => exact h
    | ro i => exact h
/-- from a statement's outcome to an expression's -/
theorem WantS.bindE {α β : Type} {R : α → En → β → Hp → Prop} {Q : β → Hp → Prop} {m : M (α × En)} {f : α × En → M (Fl × En)} (h : WantS c xs env σ H W E (bnd m f))
    (k : ∀ d env' v H', m = .ok (d, env') → Stp c xs pu env env' σ H H' → R d env' v H' → WantS c xs env σ H W E (f (d, env')) → Q v H') : Want c xs pu env σ H R W Q m := by
  cases m with
  | error e => cases e with
    | raise kk p => exact fun cls dd H2 q hx => h cls dd σ H2 rfl q hx
    | stuck => exact h
  | ok p =>
    obtain ⟨d, env'⟩ := p
    exact fun v H' s r => k d env' v H' rfl s r h
theorem Stp.kept (s : Stp c xs pu env env' σ H H') : Kept env σ H env' σ H' := ⟨by rw [s.own]; exact s.sm, s.th, fun h => ⟨(s.shp 0).trans h, rfl⟩, rfl⟩
theorem kept_set_va {i : Nat} {d : D} {v : V} (h0 : isOw env 0 = true → i ≠ 0) : Kept env σ H (env.set i (.va d)) (σ.set i (some v)) H :=
  ⟨hide_sub fun a z => owns_set_va z, fun _ h => h, fun h => ⟨(isOw_get0 (by rw [List.getElem?_set_ne (h0 h)])).trans h, by rw [List.getElem?_set_ne (h0 h)]⟩, by rw [List.length_set]⟩
theorem kept_va {i : Nat} {d : D} {v : V} (s : Stp c xs pu env env' σ H H') (h0 : isOw env' 0 = true → i ≠ 0) : Kept env σ H (env'.set i (.va d)) (σ.set i (some v)) H' := s.kept.trans (kept_set_va h0)
end

section
variable {X : Cx} {W : WX} {P : Program} {w : World} {K : PySem.W.Frag} {mg : Str → Option Value} {base : Heap} {N : List Str} {sc : Scope} {k : Nat} {bk nn : Bool} {g : Ce}
variable {pu pu1 pu2 sh sh1 sh2 : Bool} {m m1 m2 : Ev} {a b e : Expr} {es : List Expr} {pos p pos' : Pos} {ma : Av} {shs : List Bool} {x : Str} {st : Stmt} {sts sts' : List Stmt} {ms ms1 ms2 : Sv} {t : Tv}

/-! ### blocks -/
def bNil : Sv := fun env => .ok (.nx, env)
def bSeq (s ss : Sv) : Sv := fun env => bnd (s env) fun p => match p.1 with
  | .nx => ss p.2
  | f => .ok (f, p.2)
theorem ss_nil : DSs X g [] bNil W := PSs.imp pss_nil fun E σ H ⟨xs, env, S, w⟩ => w σ H S .refl
theorem ss_one (h : DS X g st ms W) : DSs X g [st] ms W := pss_one h
theorem ss_cons (h1 : DS X g st ms1 W) (h2 : DSs X g sts ms2 W) : DSs X g (st :: sts) (bSeq ms1 ms2) W := PSs.imp (pss_cons h1 h2) fun E σ H ⟨xs, env, S, w⟩ => by
  refine ⟨xs, env, S, ?_⟩
  unfold bSeq at w
  generalize hr : ms1 env = r at w ⊢
  cases r with
  | error e => cases e with
    | raise kk p => exact w
    | stuck => exact w
  | ok p =>
    obtain ⟨fl, env2⟩ := p
    cases fl with
    | nx => exact fun σ2 H2 S2 q => ⟨xs, env2, S2, WantS.after q w⟩
    | bk => exact w
    | ct => exact w
    | rt d => exact w
    | rf d => exact w
    | ro i => exact w

/-! ### stores -/
def sSet (i : Nat) (m : Ev) : Sv := fun env => bnd (m env) fun p => bnd (put i (.va p.1) p.2) fun env' => .ok (.nx, env')
def sSetO (i : Nat) (m : Ev) : Sv := fun env => bnd (m env) fun p => bnd (put i (.ow p.1) p.2) fun env' => .ok (.nx, env')
theorem t_set {i : Nat} {E : Ends} {σ : St} {H : Hp} (h : tS (cc X g) (sSet i m) W E σ H) : tAsg (tE (cc X g) pu false m W) (gName i) E σ H := by
  obtain ⟨xs, env, S, w⟩ := h
  refine ⟨xs, env, S, WantS.bindE w fun d env' v H' e s r w' => ?_⟩
  have r' : IsD (cc X g) (hide H' (Hid xs env σ)) d v := r
  rw [← s.hid] at r'
  dsimp only at w'
  rcases put_cases i (.va d) env' with q | ⟨q, h0⟩ <;> rw [q] at w'
  · exact w'.elim
  · exact w' _ H' (s.st.setVa i r') (kept_va s h0)
theorem t_setO {i : Nat} {E : Ends} {σ : St} {H : Hp} (h : tS (cc X g) (sSetO i m) W E σ H) : tAsg (tF (cc X g) pu m W) (gName i) E σ H := by
  obtain ⟨xs, env, S, w⟩ := h
  refine ⟨xs, env, S, WantS.bindE w fun d env' v H' e s r w' => ?_⟩
  dsimp only at w'
  rcases put_cases i (.ow d) env' with q | ⟨q, h0⟩ <;> rw [q] at w'
  · exact w'.elim
  · obtain ⟨h1, h2⟩ := s.setOw S i h0 r
    exact w' _ H' h1 h2
theorem set_pe (C : Cok nn X W P w K mg base N sc k false) {te : TE} (i : Nat) (hi : N[i]? = some x) (hl : locB sc x = true) (he : PE X e te) (hs : swapsWith e (some (.Name x pos')) pos.line X.env = pure false) : PS X (.Assign [.Name x pos'] e pos) (tAsg te (gName i)) := by
  have hl := locB_of hl
  refine ps_set (by rw [C.eN]; exact C.nd) (by rw [C.eN]; exact hi) (by rw [C.es]; exact hl) he hs ?_
  rcases hl with h | h
  · exact .inr (by rw [C.es]; exact h)
  · exact .inl (C.fn rfl x)
theorem s_set (C : Cok nn X W P w K mg base N sc k false) (i : Nat) (hi : N[i]? = some x) (hl : locB sc x = true) (he : DE X g pu false e m W) (hs : swapsWith e (some (.Name x pos')) pos.line X.env = pure false := by rfl) : DS X g (.Assign [.Name x pos'] e pos) (sSet i m) W :=
  PS.imp (set_pe C i hi hl he hs) fun _ _ _ h => t_set h
theorem s_setO (C : Cok nn X W P w K mg base N sc k false) (i : Nat) (hi : N[i]? = some x) (hl : locB sc x = true) (he : DF X g pu e m W) (hs : swapsWith e (some (.Name x pos')) pos.line X.env = pure false := by rfl) : DS X g (.Assign [.Name x pos'] e pos) (sSetO i m) W :=
  PS.imp (set_pe C i hi hl he hs) fun _ _ _ h => t_setO h

/-! ### an expression dropped; returns; flow -/
def sDrop (m : Ev) : Sv := fun env => bnd (m env) fun p => .ok (.nx, p.2)
theorem s_drop (he : DE X g pu sh e m W) (hs : swapsWith e none pos.line X.env = pure false := by rfl) : DS X g (.Expr e pos) (sDrop m) W := PS.imp (ps_expr he hs) fun E σ H ⟨xs, env, S, w⟩ =>
  ⟨xs, env, S, WantS.bindE w fun d env' v H' e s r w' => w' σ H' s.st s.kept⟩
def sRet (m : Ev) : Sv := fun env => bnd (m env) fun p => .ok (.rt p.1, p.2)
def sRetF (m : Ev) : Sv := fun env => bnd (m env) fun p => .ok (.rf p.1, p.2)
def sRetO (i : Nat) : Sv := fun env => match env[i]? with
  | some (.ow _) => .ok (.ro i, env)
  | _ => stuck
def sRetN : Sv := fun env => .ok (.rt .non, env)
theorem s_ret (he : DE X g pu false e m W) : DS X g (.Return (some e) pos) (sRet m) W := PS.imp (ps_ret he) fun E σ H ⟨xs, env, S, w⟩ =>
  ⟨xs, env, S, WantS.bindE w fun d env' v H' e s r w' => w' σ v H' s.st s.kept (by rw [s.hid]; exact r)⟩
theorem s_retF (he : DF X g pu e m W) : DS X g (.Return (some e) pos) (sRetF m) W := PS.imp (ps_ret he) fun E σ H ⟨xs, env, S, w⟩ =>
  ⟨xs, env, S, WantS.bindE w fun d env' v H' e s r w' => w' σ v H' s.st s.kept (by
    obtain ⟨a, o, e1, e2, e3, _, e5⟩ := r
    exact ⟨a, o, e1, e2, e3, by rw [s.hid]; exact S.newHid e2, e5⟩)⟩
theorem s_retO (i : Nat) (he : PE X (.Name x pos') (tVar i)) : DS X g (.Return (some (.Name x pos')) pos) (sRetO i) W := PS.imp (ps_ret he) fun E σ H ⟨xs, env, S, w⟩ => by
  unfold sRetO at w
  split at w
  · rename_i d hd
    obtain ⟨a, o, h1, h2, h3⟩ := S.ow i d hd
    exact ⟨.ref a, h1, w σ a H S .refl h1 ⟨d, hd⟩⟩
  · exact w.elim
theorem s_retN : DS X g (.Return none pos) sRetN W := PS.imp ps_retN fun E σ H ⟨xs, env, S, w⟩ => w σ .non H S .refl isNon
def sPass : Sv := fun env => .ok (.nx, env)
def sBreak : Sv := fun env => .ok (.bk, env)
def sCont : Sv := fun env => .ok (.ct, env)
theorem s_pass : DS X g (.Pass pos) sPass W := PS.imp ps_pass fun E σ H ⟨xs, env, S, w⟩ => w σ H S .refl
theorem s_break : DS X g (.Break pos) sBreak W := PS.imp ps_break fun E σ H ⟨xs, env, S, w⟩ => w σ H S .refl
theorem s_cont : DS X g (.Continue pos) sCont W := PS.imp ps_continue fun E σ H ⟨xs, env, S, w⟩ => w σ H S .refl
def sIf (t : Tv) (a b : Sv) : Sv := fun env => bnd (t env) fun p => if p.1 = true then a p.2 else b p.2
theorem s_if (ht : DT X g pu e t W) (ha : DSs X g sts ms1 W) (hb : DSs X g sts' ms2 W) : DS X g (.If e sts sts' pos) (sIf t ms1 ms2) W := PS.imp (ps_if ht ha hb) fun E σ H ⟨xs, env, S, w⟩ =>
  ⟨xs, env, S, WantS.bindE w fun d env' v H' e s r w' => by
    have r' : v = d := r
    subst r'
    cases v with
    | true =>
      rw [if_pos rfl] at w'
      rw [if_pos rfl]
      exact ⟨xs, env', s.st, WantS.after s.kept w'⟩
    | false =>
      rw [if_neg Bool.false_ne_true] at w'
      rw [if_neg Bool.false_ne_true]
      exact ⟨xs, env', s.st, WantS.after s.kept w'⟩⟩

/-! ### while -/
def whileN (t : Tv) (b : Sv) : Nat → Sv
  | 0, _ => stuck
  | n + 1, env => bnd (t env) fun p => if p.1 = true then bnd (b p.2) fun q => match q.1 with
      | .nx => whileN t b n q.2
      | .ct => whileN t b n q.2
      | .bk => .ok (.nx, q.2)
      | f => .ok (f, q.2)
    else .ok (.nx, p.2)
/-- as many turns as the model is asked for -/
def manyTurns : Nat := 1000000000
def sWhile (t : Tv) (b : Sv) : Sv := whileN t b manyTurns
theorem s_while (C : Cok nn X W P w K mg base N sc k false) (ht : DT X g pu e t W) (hb : DSs X g sts ms W) : DS X g (.While e sts [] pos) (sWhile t ms) W := PS.imp (ps_while (C.own rfl) ht hb) fun E σ H ⟨xs, env, S, w⟩ => by
  refine ⟨fun n σ' H' => ∃ env', StOk (cc X g) xs env' σ' H' ∧ WantS (cc X g) xs env' σ' H' W E (whileN t ms n env'), ⟨manyTurns, env, S, w⟩, ?_⟩
  rintro n σ1 H1 ⟨env1, S1, w1⟩
  cases n with
  | zero => exact w1.elim
  | succ n =>
    refine ⟨xs, env1, S1, WantS.bindE w1 fun d env2 v H2 e s r w2 => ?_⟩
    have r' : v = d := r
    subst r'
    cases v with
    | false =>
      rw [if_neg Bool.false_ne_true] at w2
      rw [if_neg Bool.false_ne_true]
      exact w2 σ1 H2 s.st s.kept
    | true =>
      rw [if_pos rfl] at w2
      rw [if_pos rfl]
      refine ⟨fun σ' H' => ∃ env', StOk (cc X g) xs env' σ' H' ∧ WantS (cc X g) xs env' σ' H' W E (whileN t ms n env'), fun σ' H' h => ⟨n, Nat.lt_succ_self n, h⟩, xs, env2, s.st, ?_⟩
      have w3 := WantS.after s.kept w2
      dsimp only at w3
      generalize hr : ms env2 = r2 at w3 ⊢
      cases r2 with
      | error e => cases e with
        | raise kk p => exact w3
        | stuck => exact w3
      | ok p =>
        obtain ⟨fl, env3⟩ := p
        cases fl with
        | nx => exact fun σ4 H4 S4 q => ⟨env3, S4, WantS.after q w3⟩
        | ct => exact fun σ4 H4 S4 q => ⟨env3, S4, WantS.after q w3⟩
        | bk => exact w3
        | rt d => exact w3
        | rf d => exact w3
        | ro i => exact w3
end
end Dn

/-! Dn10 -/
set_option Elab.async false
set_option linter.all false
set_option maxRecDepth 100000
set_option maxHeartbeats 1000000
/-! Dn10: what is walked; targets; for. -/
namespace Dn
open PySem PySem.Spec L2
open PyProof.Rows hiding St

/-- J gives ds, one after another, while G0 stands -/
def ItOk (c : Cc) (G0 : Hp) (J : It) (ds : List D) : Prop :=
  ∃ (G : Hp → Prop) (Y : Nat → Hp → V → Hp → Prop), Walk J ds.length G Y ∧ (∀ H, Same G0 H → G H) ∧
    ∀ i x H H' d, ds[i]? = some d → Same G0 H → Y i H x H' → Same H H' ∧ ∀ Z : Addr → Prop, Same G0 (hide H Z) → (∀ a, Z a → H a ≠ none) → IsD c (hide H' Z) d x
theorem ItOk.same {c : Cc} {G0 G1 : Hp} {J : It} {ds : List D} (k : Same G0 G1) (h : ItOk c G0 J ds) : ItOk c G1 J ds := by
  obtain ⟨G, Y, h1, h2, h3⟩ := h
  exact ⟨G, Y, h1, fun H z => h2 H (k.trans z), fun i x H H' d e z y => by
    obtain ⟨p, q⟩ := h3 i x H H' d e (k.trans z) y
    exact ⟨p, fun Z a b => q Z (k.trans a) b⟩⟩

abbrev Iv := En → M (List D × En)
def tI (c : Cc) (pu : Bool) (m : Iv) (W : WX) : TI := fun σ H R => ∃ xs env, StOk c xs env σ H ∧ Want c xs pu env σ H (fun ds _ J H' => ItOk c (hide H' (Hid xs env σ)) J ds) W R (m env)
abbrev DI (X : Cx) (g : Ce) (tg : Expr) (pu : Bool) (e : Expr) (m : Iv) (W : WX) : Prop := PI X tg e (tI (cc X g) pu m W)
theorem PI.imp {X : Cx} {tg e : Expr} {t t' : TI} (h : PI X tg e t) (k : ∀ σ H Q, t' σ H Q → t σ H Q) : PI X tg e t' := ⟨fun pins s σ H Q I w => h.run pins s σ H Q I (k _ _ _ w)⟩
theorem PI.or {X : Cx} {tg e : Expr} {t t' : TI} (h : PI X tg e t) (h' : PI X tg e t') : PI X tg e (fun σ H Q => t σ H Q ∨ t' σ H Q) := ⟨fun pins s σ H Q I w => w.elim (h.run pins s σ H Q I) (h'.run pins s σ H Q I)⟩

theorem itok_lst {c : Cc} {G0 : Hp} {a : Addr} {ds : List D} {vs : List V} (h : SqL c.K G0 a vs) (r : IsDs c G0 ds vs) : ItOk c G0 (Itl c.K a) ds := by
  refine ⟨fun H => SqL c.K H a vs, YAt vs, by rw [r.len]; exact walk_list, fun H z => z.seq h, fun i x H H' d e z y => ?_⟩
  obtain ⟨rfl, y⟩ := y
  refine ⟨Same.refl _, fun Z k _ => ?_⟩
  obtain ⟨v, h1, h2⟩ := r.getD e
  rw [y] at h1; cases h1
  exact h2.same k
theorem itok_tup {c : Cc} {G0 : Hp} {a : Addr} {ds : List D} {vs : List V} (h : SqT c.K G0 a vs) (r : IsDs c G0 ds vs) : ItOk c G0 (Itt c.K a) ds := by
  refine ⟨fun H => SqT c.K H a vs, YAt vs, by rw [r.len]; exact walk_tup, fun H z => SqT.same z h, fun i x H H' d e z y => ?_⟩
  obtain ⟨rfl, y⟩ := y
  refine ⟨Same.refl _, fun Z k _ => ?_⟩
  obtain ⟨v, h1, h2⟩ := r.getD e
  rw [y] at h1; cases h1
  exact h2.same k
def signs (x : Str) : List D := x.cps.toList.map fun k => .str ⟨#[k]⟩
theorem itok_str {c : Cc} {G0 : Hp} {x : Str} : ItOk c G0 (Its x) (signs x) := by
  refine ⟨fun _ => True, _, by unfold signs; rw [List.length_map, Array.length_toList]; exact walk_str, fun _ _ => trivial, fun i v H H' d e z y => ?_⟩
  obtain ⟨rfl, k, h1, rfl⟩ := y
  refine ⟨Same.refl _, fun Z _ _ => ?_⟩
  unfold signs at e
  rw [List.getElem?_map, Array.getElem?_toList, h1] at e
  cases e
  exact isStr
def rngD (lo st : Int) (n : Nat) : List D := (List.range n).map fun i : Nat => D.int (lo + (i : Int) * st)
theorem itok_rng {c : Cc} {G0 : Hp} {lo : Int} {n : Nat} : ItOk c G0 (Itr lo n) (rngD lo 1 n) := by
  refine ⟨fun _ => True, _, by unfold rngD; rw [List.length_map, List.length_range]; exact walk_range, fun _ _ => trivial, fun i v H H' d e z y => ?_⟩
  obtain ⟨rfl, rfl⟩ := y
  refine ⟨Same.refl _, fun Z _ _ => ?_⟩
  unfold rngD at e
  rw [List.getElem?_map] at e
  cases q : (List.range n)[i]? with
  | none => rw [q] at e; cases e
  | some j =>
    rw [q] at e
    rw [List.getElem?_range (by have := (List.getElem?_eq_some_iff.mp q).1; simpa using this)] at q
    cases q; cases e
    show IsD c _ (.int (lo + (i : Int) * 1)) (.int (lo + i))
    rw [Int.mul_one]
    exact isInt
theorem itok_rngC {c : Cc} {G0 : Hp} {lo st : Int} {n : Nat} : ItOk c G0 (Itc lo st n) (rngD lo st n) := by
  refine ⟨fun _ => True, _, by unfold rngD; rw [List.length_map, List.length_range]; exact walk_rangeC, fun _ _ => trivial, fun i v H H' d e z y => ?_⟩
  obtain ⟨rfl, rfl⟩ := y
  refine ⟨Same.refl _, fun Z _ _ => ?_⟩
  unfold rngD at e
  rw [List.getElem?_map] at e
  cases q : (List.range n)[i]? with
  | none => rw [q] at e; cases e
  | some j =>
    rw [q] at e
    rw [List.getElem?_range (by have := (List.getElem?_eq_some_iff.mp q).1; simpa using this)] at q
    cases q; cases e
    exact isInt

section
variable {X : Cx} {g : Ce} {W : WX} {pu pu1 pu2 sh sh1 sh2 : Bool} {m m1 m2 : Ev} {a b e tg : Expr} {es : List Expr} {pos : Pos} {ma : Av} {shs : List Bool} {mi : Iv}
theorem PI.impure (h : DI X g tg true e mi W) : DI X g tg false e mi W := PI.imp h fun σ H Q ⟨xs, env, S, w⟩ =>
  ⟨xs, env, S, w.imp fun d env' v H' e s r k => k (s.weak fun z => nomatch z) r⟩
def dItems (m : Ev) : Iv := fun env => bnd (m env) fun p => match p.1 with
  | .lst xs => .ok (xs, p.2)
  | .tup xs => .ok (xs, p.2)
  | .str x => .ok (signs x, p.2)
  | .scr ns => .ok (ns.map D.int, p.2)
  | _ => stuck
theorem isDs_ints {c : Cc} {H : Hp} : ∀ ns : List Int, IsDs c H (ns.map D.int) (ns.map V.int)
  | [] => IsDs.nil
  | n :: ns => IsDs.cons isInt (isDs_ints ns)
theorem SqL.hid {K : PySem.W.Frag} {H : Hp} {P : Addr → Prop} {a : Addr} {xs : List V} (h : SqL K (hide H P) a xs) : SqL K H a xs := Same.seq hide_full h
theorem SqT.hid {K : PySem.W.Frag} {H : Hp} {P : Addr → Prop} {a : Addr} {xs : List V} (h : SqT K (hide H P) a xs) : SqT K H a xs := SqT.same hide_full h
theorem i_items (h : DE X g pu false e m W) : DI X g tg pu e (dItems m) W :=
  PI.imp (PI.or (pi_list h) (PI.or (pi_tup h) (pi_str (tg := tg) h))) fun σ H Q ⟨xs, env, S, w⟩ => by
    have w0 := w
    unfold dItems at w0
    cases q : m env with
    | error x =>
      rw [q] at w0
      refine .inl ⟨xs, env, S, ?_⟩
      rw [q]
      cases x with
      | raise k p => exact w0
      | stuck => exact w0.elim
    | ok p =>
      obtain ⟨d, env'⟩ := p
      have key : ∀ {R' : V → Hp → Prop}, (∀ v H', Stp (cc X g) xs pu env env' σ H H' → IsD (cc X g) (hide H' (Hid xs env σ)) d v → R' v H') → tE (cc X g) pu false m W σ H R' := fun k => ⟨xs, env, S, by
        rw [q]; exact fun v H' s r => k v H' s r⟩
      rw [q] at w0
      simp only [bnd_ok] at w0
      split at w0
      · rename_i ds
        refine .inl (key fun v H' s r => ?_)
        unfold IsD at r
        obtain ⟨l, vs, e1, e2, e3⟩ := r
        have hq : SqL X.K (hide H' (Hid xs env σ)) l vs := SqL.of e2
        exact ⟨l, e1, ⟨vs, SqL.hid hq⟩, w0 _ H' s (itok_lst hq e3)⟩
      · rename_i ds
        refine .inr (.inl (key fun v H' s r => ?_))
        unfold IsD at r
        obtain ⟨l, vs, e1, e2, e3⟩ := r
        exact ⟨l, e1, ⟨vs, SqT.hid e2⟩, w0 _ H' s (itok_tup e2 e3)⟩
      · rename_i x
        refine .inr (.inr (key fun v H' s r => ?_))
        unfold IsD at r
        exact ⟨x, r, w0 _ H' s itok_str⟩
      · rename_i ns
        refine .inl (key fun v H' s r => ?_)
        unfold IsD at r
        obtain ⟨l, e1, e2⟩ := r
        exact ⟨l, e1, ⟨_, SqL.hid e2⟩, w0 _ H' s (itok_lst e2 (isDs_ints ns))⟩
      · exact w0.elim
end
end Dn

/-! Dn11 -/
set_option Elab.async false
set_option linter.all false
set_option maxRecDepth 100000
set_option maxHeartbeats 1000000
/-! Dn11: ranges, targets, for. -/
namespace Dn
open PySem PySem.Spec L2
open PyProof.Rows hiding St

section
variable {X : Cx} {P : Program} {w : World} {K : PySem.W.Frag} {mg : Str → Option Value} {base : Heap} {N : List Str} {sc : Scope} {k : Nat} {bk nn : Bool} {g : Ce} {W : WX}
variable {pu pu1 pu2 sh sh1 sh2 : Bool} {m m1 m2 : Ev} {a b e tg : Expr} {es : List Expr} {pos p : Pos} {ma : Av} {shs : List Bool} {mi : Iv} {x : Str} {sts : List Stmt} {ms : Sv}

/-! ### ranges -/
def smallI (j : Int) : Bool := decide (-4611686018427387904 ≤ j) && decide (j < 4611686018427387904)
def dRng (ms : Av) : Iv := fun env => bnd (ms env) fun p => match p.1 with
  | [.int j] => if smallI j = true then .ok (rngD 0 1 j.toNat, p.2) else stuck
  | [.int i, .int j] => if (smallI i && smallI j) = true then .ok (rngD i 1 (j - i).toNat, p.2) else stuck
  | [.int i, .int j, .int s] => if (smallI i && smallI j && decide (s = -1)) = true then .ok (rngD i s (i - j).toNat, p.2) else stuck
  | _ => stuck
theorem smallI_of {j : Int} (h : smallI j = true) : -(2 ^ 62) ≤ j ∧ j < 2 ^ 62 := by
  unfold smallI at h
  simp only [Bool.and_eq_true, decide_eq_true_eq] at h
  omega
theorem Reps.one {c : Cc} {P : Addr → Prop} {H : Hp} {d : D} {vs : List V} (r : Reps c P H shs [d] vs) : ∃ v, vs = [v] ∧ RepS c P H d v := by
  cases shs with
  | nil => cases vs <;> exact r.elim
  | cons s ss => cases ss with
    | nil => cases vs with
      | nil => exact r.elim
      | cons v vs => cases vs with
        | nil => exact ⟨v, rfl, r.1.shell⟩
        | cons _ _ => exact r.2.elim
    | cons _ _ => cases vs with
      | nil => exact r.elim
      | cons v vs => exact r.2.elim
theorem RepsS.one {c : Cc} {P : Addr → Prop} {H : Hp} {d : D} {vs : List V} (r : RepsS c P H [d] vs) : ∃ v, vs = [v] ∧ RepS c P H d v := by
  cases vs with
  | nil => exact r.elim
  | cons v vs => cases vs with
    | nil => exact ⟨v, rfl, r.1⟩
    | cons _ _ => exact r.2.elim
theorem RepsS.two {c : Cc} {P : Addr → Prop} {H : Hp} {d d2 : D} {vs : List V} (r : RepsS c P H [d, d2] vs) : ∃ v v2, vs = [v, v2] ∧ RepS c P H d v ∧ RepS c P H d2 v2 := by
  cases vs with
  | nil => exact r.elim
  | cons v vs => obtain ⟨v2, rfl, q⟩ := RepsS.one r.2; exact ⟨v, v2, rfl, r.1, q⟩
theorem RepsS.three {c : Cc} {P : Addr → Prop} {H : Hp} {d d2 d3 : D} {vs : List V} (r : RepsS c P H [d, d2, d3] vs) : ∃ v v2 v3, vs = [v, v2, v3] ∧ RepS c P H d v ∧ RepS c P H d2 v2 ∧ RepS c P H d3 v3 := by
  cases vs with
  | nil => exact r.elim
  | cons v vs => obtain ⟨v2, v3, rfl, q⟩ := RepsS.two r.2; exact ⟨v, v2, v3, rfl, r.1, q⟩
theorem Reps.bad1 {c : Cc} {P : Addr → Prop} {H : Hp} {s : Bool} {d d2 : D} {ds : List D} {vs : List V} (r : Reps c P H [s] (d :: d2 :: ds) vs) : False := by
  cases vs with
  | nil => exact r.elim
  | cons v vs => cases vs <;> exact r.2.elim
theorem Reps.bad2 {c : Cc} {P : Addr → Prop} {H : Hp} {s s2 : Bool} {d d2 d3 : D} {ds : List D} {vs : List V} (r : Reps c P H [s, s2] (d :: d2 :: d3 :: ds) vs) : False := by
  cases vs with
  | nil => exact r.elim
  | cons v vs => exact Reps.bad1 r.2
theorem Reps.bad2' {c : Cc} {P : Addr → Prop} {H : Hp} {s s2 : Bool} {ss : List Bool} {d : D} {vs : List V} (r : Reps c P H (s :: s2 :: ss) [d] vs) : False := by
  cases vs with
  | nil => exact r.elim
  | cons v vs => cases vs <;> exact r.2.elim
theorem i_rng1 (hg : Gl X "range") (hm : X.mg "range" = none) (ha : DA X g pu [sh1] [a] ma W) (hs : starEach [a] X.env = [(false, eval a X.env)] := by rfl) : DI X g tg pu (.Call (.Name "range" p) [a] [] pos) (dRng ma) W :=
  PI.imp (pi_range1 hg hm ha hs) fun σ H Q ⟨xs, env, S, w⟩ => ⟨xs, env, S, Want.bind w fun ds env' vs H' e s r w' => by
    have r' := r.shell
    dsimp only at w'
    split at w'
    · rename_i j
      split at w'
      · rename_i hz
        obtain ⟨v, rfl, r1⟩ := r'.one
        have e1 := r1.int
        subst e1
        obtain ⟨h1, h2⟩ := smallI_of hz
        exact ⟨j, rfl, h1, h2, w' _ H' s itok_rng⟩
      · exact w'.elim
    · exact r.bad1.elim
    · exact r.bad1.elim
    · exact w'.elim⟩
theorem i_rng2 (hg : Gl X "range") (hm : X.mg "range" = none) (ha : DA X g pu [sh1, sh2] [a, b] ma W) (hs : starEach [a, b] X.env = [(false, eval a X.env), (false, eval b X.env)] := by rfl) (hs2 : starEach [b] X.env = [(false, eval b X.env)] := by rfl) : DI X g tg pu (.Call (.Name "range" p) [a, b] [] pos) (dRng ma) W :=
  PI.imp (pi_range2 hg hm ha hs hs2) fun σ H Q ⟨xs, env, S, w⟩ => ⟨xs, env, S, Want.bind w fun ds env' vs H' e s r w' => by
    have r' := r.shell
    dsimp only at w'
    split at w'
    · exact r.bad2'.elim
    · rename_i i j
      split at w'
      · rename_i hz
        rw [Bool.and_eq_true] at hz
        obtain ⟨v, v2, rfl, r1, r2⟩ := r'.two
        have e1 := r1.int
        have e2 := r2.int
        subst e1 e2
        obtain ⟨h1, h2⟩ := smallI_of hz.1
        obtain ⟨h3, h4⟩ := smallI_of hz.2
        exact ⟨i, j, rfl, ⟨h1, h2, h3, h4⟩, w' _ H' s itok_rng⟩
      · exact w'.elim
    · exact r.bad2.elim
    · exact w'.elim⟩
theorem i_rng3 (hg : Gl X "range") (hm : X.mg "range" = none) (ha : DA X g pu [false, false, false] [a, b, e] ma W) (hs : starEach [a, b, e] X.env = (false, eval a X.env) :: starEach [b, e] X.env := by rfl) (hpl : (backTo pos (starEach [b, e] X.env)).any (·.1) = false := by rfl) : DI X g tg pu (.Call (.Name "range" p) [a, b, e] [] pos) (dRng ma) W :=
  PI.imp (pi_range3 hg hm ha hs hpl) fun σ H Q ⟨xs, env, S, w⟩ => ⟨xs, env, S, Want.bind w fun ds env' vs H' e s r w' => by
    have r' := r.shell
    dsimp only at w'
    split at w'
    · exact r.bad2'.elim
    · exfalso
      cases vs with
      | nil => exact r.elim
      | cons v vs => exact r.2.bad2'
    · rename_i i j st
      split at w'
      · rename_i hz
        rw [Bool.and_eq_true, Bool.and_eq_true, decide_eq_true_eq] at hz
        obtain ⟨v, v2, v3, rfl, r1, r2, r3⟩ := r'.three
        have e1 := r1.int
        have e2 := r2.int
        have e3 := r3.int
        subst e1 e2 e3
        obtain ⟨h1, h2⟩ := smallI_of hz.1.1
        obtain ⟨h3, h4⟩ := smallI_of hz.1.2
        obtain rfl := hz.2
        exact ⟨i, j, -1, _, rfl, RgC.neg h1 h2 h3 h4, w' _ H' s itok_rngC⟩
      · exact w'.elim
    · exact w'.elim⟩

/-! ### targets -/
abbrev Gv := D → En → M En
abbrev Gsv := List D → En → M En
def wipeE (env : En) : List Nat → En
  | [] => env
  | v :: vs => (wipeE env vs).set v .un
theorem wipeE_set {env : En} {i : Nat} {s : Sl} : ∀ {vs : List Nat}, i ∈ vs → wipeE (env.set i s) vs = wipeE env vs
  | v :: vs, h => by
    unfold wipeE
    by_cases hv : i ∈ vs
    · rw [wipeE_set hv]
    · have e : i = v := (List.mem_cons.mp h).resolve_right hv
      subst e
      have : ∀ ws : List Nat, i ∉ ws → wipeE (env.set i s) ws = (wipeE env ws).set i s := fun ws => by
        induction ws with
        | nil => intro _; rfl
        | cons w ws ih =>
          intro hw
          unfold wipeE
          rw [ih fun z => hw (List.mem_cons_of_mem _ z), List.set_comm _ _ fun z => hw (by rw [z]; exact List.mem_cons_self)]
      rw [this vs hv, List.set_set]
theorem wipe_set {σ : St} {i : Nat} {s : Option V} : ∀ {vs : List Nat}, i ∈ vs → wipe (σ.set i s) vs = wipe σ vs
  | v :: vs, h => by
    unfold wipe
    by_cases hv : i ∈ vs
    · rw [wipe_set hv]
    · have e : i = v := (List.mem_cons.mp h).resolve_right hv
      subst e
      have : ∀ ws : List Nat, i ∉ ws → wipe (σ.set i s) ws = (wipe σ ws).set i s := fun ws => by
        induction ws with
        | nil => intro _; rfl
        | cons w ws ih =>
          intro hw
          unfold wipe
          rw [ih fun z => hw (List.mem_cons_of_mem _ z), List.set_comm _ _ fun z => hw (by rw [z]; exact List.mem_cons_self)]
      rw [this vs hv, List.set_set]
/-- raising nothing -/
def ns {α : Type} : M α → M α
  | .ok a => .ok a
  | .error _ => stuck
@[simp] theorem ns_ok {α : Type} (a : α) : ns (.ok a : M α) = .ok a := rfl
/-- what a target's stores want -/
def WantG (c : Cc) (vs : List Nat) (xs : Addr → Prop) (env : En) (σ : St) (H : Hp) (Q : St → Hp → Prop) : M En → Prop
  | .ok env' => ∀ σ', StOk c xs env' σ' H → Kept env σ H env' σ' H → wipe σ' vs = wipe σ vs → wipeE env' vs = wipeE env vs → (∀ j, isOw env' j = true → isOw env j = true) → Q σ' H
  | .error _ => False
def tG (c : Cc) (m : Gv) (vs : List Nat) : TG := fun v σ H Q => ∃ xs env d, StOk c xs env σ H ∧ IsD c (hide H (Hid xs env σ)) d v ∧ WantG c vs xs env σ H Q (m d env)
def tGs (c : Cc) (m : Gsv) (vs : List Nat) : TGs := fun v σ H Q => ∃ xs env d, StOk c xs env σ H ∧ IsDs c (hide H (Hid xs env σ)) d v ∧ WantG c vs xs env σ H Q (m d env)
theorem PG.imp {X : Cx} {e : Expr} {t t' : TG} (h : PG X e t) (k : ∀ v σ H Q, t' v σ H Q → t v σ H Q) : PG X e t' := ⟨fun pins s σ H v u Q I r w => h.run pins s σ H v u Q I r (k _ _ _ _ w)⟩
theorem PGs.imp {X : Cx} {e : List Expr} {t t' : TGs} (h : PGs X e t) (k : ∀ v σ H Q, t' v σ H Q → t v σ H Q) : PGs X e t' := ⟨fun pins s σ H v u Q I r w => h.run pins s σ H v u Q I r (k _ _ _ _ w)⟩
abbrev DG (X : Cx) (g : Ce) (vs : List Nat) (e : Expr) (m : Gv) : Prop := PG X e (tG (cc X g) m vs)
abbrev DGs (X : Cx) (g : Ce) (vs : List Nat) (e : List Expr) (m : Gsv) : Prop := PGs X e (tGs (cc X g) m vs)
theorem Kept.smH {xs : Addr → Prop} {env env' : En} {σ σ' : St} {H H' : Hp} (q : Kept env σ H env' σ' H') : Same (hide H (Hid xs env σ)) (hide H' (Hid xs env' σ')) := fun b o h => by
  obtain ⟨h1, h2⟩ := hide_some h
  have h3 := q.sm b o (by rw [hide_of fun z => h1 (.inl z)]; exact h2)
  obtain ⟨h4, h5⟩ := hide_some h3
  rw [hide_of fun z => z.elim h4 fun z => h1 (.inr z)]
  exact h5
variable {vs : List Nat} {mg1 : Gv} {mgs : Gsv} {i : Nat}
def gSet (i : Nat) : Gv := fun d env => put i (.va d) env
theorem isOw_set_va {env : En} {i j : Nat} {d : D} (h : isOw (env.set i (.va d)) j = true) : isOw env j = true := by
  obtain ⟨e, he⟩ := of_isOw h
  by_cases hj : i = j
  · subst hj
    rw [List.getElem?_set, if_pos rfl] at he
    split at he <;> cases he
  · rw [List.getElem?_set_ne hj] at he
    exact isOw_of he
theorem g_name (h : PG X e (gName i)) (hv : i ∈ vs) : DG X g vs e (gSet i) := PG.imp h fun v σ H Q ⟨xs, env, d, S, r, w⟩ => by
  unfold gSet at w
  rcases put_cases i (.va d) env with q | ⟨q, h0⟩ <;> rw [q] at w
  · exact w.elim
  · exact w _ (S.setVa i r) (kept_set_va h0) (wipe_set hv) (wipeE_set hv) fun j z => isOw_set_va z
def gsNil : Gsv := fun ds env => match ds with
  | [] => .ok env
  | _ => stuck
def gsCons (m : Gv) (ms : Gsv) : Gsv := fun ds env => match ds with
  | d :: r => bnd (m d env) fun env1 => ms r env1
  | [] => stuck
theorem g_nil : DGs X g vs [] gsNil := PGs.imp pgs_nil fun v σ H Q ⟨xs, env, ds, S, r, w⟩ => by
  cases ds with
  | nil => unfold IsDs at r; exact ⟨r, w σ S .refl rfl rfl fun _ z => z⟩
  | cons _ _ => exact w.elim
theorem g_cons (h1 : DG X g vs e mg1) (h2 : DGs X g vs es mgs) (hs : (assignEach (e :: es) X.env).map (·.2) = assign e X.env :: (assignEach es X.env).map (·.2) := by rfl) : DGs X g vs (e :: es) (gsCons mg1 mgs) :=
  PGs.imp (pgs_cons h1 h2 hs) fun v σ H Q ⟨xs, env, ds, S, r, w⟩ => by
    cases ds with
    | nil => exact w.elim
    | cons d ds =>
      unfold IsDs at r
      obtain ⟨v1, vr, e1, r1, r2⟩ := r
      refine ⟨v1, vr, e1, xs, env, d, S, r1, ?_⟩
      have w' : WantG (cc X g) vs xs env σ H Q (bnd (mg1 d env) fun env1 => mgs ds env1) := w
      cases q : mg1 d env with
      | error x => rw [q] at w'; exact w'.elim
      | ok env1 =>
        rw [q] at w'
        intro σ1 S1 k1 a1 b1 c1
        refine ⟨xs, env1, ds, S1, r2.same k1.smH, ?_⟩
        dsimp only [bnd] at w'
        cases q2 : mgs ds env1 with
        | error x => rw [q2] at w'; exact w'.elim
        | ok env2 =>
          rw [q2] at w'
          exact fun σ2 S2 k2 a2 b2 c2 => w' σ2 S2 (k1.trans k2) (a2.trans a1) (b2.trans b1) fun j z => c1 j (c2 j z)
def gTupD (ms : Gsv) : Gv := fun d env => match d with
  | .tup ds => ms ds env
  | _ => stuck
def lenOf (n : Nat) (ms : Gsv) : Gsv := fun ds env => if ds.length = n then ms ds env else stuck
theorem g_tup {kk : Nat} (hc : X.calm = true) (h : DGs X g vs es mgs) (hst : (assignEach es X.env).findIdx? (·.1) = none := by rfl) (hl : (assignEach es X.env).length = es.length := by rfl) : DG X g vs (.Tuple es kk pos) (gTupD (lenOf es.length mgs)) :=
  PG.imp (pg_tup hc h hl hst) fun v σ H Q ⟨xs, env, d, S, r, w⟩ => by
    unfold gTupD at w
    split at w
    · rename_i ds
      unfold IsD at r
      obtain ⟨a, ws, e1, e2, e3⟩ := r
      unfold lenOf at w
      split at w
      · rename_i hz
        exact ⟨a, ws, e1, SqT.hid e2, by rw [← e3.len]; exact hz, xs, env, ds, S, e3, w⟩
      · exact w.elim
    · exact w.elim
/-- target = value -/
def sAsg (m : Ev) (mt : Gv) : Sv := fun env => bnd (m env) fun p => bnd (ns (mt p.1 p.2)) fun env' => .ok (.nx, env')
theorem s_asg (he : DE X g pu false e m W) (hg : DG X g vs tg mg1) (hs : swapsWithSole [tg] e pos.line X.env = pure false := by rfl) (hw : swappedStores [tg] e X.env = pure none := by rfl)
    (h1 : (assignEach [tg] X.env).map (·.2) = [assign tg X.env] := by rfl) : DS X g (.Assign [tg] e pos) (sAsg m mg1) W := PS.imp (ps_asg he hg hs hw h1) fun E σ H ⟨xs, env, S, w⟩ =>
  ⟨xs, env, S, WantS.bindE w fun d env' v H' e s r w' => by
    have r' : IsD (cc X g) (hide H' (Hid xs env σ)) d v := r
    rw [← s.hid] at r'
    refine ⟨xs, env', d, s.st, r', ?_⟩
    dsimp only at w'
    cases q : mg1 d env' with
    | error x =>
      rw [q] at w'
      exact w'.elim
    | ok env2 =>
      rw [q] at w'
      exact fun σ2 S2 k2 _ _ _ => w' σ2 H' S2 (s.kept.trans k2)⟩

/-! ### for -/
def forL (mt : Gv) (mb : Sv) : List D → Sv
  | [], env => .ok (.nx, env)
  | d :: r, env => bnd (ns (mt d env)) fun env1 => bnd (mb env1) fun q => match q.1 with
    | .nx => forL mt mb r q.2
    | .ct => forL mt mb r q.2
    | .bk => .ok (.nx, q.2)
    | f => .ok (f, q.2)
def sFor (mi : Iv) (mt : Gv) (mb : Sv) : Sv := fun env => bnd (mi env) fun p => forL mt mb p.1 p.2
theorem s_for (C : Cok nn X W P w K mg base N sc k false) (hi : DI X g tg pu e mi W) (hg : DG X g vs tg mg1) (hb : DSs X g sts ms W) (hs : ∀ x, foldedSetIterable e X.env x = pure x := by intro _; rfl) : DS X g (.For tg e sts [] pos) (sFor mi mg1 ms) W :=
  PS.imp (ps_for (C.own rfl) C.calm hi hg hb hs) fun E σ H ⟨xs, env, S, w⟩ => ⟨xs, env, S, WantS.bindE w fun ds env1 J H1 e s r w1 => by
    obtain ⟨G, Y, hw, hG, hY⟩ := r
    rw [← s.hid] at hG hY
    have w1 := WantS.after s.kept w1
    dsimp only at w1
    refine for_it hw (fun i σ' H' => ∃ env', StOk (cc X g) xs env' σ' H' ∧ Kept env1 σ H1 env' σ' H' ∧ WantS (cc X g) xs env' σ' H' W E (forL mg1 ms (ds.drop i) env')) ⟨env1, s.st, .refl, w1⟩ ?_ ?_ ?_
    · rintro i σ' H' _ ⟨env', S', q, _⟩
      exact hG H' (q.smH.trans hide_full)
    · rintro i x σ' H' H2 hlt ⟨env', S', q, w2⟩ y
      have hd : ds[i]? = some ds[i] := by simp [hlt]
      obtain ⟨k1, k2⟩ := hY i x H' H2 _ hd (q.smH.trans hide_full) y
      have rd := k2 (Hid xs env' σ') q.smH fun a ha => S'.hid ha
      have S2 := S'.same k1
      have kk : Kept env' σ' H' env' σ' H2 := ⟨hide_same k1, Same.th k1, fun h => ⟨h, rfl⟩, rfl⟩
      refine ⟨xs, env', ds[i], S2, rd, ?_⟩
      rw [List.drop_eq_getElem_cons hlt] at w2
      unfold forL at w2
      cases q2 : mg1 ds[i] env' with
      | error x => rw [q2] at w2; exact w2.elim
      | ok env3 =>
        rw [q2] at w2
        intro σ3 S3 k3 _ _ _
        refine ⟨xs, env3, S3, ?_⟩
        have k4 := kk.trans k3
        have w3 := WantS.after k4 w2
        simp only [ns_ok, bnd_ok] at w3
        generalize hr : ms env3 = r2 at w3 ⊢
        cases r2 with
        | error e => cases e with
          | raise kk p => exact w3
          | stuck => exact w3
        | ok p =>
          obtain ⟨fl, env4⟩ := p
          cases fl with
          | nx => exact fun σ5 H5 S5 q5 => ⟨env4, S5, q.trans (k4.trans q5), WantS.after q5 w3⟩
          | ct => exact fun σ5 H5 S5 q5 => ⟨env4, S5, q.trans (k4.trans q5), WantS.after q5 w3⟩
          | bk => exact w3
          | rt d => exact w3
          | rf d => exact w3
          | ro i => exact w3
    · rintro σ' H' ⟨env', S', q, w2⟩
      rw [List.drop_length] at w2
      exact w2 σ' H' S' .refl⟩
end
end Dn

/-! Dn12 -/
set_option Elab.async false
set_option linter.all false
set_option maxRecDepth 100000
set_option maxHeartbeats 1000000
/-! Dn12: list comprehensions. -/
namespace Dn
open PySem PySem.Spec L2
open PyProof.Rows hiding St

/-! ### slots forgotten for a while -/
theorem wipeE_get {env : En} {j : Nat} : ∀ {vs : List Nat}, (wipeE env vs)[j]? = if j ∈ vs then (env[j]?).map (fun _ => Sl.un) else env[j]?
  | [] => by simp [wipeE]
  | v :: vs => by
    unfold wipeE
    by_cases hj : v = j
    · subst hj
      rw [List.getElem?_set, if_pos rfl, if_pos List.mem_cons_self]
      have ih := wipeE_get (env := env) (j := v) (vs := vs)
      split
      · rename_i h
        have : (wipeE env vs)[v]? ≠ none := fun z => by rw [List.getElem?_eq_none_iff] at z; omega
        cases q : env[v]? with
        | none => rw [q] at ih; simp at ih; exact absurd (List.getElem?_eq_none_iff.mpr ih) this
        | some s => rfl
      · rename_i h
        have : (wipeE env vs)[v]? = none := List.getElem?_eq_none_iff.mpr (by omega)
        rw [this] at ih
        cases q : env[v]? with
        | none => rfl
        | some s =>
          rw [q] at ih
          split at ih <;> cases ih
    · rw [List.getElem?_set_ne hj, wipeE_get]
      simp only [List.mem_cons]
      by_cases hm : j ∈ vs
      · rw [if_pos hm, if_pos (.inr hm)]
      · rw [if_neg hm, if_neg fun z => z.elim (fun z => hj z.symm) hm]
theorem wipe_get {σ : St} {j : Nat} : ∀ {vs : List Nat}, (wipe σ vs)[j]? = if j ∈ vs then (σ[j]?).map (fun _ => none) else σ[j]?
  | [] => by simp [wipe]
  | v :: vs => by
    unfold wipe
    by_cases hj : v = j
    · subst hj
      rw [List.getElem?_set, if_pos rfl, if_pos List.mem_cons_self]
      have ih := wipe_get (σ := σ) (j := v) (vs := vs)
      split
      · rename_i h
        have : (wipe σ vs)[v]? ≠ none := fun z => by rw [List.getElem?_eq_none_iff] at z; omega
        cases q : σ[v]? with
        | none => rw [q] at ih; simp at ih; exact absurd (List.getElem?_eq_none_iff.mpr ih) this
        | some s => rfl
      · rename_i h
        have : (wipe σ vs)[v]? = none := List.getElem?_eq_none_iff.mpr (by omega)
        rw [this] at ih
        cases q : σ[v]? with
        | none => rfl
        | some s =>
          rw [q] at ih
          split at ih <;> cases ih
    · rw [List.getElem?_set_ne hj, wipe_get]
      simp only [List.mem_cons]
      by_cases hm : j ∈ vs
      · rw [if_pos hm, if_pos (.inr hm)]
      · rw [if_neg hm, if_neg fun z => z.elim (fun z => hj z.symm) hm]
theorem wipeE_wipeE {env : En} {vs : List Nat} : wipeE (wipeE env vs) vs = wipeE env vs := by
  apply List.ext_getElem?
  intro j
  rw [wipeE_get, wipeE_get]
  by_cases h : j ∈ vs
  · simp only [if_pos h]; cases env[j]? <;> rfl
  · simp only [if_neg h]
theorem wipe_wipe {σ : St} {vs : List Nat} : wipe (wipe σ vs) vs = wipe σ vs := by
  apply List.ext_getElem?
  intro j
  rw [wipe_get, wipe_get]
  by_cases h : j ∈ vs
  · simp only [if_pos h]; cases σ[j]? <;> rfl
  · simp only [if_neg h]
def resE (env env' : En) : List Nat → En
  | [] => env'
  | v :: vs => (resE env env' vs).set v ((env[v]?).getD .un)
theorem resE_len {env env' : En} : ∀ {vs : List Nat}, (resE env env' vs).length = env'.length
  | [] => rfl
  | v :: vs => by unfold resE; rw [List.length_set, resE_len]
theorem resE_get {env env' : En} {j : Nat} (hl : env'.length = env.length) : ∀ {vs : List Nat}, (resE env env' vs)[j]? = if j ∈ vs then env[j]? else env'[j]?
  | [] => by simp [resE]
  | v :: vs => by
    unfold resE
    by_cases hj : v = j
    · subst hj
      rw [List.getElem?_set, if_pos rfl, if_pos List.mem_cons_self, resE_len]
      split
      · rename_i h
        rw [hl] at h
        rw [List.getElem?_eq_getElem h]; rfl
      · rename_i h
        rw [List.getElem?_eq_none (by omega)]
    · rw [List.getElem?_set_ne hj, resE_get hl]
      simp only [List.mem_cons]
      by_cases hm : j ∈ vs
      · rw [if_pos hm, if_pos (.inr hm)]
      · rw [if_neg hm, if_neg fun z => z.elim (fun z => hj z.symm) hm]
theorem resE_wipe {env : En} {vs : List Nat} (hl : (wipeE env vs).length = env.length) : resE env (wipeE env vs) vs = env := by
  apply List.ext_getElem?
  intro j
  rw [resE_get hl, wipeE_get]
  by_cases h : j ∈ vs
  · simp only [if_pos h]
  · simp only [if_neg h]
theorem wipeE_len {env : En} : ∀ {vs : List Nat}, (wipeE env vs).length = env.length
  | [] => rfl
  | v :: vs => by unfold wipeE; rw [List.length_set, wipeE_len]
def noOw (env : En) (vs : List Nat) : Bool := vs.all fun j => !isOw env j
theorem noOw_of {env : En} {vs : List Nat} (h : noOw env vs = true) {j : Nat} (hj : j ∈ vs) : isOw env j = false := by
  unfold noOw at h
  rw [List.all_eq_true] at h
  simpa using h j hj
theorem isOw_get {env env' : En} {j : Nat} (h : env[j]? = env'[j]?) : isOw env j = isOw env' j := by unfold isOw; rw [h]
theorem isOw_wipe {env : En} {vs : List Nat} (no : ∀ j ∈ vs, isOw env j = false) (j : Nat) : isOw (wipeE env vs) j = isOw env j := by
  by_cases h : j ∈ vs
  · rw [no j h]
    unfold isOw
    rw [wipeE_get, if_pos h]
    cases env[j]? <;> rfl
  · exact isOw_get (by rw [wipeE_get, if_neg h])
theorem owns_blk {env env' : En} {σ σ' : St} {vs : List Nat} (no : ∀ j ∈ vs, isOw env j = false) (hA : ∀ j, isOw env' j = isOw env j) (hw : wipe σ' vs = wipe σ vs) : Owns env' σ' = Owns env σ := by
  have at_ : ∀ j, isOw env j = true → σ'[j]? = σ[j]? := fun j h => by
    have hj : j ∉ vs := fun z => by rw [no j z] at h; cases h
    have := congrArg (·[j]?) hw
    simp only [wipe_get, if_neg hj] at this
    exact this
  funext a
  apply propext
  constructor
  · rintro ⟨j, d, h1, h2⟩
    have hj := (hA j).symm.trans (isOw_of h1)
    obtain ⟨e, he⟩ := of_isOw hj
    exact ⟨j, e, he, by rw [← at_ j hj]; exact h2⟩
  · rintro ⟨j, d, h1, h2⟩
    have hj := isOw_of h1
    obtain ⟨e, he⟩ := of_isOw ((hA j).trans hj)
    exact ⟨j, e, he, by rw [at_ j hj]; exact h2⟩
section
variable {c : Cc} {xs xs' : Addr → Prop} {env env' : En} {σ σ' : St} {H H' : Hp} {vs : List Nat}
theorem StOk.wipe (S : StOk c xs env σ H) : ∀ vs : List Nat, StOk c xs (wipeE env vs) (L2.wipe σ vs) H
  | [] => S
  | v :: vs => by unfold wipeE L2.wipe; exact (StOk.wipe S vs).setUn v none
theorem StOk.lessX (h : ∀ a, xs a → xs' a) (S : StOk c xs' env σ H) : StOk c xs env σ H := by
  have sub : Same (hide H (Hid xs' env σ)) (hide H (Hid xs env σ)) := hide_sub fun a z => z.elim .inl fun z => .inr (h a z)
  exact ⟨S.len, fun a z => S.xb a (h a z), fun i d q => let ⟨v, h1, h2⟩ := S.va i d q; ⟨v, h1, h2.same sub⟩, fun i d q => let ⟨a, o, h1, h2, h3⟩ := S.ow i d q; ⟨a, o, h1, h2, h3.same sub⟩, S.inj⟩
/-- a foreign object changed -/
theorem StOk.updX (S : StOk c xs env σ H) {a : Addr} {o : HO} (h : xs a) : StOk c xs env σ (upd H a o) := by
  have hid : ∀ b u, hide H (Hid xs env σ) b = some u → hide (upd H a o) (Hid xs env σ) b = some u := fun b u hb => by
    obtain ⟨h1, h2⟩ := hide_some hb
    rw [hide_of h1, upd_ne fun z : b = a => h1 (.inr (by rw [z]; exact h))]
    exact h2
  refine ⟨S.len, fun b hb => ⟨fun z => ?_, (S.xb b hb).2⟩, fun i d q => let ⟨v, h1, h2⟩ := S.va i d q; ⟨v, h1, h2.same hid⟩, fun i d q => ?_, S.inj⟩
  · by_cases e : b = a
    · subst e; rw [upd_same] at z; cases z
    · rw [upd_ne e] at z; exact (S.xb b hb).1 z
  · obtain ⟨b, u, h1, h2, h3⟩ := S.ow i d q
    have ne : b ≠ a := fun z => (S.xb a h).2 ⟨i, d, q, z ▸ h1⟩
    exact ⟨b, u, h1, by rw [upd_ne ne]; exact h2, h3.same hid⟩
/-- the slots given back -/
theorem StOk.res (S : StOk c xs env σ H) (S' : StOk c xs' env' (L2.wipe σ vs) H') (no : ∀ j ∈ vs, isOw env j = false) (hl : env'.length = env.length) (hA : ∀ j, isOw env' j = isOw env j)
    (sm : Same (hide H (Hid xs env σ)) (hide H' (Hid xs' env σ))) : StOk c xs' (resE env env' vs) σ H' := by
  have hA' : ∀ j, isOw (resE env env' vs) j = isOw env j := fun j => by
    by_cases h : j ∈ vs
    · exact isOw_get (by rw [resE_get hl, if_pos h])
    · exact (isOw_get (by rw [resE_get hl, if_neg h])).trans (hA j)
  have o1 : Owns (resE env env' vs) σ = Owns env σ := owns_shape hA'
  have o2 : Owns env' (L2.wipe σ vs) = Owns env σ := owns_blk no hA wipe_wipe
  have hh : Hid xs' (resE env env' vs) σ = Hid xs' env' (L2.wipe σ vs) := by funext a; unfold Hid; rw [o1, o2]
  have h3 : Hid xs' (resE env env' vs) σ = Hid xs' env σ := by funext a; unfold Hid; rw [o1]
  have out : ∀ {i d}, (resE env env' vs)[i]? = some (Sl.ow d) → i ∉ vs ∧ env'[i]? = some (Sl.ow d) := fun {i d} q => by
    by_cases h : i ∈ vs
    · rw [resE_get hl, if_pos h] at q
      have := no i h
      rw [isOw_of q] at this; cases this
    · rw [resE_get hl, if_neg h] at q
      exact ⟨h, q⟩
  have at_ : ∀ {i}, i ∉ vs → (L2.wipe σ vs)[i]? = σ[i]? := fun {i} h => by rw [wipe_get, if_neg h]
  refine ⟨by rw [resE_len, hl, S.len], fun a h => ⟨(S'.xb a h).1, fun z => (S'.xb a h).2 (by rw [o2, ← o1]; exact z)⟩, fun i d q => ?_, fun i d q => ?_, fun i j d e a h1 h2 q1 q2 => ?_⟩
  · by_cases h : i ∈ vs
    · rw [resE_get hl, if_pos h] at q
      obtain ⟨v, h1, h2⟩ := S.va i d q
      rw [h3]
      exact ⟨v, h1, h2.same sm⟩
    · rw [resE_get hl, if_neg h] at q
      obtain ⟨v, h1, h2⟩ := S'.va i d q
      rw [hh]
      exact ⟨v, by rw [← at_ h]; exact h1, h2⟩
  · obtain ⟨h, q'⟩ := out q
    obtain ⟨a, o, h1, h2, h3⟩ := S'.ow i d q'
    rw [hh]
    exact ⟨a, o, by rw [← at_ h]; exact h1, h2, h3⟩
  · obtain ⟨n1, h1⟩ := out h1
    obtain ⟨n2, h2⟩ := out h2
    exact S'.inj i j d e a h1 h2 (by rw [at_ n1]; exact q1) (by rw [at_ n2]; exact q2)
end

/-! ### the comprehension -/
def lcL (mt : Gv) (tt : Tv) (te : Ev) (vs : List Nat) : List D → En → M (List D × En)
  | [], env => .ok ([], env)
  | d :: r, env => bnd (mt d env) fun env1 => bnd (tt env1) fun p => if p.1 = true then bnd (te p.2) fun q => bnd (lcL mt tt te vs r (wipeE q.2 vs)) fun z => .ok (q.1 :: z.1, z.2) else lcL mt tt te vs r (wipeE p.2 vs)
def dLc (mi : Iv) (mt : Gv) (tt : Tv) (te : Ev) (vs : List Nat) : Ev := fun env => bnd (mi env) fun p => if noOw p.2 vs = true then bnd (ns (lcL mt tt te vs p.1 (wipeE p.2 vs))) fun q => if q.1.length ≤ maxSeq then .ok (.lst q.1, resE p.2 q.2 vs) else stuck else stuck
def dYes : Tv := fun env => .ok (true, env)
abbrev W0 : WX := fun _ _ _ _ => False
section
variable {X : Cx} {g : Ce} {W : WX} {pu pu1 pu2 : Bool} {e elt tg iter : Expr} {ifs : List Expr} {scope : Scope} {own : List (Str × Nat)} {pos : Pos} {mi : Iv} {mt : Gv} {tt : Tv} {me : Ev} {vs : List Nat}
theorem t_lc {σ : St} {H : Hp} {Q : VK} (h : tF (cc X g) (pu && (pu1 && pu2)) (dLc mi mt tt me vs) W σ H Q) : tLc (tI (cc X g) pu mi W) (tG (cc X g) mt vs) (tT (cc X g) pu1 tt W0) (tE (cc X g) pu2 false me W0) vs σ H Q := by
  obtain ⟨xs, env, S, w⟩ := h
  refine ⟨xs, env, S, w.bind fun ds env1 J H1 e1 s r w1 => ?_⟩
  intro A hA
  dsimp only at w1
  split at w1
  case isFalse => exact w1.elim
  rename_i hno
  have no : ∀ j ∈ vs, isOw env1 j = false := fun j hj => noOw_of hno hj
  cases qf : lcL mt tt me vs ds (wipeE env1 vs) with
  | error x => rw [qf] at w1; exact w1.elim
  | ok pf =>
  obtain ⟨total, envF⟩ := pf
  rw [qf] at w1
  simp only [ns_ok, bnd_ok] at w1
  split at w1
  case isFalse => exact w1.elim
  rename_i hsz
  have hA0 : H A = none := s.free S hA
  obtain ⟨G, Y, hw, hG, hY⟩ := r
  rw [← s.hid] at hG hY
  -- what stands through the loop
  have hS1 : StOk (cc X g) (fun b => xs b ∨ b = A) env1 σ (upd H1 A (.lst [])) := s.st.newX (same_new hA) hA upd_same
  have eqO : ∀ {env' σ'}, (∀ j, isOw env' j = isOw env1 j) → wipe σ' vs = wipe σ vs → Owns env' σ' = Owns env1 σ := fun a b => owns_blk no a b
  refine lc_it hw (fun i H2 => ∃ env2 accD acc rest, StOk (cc X g) (fun b => xs b ∨ b = A) env2 (wipe σ vs) H2 ∧ env2.length = env1.length ∧ (∀ j, isOw env2 j = isOw env1 j) ∧ H2 A = some (.lst acc) ∧
    IsDs (cc X g) (hide H2 (fun b => Owns env1 σ b ∨ (xs b ∨ b = A))) accD acc ∧ Same (hide H1 (Owns env1 σ)) (hide H2 (Owns env1 σ)) ∧ ((pu && (pu1 && pu2)) = true → env2 = wipeE env1 vs ∧ Same H1 H2) ∧
    lcL mt tt me vs (ds.drop i) env2 = .ok (rest, envF) ∧ accD ++ rest = total) ?_ ?_ ?_ ?_
  · refine ⟨wipeE env1 vs, [], [], total, hS1.wipe vs, wipeE_len, isOw_wipe no, upd_same, IsDs.nil, hide_same (same_new hA), fun _ => ⟨rfl, same_new hA⟩, qf, rfl⟩
  · rintro i H2 _ ⟨env2, accD, acc, rest, S2, hl, hA2, hD, hacc, sm, hp, hr, ht⟩
    refine hG H2 fun b o hb => ?_
    obtain ⟨h1, h2⟩ := hide_some hb
    exact (hide_some (sm b o (by rw [hide_of fun z => h1 (.inl z)]; exact h2))).2
  · rintro i x H2 H3 hlt ⟨env2, accD, acc, rest, S2, hl, hA2, hD, hacc, sm, hp, hr, ht⟩ y
    have o2 : Owns env2 (wipe σ vs) = Owns env1 σ := eqO hA2 wipe_wipe
    have hid2 : Hid (fun b => xs b ∨ b = A) env2 (wipe σ vs) = fun b => Owns env1 σ b ∨ (xs b ∨ b = A) := by funext b; unfold Hid; rw [o2]
    have up : Same (hide H1 (Hid xs env1 σ)) (hide H2 (Hid (fun b => xs b ∨ b = A) env2 (wipe σ vs))) := fun b o hb => by
      obtain ⟨h1, h2⟩ := hide_some hb
      have h3 := (hide_some (sm b o (by rw [hide_of fun z => h1 (.inl z)]; exact h2))).2
      rw [hid2, hide_of fun z => z.elim (fun z => h1 (.inl z)) fun z => z.elim (fun z => h1 (.inr z)) (ne_of_none h2 hA)]
      exact h3
    have hd : ds[i]? = some ds[i] := by simp [hlt]
    obtain ⟨k1, k2⟩ := hY i x H2 H3 _ hd (up.trans hide_full) y
    have rd := k2 _ up fun a ha => S2.hid ha
    have S3 := S2.same k1
    refine ⟨_, env2, ds[i], S3, rd, ?_⟩
    rw [List.drop_eq_getElem_cons hlt] at hr
    unfold lcL at hr
    cases q2 : mt ds[i] env2 with
    | error z => rw [q2] at hr; cases hr
    | ok env3 =>
    rw [q2] at hr
    simp only [bnd_ok] at hr
    intro σ3 S4 k3 hw3 hwE how
    have hw3' : wipe σ3 vs = wipe σ vs := hw3.trans wipe_wipe
    have hA3 : ∀ j, isOw env3 j = isOw env1 j := fun j => by
      cases q : isOw env1 j with
      | true =>
        have hj : j ∉ vs := fun z => by rw [no j z] at q; cases q
        have := congrArg (·[j]?) hwE
        simp only [wipeE_get, if_neg hj] at this
        rw [isOw_get this, hA2 j, q]
      | false =>
        cases q3 : isOw env3 j with
        | false => rfl
        | true => have := how j q3; rw [hA2 j, q] at this; cases this
    have o3 : Owns env3 σ3 = Owns env1 σ := eqO hA3 hw3'
    refine ⟨hw3', _, env3, S4, ?_⟩
    cases q4 : tt env3 with
    | error z => rw [q4] at hr; cases hr
    | ok p4 =>
    obtain ⟨b4, env4⟩ := p4
    rw [q4] at hr
    simp only [bnd_ok] at hr
    intro b H4 s4 hb
    subst hb
    have D4 : H4 A = some (.lst acc) := by
      have h3 : H3 A = some (.lst acc) := k1 _ _ hD
      have na : ¬ Owns env3 σ3 A := fun z => (S4.xb A (.inr rfl)).2 z
      exact (hide_some (s4.sm A _ (by rw [hide_of na]; exact h3))).2
    have o4 : Owns env4 σ3 = Owns env1 σ := s4.own.trans o3
    have sm4 : Same (hide H1 (Owns env1 σ)) (hide H4 (Owns env1 σ)) := sm.trans ((hide_same k1).trans (by have := s4.sm; rw [o3] at this; exact this))
    have acc4 : IsDs (cc X g) (hide H4 (fun b => Owns env1 σ b ∨ (xs b ∨ b = A))) accD acc := by
      refine hacc.same (Same.trans (hide_same k1) ?_)
      have := s4.smH
      unfold Hid at this
      rw [o3] at this
      exact this
    have len3 : env3.length = env1.length := by rw [S4.len, ← wipe_length σ3 vs, hw3', wipe_length, ← s.st.len]
    have len4 : env4.length = env1.length := by rw [s4.st.len, ← wipe_length σ3 vs, hw3', wipe_length, ← s.st.len]
    cases b with
    | false =>
      rw [if_neg Bool.false_ne_true] at hr
      rw [if_neg Bool.false_ne_true]
      have S5 := s4.st.wipe vs
      rw [hw3'] at S5
      refine ⟨wipeE env4 vs, accD, acc, rest, S5, by rw [wipeE_len]; exact len4, fun j => ?_, D4, acc4, sm4, fun hpu => ?_, hr, ht⟩
      · rw [isOw_wipe (fun j hj => by rw [s4.shp, hA3, no j hj]), s4.shp, hA3]
      · obtain ⟨p1, p2⟩ := hp hpu
        have : pu1 = true := by simp only [Bool.and_eq_true] at hpu; exact hpu.2.1
        obtain ⟨r1, r2⟩ := s4.pr this
        refine ⟨?_, p2.trans (k1.trans r2)⟩
        rw [r1, hwE, p1, wipeE_wipeE]
    | true =>
      rw [if_pos rfl] at hr
      rw [if_pos rfl]
      refine ⟨_, env4, s4.st, ?_⟩
      cases q5 : me env4 with
      | error z => rw [q5] at hr; cases hr
      | ok p5 =>
      obtain ⟨d5, env5⟩ := p5
      rw [q5] at hr
      simp only [bnd_ok] at hr
      cases q6 : lcL mt tt me vs (ds.drop (i + 1)) (wipeE env5 vs) with
      | error z => rw [q6] at hr; cases hr
      | ok p6 =>
      obtain ⟨r6, env6⟩ := p6
      rw [q6] at hr
      simp only [bnd_ok, Except.ok.injEq, Prod.mk.injEq] at hr
      obtain ⟨hr1, hr2⟩ := hr
      subst hr1 hr2
      intro v5 H5 s5 r5
      have D5 : H5 A = some (.lst acc) := by
        have na : ¬ Owns env4 σ3 A := fun z => (s4.st.xb A (.inr rfl)).2 z
        exact (hide_some (s5.sm A _ (by rw [hide_of na]; exact D4))).2
      have hzl : acc.length < sizeLine := by
        rw [← hacc.len]
        have := congrArg List.length ht
        rw [List.length_append, List.length_cons] at this
        have h2 : sizeLine = maxSeq := maxSeq_eq
        omega
      refine ⟨acc, D5, hzl, ?_⟩
      have o5 : Owns env5 σ3 = Owns env1 σ := s5.own.trans o4
      have acc5 : IsDs (cc X g) (hide H5 (fun b => Owns env1 σ b ∨ (xs b ∨ b = A))) accD acc := by
        refine acc4.same ?_
        have := s5.smH
        unfold Hid at this
        rw [o4] at this
        exact this
      have r5' : IsD (cc X g) (hide H5 (fun b => Owns env1 σ b ∨ (xs b ∨ b = A))) d5 v5 := by
        have : IsD (cc X g) (hide H5 (Hid (fun b => xs b ∨ b = A) env4 σ3)) d5 v5 := r5
        unfold Hid at this
        rw [o4] at this
        exact this
      have kU : Same (hide H5 (fun b => Owns env1 σ b ∨ (xs b ∨ b = A))) (hide (upd H5 A (.lst (acc ++ [v5]))) (fun b => Owns env1 σ b ∨ (xs b ∨ b = A))) := fun b o hb => by
        obtain ⟨h1, h2⟩ := hide_some hb
        rw [hide_of h1, upd_ne fun z => h1 (.inr (.inr z))]
        exact h2
      have S6 := (s5.st.updX (o := .lst (acc ++ [v5])) (a := A) (.inr rfl)).wipe vs
      rw [hw3'] at S6
      have hno5 : ∀ j ∈ vs, isOw env5 j = false := fun j hj => by rw [s5.shp, s4.shp, hA3, no j hj]
      have nA : ∀ {b o}, H1 b = some o → b ≠ A := fun h => ne_of_none h hA
      refine ⟨wipeE env5 vs, accD ++ [d5], acc ++ [v5], r6, S6, by rw [wipeE_len, s5.st.len, ← wipe_length σ3 vs, hw3', wipe_length, ← s.st.len], fun j => ?_, upd_same, IsDs.append (acc5.same kU) (IsDs.cons (r5'.same kU) IsDs.nil), fun b o hb => ?_, fun hpu => ?_, q6, by rw [List.append_assoc]; exact ht⟩
      · rw [isOw_wipe hno5, s5.shp, s4.shp, hA3]
      · have h1 := (sm4.trans (by have := s5.sm; rw [o4] at this; exact this)) b o hb
        obtain ⟨h2, h3⟩ := hide_some h1
        rw [hide_of h2, upd_ne (nA (hide_some hb).2)]
        exact h3
      · obtain ⟨p1, p2⟩ := hp hpu
        have h1 : pu1 = true := by simp only [Bool.and_eq_true] at hpu; exact hpu.2.1
        have h2 : pu2 = true := by simp only [Bool.and_eq_true] at hpu; exact hpu.2.2
        obtain ⟨r1, r2⟩ := s4.pr h1
        obtain ⟨r3, r4⟩ := s5.pr h2
        refine ⟨by rw [r3, r1, hwE, p1, wipeE_wipeE], fun b o hb => ?_⟩
        rw [upd_ne (nA hb)]
        exact r4 _ _ (r2 _ _ (k1 _ _ (p2 _ _ hb)))
  · rintro H2 ⟨env2, accD, acc, rest, S2, hl, hA2, hD, hacc, sm, hp, hr, ht⟩
    rw [List.drop_length] at hr
    unfold lcL at hr
    simp only [Except.ok.injEq, Prod.mk.injEq] at hr
    obtain ⟨hr1, hr2⟩ := hr
    subst hr1 hr2
    rw [List.append_nil] at ht
    subst ht
    have SX : StOk (cc X g) (fun b => xs b ∨ b = A) (resE env1 env2 vs) σ H2 := by
      refine StOk.res s.st S2 no hl hA2 fun b o hb => ?_
      obtain ⟨h1, h2⟩ := hide_some hb
      have h3 := (hide_some (sm b o (by rw [hide_of fun z => h1 (.inl z)]; exact h2))).2
      rw [hide_of fun z => z.elim (fun z => h1 (.inl z)) fun z => z.elim (fun z => h1 (.inr z)) (ne_of_none h2 hA)]
      exact h3
    have shpR : ∀ j, isOw (resE env1 env2 vs) j = isOw env1 j := fun j => by
      by_cases h : j ∈ vs
      · exact isOw_get (by rw [resE_get hl, if_pos h])
      · exact (isOw_get (by rw [resE_get hl, if_neg h])).trans (hA2 j)
    have oR : Owns (resE env1 env2 vs) σ = Owns env1 σ := owns_shape shpR
    refine w1 (.ref A) H2 ⟨SX.lessX fun a h => .inl h, fun j => (shpR j).trans (s.shp j), s.sm.trans (by rw [← s.own]; exact sm), fun hpu => ?_⟩ ⟨A, .lst acc, rfl, hA0, hD, SX, acc, rfl, ?_⟩
    · obtain ⟨p1, p2⟩ := hp hpu
      have h1 : pu = true := by simp only [Bool.and_eq_true] at hpu; exact hpu.1
      obtain ⟨r1, r2⟩ := s.pr h1
      refine ⟨?_, r2.trans p2⟩
      rw [p1, resE_wipe wipeE_len, r1]
    · refine hacc.same (hide_sub fun b z => ?_)
      unfold Hid at z
      rw [oR] at z
      rcases z with (z | z) | z
      · exact .inl z
      · exact .inr (.inl z)
      · exact .inr (.inr z)
end
end Dn

/-! Dn13 -/
set_option Elab.async false
set_option linter.all false
set_option maxRecDepth 100000
set_option maxHeartbeats 1000000
/-! Dn13: a comprehension's block; the rules. -/
namespace Dn
open PySem PySem.Spec L2
open PyProof.Rows hiding St

section
variable {X : Cx} {P : Program} {w : World} {K : PySem.W.Frag} {mg : Str → Option Value} {base : Heap} {N : List Str} {sc : Scope} {k : Nat} {bk nn : Bool} {g : Ce} {W : WX}
variable {pu pu1 pu2 : Bool} {e elt tg iter c1 : Expr} {ifs : List Expr} {scope : Scope} {own : List (Str × Nat)} {pos p pos' : Pos} {mi : Iv} {mt : Gv} {tt : Tv} {me : Ev} {vs : List Nat} {x : Str} {i : Nat}
theorem Cok.blk (C : Cok nn X W P w K mg base N sc k bk) (s : Shared) (H : Hp) (scope : Scope) (A : Addr) (cl : List (Str × Addr)) (fp : List Addr) : Cok nn (X.blk s H scope (compEnvC scope cl A X.env) fp) W0 P w K mg base N (relS scope sc) k true where
  eP := C.eP
  ew := C.ew
  eK := C.eK
  em := C.em
  eb := C.eb
  eN := C.eN
  es := by have := C.es; subst this; rfl
  calm := C.calm
  room := C.room
  nd := C.nd
  fn := fun z => nomatch z
  tk := by cases nn <;> (intro _ _ x; obtain ⟨_, _, _, _, _, _, _, _, _, _, _, _, _, _, _, _, z⟩ := x; exact z.elim)
  own := fun z => nomatch z
  sf := fun z => nomatch z
/-- a target's name within a block -/
def tgB (sc scope : Scope) (x : Str) : Bool := match (relS scope sc).names.lookup x with
  | some .local => true
  | some .cell => scope.names.lookup x == some .cell
  | _ => false
theorem n_tg (C : Cok nn X W P w K mg base N sc k bk) (s : Shared) (H : Hp) (A : Addr) (cl : List (Str × Addr)) (fp : List Addr) (i : Nat) (hi : N[i]? = some x) (hv : tgB sc scope x = true) : PG (X.blk s H scope (compEnvC scope cl A X.env) fp) (.Name x pos) (gName i) := by
  have B := C.blk s H scope A cl fp
  unfold tgB at hv
  split at hv
  · rename_i q
    exact pg_name (by rw [B.eN]; exact C.nd) (by rw [B.eN]; exact hi) (by rw [B.es]; exact .inl q) (.inr (by rw [B.es]; exact q))
  · rename_i q
    exact pg_name (by rw [B.eN]; exact C.nd) (by rw [B.eN]; exact hi) (by rw [B.es]; exact .inr q) (.inl hv)
  · cases hv
abbrev DC (X : Cx) (g : Ce) (pu : Bool) (es : List Expr) (t : Tv) : Prop := PTs X es (tT (cc X g) pu t W0)
theorem PTs.imp {X : Cx} {e : List Expr} {t t' : TT} (h : PTs X e t) (k : ∀ σ H Q, t' σ H Q → t σ H Q) : PTs X e t' := ⟨fun pins s σ H Q I w => h.run pins s σ H Q I (k _ _ _ w)⟩
theorem c_nil : DC X g true [] dYes := PTs.imp pts_nil fun σ H Q ⟨xs, env, S, w⟩ => w true H (.refl S) rfl
theorem c_one (h : DT X g pu e tt W0) : DC X g pu [e] tt := pts_one h
theorem blk_ok (C : Cok nn X W P w K mg base N sc k bk) (h : blkC N sc scope own = true) : BlkOk X.N X.env.scope scope own := by
  rw [C.eN, C.es]; exact blkOk_by h
abbrev AllB (X : Cx) (scope : Scope) (φ : Cx → Prop) : Prop := ∀ (s : Shared) (H : Hp) (A : Addr) (cl : List (Str × Addr)) (fp : List Addr), φ (X.blk s H scope (compEnvC scope cl A X.env) fp)
theorem f_lc (C : Cok nn X W P w K mg base N sc k bk) (own : List (Str × Nat)) (ok : blkC N sc scope own = true) (hi : DI X g tg pu iter mi W) (hg : AllB X scope fun X' => DG X' g (own.map (·.2)) tg mt) (ht : AllB X scope fun X' => DC X' g pu1 ifs tt) (he : AllB X scope fun X' => DE X' g pu2 false elt me W0)
    (hs : ∀ x, foldedSetIterable iter X.env x = pure x := by intro _; rfl) : DF X g (pu && (pu1 && pu2)) (.ListComp elt [⟨tg, iter, ifs, 0⟩] scope pos) (dLc mi mt tt me (own.map (·.2))) W :=
  PE.imp (pe_lc C.calm (by rw [C.eN]; exact C.nd) hi (blk_ok C ok) hg ht he hs) fun σ H Q h => t_lc h
/-- y = [..] on one line: does the model swap -/
def swB (sc scope : Scope) (y : Str) (l l' : Nat) : Bool := (sc.names.lookup y == some .local && l == l') && !(scope.names.any fun (n, k) => n == y && (k == .local || k == .cell))
theorem sw_eq (C : Cok nn X W P w K mg base N sc k bk) {gs : List Comprehension} {l : Nat} (h : swB sc scope x p.line pos.line = false) : swapsWith (.ListComp elt gs scope pos) (some (.Name x p)) l X.env = pure false := by
  have e : swapsWith (.ListComp elt gs scope pos) (some (.Name x p)) l X.env = pure (X.env.blockKind == .function && X.env.kindOf x == some .local && p.line == pos.line && !(scope.names.any fun (n, k) => n == x && (k == .local || k == .cell))) := rfl
  have e2 : X.env.kindOf x = sc.names.lookup x := by have := C.es; subst this; rfl
  rw [e, e2, Bool.and_assoc (X.env.blockKind == .function), Bool.and_assoc (X.env.blockKind == .function)]
  unfold swB at h
  rw [h, Bool.and_false]
theorem sw_eqT (C : Cok nn X W P w K mg base N sc k bk) (hk : (match sc.kind with | .function => true | _ => false) = true) {gs : List Comprehension} {l : Nat} (h : swB sc scope x p.line pos.line = true) : swapsWith (.ListComp elt gs scope pos) (some (.Name x p)) l X.env = pure true := by
  have es := C.es
  unfold swB at h
  simp only [Bool.and_eq_true, Bool.not_eq_true', beq_iff_eq] at h
  obtain ⟨⟨h1, h2⟩, h3⟩ := h
  have h0 : sc.kind = .function := by
    split at hk
    · assumption
    · cases hk
  exact sw_true (by rw [es]; exact h0) (by rw [es]; exact h1) (by rw [h2]; exact beq_self_eq_true _) h3
theorem swB_loc {l l' : Nat} (h : swB sc scope x l l' = true) : sc.names.lookup x = some .local := by
  unfold swB at h
  simp only [Bool.and_eq_true, Bool.not_eq_true', beq_iff_eq] at h
  exact h.1.1
/-- the store of a comprehension, swapped or not -/
theorem setLc_pe (C : Cok nn X W P w K mg base N sc k false) (own : List (Str × Nat)) (ok : blkC N sc scope own = true) (hk : (match sc.kind with | .function => true | _ => false) = true) (i : Nat) (hx : N[i]? = some x) (hl : locB sc x = true) (hi : DI X g tg pu iter mi W) (hg : AllB X scope fun X' => DG X' g (own.map (·.2)) tg mt) (ht : AllB X scope fun X' => DC X' g pu1 ifs tt) (he : AllB X scope fun X' => DE X' g pu2 false elt me W0)
    (hs : ∀ x, foldedSetIterable iter X.env x = pure x) : PS X (.Assign [.Name x p] (.ListComp elt [⟨tg, iter, ifs, 0⟩] scope pos) pos') (tAsg (tLc (tI (cc X g) pu mi W) (tG (cc X g) mt (own.map (·.2))) (tT (cc X g) pu1 tt W0) (tE (cc X g) pu2 false me W0) (own.map (·.2))) (gName i)) := by
  cases h : swB sc scope x p.line pos.line with
  | true => exact ps_setLc C.calm (by rw [C.eN]; exact C.nd) (by rw [C.eN]; exact hx) (by rw [C.es]; exact swB_loc h) (sw_eqT C hk h) hi (blk_ok C ok) hg ht he hs
  | false => exact set_pe C i hx hl (pe_lc C.calm (by rw [C.eN]; exact C.nd) hi (blk_ok C ok) hg ht he hs) (sw_eq C h)
theorem s_setLc (C : Cok nn X W P w K mg base N sc k false) (own : List (Str × Nat)) (ok : blkC N sc scope own = true) (hk : (match sc.kind with | .function => true | _ => false) = true) (i : Nat) (hx : N[i]? = some x) (hl : locB sc x = true) (hi : DI X g tg pu iter mi W) (hg : AllB X scope fun X' => DG X' g (own.map (·.2)) tg mt) (ht : AllB X scope fun X' => DC X' g pu1 ifs tt) (he : AllB X scope fun X' => DE X' g pu2 false elt me W0)
    (hs : ∀ x, foldedSetIterable iter X.env x = pure x := by intro _; rfl) : DS X g (.Assign [.Name x p] (.ListComp elt [⟨tg, iter, ifs, 0⟩] scope pos) pos') (sSet i (dLc mi mt tt me (own.map (·.2)))) W :=
  PS.imp (setLc_pe C own ok hk i hx hl hi hg ht he hs) fun E σ H h => by
    obtain ⟨xs, env, S, w⟩ := h
    exact t_lc (W := W) ⟨xs, env, S, WantS.bindE w fun d env' v H' e s r w' => by
      obtain ⟨a, o, rfl, n, h1, _, h2⟩ := r
      rw [s.hid] at h2
      have r' : IsD (cc X g) (hide H' (Hid xs env σ)) d (.ref a) := h2.isD h1 (S.newHid n)
      rw [← s.hid] at r'
      dsimp only at w'
      rcases put_cases i (.va d) env' with q | ⟨q, h0⟩ <;> rw [q] at w'
      · exact w'.elim
      · exact w' _ H' (s.st.setVa i r') (kept_va s h0)⟩
theorem s_setOLc (C : Cok nn X W P w K mg base N sc k false) (own : List (Str × Nat)) (ok : blkC N sc scope own = true) (hk : (match sc.kind with | .function => true | _ => false) = true) (i : Nat) (hx : N[i]? = some x) (hl : locB sc x = true) (hi : DI X g tg pu iter mi W) (hg : AllB X scope fun X' => DG X' g (own.map (·.2)) tg mt) (ht : AllB X scope fun X' => DC X' g pu1 ifs tt) (he : AllB X scope fun X' => DE X' g pu2 false elt me W0)
    (hs : ∀ x, foldedSetIterable iter X.env x = pure x := by intro _; rfl) : DS X g (.Assign [.Name x p] (.ListComp elt [⟨tg, iter, ifs, 0⟩] scope pos) pos') (sSetO i (dLc mi mt tt me (own.map (·.2)))) W :=
  PS.imp (setLc_pe C own ok hk i hx hl hi hg ht he hs) fun E σ H h => by
    obtain ⟨xs, env, S, w⟩ := h
    exact t_lc (W := W) ⟨xs, env, S, WantS.bindE w fun d env' v H' e s r w' => by
      dsimp only at w'
      rcases put_cases i (.ow d) env' with q | ⟨q, h0⟩ <;> rw [q] at w'
      · exact w'.elim
      · obtain ⟨h1, h2⟩ := s.setOw S i h0 r
        exact w' _ H' h1 h2⟩
end
end Dn

/-! Dn14 -/
set_option Elab.async false
set_option linter.all false
set_option maxRecDepth 100000
set_option maxHeartbeats 1000000
/-! Dn14: built-ins of data. -/
namespace Dn
open PySem PySem.Spec L2
open PyProof.Rows hiding St

section
variable {X : Cx} {P : Program} {w : World} {K : PySem.W.Frag} {mg : Str → Option Value} {base : Heap} {N : List Str} {sc : Scope} {k : Nat} {bk nn : Bool} {g : Ce} {W : WX}
variable {pu pu1 pu2 sh sh1 : Bool} {e e1 a b : Expr} {es : List Expr} {pos p p2 pos' apos cpos : Pos} {m m1 m2 : Ev} {ma : Av} {shs : List Bool} {x : Str} {c : Cc} {T : String}

/-! ### isinstance with one built-in type -/
def D.ty : D → Option String
  | .non => some "NoneType"
  | .bl _ => some "bool"
  | .int _ => some "int"
  | .str _ => some "str"
  | .tup _ => some "tuple"
  | .lst _ => some "list"
  | .dct _ _ => none
  | .scr _ => some "list"
  | .fn _ => none
/-- is a value of type t one of T -/
def isTy (t T : String) : Bool := t == T || (t == "bool" && T == "int")
def dIsi (T : String) (m : Ev) : Ev := fun env => bnd (m env) fun p => match p.1.ty with
  | some t => .ok (.bl (isTy t T), p.2)
  | none => stuck
theorem RepS.ty {Z : Addr → Prop} {H : Hp} {d : D} {v : V} {t : String} (r : RepS c Z H d v) (h : d.ty = some t) : TyX c.K H v (.type t) := by
  cases d with
  | non => cases h; rw [r.non]; exact .base .non
  | bl b => cases h; rw [r.bl]; exact .base (.bl _)
  | int i => cases h; rw [r.int]; exact .base (.int _)
  | str s => cases h; rw [r.str]; exact .base (.str _)
  | tup ds =>
    cases h
    obtain ⟨a, vs, rfl, h1, _⟩ := r.tup
    rcases h1 with (h1 | ⟨o, h1⟩) | ⟨o, its, n, h1, h2, _⟩
    · exact .base (.tup h1)
    · exact .fTuple h1
    · exact .kTuple h1 h2
  | lst ds =>
    cases h
    obtain ⟨a, vs, rfl, h1, _⟩ := r.lst
    exact .base (.lst h1)
  | dct ks ws => cases h
  | scr ns =>
    cases h
    unfold RepS IsD at r
    obtain ⟨a, rfl, h1⟩ := r
    rcases h1 with (h1 | ⟨o, h1⟩) | ⟨o, its, n, h1, h2, _⟩
    · exact .base (.lst (hide_full _ _ h1))
    · exact .base (.frz (hide_full _ _ h1))
    · exact .kList h1 h2
  | fn i => cases h
def KitT (T : String) : Prop := ∀ (K : PySem.W.Frag) (d : D) (t : String), d.ty = some t → PySem.W.kitOne K (.type t) (.type T) = some (isTy t T)
theorem kitT_int : KitT "int" := fun K d t h => by cases d <;> cases h <;> rfl
theorem kitT_bool : KitT "bool" := fun K d t h => by cases d <;> cases h <;> rfl
theorem kitT_str : KitT "str" := fun K d t h => by cases d <;> cases h <;> rfl
theorem kitT_tuple : KitT "tuple" := fun K d t h => by cases d <;> cases h <;> rfl
theorem kitT_list : KitT "list" := fun K d t h => by cases d <;> cases h <;> rfl
theorem kitT_dict : KitT "dict" := fun K d t h => by cases d <;> cases h <;> rfl
theorem e_isi (kt : KitT T) (hg : Gl X "isinstance") (hm : X.mg "isinstance" = none) (hg2 : Gl X x) (hm2 : X.mg x = none) (hv : bootBuiltins x = some (.type T)) (he : DE X g pu sh e m W) (hn : x ≠ "__name__" := by decide) (hdb : (x == ("__debug__" : Str)) = false := by decide)
    (hs : starEach [e, .Name x p2] X.env = (false, eval e X.env) :: starEach [.Name x p2] X.env := by rfl) (hs2 : starEach [.Name x p2] X.env = (false, eval (.Name x p2) X.env) :: starEach [] X.env := by rfl) (hpl : (backTo pos (starEach [.Name x p2] X.env)).any (·.1) = false := by rfl) :
    DE X g pu false (.Call (.Name "isinstance" p) [e, .Name x p2] [] pos) (dIsi T m) W :=
  PE.imp (pe_callB call_isi hg hm rfl (pa_cons he (pa_cons (pe_bltn (v := .ty T) hg2 hm2 hv rfl hn hdb) pa_nil hs2) hs) (by decide) (by decide) hs hpl) fun σ H Q ⟨xs, env, S, w⟩ => ⟨xs, env, S, Want.bind w fun d env' v H' e s r w' => by
    dsimp only at w'
    split at w'
    · rename_i t ht
      exact ⟨v, .ty T, .type t, .type T, _, rfl, .ty T, RepS.ty (c := cc X g) (Rep.shell r) ht, kt _ _ _ ht, w' _ H' s (Rep.of isBl)⟩
    · exact w'.elim⟩

/-! ### built-ins by values -/
def bLen : List D → M D
  | [.lst xs] => .ok (.int xs.length)
  | [.tup xs] => .ok (.int xs.length)
  | [.scr xs] => .ok (.int xs.length)
  | [.str x] => if x.length ≤ maxSeq then .ok (.int x.length) else stuck
  | _ => stuck
theorem bLen_nr : NoRL bLen := fun ds k p h => by
  unfold bLen at h
  split at h <;> (try split at h) <;> cases h
theorem vc_len : VC c (fun xs H Q => ∃ x n, xs = [x] ∧ LenV c.K x H n ∧ Q (.int n) H) bLen := fun Z H vs ds d Q hP r e k => by
  unfold bLen at e
  split at e
  · obtain ⟨v, rfl, r1⟩ := r.one
    obtain ⟨a, ws, rfl, h1, h2⟩ := r1.lst
    cases e
    exact ⟨.ref a, ws.length, rfl, .inl ⟨ws, SqL.of h1, rfl⟩, by rw [← h2.len]; exact k _ H (Same.refl _) isInt⟩
  · obtain ⟨v, rfl, r1⟩ := r.one
    obtain ⟨a, ws, rfl, h1, h2⟩ := r1.tup
    cases e
    exact ⟨.ref a, ws.length, rfl, .inr ⟨ws, h1, rfl⟩, by rw [← h2.len]; exact k _ H (Same.refl _) isInt⟩
  · obtain ⟨v, rfl, r1⟩ := r.one
    unfold RepS IsD at r1
    obtain ⟨a, rfl, h1⟩ := r1
    cases e
    exact ⟨.ref a, _, rfl, .inl ⟨_, SqL.hid h1, rfl⟩, by rw [List.length_map]; exact k _ H (Same.refl _) isInt⟩
  · split at e
    · rename_i hz
      obtain ⟨v, rfl, r1⟩ := r.one
      rw [r1.str]
      cases e
      exact ⟨.str _, _, rfl, ⟨by rw [maxSeq_eq]; exact hz, rfl⟩, k _ H (Same.refl _) isInt⟩
    · cases e
  · cases e
def bList : List D → M D
  | [.lst xs] => .ok (.lst xs)
  | [.tup xs] => .ok (.lst xs)
  | [.scr xs] => .ok (.lst (xs.map D.int))
  | _ => stuck
theorem bList_nr : NoRL bList := fun ds k p h => by
  unfold bList at h
  split at h <;> cases h
theorem repV_lst {Z : Addr → Prop} {H : Hp} {ds : List D} {vs : List V} {p : Addr} (hp : H p = none) (r : IsDs c (hide H Z) ds vs) : RepV c Z H (upd H p (.lst vs)) (.lst ds) (.ref p) := by
  refine ⟨p, _, rfl, hp, upd_same, vs, rfl, r.same fun b o hb => ?_⟩
  obtain ⟨h1, h2⟩ := hide_some hb
  have ne : b ≠ p := ne_of_none h2 hp
  rw [hide_of fun z => z.elim h1 ne, upd_ne ne]
  exact h2
theorem vcf_list : VCF c (fun xs H Q => ∃ p ys, xs = [.ref p] ∧ (SqL c.K H p ys ∨ SqT c.K H p ys) ∧ ∀ l, H l = none → Q (.ref l) (upd H l (.lst ys))) bList := fun Z H vs ds d Q hP r e k => by
  unfold bList at e
  split at e
  · obtain ⟨v, rfl, r1⟩ := r.one
    obtain ⟨a, ws, rfl, h1, h2⟩ := r1.lst
    cases e
    exact ⟨a, ws, rfl, .inl (SqL.of h1), fun l hl => k _ _ (same_new hl) (repV_lst hl h2)⟩
  · obtain ⟨v, rfl, r1⟩ := r.one
    obtain ⟨a, ws, rfl, h1, h2⟩ := r1.tup
    cases e
    exact ⟨a, ws, rfl, .inr h1, fun l hl => k _ _ (same_new hl) (repV_lst hl h2)⟩
  · obtain ⟨v, rfl, r1⟩ := r.one
    unfold RepS IsD at r1
    obtain ⟨a, rfl, h1⟩ := r1
    cases e
    exact ⟨a, _, rfl, .inl (SqL.hid h1), fun l hl => k _ _ (same_new hl) (repV_lst hl (isDs_ints _))⟩
  · cases e
def bTuple : List D → M D
  | [.lst xs] => .ok (.tup xs)
  | [.tup xs] => .ok (.tup xs)
  | _ => stuck
theorem bTuple_nr : NoRL bTuple := fun ds k p h => by
  unfold bTuple at h
  split at h <;> cases h
theorem vc_tuple : VC c (fun xs H Q => ∃ p ys, xs = [.ref p] ∧ ((SqL c.K H p ys ∧ ∀ l, H l = none → Q (.ref l) (upd H l (.tup ys))) ∨ (SqT c.K H p ys ∧ Q (.ref p) H))) bTuple := fun Z H vs ds d Q hP r e k => by
  unfold bTuple at e
  split at e
  · obtain ⟨v, rfl, r1⟩ := r.one
    obtain ⟨a, ws, rfl, h1, h2⟩ := r1.lst
    cases e
    exact ⟨a, ws, rfl, .inl ⟨SqL.of h1, fun l hl => k _ _ (same_new hl) (isNewT hl hP h2)⟩⟩
  · obtain ⟨v, rfl, r1⟩ := r.one
    have r0 := r1
    obtain ⟨a, ws, rfl, h1, h2⟩ := r1.tup
    cases e
    exact ⟨a, ws, rfl, .inr ⟨h1, k _ H (Same.refl _) r0⟩⟩
  · cases e
def bools : List D → Option (List Bool)
  | [] => some []
  | .bl b :: r => (bools r).map (b :: ·)
  | _ => none
theorem bools_rep {H : Hp} : ∀ {ds : List D} {vs : List V} {bs : List Bool}, bools ds = some bs → IsDs c H ds vs → vs = bs.map V.bl
  | [], vs, bs, h, r => by unfold IsDs at r; cases h; exact r
  | d :: ds, vs, bs, h, r => by
    unfold IsDs at r
    obtain ⟨v, ws, rfl, h1, h2⟩ := r
    cases d <;> simp only [bools] at h <;> try (cases h; done)
    rename_i b
    cases q : bools ds with
    | none => rw [q] at h; cases h
    | some cs =>
      rw [q] at h
      cases h
      rw [bools_rep q h2]
      unfold IsD at h1
      rw [h1]; rfl
def bAll : List D → M D
  | [.lst xs] => match bools xs with
    | some bs => .ok (.bl (bs.all id))
    | none => stuck
  | _ => stuck
def bAny : List D → M D
  | [.lst xs] => match bools xs with
    | some bs => .ok (.bl (bs.any id))
    | none => stuck
  | _ => stuck
theorem bAll_nr : NoRL bAll := fun ds k p h => by
  unfold bAll at h
  split at h <;> (try split at h) <;> cases h
theorem bAny_nr : NoRL bAny := fun ds k p h => by
  unfold bAny at h
  split at h <;> (try split at h) <;> cases h
theorem vc_all : VC c (rAll c.K) bAll := fun Z H vs ds d Q hP r e k => by
  unfold bAll at e
  split at e
  · split at e
    · rename_i bs hb
      obtain ⟨v, rfl, r1⟩ := r.one
      obtain ⟨a, ws, rfl, h1, h2⟩ := r1.lst
      cases e
      exact ⟨a, bs, rfl, by rw [← bools_rep hb h2]; exact SqL.of h1, k _ H (Same.refl _) isBl⟩
    · cases e
  · cases e
theorem vc_any : VC c (rAny c.K) bAny := fun Z H vs ds d Q hP r e k => by
  unfold bAny at e
  split at e
  · split at e
    · rename_i bs hb
      obtain ⟨v, rfl, r1⟩ := r.one
      obtain ⟨a, ws, rfl, h1, h2⟩ := r1.lst
      cases e
      exact ⟨a, bs, rfl, by rw [← bools_rep hb h2]; exact SqL.of h1, k _ H (Same.refl _) isBl⟩
    · cases e
  · cases e
def intsOf : List D → Option (List Int)
  | [] => some []
  | .int i :: r => (intsOf r).map (i :: ·)
  | _ => none
theorem intsOf_rep {H : Hp} : ∀ {ds : List D} {vs : List V} {bs : List Int}, intsOf ds = some bs → IsDs c H ds vs → vs = bs.map V.int
  | [], vs, bs, h, r => by unfold IsDs at r; cases h; exact r
  | d :: ds, vs, bs, h, r => by
    unfold IsDs at r
    obtain ⟨v, ws, rfl, h1, h2⟩ := r
    cases d <;> simp only [intsOf] at h <;> try (cases h; done)
    rename_i b
    cases q : intsOf ds with
    | none => rw [q] at h; cases h
    | some cs =>
      rw [q] at h
      cases h
      rw [intsOf_rep q h2]
      unfold IsD at h1
      rw [h1]; rfl
def bAbs : List D → M D
  | [.int i] => .ok (.int (if i < 0 then -i else i))
  | _ => stuck
theorem bAbs_nr : NoRL bAbs := fun ds k p h => by
  unfold bAbs at h
  split at h <;> cases h
theorem vc_abs : VC c (fun xs H Q => ∃ i, xs = [.int i] ∧ Q (.int (if i < 0 then -i else i)) H) bAbs := fun Z H vs ds d Q hP r e k => by
  unfold bAbs at e
  split at e
  · obtain ⟨v, rfl, r1⟩ := r.one
    rw [r1.int]
    cases e
    exact ⟨_, rfl, k _ H (Same.refl _) isInt⟩
  · cases e
def bInt : List D → M D
  | [.int i] => .ok (.int i)
  | [.bl b] => .ok (.int (if b = true then 1 else 0))
  | _ => stuck
theorem bInt_nr : NoRL bInt := fun ds k p h => by
  unfold bInt at h
  split at h <;> cases h
theorem vc_int : VC c (fun xs H Q => (∃ i, xs = [.int i] ∧ Q (.int i) H) ∨ ∃ k, xs = [.bl k] ∧ Q (.int (if k then 1 else 0)) H) bInt := fun Z H vs ds d Q hP r e k => by
  unfold bInt at e
  split at e
  · obtain ⟨v, rfl, r1⟩ := r.one
    rw [r1.int]
    cases e
    exact .inl ⟨_, rfl, k _ H (Same.refl _) isInt⟩
  · obtain ⟨v, rfl, r1⟩ := r.one
    rw [r1.bl]
    cases e
    exact .inr ⟨_, rfl, k _ H (Same.refl _) isInt⟩
  · cases e
/-- the least, the greatest -/
def leastOf : List Int → Option Int
  | [] => none
  | i :: r => match leastOf r with
    | some j => some (if j < i then j else i)
    | none => some i
def mostOf : List Int → Option Int
  | [] => none
  | i :: r => match mostOf r with
    | some j => some (if i < j then j else i)
    | none => some i
theorem leastOf_le : ∀ {ns : List Int} {m : Int}, leastOf ns = some m → m ∈ ns ∧ ∀ y ∈ ns, m ≤ y
  | [], m, h => by cases h
  | i :: r, m, h => by
    unfold leastOf at h
    cases q : leastOf r with
    | none =>
      rw [q] at h; cases h
      cases r with
      | nil => simp
      | cons j r => unfold leastOf at q; split at q <;> cases q
    | some j =>
      rw [q] at h; cases h
      obtain ⟨h1, h2⟩ := leastOf_le q
      split
      · refine ⟨List.mem_cons_of_mem _ h1, fun y hy => ?_⟩
        rcases List.mem_cons.mp hy with rfl | hy
        · omega
        · exact h2 y hy
      · refine ⟨List.mem_cons_self, fun y hy => ?_⟩
        rcases List.mem_cons.mp hy with rfl | hy
        · omega
        · have := h2 y hy; omega
theorem mostOf_le : ∀ {ns : List Int} {m : Int}, mostOf ns = some m → m ∈ ns ∧ ∀ y ∈ ns, y ≤ m
  | [], m, h => by cases h
  | i :: r, m, h => by
    unfold mostOf at h
    cases q : mostOf r with
    | none =>
      rw [q] at h; cases h
      cases r with
      | nil => simp
      | cons j r => unfold mostOf at q; split at q <;> cases q
    | some j =>
      rw [q] at h; cases h
      obtain ⟨h1, h2⟩ := mostOf_le q
      split
      · refine ⟨List.mem_cons_of_mem _ h1, fun y hy => ?_⟩
        rcases List.mem_cons.mp hy with rfl | hy
        · omega
        · exact h2 y hy
      · refine ⟨List.mem_cons_self, fun y hy => ?_⟩
        rcases List.mem_cons.mp hy with rfl | hy
        · omega
        · have := h2 y hy; omega
def bMin : List D → M D
  | [.int i, .int j] => .ok (.int (if j < i then j else i))
  | [.lst xs] => match (intsOf xs).bind leastOf with
    | some m => .ok (.int m)
    | none => stuck
  | [.tup xs] => match (intsOf xs).bind leastOf with
    | some m => .ok (.int m)
    | none => stuck
  | _ => stuck
def bMax : List D → M D
  | [.int i, .int j] => .ok (.int (if j > i then j else i))
  | [.lst xs] => match (intsOf xs).bind mostOf with
    | some m => .ok (.int m)
    | none => stuck
  | [.tup xs] => match (intsOf xs).bind mostOf with
    | some m => .ok (.int m)
    | none => stuck
  | _ => stuck
def bSum : List D → M D
  | [.lst xs] => match intsOf xs with
    | some ns => .ok (.int ns.sum)
    | none => stuck
  | [.tup xs] => match intsOf xs with
    | some ns => .ok (.int ns.sum)
    | none => stuck
  | _ => stuck
theorem bMin_nr : NoRL bMin := fun ds k p h => by
  unfold bMin at h
  split at h <;> (try split at h) <;> cases h
theorem bMax_nr : NoRL bMax := fun ds k p h => by
  unfold bMax at h
  split at h <;> (try split at h) <;> cases h
theorem bSum_nr : NoRL bSum := fun ds k p h => by
  unfold bSum at h
  split at h <;> (try split at h) <;> cases h
end
end Dn

/-! Dn15 -/
set_option Elab.async false
set_option linter.all false
set_option maxRecDepth 100000
set_option maxHeartbeats 1000000
/-! Dn15: sum, min, max of tuples; enumerate over tuples. -/
namespace Dn
open PySem PySem.Spec L2
open PyProof.Rows hiding St

/-! ### walks of a tuple of ints -/
section
variable {prog : Program} {w : World} {A : Around} {E : Value → Shared → Prop} {s : Shared} {l : Addr} {xs : Array (Int × Tok)}
theorem iter_tupI {items : Array Value} {Q : Value → Shared → Prop} (hl : s.heap.IsTuple l items)
    (h : ∀ s2 : Shared, s2 = { s with heap := s.heap.push { cls := .type "tuple_iterator", data := .fields #[.ref l, .int 0 0] } } →
      (s2.heap.IsTupleIter s.heap.objs.size l 0 ∧ s2.heap.IsTuple l items) → (∀ b ∈ [s.heap.objs.size, l], b < s2.heap.objs.size) → l ≠ s.heap.objs.size → Q (.ref s.heap.objs.size) s2) :
    wpAny (model prog w) A (pyIter (.ref l)) Q E s := by
  have hlt : l < s.heap.objs.size := by obtain ⟨_, e, _⟩ := hl; exact Heap.lt_size e
  refine wpAny_pyIter_tuple hl (h _ rfl ⟨⟨_, Heap.get?_push_size _ rfl, rfl, rfl⟩, hl.push _⟩ (fun b hb => ?_) (Nat.ne_of_lt hlt))
  show b < (s.heap.push _).objs.size
  rw [Heap.size_push]
  rcases List.mem_cons.mp hb with rfl | hb
  · exact Nat.lt_succ_self _
  · rw [List.mem_singleton.mp hb]; exact Nat.lt_succ_of_lt hlt
theorem kept_old {h' : Heap} {o : Obj} (hk : ∀ b u, b ∉ [s.heap.objs.size] → (s.heap.push o).get? b = some u → h'.get? b = some u) (b : Addr) (u : Obj) (e : s.heap.get? b = some u) : h'.get? b = some u :=
  hk b u (fun z => by rw [List.mem_singleton] at z; subst z; exact absurd (Heap.lt_size e) (Nat.lt_irrefl _)) (Heap.get?_push_of_some _ e)
theorem sum_tupI {Q : Value → Shared → Prop} (hh : A.handled = none) (hl : s.heap.IsTuple l (intItems xs))
    (h : ∀ h' tk t', (∀ b o, s.heap.get? b = some o → h'.get? b = some o) → Q (.int (preSum (numAt xs) xs.size) t') { s with heap := h', toks := tk }) :
    wpAny (model prog w) A (call (.builtin "sum") [.ref l]) Q E s := by
  refine call_sum_walkG (iter_tupI hl fun s2 e st hfp hlI => ?_)
  subst e
  refine ⟨_, _, _, _, _, _, numAt xs, rfl, Walks.tuple (A := A.in1) hh _ l hlI (intItems xs), st, hfp, (fun _ _ => intItems_at), fun h' tk t' hk => ?_⟩
  have := h h' tk t' (kept_old hk)
  simpa [intItems] using this
theorem max_tupI {Q : Value → Shared → Prop} (hh : A.handled = none) (hl : s.heap.IsTuple l (intItems xs)) (hne : 0 < xs.size)
    (h : ∀ v h' tk, (intItems xs)[argBest (fun i j => decide (numAt xs i > numAt xs j)) (xs.size - 1)]? = some v → (∀ b o, s.heap.get? b = some o → h'.get? b = some o) → Q v { s with heap := h', toks := tk }) :
    wpAny (model prog w) A (call (.builtin "max") [.ref l]) Q E s := by
  refine call_max_walk (iter_tupI hl fun s2 e st hfp hlI => ?_)
  subst e
  refine ⟨_, _, _, _, _, _, _, rfl, Walks.tuple (A := A.in1) hh _ l hlI (intItems xs), st, hfp, by simpa [intItems] using hne, CmpOf.ints_gt (numAt xs) (fun _ _ => intItems_at), fun v h' tk hP hk => ?_⟩
  exact h v h' tk (by simpa [intItems] using hP) (kept_old hk)
theorem min_tupI {Q : Value → Shared → Prop} (hh : A.handled = none) (hl : s.heap.IsTuple l (intItems xs)) (hne : 0 < xs.size)
    (h : ∀ v h' tk, (intItems xs)[argBest (fun i j => decide (numAt xs i < numAt xs j)) (xs.size - 1)]? = some v → (∀ b o, s.heap.get? b = some o → h'.get? b = some o) → Q v { s with heap := h', toks := tk }) :
    wpAny (model prog w) A (call (.builtin "min") [.ref l]) Q E s := by
  refine call_min_walk (iter_tupI hl fun s2 e st hfp hlI => ?_)
  subst e
  refine ⟨_, _, _, _, _, _, _, rfl, Walks.tuple (A := A.in1) hh _ l hlI (intItems xs), st, hfp, by simpa [intItems] using hne, CmpOf.ints_lt (numAt xs) (fun _ _ => intItems_at), fun v h' tk hP hk => ?_⟩
  exact h v h' tk (by simpa [intItems] using hP) (kept_old hk)
end
section
variable {X : Cx} {c : Cc}
def rSumT (K : PySem.W.Frag) : RC := fun vs H Q => ∃ (a : Addr) (ns : List Int), vs = [V.ref a] ∧ SqT K H a (ns.map V.int) ∧ Q (.int ns.sum) H
def rMaxT (K : PySem.W.Frag) : RC := fun vs H Q => ∃ (a : Addr) (ns : List Int), vs = [V.ref a] ∧ SqT K H a (ns.map V.int) ∧ 0 < ns.length ∧ ∀ m, m ∈ ns → (∀ y, y ∈ ns → y ≤ m) → Q (.int m) H
def rMinT (K : PySem.W.Frag) : RC := fun vs H Q => ∃ (a : Addr) (ns : List Int), vs = [V.ref a] ∧ SqT K H a (ns.map V.int) ∧ 0 < ns.length ∧ ∀ m, m ∈ ns → (∀ y, y ∈ ns → m ≤ y) → Q (.int m) H
theorem cr_sumT (hc : X.calm = true) : CallR X (.builtin "sum") (rSumT X.K) := by
  intro pins s σ H vs us Q I r h
  obtain ⟨a, ns, rfl, hs, q⟩ := h
  obtain ⟨its, rv, hl, _⟩ := I.tuple hs
  rw [Vals.ref1 r]
  obtain ⟨xs, e⟩ := rv.ints.allInts.items
  have hn : numsOf (intItems xs).toList = ns := by rw [← e]; exact rv.ints.numsOf
  rw [nums_intItems] at hn
  have hl' : s.heap.IsTuple a its.toArray := hl
  rw [e] at hl'
  refine sum_tupI (I.ok.hd hc) hl' fun h' tk t' hk => ?_
  rw [preSum_eq, List.take_of_length_le (by simp), hn]
  exact ⟨.int _, H, I.kept hk, ⟨_, rfl⟩, q⟩
theorem cr_maxT (hc : X.calm = true) : CallR X (.builtin "max") (rMaxT X.K) := by
  intro pins s σ H vs us Q I r h
  obtain ⟨a, ns, rfl, hs, hne, q⟩ := h
  obtain ⟨its, rv, hl, _⟩ := I.tuple hs
  rw [Vals.ref1 r]
  obtain ⟨xs, e⟩ := rv.ints.allInts.items
  have hn : numsOf (intItems xs).toList = ns := by rw [← e]; exact rv.ints.numsOf
  rw [nums_intItems] at hn
  subst hn
  have hl' : s.heap.IsTuple a its.toArray := hl
  rw [e] at hl'
  have hsz : 0 < xs.size := by simpa using hne
  refine max_tupI (I.ok.hd hc) hl' hsz fun v h' tk hv hk => ?_
  obtain ⟨t, rfl⟩ := intItems_at hv
  obtain ⟨h1, h2⟩ := argBest_gt (numAt xs) (xs.size - 1)
  refine ⟨.int _, H, I.kept hk, ⟨_, rfl⟩, q _ ?_ fun y hy => ?_⟩
  · rw [numAt_eq]; exact PySem.getD_mem (by rw [List.length_map, Array.length_toList]; omega)
  · obtain ⟨j, hj, rfl⟩ := mem_getD hy
    rw [List.length_map, Array.length_toList] at hj
    rw [← numAt_eq]; exact h2 j (by omega)
theorem cr_minT (hc : X.calm = true) : CallR X (.builtin "min") (rMinT X.K) := by
  intro pins s σ H vs us Q I r h
  obtain ⟨a, ns, rfl, hs, hne, q⟩ := h
  obtain ⟨its, rv, hl, _⟩ := I.tuple hs
  rw [Vals.ref1 r]
  obtain ⟨xs, e⟩ := rv.ints.allInts.items
  have hn : numsOf (intItems xs).toList = ns := by rw [← e]; exact rv.ints.numsOf
  rw [nums_intItems] at hn
  subst hn
  have hl' : s.heap.IsTuple a its.toArray := hl
  rw [e] at hl'
  have hsz : 0 < xs.size := by simpa using hne
  refine min_tupI (I.ok.hd hc) hl' hsz fun v h' tk hv hk => ?_
  obtain ⟨t, rfl⟩ := intItems_at hv
  obtain ⟨h1, h2⟩ := argBest_lt (numAt xs) (xs.size - 1)
  refine ⟨.int _, H, I.kept hk, ⟨_, rfl⟩, q _ ?_ fun y hy => ?_⟩
  · rw [numAt_eq]; exact PySem.getD_mem (by rw [List.length_map, Array.length_toList]; omega)
  · obtain ⟨j, hj, rfl⟩ := mem_getD hy
    rw [List.length_map, Array.length_toList] at hj
    rw [← numAt_eq]; exact h2 j (by omega)
def rSumA (K : PySem.W.Frag) : RC := fun vs H Q => rSum K vs H Q ∨ rSumT K vs H Q
def rMinA (K : PySem.W.Frag) : RC := fun vs H Q => (∃ i j, vs = [.int i, .int j] ∧ Q (.int (if j < i then j else i)) H) ∨ rMin K vs H Q ∨ rMinT K vs H Q
def rMaxA (K : PySem.W.Frag) : RC := fun vs H Q => (∃ i j, vs = [.int i, .int j] ∧ Q (.int (if j > i then j else i)) H) ∨ rMax K vs H Q ∨ rMaxT K vs H Q
theorem cr_sumA (hc : X.calm = true) : CallR X (.builtin "sum") (rSumA X.K) := CallR.or (cr_sum hc) (cr_sumT hc)
theorem cr_minA (hc : X.calm = true) : CallR X (.builtin "min") (rMinA X.K) := CallR.or (call_min2 hc) (CallR.or (cr_min hc) (cr_minT hc))
theorem cr_maxA (hc : X.calm = true) : CallR X (.builtin "max") (rMaxA X.K) := CallR.or (call_max2 hc) (CallR.or (cr_max hc) (cr_maxT hc))
theorem vc_sum : VC c (rSumA c.K) bSum := fun Z H vs ds d Q hP r e k => by
  unfold bSum at e
  split at e
  · split at e
    · rename_i ns hb
      obtain ⟨v, rfl, r1⟩ := r.one
      obtain ⟨a, ws, rfl, h1, h2⟩ := r1.lst
      cases e
      exact .inl ⟨a, ns, rfl, by rw [← intsOf_rep hb h2]; exact SqL.of h1, k _ H (Same.refl _) isInt⟩
    · cases e
  · split at e
    · rename_i ns hb
      obtain ⟨v, rfl, r1⟩ := r.one
      obtain ⟨a, ws, rfl, h1, h2⟩ := r1.tup
      cases e
      exact .inr ⟨a, ns, rfl, by rw [← intsOf_rep hb h2]; exact h1, k _ H (Same.refl _) isInt⟩
    · cases e
  · cases e
theorem least_uniq {ns : List Int} {m m' : Int} (h : leastOf ns = some m) (h1 : m' ∈ ns) (h2 : ∀ y ∈ ns, m' ≤ y) : m' = m := by
  obtain ⟨a, b⟩ := leastOf_le h
  have := b _ h1
  have := h2 _ a
  omega
theorem most_uniq {ns : List Int} {m m' : Int} (h : mostOf ns = some m) (h1 : m' ∈ ns) (h2 : ∀ y ∈ ns, y ≤ m') : m' = m := by
  obtain ⟨a, b⟩ := mostOf_le h
  have := b _ h1
  have := h2 _ a
  omega
theorem vc_min : VC c (rMinA c.K) bMin := fun Z H vs ds d Q hP r e k => by
  unfold bMin at e
  split at e
  · obtain ⟨v, v2, rfl, r1, r2⟩ := r.two
    rw [r1.int, r2.int]
    cases e
    exact .inl ⟨_, _, rfl, k _ H (Same.refl _) isInt⟩
  · split at e
    · rename_i m hb
      obtain ⟨v, rfl, r1⟩ := r.one
      obtain ⟨a, ws, rfl, h1, h2⟩ := r1.lst
      cases e
      obtain ⟨ns, q1, q2⟩ := Option.bind_eq_some_iff.mp hb
      refine .inr (.inl ⟨a, ns, rfl, by rw [← intsOf_rep q1 h2]; exact SqL.of h1, List.length_pos_of_mem (leastOf_le q2).1, fun m' h3 h4 => ?_⟩)
      rw [least_uniq q2 h3 h4]
      exact k _ H (Same.refl _) isInt
    · cases e
  · split at e
    · rename_i m hb
      obtain ⟨v, rfl, r1⟩ := r.one
      obtain ⟨a, ws, rfl, h1, h2⟩ := r1.tup
      cases e
      obtain ⟨ns, q1, q2⟩ := Option.bind_eq_some_iff.mp hb
      refine .inr (.inr ⟨a, ns, rfl, by rw [← intsOf_rep q1 h2]; exact h1, List.length_pos_of_mem (leastOf_le q2).1, fun m' h3 h4 => ?_⟩)
      rw [least_uniq q2 h3 h4]
      exact k _ H (Same.refl _) isInt
    · cases e
  · cases e
theorem vc_max : VC c (rMaxA c.K) bMax := fun Z H vs ds d Q hP r e k => by
  unfold bMax at e
  split at e
  · obtain ⟨v, v2, rfl, r1, r2⟩ := r.two
    rw [r1.int, r2.int]
    cases e
    exact .inl ⟨_, _, rfl, k _ H (Same.refl _) isInt⟩
  · split at e
    · rename_i m hb
      obtain ⟨v, rfl, r1⟩ := r.one
      obtain ⟨a, ws, rfl, h1, h2⟩ := r1.lst
      cases e
      obtain ⟨ns, q1, q2⟩ := Option.bind_eq_some_iff.mp hb
      refine .inr (.inl ⟨a, ns, rfl, by rw [← intsOf_rep q1 h2]; exact SqL.of h1, List.length_pos_of_mem (mostOf_le q2).1, fun m' h3 h4 => ?_⟩)
      rw [most_uniq q2 h3 h4]
      exact k _ H (Same.refl _) isInt
    · cases e
  · split at e
    · rename_i m hb
      obtain ⟨v, rfl, r1⟩ := r.one
      obtain ⟨a, ws, rfl, h1, h2⟩ := r1.tup
      cases e
      obtain ⟨ns, q1, q2⟩ := Option.bind_eq_some_iff.mp hb
      refine .inr (.inr ⟨a, ns, rfl, by rw [← intsOf_rep q1 h2]; exact h1, List.length_pos_of_mem (mostOf_le q2).1, fun m' h3 h4 => ?_⟩)
      rw [most_uniq q2 h3 h4]
      exact k _ H (Same.refl _) isInt
    · cases e
  · cases e
end

/-! ### enumerate over a tuple -/
theorem meets_enumT (l : Addr) (items : Array Value) (n : Nat) (dct : Option Addr) (sl : Array (Option Value)) :
    Meets (Builtin.«enumerate.__new__» ⟨[.type "enumerate", .ref l], []⟩) (fun _ R s => s.heap.get? l = some { cls := .type "tuple", dict := dct, data := .seq items n, slots := sl } ∧
      R (.ok (.ret (.ref (s.heap.push { cls := .type "tuple_iterator", data := .fields #[.ref l, .int 0 0] }).objs.size)))
        { s with heap := (s.heap.push { cls := .type "tuple_iterator", data := .fields #[.ref l, .int 0 0] }).push { cls := .type "enumerate", data := .fields #[.none, .bool false, .ref s.heap.objs.size, rawInt 0, .none, .none] } }) :=
  .of_wp fun prog w A R s h => by
    obtain ⟨hp, g, d, tk, os⟩ := s; obtain ⟨h1, h⟩ := h
    have hsub := sub_enumerate
    have hl : (⟨hp, g, d, tk, os⟩ : Shared).heap.IsTuple l items := ⟨_, h1, rfl, _, rfl⟩
    have q1 : ∀ {A' : Around} {E : Value → Shared → Prop} {Q : Value → Shared → Prop}, Q (.ref hp.objs.size) ⟨hp.push { cls := .type "tuple_iterator", data := .fields #[.ref l, .int 0 0] }, g, d, tk, os⟩ → wpAny (model prog w) A' (pyIter (.ref l)) Q E ⟨hp, g, d, tk, os⟩ :=
      fun q => wpAny_pyIter_tuple hl q
    wp_walk using q1
    refine wpAny_stack_any fun st => wpAny_pure ?_
    split
    · rename_i c _ _ _ _ _
      cases (c == Value.type "enumerate")
      · wp_walk using q1
        exact ⟨_, rfl, h⟩
      · wp_walk using q1
        exact ⟨_, rfl, h⟩
    · wp_walk using q1
      exact ⟨_, rfl, h⟩
theorem call_enumT {prog : Program} {w : World} {A : Around} {E : Value → Shared → Prop} {s : Shared} {l : Addr} {items : Array Value} {Q : Value → Shared → Prop} (hL : s.heap.IsTuple l items)
    (h : ∀ h', IsEnum h' (s.heap.objs.size + 1) s.heap.objs.size 0 .none → h'.IsTupleIter s.heap.objs.size l 0 → h'.objs.size = s.heap.objs.size + 2 →
      (∀ b o, s.heap.get? b = some o → h'.get? b = some o) → Q (.ref (s.heap.objs.size + 1)) { s with heap := h' }) :
    wpAny (model prog w) A (call (.type "enumerate") [.ref l]) Q E s := by
  obtain ⟨⟨c, dct, dt, sl⟩, hl, hc, n, hd⟩ := hL
  simp only at hc hd
  subst hc hd
  refine callType_new F.called_enumerate (by decide) (F.typeCall_enumerate_1 _) (F.newCall_enumerate_1 _) (fun obj => F.args_object_init_2 obj _) F.entry_enumerate_new
    (meets_enumT l items n dct sl) ⟨hl, ?_⟩
  have hz : (s.heap.push { cls := .type "tuple_iterator", data := .fields #[.ref l, .int 0 0] }).objs.size = s.heap.objs.size + 1 := Heap.size_push ..
  show _ ∧ _
  rw [hz]
  have he : IsEnum ((s.heap.push { cls := .type "tuple_iterator", data := .fields #[.ref l, .int 0 0] }).push { cls := .type "enumerate", data := .fields #[.none, .bool false, .ref s.heap.objs.size, rawInt 0, .none, .none] }) (s.heap.objs.size + 1) s.heap.objs.size 0 .none := by
    have := Heap.get?_push_size (s.heap.push { cls := .type "tuple_iterator", data := .fields #[.ref l, .int 0 0] }) (o := { cls := .type "enumerate", data := .fields #[.none, .bool false, .ref s.heap.objs.size, rawInt 0, .none, .none] }) rfl
    rw [hz] at this; exact this
  exact ⟨⟨_, he, rfl⟩, h _ he ⟨_, Heap.get?_push_of_some _ (Heap.get?_push_size _ rfl), rfl, rfl⟩ (by rw [Heap.size_push, hz]) fun b o x => Heap.get?_push_of_some _ (Heap.get?_push_of_some _ x)⟩
/-- the tuple at a, each item in a new pair -/
def IteT (K : PySem.W.Frag) (a : Addr) : It :=
  ⟨fun i H => ∃ (xs : List V) (x : V), SqT K H a xs ∧ xs[i]? = some x, fun i H v H' => ∃ T x, v = .ref T ∧ H T = none ∧ H' = upd H T (.tup [.int (i : Nat), x]) ∧ ∀ xs, SqT K H a xs → xs[i]? = some x, fun i H => ∃ xs : List V, SqT K H a xs ∧ xs.length = i⟩
theorem turn_enumT {P : Program} {w : World} {K : PySem.W.Frag} {elts : List Expr} {kk : Nat} {tpos : Pos} (a e it : Addr) (hea : e ≠ a) (hia : it ≠ a) :
    Turn P w K (.Tuple elts kk tpos) (IteT K a) [e, it] e (fun i h => (∃ old, IsEnum h e it ((i : Nat) : Int) old) ∧ h.IsTupleIter it a i ∧ e ≠ it) where
  mem := by simp
  obj := fun i h st b hb => by
    obtain ⟨⟨old, he⟩, ⟨o, ho, hc, hd⟩, _⟩ := st
    have e' : b = e ∨ b = it := by simpa using hb
    rcases e' with z | z
    · rw [z]; exact ⟨_, he, fun v q => nomatch q⟩
    · rw [z]; exact ⟨o, ho, fun v q => by rw [hd] at q; cases q⟩
  keep := fun i h h' st k => let ⟨⟨old, he⟩, hi, hne⟩ := st; ⟨⟨old, k e (by simp) _ he⟩, hi.at fun o q => k it (by simp) o q, hne⟩
  item := by
    intro X hP hw hK hc i pins s σ H E I hf st hg
    subst hP hw hK
    obtain ⟨⟨old, he⟩, hit, hne⟩ := st
    obtain ⟨xs, x, hq, hx⟩ := hg
    obtain ⟨its, rv, pl, hz⟩ := I.tuple hq
    have pl' : s.heap.IsTuple a its.toArray := pl
    obtain ⟨u, hu, ru⟩ := rv.get hx
    have hel : e < s.heap.objs.size := Heap.lt_size he
    have hil : it < s.heap.objs.size := by obtain ⟨_, q, _⟩ := hit; exact Heap.lt_size q
    have hlt : i < its.toArray.size := by simpa using (List.getElem?_eq_some_iff.mp hu).1
    refine wpAny_pyNext_enum_itemC (c := ((i : Nat) : Int)) (Draws.tuple (A := X.A.in1) (I.ok.hd hc) it a (Ne.symm hia) its.toArray) he ⟨hit, pl'⟩ hlt hne (by simp [hne, hea]) fun x' h' tk hP ho st' hT hsz hk => ?_
    have ex : x' = u := by
      have : its[i]? = some x' := by simpa using hP
      rw [hu] at this; cases this; rfl
    subst ex
    refine ⟨_, rfl, wpAny_letOwnedTupleGo_enum (s := { s with heap := h', toks := tk + 1 }) ho fun h'' he' sb => ?_⟩
    have hT2 : h''.get? s.heap.objs.size = some { cls := .type "tuple", data := .seq #[.int i tk, x'] } := (sb.2 _ (Nat.ne_of_gt hel)).trans hT
    have new : ObjOk X.prog X.w (upd H s.heap.objs.size (.tup [.int (i : Nat), x])) h'' s.heap.objs.size (.tup [.int (i : Nat), x]) :=
      ⟨by show 2 ≤ sizeLine; decide, [.int i tk, x'], .cons ⟨_, rfl⟩ (.cons ru .nil), ⟨_, hT2, rfl, _, rfl⟩⟩
    have I1 : Inv X pins σ (upd H s.heap.objs.size (.tup [.int (i : Nat), x])) { s with heap := h'', toks := tk + 1 } :=
      I.turnedNew (ch := [e, it]) (fun b ob hb q => (sb.2 b (fun z => hb (by simp [z]))).trans (hk b ob (fun z => hb (by simp [z])) (fun z => hb (by simp [z])) q)) hf (Nat.le_refl _) new
    refine ⟨.ref s.heap.objs.size, _, I1, rfl, ⟨_, x, rfl, I.hok.fresh (Nat.le_refl _), rfl, fun ys hy => ?_⟩, ⟨⟨x', ?_⟩, st'.1.at fun o q => (sb.2 it (Ne.symm hne)).trans q, hne⟩, fun b hb => ?_⟩
    · rw [I.tuple_inj hy hq]; exact hx
    · have e1 : ((i + 1 : Nat) : Int) = (i : Int) + 1 := by omega
      rw [e1]; exact he'
    · have hb' : b < s.heap.objs.size := by
        have e' : b = e ∨ b = it := by simpa using hb
        rcases e' with z | z
        · rw [z]; exact hel
        · rw [z]; exact hil
      rw [upd_ne (Nat.ne_of_lt hb')]
      exact (hf b hb).1
  done := by
    intro X hP hw hK hc i pins s σ H E I hf st hg
    subst hP hw hK
    obtain ⟨⟨old, he⟩, hit, hne⟩ := st
    obtain ⟨xs, hq, hx⟩ := hg
    obtain ⟨its, rv, pl, hz⟩ := I.tuple hq
    have pl' : s.heap.IsTuple a its.toArray := pl
    obtain ⟨f0, f1, f2, f3, f4, f5⟩ := hf it (by simp)
    have hl := rv.length
    have hi : i = its.toArray.size := by rw [List.size_toArray, ← hl, hx]
    subst hi
    exact wpAny_pyNext_enum_endD (Draws.tuple (A := X.A.in1) (I.ok.hd hc) it a (Ne.symm hia) its.toArray) he ⟨hit, pl'⟩ fun h' eb => ⟨rfl, I.turned (t' := s.toks) (fun b o hb q => eb b o hb q) f0 f1 f3 f4 f5⟩
  self := fun A i s Q E st h => let ⟨⟨_, he⟩, _⟩ := st; wpAny_pyIter_enum he h
def iEnumT (K : PySem.W.Frag) (ta : TA) : TI := fun σ H R => ta σ H fun vs H1 => ∃ a xs, vs = [.ref a] ∧ SqT K H1 a xs ∧ R (IteT K a) H1
theorem pi_enumT {X : Cx} {e : Expr} {ta : TA} {p pos tpos : Pos} {elts : List Expr} {kk : Nat} (hg : Gl X "enumerate") (hm : X.mg "enumerate" = none) (ha : PA X [e] ta) (hs : starEach [e] X.env = [(false, eval e X.env)] := by rfl) :
    PI X (.Tuple elts kk tpos) (.Call (.Name "enumerate" p) [e] [] pos) (iEnumT X.K ta) := by
  refine ⟨fun pins s σ H R I h => ?_⟩
  refine Call_ (ld_blt I hg hm boot_enumerate (PyProof.Rows.callWith_type1 (thn (ha.run pos pins s σ H _ I h) fun us s1 ⟨vs, H1, I1, r1, q1⟩ => ?_) hs rfl))
  obtain ⟨a, xs, ex, hq, q⟩ := q1
  subst ex
  cases r1 with
  | cons r rr =>
    cases rr
    cases r
    obtain ⟨its, rv, p', hz⟩ := I1.tuple hq
    have pl' : s1.heap.IsTuple a its.toArray := p'
    have al : a < s1.heap.objs.size := by obtain ⟨_, e, _⟩ := pl'; exact Heap.lt_size e
    refine call_enumT pl' fun h' he hit hsz hk => wpAny_pyIter_enum he ?_
    have I2 : Inv X pins σ H1 { s1 with heap := h' } := I1.kept (t' := s1.toks) hk
    refine ⟨s1.heap.objs.size + 1, [s1.heap.objs.size + 1, s1.heap.objs.size], _, _, H1, rfl, I2, turn_enumT a (s1.heap.objs.size + 1) s1.heap.objs.size (Nat.ne_of_gt (Nat.lt_succ_of_lt al)) (Nat.ne_of_gt al), ⟨⟨.none, he⟩, hit, Nat.succ_ne_self _⟩, fun b hb => ?_, q⟩
    have e' : b = s1.heap.objs.size + 1 ∨ b = s1.heap.objs.size := by simpa using hb
    have hle : s1.heap.objs.size ≤ b := by
      rcases e' with z | z
      · rw [z]; exact Nat.le_add_right _ _
      · rw [z]; exact Nat.le_refl _
    exact I1.fpOk hle (I1.hok.fresh hle)
theorem walk_enumT {K : PySem.W.Frag} {a : Addr} {xs : List V} : Walk (IteT K a) xs.length (fun H => SqT K H a xs) (YPair (fun i => some (.int (i : Nat))) (fun i => xs[i]?)) := by
  refine ⟨fun i _ hi q => ⟨xs, xs[i], q, by simp [hi]⟩, fun _ q => ⟨xs, q, rfl⟩, fun i H v H' _ q y => ?_⟩
  obtain ⟨T, x, h1, h2, h3, h4⟩ := y
  exact ⟨T, .int (i : Nat), x, h1, h2, h3, rfl, h4 xs q⟩

/-! ### enumerate, zip of data -/
def enumD (ds : List D) : List D := ds.zipIdx.map fun p => .tup [.int (p.2 : Nat), p.1]
theorem enumD_get {ds : List D} {i : Nat} {d : D} (h : (enumD ds)[i]? = some d) : ∃ x, ds[i]? = some x ∧ d = .tup [.int (i : Nat), x] := by
  unfold enumD at h
  rw [List.getElem?_map, List.getElem?_zipIdx] at h
  cases q : ds[i]? with
  | none => rw [q] at h; cases h
  | some x => rw [q] at h; cases h; exact ⟨x, rfl, by simp⟩
theorem enumD_len {ds : List D} : (enumD ds).length = ds.length := by unfold enumD; simp
theorem isNewT' {c : Cc} {Z : Addr → Prop} {H : Hp} {T : Addr} {ds : List D} {vs : List V} (hT : H T = none) (hZ : ∀ a, Z a → H a ≠ none) (r : IsDs c (hide H Z) ds vs) : Same H (upd H T (.tup vs)) ∧ IsD c (hide (upd H T (.tup vs)) Z) (.tup ds) (.ref T) :=
  ⟨same_new hT, isNewT hT hZ r⟩
theorem itok_enum {c : Cc} {G0 : Hp} {a : Addr} {ds : List D} {vs : List V} (h : SqL c.K G0 a vs) (r : IsDs c G0 ds vs) : ItOk c G0 (Ite c.K a) (enumD ds) := by
  refine ⟨fun H => SqL c.K H a vs, _, by rw [enumD_len, r.len]; exact walk_enum, fun H z => z.seq h, fun i x H H' d e z y => ?_⟩
  obtain ⟨T, u, v, rfl, hT, rfl, h1, h2⟩ := y
  obtain ⟨x, e1, rfl⟩ := enumD_get e
  cases h1
  refine ⟨same_new hT, fun Z k hZ => ?_⟩
  obtain ⟨v', h3, h4⟩ := r.getD e1
  rw [show vs[i]? = some v from h2] at h3; cases h3
  exact isNewT hT hZ (IsDs.cons isInt (IsDs.cons (h4.same k) IsDs.nil))
theorem itok_enumT {c : Cc} {G0 : Hp} {a : Addr} {ds : List D} {vs : List V} (h : SqT c.K G0 a vs) (r : IsDs c G0 ds vs) : ItOk c G0 (IteT c.K a) (enumD ds) := by
  refine ⟨fun H => SqT c.K H a vs, _, by rw [enumD_len, r.len]; exact walk_enumT, fun H z => SqT.same z h, fun i x H H' d e z y => ?_⟩
  obtain ⟨T, u, v, rfl, hT, rfl, h1, h2⟩ := y
  obtain ⟨x, e1, rfl⟩ := enumD_get e
  cases h1
  refine ⟨same_new hT, fun Z k hZ => ?_⟩
  obtain ⟨v', h3, h4⟩ := r.getD e1
  rw [show vs[i]? = some v from h2] at h3; cases h3
  exact isNewT hT hZ (IsDs.cons isInt (IsDs.cons (h4.same k) IsDs.nil))
def dEnum (m : Ev) : Iv := fun env => bnd (m env) fun p => match p.1 with
  | .lst xs => .ok (enumD xs, p.2)
  | .tup xs => .ok (enumD xs, p.2)
  | _ => stuck
theorem i_enum {X : Cx} {g : Ce} {W : WX} {pu : Bool} {m : Ev} {e : Expr} {p pos tpos : Pos} {elts : List Expr} {kk : Nat} (hg : Gl X "enumerate") (hm : X.mg "enumerate" = none) (h : DE X g pu false e m W)
    (hs : starEach [e] X.env = [(false, eval e X.env)] := by rfl) (hs2 : starEach [e] X.env = (false, eval e X.env) :: starEach [] X.env := by rfl) : DI X g (.Tuple elts kk tpos) pu (.Call (.Name "enumerate" p) [e] [] pos) (dEnum m) W :=
  PI.imp (PI.or (pi_enum hg hm (pa_cons h pa_nil hs2) hs) (pi_enumT hg hm (pa_cons h pa_nil hs2) hs)) fun σ H Q ⟨xs, env, S, w⟩ => by
    have w0 := w
    unfold dEnum at w0
    cases q : m env with
    | error x =>
      rw [q] at w0
      refine .inl ⟨xs, env, S, ?_⟩
      rw [q]
      cases x with
      | raise k p => exact w0
      | stuck => exact w0.elim
    | ok p =>
      obtain ⟨d, env'⟩ := p
      have key : ∀ {R' : V → Hp → Prop}, (∀ v H', Stp (cc X g) xs pu env env' σ H H' → IsD (cc X g) (hide H' (Hid xs env σ)) d v → R' v H') → tE (cc X g) pu false m W σ H R' := fun k => ⟨xs, env, S, by
        rw [q]; exact fun v H' s r => k v H' s r⟩
      rw [q] at w0
      simp only [bnd_ok] at w0
      split at w0
      · rename_i ds
        refine .inl (key fun v H' s r => ?_)
        unfold IsD at r
        obtain ⟨l, vs, e1, e2, e3⟩ := r
        have hq : SqL X.K (hide H' (Hid xs env σ)) l vs := SqL.of e2
        exact ⟨l, vs, by rw [e1], SqL.hid hq, w0 _ H' s (itok_enum hq e3)⟩
      · rename_i ds
        refine .inr (key fun v H' s r => ?_)
        unfold IsD at r
        obtain ⟨l, vs, e1, e2, e3⟩ := r
        exact ⟨l, vs, by rw [e1], SqT.hid e2, w0 _ H' s (itok_enumT e2 e3)⟩
      · exact w0.elim
end Dn

/-! Dn16 -/
set_option Elab.async false
set_option linter.all false
set_option maxRecDepth 100000
set_option maxHeartbeats 1000000
/-! Dn16: products, slices, stores in subscripts, methods of lists, stores of pairs, augmented stores. -/
namespace Dn
open PySem PySem.Spec L2
open PyProof.Rows hiding St

section
variable {c : Cc}
/-! ### products -/
def repD (k : Int) (ds : List D) : List D := (List.replicate k.toNat ds).flatten
def dMul : D → D → M D
  | .int i, .int j => if mulOk i j = true then .ok (.int (i * j)) else stuck
  | .lst ds, .int k => if (decide (k ≤ 16777216) && decide (-16777216 ≤ k) && decide (ds.length * k.toNat ≤ maxSeq)) = true then .ok (.lst (repD k ds)) else stuck
  | .tup ds, .int k => if (decide (2 ≤ k) && decide (k ≤ 1000) && decide (0 < ds.length) && decide (ds.length ≤ 1000)) = true then .ok (.tup (repD k ds)) else stuck
  | .str x, .int k => if (decide (2 ≤ k) && decide (k ≤ 1000) && decide (x.length ≤ 16)) = true then .ok (.str (PySem.Txt.mul x k)) else stuck
  | _, _ => stuck
theorem dMul_nr : NoR2 dMul := fun d1 d2 k p h => by
  unfold dMul at h
  split at h <;> (try split at h) <;> cases h
theorem IsDs.rep {H : Hp} {ds : List D} {vs : List V} (r : IsDs c H ds vs) : ∀ n : Nat, IsDs c H (List.replicate n ds).flatten (List.replicate n vs).flatten
  | 0 => IsDs.nil
  | n + 1 => by rw [List.replicate_succ, List.replicate_succ, List.flatten_cons, List.flatten_cons]; exact IsDs.append r (IsDs.rep r n)
def rRepS : R2 := fun x y H Q => ∃ (t : Str) (k : Int), x = .str t ∧ y = .int k ∧ 2 ≤ k ∧ k ≤ 1000 ∧ t.length ≤ 16 ∧ Q (.str (PySem.Txt.mul t k)) H
theorem op_repS {X : Cx} : OpR X (binaryOp .Mult) rRepS := by
  intro pins s σ H x y v u Q I rx ry h
  obtain ⟨t, k, rfl, rfl, h1, h2, h3, q⟩ := h
  obtain ⟨tk, rfl⟩ := rx
  obtain ⟨tk', rfl⟩ := ry
  exact PySem.SB.mul (mulOk_of 16 1000 h3 (by omega) (by omega) (by decide) (by decide)) fun t' k' => ⟨.str _, H, I.tok k', ⟨t', rfl⟩, q⟩
def rMulD (K : PySem.W.Frag) : R2 := fun x y H Q => rI CMulW (fun i j => .int (i * j)) x y H Q ∨ rRep x y H Q ∨ rRepT K x y H Q ∨ rRepS x y H Q
theorem op_mulD {X : Cx} : OpR X (binaryOp .Mult) (rMulD X.K) := OpR.or op_mulW (OpR.or op_rep (OpR.or op_repT op_repS))
theorem vb_mul : VB c (rMulD c.K) dMul := by
  intro P H x y d1 d2 d Q hP r1 r2 e k
  unfold dMul at e
  split at e
  · split at e
    · rename_i h
      cases e
      unfold mulOk at h
      rw [decide_eq_true_eq] at h
      exact .inl ⟨_, _, r1.int, r2.int, h, k _ H (Same.refl _) isInt⟩
    · cases e
  · split at e
    · rename_i h
      simp only [Bool.and_eq_true, decide_eq_true_eq] at h
      cases e
      obtain ⟨a, vs, rfl, h1, h2⟩ := r1.lst
      exact .inr (.inl ⟨a, _, vs, rfl, r2.int, h1, by omega, by omega, by rw [maxSeq_eq, ← h2.len]; exact h.2, fun p hp => k _ _ (same_new hp) (isNewL hp hP (h2.rep _))⟩)
    · cases e
  · split at e
    · rename_i h
      simp only [Bool.and_eq_true, decide_eq_true_eq] at h
      cases e
      obtain ⟨a, vs, rfl, h1, h2⟩ := r1.tup
      have hl := h2.len
      exact .inr (.inr (.inl ⟨a, _, vs, rfl, r2.int, h1, fun z => by rw [z, List.length_nil] at hl; omega, h.1.1.1, h.1.1.2, by omega, fun p hp => k _ _ (same_new hp) (isNewT hp hP (h2.rep _))⟩))
    · cases e
  · split at e
    · rename_i h
      simp only [Bool.and_eq_true, decide_eq_true_eq] at h
      cases e
      exact .inr (.inr (.inr ⟨_, _, r1.str, r2.int, h.1.1, h.1.2, h.2, k _ H (Same.refl _) isStr⟩))
    · cases e
  · cases e
end

section
variable {X : Cx} {P : Program} {w : World} {K : PySem.W.Frag} {mg : Str → Option Value} {base : Heap} {N : List Str} {sc : Scope} {k : Nat} {bk nn : Bool} {g : Ce} {W : WX}
variable {pu pu1 pu2 pu3 sh sh1 sh2 : Bool} {e e1 a b lo hi : Expr} {es : List Expr} {pos p p2 pos' apos cpos : Pos} {m m1 m2 : Ev} {ma : Av} {shs : List Bool} {x y : Str} {T : String} {ol oh : Option Expr} {ml mh : Ov} {i j : Nat}

/-! ### slices -/
def dSlice (m : Ev) (ml mh : Ov) : Ev := fun env => bnd (m env) fun p => bnd (ml p.2) fun q => bnd (mh q.2) fun r => bnd (dSlice1 p.1 q.1 r.1) fun d => .ok (d, r.2)
theorem cut_rep {c : Cc} {H : Hp} {ds : List D} {vs : List V} (r : IsDs c H ds vs) (lo hi : Option Int) : IsDs c H (cutD ds lo hi) (cutV vs lo hi) := by
  unfold cutD cutV
  rw [r.len]
  exact (r.drop _).take _
theorem cut_whole {ds : List D} {lo hi : Option Int} (h : HT.sIx ds.length 0 lo = 0 ∧ HT.sIx ds.length ds.length hi = ds.length) : cutD ds lo hi = ds := by
  unfold cutD
  rw [h.1, h.2]
  simp
theorem e_slice (hc : (sh = false ∨ pu2 = true) ∧ (sh = false ∨ pu3 = true)) (he : DE X g pu1 sh e m W) (hl : DO X g pu2 ol ml W) (hh : DO X g pu3 oh mh W) : DE X g (pu1 && (pu2 && pu3)) false (.Subscript e (.Slice ol oh none p2) pos) (dSlice m ml mh) W :=
  PE.imp (pe_slice (SlR.or sl_list (SlR.or sl_tupA sl_str)) he hl hh) fun σ H Q ⟨xs, env, S, w⟩ => ⟨xs, env, S, Want.bind w fun d env1 v H1 e1 s1 r1 w1 => by
    refine ⟨xs, env1, s1.st, Want.bind (pu' := pu2 && pu3) (Want.after s1 w1) fun o1 env2 v2 H2 e2 s2 r2 w2 => ?_⟩
    refine ⟨xs, env2, s2.st, Want.bind (pu' := pu3) (Want.after s2 w2) fun o2 env3 v3 H3 e3 s3 r3 w3 => ?_⟩
    have r2' : v2 = o1 := r2
    have r3' : v3 = o2 := r3
    subst r2' r3'
    have r1a : Rep (cc X g) sh (Hid xs env1 σ) H1 d v := by rw [s1.hid]; exact r1
    have r1b := s2.rep hc.1 r1a
    rw [← s2.hid] at r1b
    have r1c := (s3.rep hc.2 r1b).shell
    have hP : ∀ a, Hid xs env2 σ a → H3 a ≠ none := fun a ha => s3.st.hid (by rw [s3.hid]; exact ha)
    dsimp only at w3
    cases q : dSlice1 d v2 v3 with
    | error z =>
      exfalso
      rw [q] at w3
      cases z with
      | raise kk pp => unfold dSlice1 at q; split at q <;> (try split at q) <;> cases q
      | stuck => exact w3
    | ok d' =>
      rw [q] at w3
      simp only [bnd_ok] at w3
      have fin : ∀ u H4, Same H3 H4 → IsD (cc X g) (hide H4 (Hid xs env2 σ)) d' u → Q u H4 := fun u H4 kk hd => w3 u H4 (s3.grow kk) (by rw [s2.hid, s1.hid] at hd; exact Rep.of hd)
      unfold dSlice1 at q
      split at q
      · cases q
        obtain ⟨l, vs, rfl, h1, h2⟩ := r1c.lst
        exact .inl ⟨l, vs, rfl, SqL.of h1, fun p hp => fin _ _ (same_new hp) (isNewL hp hP (cut_rep h2 _ _))⟩
      · cases q
        have r0 := r1c
        obtain ⟨l, vs, rfl, h1, h2⟩ := r1c.tup
        refine .inr (.inl ⟨l, vs, rfl, h1, fun hw => ?_, fun _ p hp => fin _ _ (same_new hp) (isNewT hp hP (cut_rep h2 _ _))⟩)
        rw [← h2.len] at hw
        rw [cut_whole hw] at fin
        exact fin _ H3 (Same.refl _) r0
      · split at q
        · rename_i hz
          cases q
          exact .inr (.inr ⟨_, r1c.str, by rw [maxSeq_eq]; exact hz, fin _ H3 (Same.refl _) isStr⟩)
        · cases q
      · cases q⟩

/-! ### a store in an own list -/
def sSub (i : Nat) (mi m : Ev) : Sv := fun env => bnd (m env) fun p => match p.2[i]? with
  | some (.ow _) => bnd (mi p.2) fun q => match q.2[i]?, q.1 with
    | some (.ow (.lst ds)), .int k => match ixN ds.length k with
      | some j => .ok (.nx, q.2.set i (.ow (.lst (ds.set j p.1))))
      | none => stuck
    | _, _ => stuck
  | _ => stuck
theorem ObjRep.upd {c : Cc} {G : Addr → Prop} {H : Hp} {a : Addr} {d : D} {o u : HO} (ha : G a) (h : ObjRep c (hide H G) d o) : ObjRep c (hide (upd H a u) G) d o := h.same fun b v hb => by
  obtain ⟨h1, h2⟩ := hide_some hb
  rw [hide_of h1, upd_ne fun z : b = a => h1 (by rw [z]; exact ha)]
  exact h2
theorem IsD.upd {c : Cc} {G : Addr → Prop} {H : Hp} {a : Addr} {d : D} {v : V} {u : HO} (ha : G a) (h : IsD c (hide H G) d v) : IsD c (hide (upd H a u) G) d v := h.same fun b v hb => by
  obtain ⟨h1, h2⟩ := hide_some hb
  rw [hide_of h1, upd_ne fun z : b = a => h1 (by rw [z]; exact ha)]
  exact h2
theorem IsDs.upd {c : Cc} {G : Addr → Prop} {H : Hp} {a : Addr} {d : List D} {v : List V} {u : HO} (ha : G a) (h : IsDs c (hide H G) d v) : IsDs c (hide (upd H a u) G) d v := h.same fun b v hb => by
  obtain ⟨h1, h2⟩ := hide_some hb
  rw [hide_of h1, upd_ne fun z : b = a => h1 (by rw [z]; exact ha)]
  exact h2
theorem hide_at {H : Hp} {a : Addr} {u : HO} : Same (hide H (· = a)) (hide (upd H a u) (· = a)) := fun b v hb => by
  obtain ⟨h1, h2⟩ := hide_some hb
  rw [hide_of (P := (· = a)) h1, upd_ne h1]
  exact h2
/-- the list in slot i written -/
theorem StOk.write {c : Cc} {xs : Addr → Prop} {env : En} {σ : St} {H : Hp} {i : Nat} {d : D} {a : Addr} {ds' : List D} {vs' : List V} (S : StOk c xs env σ H) (hi : env[i]? = some (Sl.ow d)) (ha : σ[i]? = some (some (V.ref a))) (r : IsDs c (hide H (Hid xs env σ)) ds' vs') :
    Stp c xs false env (env.set i (.ow (.lst ds'))) σ H (upd H a (.lst vs')) :=
  S.change hi ha hide_at upd_same ⟨vs', rfl, r.upd (.inl ⟨i, d, hi, ha⟩)⟩
theorem own_lst {c : Cc} {xs : Addr → Prop} {env : En} {σ : St} {H : Hp} {i : Nat} {ds : List D} (S : StOk c xs env σ H) (hi : env[i]? = some (Sl.ow (.lst ds))) : ∃ a vs, σ[i]? = some (some (V.ref a)) ∧ H a = some (.lst vs) ∧ IsDs c (hide H (Hid xs env σ)) ds vs := by
  obtain ⟨a, o, h1, h2, vs, rfl, h3⟩ := S.ow i _ hi
  exact ⟨a, vs, h1, h2, h3⟩
theorem s_sub (hx : PE X (.Name x p) (tVar i)) (hi : DE X g pu1 sh1 b m1 W) (he : DE X g pu false e m W) (ha : ∀ v, assign (.Subscript (.Name x p) b pos') X.env v = (do
      let ov ← holding [v] (eval (.Name x p) X.env)
      let iv ← holding [v, ov] (eval b X.env)
      standAt pos'
      holding [v, ov, iv] (setItem ov iv v)
      release [v, ov, iv] []) := by intro _; rfl)
    (hs : swapsWithSole [.Subscript (.Name x p) b pos'] e pos.line X.env = pure false := by rfl) (hw : swappedStores [.Subscript (.Name x p) b pos'] e X.env = pure none := by rfl)
    (h1 : (assignEach [.Subscript (.Name x p) b pos'] X.env).map (·.2) = [assign (.Subscript (.Name x p) b pos') X.env] := by rfl) : DS X g (.Assign [.Subscript (.Name x p) b pos'] e pos) (sSub i m1 m) W :=
  PS.imp (ps_asg he (pg_sub hx hi set_list ha) hs hw h1) fun E σ H ⟨xs, env, S, w⟩ => ⟨xs, env, S, WantS.bindE w fun d env1 v H1 e1 s1 r1 w1 => by
    dsimp only at w1
    split at w1
    case h_2 => exact w1.elim
    rename_i d0 hi0
    obtain ⟨a, o0, ha0, ho0, hr0⟩ := s1.st.ow i d0 hi0
    refine ⟨.ref a, ha0, xs, env1, s1.st, WantS.bindE (WantS.after s1.kept w1) fun dk env2 vk H2 e2 s2 r2 w2 => ?_⟩
    dsimp only at w2
    split at w2
    case h_2 => exact w2.elim
    rename_i ds kk hi2
    split at w2
    case h_2 => exact w2.elim
    rename_i j hj
    obtain ⟨a', vs, ha2, ho2, hr2⟩ := own_lst s2.st hi2
    rw [ha0] at ha2; cases ha2
    rw [s2.hid, s1.hid] at hr2
    have r1' : IsD (cc X g) (hide H1 (Hid xs env1 σ)) d v := by rw [s1.hid]; exact r1
    have r2' := r1'.same s2.smH
    rw [s1.hid] at r2'
    have hst := s2.st.write hi2 ha0 (ds' := ds.set j d) (vs' := vs.set j v) (by rw [s2.hid, s1.hid]; exact hr2.set j r2')
    exact ⟨a, vs, kk, j, rfl, (Rep.shell r2).int, ho2, by rw [← hr2.len]; exact hj, w2 σ _ hst.st (s2.kept.trans hst.kept)⟩⟩

/-! ### methods that change an own list -/
/-- such a method, of data -/
def VMt (c : Cc) (r : V → List V → Hp → VK → Prop) (f : List D → List D → M (D × List D)) : Prop := ∀ (Z : Addr → Prop) (H : Hp) (a : Addr) (vs avs : List V) (ds ads : List D) (d : D) (ds' : List D) (Q : VK), Z a → H a = some (.lst vs) →
  IsDs c (hide H Z) ds vs → IsDs c (hide H Z) ads avs → f ds ads = .ok (d, ds') → (∀ v vs', IsDs c (hide H Z) ds' vs' → IsD c (hide H Z) d v → Q v (upd H a (.lst vs'))) → r (.ref a) avs H Q
def NoRM (f : List D → List D → M (D × List D)) : Prop := ∀ a b k p, f a b ≠ .error (.raise k p)
def dMeth (f : List D → List D → M (D × List D)) (i : Nat) (ms : Av) : Ev := fun env => match env[i]? with
  | some (.ow (.lst _)) => bnd (ms env) fun p => match p.2[i]? with
    | some (.ow (.lst ds)) => bnd (f ds p.1) fun q => .ok (q.1, p.2.set i (.ow (.lst q.2)))
    | _ => stuck
  | _ => stuck
theorem meth_end {c : Cc} {xs : Addr → Prop} {env env1 : En} {σ : St} {H H1 : Hp} {Q : VK} {r : V → List V → Hp → VK → Prop} {f : List D → List D → M (D × List D)} {a : Addr} {ads : List D} {avs : List V} (hv : VMt c r f) (nr : NoRM f) (s : Stp c xs pu env env1 σ H H1) (ha : σ[i]? = some (some (V.ref a)))
    (ra : IsDs c (hide H1 (Hid xs env σ)) ads avs) (w : Want c xs false env σ H (fun d _ v H' => Rep c false (Hid xs env σ) H' d v) W Q (match env1[i]? with
    | some (.ow (.lst ds)) => bnd (f ds ads) fun q => .ok (q.1, env1.set i (.ow (.lst q.2)))
    | _ => stuck)) : r (.ref a) avs H1 Q := by
  split at w
  · rename_i ds hi
    obtain ⟨a', vs, ha2, ho2, hr2⟩ := own_lst s.st hi
    rw [ha] at ha2; cases ha2
    cases q : f ds ads with
    | error z =>
      rw [q] at w
      cases z with
      | raise kk pp => exact absurd q (nr _ _ _ _)
      | stuck => exact w.elim
    | ok pr =>
      obtain ⟨d, ds'⟩ := pr
      rw [q] at w
      have hid := s.hid
      refine hv (Hid xs env σ) H1 a vs avs ds ads d ds' Q (by rw [← hid]; exact .inl ⟨i, _, hi, ha⟩) ho2 (by rw [← hid]; exact hr2) ra q fun v vs' h1 h2 => ?_
      have st := s.st.write hi ha (ds' := ds') (vs' := vs') (by rw [hid]; exact h1)
      refine w v _ ((s.trans st).weak fun z => nomatch z) (h2.upd (by rw [← hid]; exact .inl ⟨i, _, hi, ha⟩))
  · exact w.elim
theorem e_meth {id : String} {name : Str} {r : V → List V → Hp → VK → Prop} {f : List D → List D → M (D × List D)} (pa : PlainAttrs "list") (slot : Slot "list" name id) (hty : typeOf (.builtin id) = pure (.type "method_descriptor")) (hm : MtR X id r) (hv : VMt (cc X g) r f) (nr : NoRM f) (hs : shs.all (!·) = true)
    (hx : PE X (.Name x p) (tVar i)) (ha : DA X g pu shs (e :: es) ma W)
    (hbase : attributeBase (.Name x p) name X.env (eval (.Name x p) X.env) = eval (.Name x p) X.env := by rfl)
    (hfew : ((backTo cpos (starEach (e :: es) X.env)).all (fun x => !x.1) && (backToKw cpos (keywordEach [] X.env)).all (fun x => x.1.isSome)
      && decide ((e :: es).length + ([] : List Keyword).length + (if ([] : List Keyword).isEmpty then 0 else 1) < 30)) = true := by rfl)
    (hline : (apos.endLine == cpos.line) = true := by rfl) (hst : starEach (e :: es) X.env = (false, eval e X.env) :: starEach es X.env := by rfl) (hplain : (backTo cpos (starEach es X.env)).any (·.1) = false := by rfl) :
    DE X g false false (.Call (.Attribute (.Name x p) name apos) (e :: es) [] cpos) (dMeth f i ma) W :=
  PE.imp (pe_bm pa slot hty hm hx ha hbase hfew hline hst hplain) fun σ H Q ⟨xs, env, S, w⟩ => by
    unfold dMeth at w
    split at w
    · rename_i ds0 hi0
      obtain ⟨a, vs, h1, h2, h3⟩ := own_lst S hi0
      refine ⟨.ref a, h1, .inl ⟨rfl, vs, SqL.of h2⟩, xs, env, S, Want.bind w fun ads env1 avs H1 e1 s1 r1 w1 => ?_⟩
      exact meth_end hv nr s1 h1 (r1.clean hs) w1
    · exact w.elim
theorem e_meth0 {id : String} {name : Str} {r : V → List V → Hp → VK → Prop} {f : List D → List D → M (D × List D)} (pa : PlainAttrs "list") (slot : Slot "list" name id) (hty : typeOf (.builtin id) = pure (.type "method_descriptor")) (hm : MtR X id r) (hv : VMt (cc X g) r f) (nr : NoRM f)
    (hx : PE X (.Name x p) (tVar i))
    (hbase : attributeBase (.Name x p) name X.env (eval (.Name x p) X.env) = eval (.Name x p) X.env := by rfl) (hline : (apos.endLine == cpos.line) = true := by rfl) :
    DE X g false false (.Call (.Attribute (.Name x p) name apos) [] [] cpos) (dMeth f i dNil) W :=
  PE.imp (pe_bm0 pa slot hty hm hx hbase hline) fun σ H Q ⟨xs, env, S, w⟩ => by
    unfold dMeth at w
    split at w
    · rename_i ds0 hi0
      obtain ⟨a, vs, h1, h2, h3⟩ := own_lst S hi0
      exact ⟨.ref a, h1, .inl ⟨rfl, vs, SqL.of h2⟩, meth_end (pu := true) hv nr (.refl S) h1 IsDs.nil w⟩
    · exact w.elim
def fApp : List D → List D → M (D × List D)
  | ds, [d] => if ds.length < maxSeq then .ok (.non, ds ++ [d]) else stuck
  | _, _ => stuck
def fExt : List D → List D → M (D × List D)
  | ds, [.lst es] => if ds.length + es.length ≤ maxSeq then .ok (.non, ds ++ es) else stuck
  | _, _ => stuck
def fPop : List D → List D → M (D × List D)
  | ds, [] => match ds[ds.length - 1]? with
    | some d => .ok (d, ds.dropLast)
    | none => stuck
  | _, _ => stuck
theorem fApp_nr : NoRM fApp := fun a b k p h => by
  unfold fApp at h
  split at h <;> (try split at h) <;> cases h
theorem fExt_nr : NoRM fExt := fun a b k p h => by
  unfold fExt at h
  split at h <;> (try split at h) <;> cases h
theorem fPop_nr : NoRM fPop := fun a b k p h => by
  unfold fPop at h
  split at h <;> (try split at h) <;> cases h
theorem IsDs.one {c : Cc} {H : Hp} {d : D} {vs : List V} (r : IsDs c H [d] vs) : ∃ v, vs = [v] ∧ IsD c H d v := by
  unfold IsDs at r
  obtain ⟨v, r', rfl, h1, h2⟩ := r
  unfold IsDs at h2
  subst h2
  exact ⟨v, rfl, h1⟩
theorem vm_app {c : Cc} : VMt c rAppend fApp := by
  intro Z H a vs avs ds ads d ds' Q hZ ho r ra q k
  unfold fApp at q
  split at q
  · split at q
    · rename_i hz
      cases q
      obtain ⟨v, rfl, h1⟩ := ra.one
      exact ⟨a, vs, v, rfl, rfl, ho, by rw [maxSeq_eq, ← r.len]; exact hz, k _ _ (r.append (IsDs.cons h1 IsDs.nil)) isNon⟩
    · cases q
  · cases q
theorem vm_ext {c : Cc} : VMt c rExtend fExt := by
  intro Z H a vs avs ds ads d ds' Q hZ ho r ra q k
  unfold fExt at q
  split at q
  · split at q
    · rename_i hz
      cases q
      obtain ⟨v, rfl, h1⟩ := ra.one
      unfold IsD at h1
      obtain ⟨b, ws, rfl, h2, h3⟩ := h1
      exact ⟨a, b, vs, ws, rfl, rfl, ho, hide_full _ _ h2, by rw [maxSeq_eq, ← r.len, ← h3.len]; exact hz, k _ _ (r.append h3) isNon⟩
    · cases q
  · cases q
theorem vm_pop {c : Cc} : VMt c rPop fPop := by
  intro Z H a vs avs ds ads d ds' Q hZ ho r ra q k
  unfold fPop at q
  split at q
  · split at q
    · rename_i d' hd
      cases q
      have := ra
      unfold IsDs at this
      subst this
      obtain ⟨v, h1, h2⟩ := r.getD hd
      exact ⟨a, vs, v, rfl, rfl, ho, by rw [← r.len]; exact h1, k _ _ r.dropLast h2⟩
    · cases q
  · cases q

/-! ### pairs stored -/
def dumE (sc : Scope) : Env := { scope := sc, locals := 0, globals := 0, cells := [] }
theorem sws_eq {env : Env} (h : env.scope = sc) (ts : List Expr) (v : Expr) : swappedStores ts v env = swappedStores ts v (dumE sc) := by
  unfold swappedStores Env.blockKind Env.kindOf dumE
  rw [h]
theorem swp_eq {env : Env} (h : env.scope = sc) (t : Option Expr) (v : Expr) (l : Nat) : swapsWith v t l env = swapsWith v t l (dumE sc) := by
  unfold swapsWith Env.blockKind Env.kindOf dumE
  rw [h]
def sPar (i j : Nat) (ms : Av) : Sv := fun env => bnd (ms env) fun p => match p.1 with
  | [d1, d2] => bnd (put i (.va d1) p.2) fun e1 => bnd (put j (.va d2) e1) fun e2 => .ok (.nx, e2)
  | _ => stuck
theorem IsDs.two {c : Cc} {H : Hp} {d d2 : D} {vs : List V} (r : IsDs c H [d, d2] vs) : ∃ v v2, vs = [v, v2] ∧ IsD c H d v ∧ IsD c H d2 v2 := by
  unfold IsDs at r
  obtain ⟨v, r', rfl, h1, h2⟩ := r
  obtain ⟨v2, rfl, h3⟩ := h2.one
  exact ⟨v, v2, rfl, h1, h3⟩
def locL (sc : Scope) (x : Str) : Bool := sc.names.lookup x == some .local
theorem s_par {px py pt pt2 : Pos} {kt k2 : Nat} (C : Cok nn X W P w K mg base N sc k false) (i j : Nat) (hi : N[i]? = some x) (hj : N[j]? = some y) (hij : i ≠ j) (hx : locL sc x = true) (hy : locL sc y = true) (hsh : shs.all (!·) = true) (ha : DA X g pu shs [a, b] ma W)
    (hw : swappedStores [.Tuple [.Name x px, .Name y py] kt pt] (.Tuple [a, b] k2 pt2) (dumE sc) = pure (some [x, y]))
    (hs : swapsWithSole [.Tuple [.Name x px, .Name y py] kt pt] (.Tuple [a, b] k2 pt2) pos.line X.env = pure false := by rfl) :
    DS X g (.Assign [.Tuple [.Name x px, .Name y py] kt pt] (.Tuple [a, b] k2 pt2) pos) (sPar i j ma) W :=
  PS.imp (ps_par C.calm (by rw [C.eN]; exact C.nd) (by rw [C.eN]; exact hi) (by rw [C.eN]; exact hj) hij (by rw [C.es]; exact eq_of_beq hx) (by rw [C.es]; exact eq_of_beq hy) ha (by rw [sws_eq C.es]; exact hw) hs) fun E σ H ⟨xs, env, S, w⟩ =>
    ⟨xs, env, S, WantS.bindE w fun ds env1 vs H1 e1 s1 r1 w1 => by
      have rc := r1.clean hsh
      dsimp only at w1
      split at w1
      · rename_i d1 d2
        obtain ⟨v1, v2, rfl, h1, h2⟩ := rc.two
        rw [← s1.hid] at h1 h2
        have S1 := s1.st.setVa i h1
        rcases put_cases i (.va d1) env1 with q | ⟨q, h0⟩ <;> rw [q] at w1
        · exact w1.elim
        rw [bnd_ok] at w1
        rcases put_cases j (.va d2) (env1.set i (.va d1)) with q | ⟨q, h3⟩ <;> rw [q] at w1
        · exact w1.elim
        have k1 := kept_va (i := i) (d := d1) (v := v1) s1 h0
        have h2' := h2.same (Kept.smH (kept_set_va (env := env1) (σ := σ) (H := H1) (i := i) (d := d1) (v := v1) h0))
        exact ⟨v1, v2, rfl, w1 _ H1 (S1.setVa j h2') (k1.trans (kept_set_va h3))⟩
      · exact w1.elim⟩

/-! ### augmented stores -/
def sAug (i : Nat) (f : D → D → M D) (m : Ev) : Sv := fun env => match env[i]? with
  | some (.va d) => bnd (m env) fun p => bnd (f d p.1) fun z => bnd (put i (.va z) p.2) fun e => .ok (.nx, e)
  | _ => stuck
theorem s_aug {op : Operator} {r : R2} {f : D → D → M D} (C : Cok nn X W P w K mg base N sc k false) (ho : OpR X (inplaceOp op) r) (hv : VB (cc X g) r f) (nr : NoR2 f) (i : Nat) (hi : N[i]? = some x) (hl : locB sc x = true) (he : DE X g pu sh e m W) : DS X g (.AugAssign (.Name x pos') op e pos) (sAug i f m) W := by
  have hl' := locB_of hl
  refine PS.imp (ps_aug (by rw [C.eN]; exact C.nd) (by rw [C.eN]; exact hi) (by rw [C.es]; exact hl') he ho ?_) fun E σ H ⟨xs, env, S, w⟩ => ?_
  · rcases hl' with h | h
    · exact .inr (by rw [C.es]; exact h)
    · exact .inl (C.fn rfl x)
  · unfold sAug at w
    split at w
    · rename_i d hd
      obtain ⟨v, h1, h2⟩ := S.va i d hd
      refine ⟨v, h1, xs, env, S, WantS.bindE w fun d2 env1 u H1 e1 s1 r1 w1 => ?_⟩
      dsimp only at w1
      cases q : f d d2 with
      | error z =>
        rw [q] at w1
        cases z with
        | raise kk pp => exact absurd q (nr _ _ _ _)
        | stuck => exact w1.elim
      | ok z =>
        rw [q] at w1
        refine hv (Hid xs env σ) H1 v u d d2 z _ (fun a ha => s1.st.hid (by rw [s1.hid]; exact ha)) (RepS.of (h2.same s1.smH)) (Rep.shell r1) q fun t H2 k2 hd2 => ?_
        have s2 := s1.grow k2
        rw [bnd_ok] at w1
        rcases put_cases i (.va z) env1 with q | ⟨q, h0⟩ <;> rw [q] at w1
        · exact w1.elim
        · exact w1 _ H2 (s2.st.setVa i (by rw [s2.hid]; exact hd2)) (kept_va s2 h0)
    · exact w.elim
def aMul : D → D → M D := dIntOp (fun i j => decide (i.natAbs < 18446744073709551616) || decide (j.natAbs < 18446744073709551616)) fun i j => i * j
theorem aMul_nr : NoR2 aMul := fun d1 d2 k p h => by
  unfold aMul dIntOp at h
  split at h <;> (try split at h) <;> cases h
theorem va_mul {c : Cc} : VB c (rI CMul fun i j => .int (i * j)) aMul := vb_int fun i j h => by
  rw [Bool.or_eq_true, decide_eq_true_eq, decide_eq_true_eq] at h
  unfold CMul
  have e : (2 : Int) ^ 64 = 18446744073709551616 := by decide
  omega
abbrev aAdd : D → D → M D := dIntOp (fun _ _ => true) fun i j => i + j
abbrev aSub : D → D → M D := dIntOp (fun _ _ => true) fun i j => i - j
abbrev aOr : D → D → M D := dIntOp (fun _ _ => true) Builtin.bitOr
theorem va_add {c : Cc} : VB c (rI0 fun i j => .int (i + j)) aAdd := vb_int0
theorem va_sub {c : Cc} : VB c (rI0 fun i j => .int (i - j)) aSub := vb_int0
theorem va_or {c : Cc} : VB c (rI0 fun i j => .int (Builtin.bitOr i j)) aOr := vb_int0
end
end Dn

/-! Dn17 -/
set_option Elab.async false
set_option linter.all false
set_option maxRecDepth 100000
set_option maxHeartbeats 2000000
/-! Dn17: own errors over ValueError, made by super().__init__(text); self.reason = reason. -/
namespace Dn
namespace Sup
open PySem PySem.W PySem.Calls PyProof.Rows PySem.HandSPX
/-! ### ValueError.__init__ bound to an error -/
abbrev bv (x : Addr) : Obj := { cls := .type "method-wrapper", dict := none, data := .fields #[.builtin "ValueError.__init__", .ref x], slots := #[] }
theorem type_vi : typeOf (.builtin "ValueError.__init__") = pure (.type "wrapper_descriptor") := by show builtinType _ = _; rw [builtinType_eq_fast]; kernel_rfl
theorem nav : (kfb_private% "nameAndClass") (Value.builtin "ValueError.__init__") = (pure (("__init__" : Str), Value.type "ValueError") : Sem (Str × Value)) := by kernel_rfl
section
variable {prog : Program} {w : World} {M : Model} {A : Around} {E : Value → Shared → Prop} {h : Heap} {g : Array GenState} {d : Drawn} {t : Nat} {os : OsState}
theorem run_v {x C : Addr} {P : Fin → Shared → Prop} (hin : Looks M h (isInstance (.ref x) (.type "ValueError")) true) (hq : P (.done (.ret (.ref h.objs.size))) ⟨h.push (bv x), g, d, t, os⟩) :
    wpAny M A (Builtin.«wrapper_descriptor.__get__» ⟨[.builtin "ValueError.__init__", .ref x, .ref C], []⟩) P E ⟨h, g, d, t, os⟩ := by
  unfold Builtin.«wrapper_descriptor.__get__»
  refine wpAny_bind (wpAny_of_eq (a := (.builtin "ValueError.__init__", some (.ref x), some (.ref C))) (by first | rfl | kernel_rfl) ?_)
  show wpAny M A ((kfb_private% "checkInstance") (.builtin "ValueError.__init__") (.ref x) >>= fun _ => newFields "method-wrapper" [.builtin "ValueError.__init__", .ref x] >>= fun r => ret r) P E _
  refine wpAny_bind ?_
  show wpAny M A ((kfb_private% "nameAndClass") (.builtin "ValueError.__init__") >>= _) _ E _
  refine wpAny_bind (wpAny_of_eq nav ?_)
  show wpAny M A (isInstance (.ref x) (.type "ValueError") >>= _) _ E _
  refine wpAny_bind (hin.at ?_)
  refine KFB.if_not rfl ?_
  refine wpAny_pure ?_
  exact wpAny_bind (wpAny_newObj_type (wpAny_pure hq))
theorem ga_v {so D x C : Addr} {l₀ l : List Value} {K : Frag} {name : Str} {tk : Tok} {Q : Fin → Shared → Prop}
    (hso : h.get? so = some { cls := .type "super", dict := none, data := .fields #[.ref D, .ref x, .ref C], slots := #[] }) (hno : Looks (model prog w) h (opaqueClassAbove (.ref C)) none)
    (hC : Looks (model prog w) h (mroOf (.ref C)) l₀) (hl : (l₀.dropWhile (· != .ref D)).drop 1 = l) (X : K.In h)
    (hf : alongIn K name l = some (some (.builtin "ValueError.__init__"))) (hxC : x ≠ C) (hn : (name == ("__class__" : Str)) = false) (hin : Looks (model prog w) h (isInstance (.ref x) (.type "ValueError")) true)
    (hq : Q (.done (.ret (.ref h.objs.size))) ⟨h.push (bv x), g, d, t, os⟩) :
    wpAny (model prog w) A (Builtin.«super.__getattribute__» ⟨[.ref so, .str name tk], []⟩) Q E ⟨h, g, d, t, os⟩ := by
  have hlk := ESX.slot_wd.lookup
  have hne : (Value.ref x == Value.ref C) = false := by simp [hxC]
  have hTf := type_vi
  have hTi : Shared.TypeIs ⟨h, g, d, t, os⟩ (.builtin "ValueError.__init__") "wrapper_descriptor" := type_vi
  have hdt : ({ cls := .type "super", dict := none, data := .fields #[.ref D, .ref x, .ref C], slots := #[] } : Obj).data = .fields #[.ref D, .ref x, .ref C] := rfl
  have f0 : (#[.ref D, .ref x, .ref C] : Array Value)[0]? = some (.ref D) := rfl
  have f1 : (#[.ref D, .ref x, .ref C] : Array Value)[1]? = some (.ref x) := rfl
  have f2 : (#[.ref D, .ref x, .ref C] : Array Value)[2]? = some (.ref C) := rfl
  unfold Builtin.«super.__getattribute__»
  repeat (first
    | (with_reducible refine wpAny_field hso hdt f0 ?_) | (with_reducible refine wpAny_field hso hdt f1 ?_) | (with_reducible refine wpAny_field hso hdt f2 ?_)
    | (with_reducible refine ks_wpAny_notOpaque hno ?_)
    | (with_reducible refine Looks.at hC ?_; rw [hl])
    | (refine ks_forIn_along X (fun _ _ => rfl) rfl ?_ hf)
    | (with_reducible refine wpAny_call_entry ESX.slot_wd hTi ESX.entry_wd ?_ (ESX.args_wd _ _ _))
    | (with_reducible refine run_v hin ?_)
    | (with_reducible refine ⟨_, rfl, ?_⟩)
    | (simp only [hn, hne, Bool.or_false, Bool.false_eq_true, if_false])
    | wp_step
    | dsimp only)
  all_goals exact hq
theorem getMethod_v {so D x C : Addr} {l₀ l : List Value} {K : Frag} {name : Str} {pl : Sem Bool} {Q : Value × List Value → Shared → Prop}
    (hso : h.get? so = some { cls := .type "super", dict := none, data := .fields #[.ref D, .ref x, .ref C], slots := #[] }) (hno : Looks (model prog w) h (opaqueClassAbove (.ref C)) none)
    (hC : Looks (model prog w) h (mroOf (.ref C)) l₀) (hl : (l₀.dropWhile (· != .ref D)).drop 1 = l) (X : K.In h)
    (hf : alongIn K name l = some (some (.builtin "ValueError.__init__"))) (hxC : x ≠ C) (hn : (name == ("__class__" : Str)) = false) (hin : Looks (model prog w) h (isInstance (.ref x) (.type "ValueError")) true)
    (hq : Q (.ref h.objs.size, []) ⟨h.push (bv x), g, d, t + 1, os⟩) :
    wpAny (model prog w) A (getMethod (.ref so) name pl) Q E ⟨h, g, d, t, os⟩ := by
  have hlk := F.ks_slot_super_ga.lookup
  have hcan := F.ks_canon_super_ga
  have hT : ∀ t', (⟨h, g, d, t', os⟩ : Shared).TypeIs (.ref so) "super" := fun _ => ⟨_, hso, rfl⟩
  unfold getMethod
  refine wpAny_bind (wpAny_specialOf (hT _) hlk ?_)
  show wpAny _ _ (if (Manifest.canonical "super.__getattribute__" != "object.__getattribute__") = true then _ else _) _ _ _
  rw [if_pos hcan]
  unfold getAttr getAttrBy
  refine wpAny_bind (wpAny_bind (wpAny_mkText (wpAny_holding (wpAny_bind (wpAny_typeOf (hT _) (wpAny_bind (wpAny_of_eq hlk ?_)))))))
  show wpAny _ _ (getAttrByItsOwn (.ref so) (.str name t) (.type "super") (.builtin "super.__getattribute__") true false) _ _ _
  unfold getAttrByItsOwn hookBefore callGetattribute boundAndCalled
  refine wpAny_bind (wpAny_of_eq (show (if onTheHeap (.type "super") then typeLookup (.type "super") "__getattr__" else pure none) = pure none from rfl) ?_)
  refine wpAny_bind (wpAny_attempt (wpAny_holding ?_))
  show wpAny _ _ (bindSpecial (.builtin "super.__getattribute__") (.ref so) >>= _) _ _ _
  refine wpAny_bind (wpAny_of_eq (F.ks_slot_super_ga.bind _) ?_)
  refine wpAny_mono (Q := fun v s' => v = .ref h.objs.size ∧ s' = ⟨h.push (bv x), g, d, t + 1, os⟩) (E := fun _ _ => False)
    (wpAny_call_entry F.ks_slot_super_ga (hT _) F.ks_entry_super_ga (ga_v hso hno hC hl X hf hxC hn hin ⟨_, rfl, rfl, rfl⟩) (F.ks_gaArgs_super _ _)) (fun v s' hv => ?_) fun _ _ z => z.elim
  obtain ⟨rfl, rfl⟩ := hv
  exact wpAny_pure (wpAny_pure hq)
end
section
variable {prog : Program} {w : World} {M : Model} {A : Around} {E : Value → Shared → Prop} {s : Shared}
theorem callWith_v {pos : Pos} {u x : Addr} {args : List (Bool × Sem Value)} {Q : Value → Shared → Prop} (hplain : args.any (·.1) = false)
    (h : wpAny M A (evalArgs (.ref u) true args []) (fun a s₁ => s₁.heap.get? u = some (bv x) ∧ wpAny M A (call (.ref u) ([] ++ a.pos) a.kw) Q E s₁) E s) : wpAny M A (callWith pos (.ref u) [] args []) Q E s := by
  unfold callWith
  refine wpAny_bind (wpAny_holding (wpAny_mono h (fun a s₁ h₁ => wpAny_bind (wpAny_standAt ?_)) fun _ _ x => x))
  obtain ⟨ho, hcall⟩ := h₁
  simp only [hplain, List.any_nil, Bool.or_false]
  refine wpAny_bind (m := keeperOf (.ref u)) ?_
  unfold keeperOf
  refine wpAny_bind (wpAny_load ho ?_)
  simp only [bv, show (Value.type "method-wrapper" != Value.type "method") = true by decide, show (Value.type "method-wrapper" == Value.type "builtin_function_or_method" || Value.type "method-wrapper" == Value.type "method-wrapper") = true by decide, if_true]
  refine wpAny_pure ?_
  exact wpAny_bind (wpAny_mono hcall (fun r s₂ hr => wpAny_bind (wpAny_holding (wpAny_point (wpAny_pure hr)))) fun _ _ x => x)
end
section
variable {prog : Program} {w : World} {A : Around} {E : Value → Shared → Prop} {h : Heap} {g : Array GenState} {d : Drawn} {t : Nat} {os : OsState}
variable {nm q : Str} {C N : Addr} {bs bm : List Value} {hdct : Bool} {sn : List Str} {sub : List Value} {ab : Bool} {col : Option Bool} {dd : Option Addr} {k0 k1 k2 k3 k5 : Option Value}
theorem call_v {u e t0 : Addr} {rest : List Value} {Q : Value → Shared → Prop}
    (hC : h.get? C = some (excClassObj nm q C N bs bm hdct sn sub ab col dd k0 k1 k2 k3 k5 "ValueError.__new__")) (he : h.get? e = some (excO C t0)) (hu : h.get? u = some (bv e)) (hrest : rest.length ≤ sizeLine)
    (hq : ∀ h' t1, (∀ b o, b ≠ e → h.get? b = some o → h'.get? b = some o) → h'.get? e = some (excO C t1) → Q .none ⟨h', g, d, t, os⟩) :
    wpAny (model prog w) A (call (.ref u) rest) Q E ⟨h, g, d, t, os⟩ := by
  refine wpAny_call (codeAny_of_tree ?_)
  show wpAny _ A.in1 (callAny (.ref u) ⟨rest, []⟩) _ _ _
  simp only [callAny]
  refine wpAny_bind (wpAny_load hu ?_)
  simp only [bv, show (Value.type "method-wrapper" == Value.type "method" || Value.type "method-wrapper" == Value.type "builtin_function_or_method" || Value.type "method-wrapper" == Value.type "method-wrapper") = true by decide, if_true]
  refine W.KFB.if_so (by decide) ?_
  refine wpAny_bind (ESX.check_bound F.excBase_ValueError hC he rfl ?_)
  refine wpAny_bind (wpAny_pure (wpAny_pure ?_))
  refine ⟨Code.quiet_builtin _ (by decide +kernel), codeAny_builtin F.excBase_ValueError.initEntry ?_⟩
  rw [Around.under_plainId F.excBase_ValueError.init.plain _]
  wp_walk
  refine hq _ h.objs.size (fun b o hb ho => ?_) ?_
  · rw [Heap.get?_update_other _ _ (Ne.symm hb)]
    exact Heap.get?_push_of_some _ ho
  · rw [Heap.get?_update_self _ (Heap.get?_push_of_some _ he) rfl]
    rfl
end

end Sup
end Dn

/-! Dn18 -/
set_option Elab.async false
set_option linter.all false
set_option maxRecDepth 100000
set_option maxHeartbeats 2000000
/-! Dn18: the __init__ of such an error; raising it. -/
namespace Dn
namespace Sup
open PySem PySem.W PySem.Calls PyProof.Rows PySem.HandSPX
/-! ### the text of __init__ -/
def iA (p1 p2 : Pos) : Arguments := { posonlyargs := [], args := [{ arg := "self", annotation := none, pos := p1 }, { arg := "reason", annotation := none, pos := p2 }], vararg := none, kwonlyargs := [], kw_defaults := [], kwarg := none, defaults := [] }
def iB (txt : Str) (j : Nat) (a1 a2 a3 a4 a5 a6 q1 q2 q3 q4 : Pos) : List Stmt :=
  [.Expr (.Call (.Attribute (.Call (.Name "super" a1) [] [] a2) "__init__" a3) [.Constant (.str txt) j a4] [] a5) a6, .Assign [.Attribute (.Name "self" q1) "reason" q2] (.Name "reason" q3) q4]
def iS : Scope := { kind := .function, names := [(PySem.Str.ofString "self", .local), (PySem.Str.ofString "reason", .local), (PySem.Str.ofString "__class__", .free), (PySem.Str.ofString "super", .globalImplicit)], isGenerator := false, isCoroutine := false, more := [] }
/-- what the written part says of such a class, at C, and of its __init__, at fI -/
structure Txt (P : Program) (K : Frag) (mg : Str → Option Value) (C fI : Addr) : Prop where
  cls : ∃ nm q N bs bm sn sub ab col dd k0 k1 k2 k3 k5, K.lookup C = some (excClassObj nm q C N bs bm true sn sub ab col dd k0 k1 k2 k3 k5 "ValueError.__new__") ∧ refsVE bm = true
  sa : findIn K (.ref C) "__setattr__" = some (some (.builtin "object.__setattr__"))
  noR : findIn K (.ref C) "reason" = some none
  iC : findIn K (.ref C) "__init__" = some (some (.ref fI))
  tI : typeIn K (.ref fI) = some (.type "function")
  kC : keepIn K (.ref C) = true
  exC : subIn K (.ref C) (.type "BaseException") = some true
  tyC : typeIn K (.ref C) = some (.type "type")
  ms : mroIn K C (.ref C) = some true
  mv : mroIn K C (.type "ValueError") = some true
  si : ks_superIn K C C "__init__" = some (some (.builtin "ValueError.__init__"))
  st : nsIn K cStatics "thirdparty.any" = some none
  ns : mg "super" = none
  top : (P.main.scope.names.lookup ("super" : Str)).isSome = false
  fn : ∃ (oc : Value) (od : Option Addr) (qual : Str) (doc pm : Value) (an : Option Addr) (cda : Addr) (ct : Value) (cc : Addr) (osl : Array (Option Value)) (txt : Str) (j : Nat) (p1 p2 a1 a2 a3 a4 a5 a6 q1 q2 q3 q4 : Pos),
    K.lookup fI = some ⟨oc, od, .func (ksFn "__init__" qual (iA p1 p2) (iB txt j a1 a2 a3 a4 a5 a6 q1 q2 q3 q4) iS .none .none doc pm an (.ref cda) ct cc), osl⟩ ∧ codeIn K (.ref cda) qual = true ∧ (a3.endLine == a5.line) = true ∧
      (∃ (ccl : Value) (cdd : Option Addr) (vs : Array Value) (ccs : Array (Option Value)) (file : Str) (tf : Tok), K.lookup cda = some ⟨ccl, cdd, .fields vs, ccs⟩ ∧ vs[2]? = some (.str file tf) ∧ ((P.main.file : Str) == file) = true) ∧
      ∃ (cl : Value) (cld : Option Addr) (csl : Array (Option Value)), K.lookup cc = some ⟨cl, cld, .cell (some (.ref C)), csl⟩
/-- what __init__ leaves of a new error at x -/
structure End (h h' : Heap) (x C dx t1 : Addr) (v : Value) : Prop where
  keep : ∀ b o, b ≠ x → h.get? b = some o → h'.get? b = some o
  obj : h'.get? x = some { cls := .ref C, dict := some dx, data := .fields #[.ref t1, .none, .none, .none, .bool false, .none] }
  dbig : h.objs.size ≤ dx
  dne : dx ≠ x
  ns : h'.Ns1 dx (fun y => if y = "reason" then some v else none)
theorem call_eq {o e : Expr} {name : Str} {apos pos : Pos} {env : Env} (hline : (apos.endLine == pos.line) = true) (hs : starEach [e] env = [(false, eval e env)]) : eval (.Call (.Attribute o name apos) [e] [] pos) env = (do
      let ov ← attributeBase o name env (eval o env)
      standAt apos.atName
      let (f, first) ← holding [ov] (getMethod ov name (do return (← importBound o env).getD true))
      callWith pos f first (backTo pos (starEach [e] env)) []) := by
  rw [arm_eval_Call]
  have hp : methodCallPos true o env apos pos = pure pos := by unfold methodCallPos; simp [hline]
  have hf : methodCallForm ([e].length + ([] : List Keyword).length) (backTo pos (starEach [e] env)) (backToKw pos (keywordEach [] env)) = true := by rw [hs]; rfl
  unfold methodCall
  rw [hf, hp]
  simp only [pure_bind]
  rfl
theorem kept_but {K : Frag} {h h' : Heap} {x : Addr} (X : K.In h) (hx : K.lookup x = none) (k : ∀ b o, b ≠ x → h.get? b = some o → h'.get? b = some o) : K.In h' := fun a o e =>
  k a o (fun z => by rw [z, hx] at e; cases e) (X a o e)
section
variable {prog : Program} {w : World} {A : Around} {E : Value → Shared → Prop} {R : Result → Shared → Prop} {s : Shared} {K : Frag} {mg mb : Str → Option Value} {C fI : Addr}
theorem sup_init (T : Txt prog K mg C fI) {x t0 : Addr} {v : Value} (X : K.In s.heap) (hlim : s.heap.NoLimit) (hG : s.heap.Ns mainGlobals mg) (hB : s.heap.Ns builtinsNs mb) (hb : mb "super" = some (.type "super")) (hx : s.heap.get? x = some (excO C t0)) (hnx : K.lookup x = none) (hroom : A.depth < recursionLimit)
    (hq : ∀ h' tk dx t1, End s.heap h' x C dx t1 v → R (.ok (.ret .none)) { s with heap := h', toks := tk }) :
    codeAny (model prog w) A (.call (.ref fI) ⟨[.ref x, v], []⟩) R s := by
  obtain ⟨oc, od, qual, doc, pm, an, cda, ct, cc, osl, txt, j, p1, p2, a1, a2, a3, a4, a5, a6, q1, q2, q3, q4, ho, hcd, hline, ⟨ccl, cdd, vs, ccs, file, tf, hcda, hvs, hfile⟩, cl, cld, csl, hcc⟩ := T.fn
  obtain ⟨nm, q, N, bs, bm, sn, sub, ab, col, dd, k0, k1, k2, k3, k5, hC, hbm⟩ := T.cls
  have hcl : clsIn K C = some { name := nm, bases := bs, mro := .ref C :: bm, ns := N, qualname := q, hasDict := true, slotNames := sn, subclasses := sub, abstract := ab, collection := col, hasDel := false } := by unfold clsIn; rw [hC] <;> rfl
  refine ks_codeAny_call_defAt (body := iB txt j a1 a2 a3 a4 a5 a6 q1 q2 q3 q4) (binds := [("self", .ref x), ("reason", v)]) hroom (X _ _ ho) rfl hlim (codeRec_of X hcd) rfl (BindsTo.of_eq (by first | rfl | with_unfolding_all rfl)) (show ∀ y ∈ iS.names, y.2 ≠ .cell by decide) (fun y hy => ?_) (fun h₁ hn k => ?_)
  · rcases List.mem_cons.mp hy with rfl | hy
    · rfl
    · rw [List.mem_singleton.mp hy]; rfl
  have X₁ : K.In h₁ := X.keeps k
  have hxL : s.heap.objs.size ≠ x := Nat.ne_of_gt (Heap.lt_size hx)
  have hxC : x ≠ C := fun z => by rw [z, hC] at hnx; cases hnx
  have hx₁ := k _ _ hx
  obtain ⟨s0, gg, dr, tk0, os⟩ := s
  show _root_.PySem.wpAt (model prog w) _ (.func (iB txt j a1 a2 a3 a4 a5 a6 q1 q2 q3 q4) (ksEnv qual iS s0.objs.size fI (.ref cda) cc)) (execs (iB txt j a1 a2 a3 a4 a5 a6 q1 q2 q3 q4) (ksEnv qual iS s0.objs.size fI (.ref cda) cc)) _ _ _
  have hD : ∃ oD, h₁.get? C = some oD ∧ oD.data = .cls { name := nm, bases := bs, mro := .ref C :: bm, ns := N, qualname := q, hasDict := true, slotNames := sn, subclasses := sub, abstract := ab, collection := col, hasDel := false } := ⟨_, X₁ _ _ hC, rfl⟩
  obtain ⟨oD, hD1, hD2⟩ := hD
  have I₁ : InstAt h₁ x (excO C t0) C none := ⟨hx₁, rfl, rfl, trivial⟩
  refine ks_wpAt_execs_cons (ks_wpAt_Expr_any (ks_wpAt_MethodCall (ks_wpAt_super_base (env := ksEnv qual iS s0.objs.size fI (.ref cda) cc) rfl rfl rfl rfl (X₁ _ _ ho) rfl rfl rfl (X₁ _ _ hcda) rfl hvs hfile T.top ?_) (call_eq hline rfl)))
  · have hnone : mg "super" = none := T.ns
    refine ks_loadName_global rfl rfl (loadGlobal_builtin (env := ksEnv qual iS s0.objs.size fI (.ref cda) cc) (hG.keeps k) hnone (hB.keeps k) hb ⟨rfl, ?_⟩)
    refine wpAny_loadName_free rfl rfl rfl ⟨_, X₁ _ _ hcc, rfl⟩ ?_
    refine wpAny_loadName_local rfl rfl hn (by first | rfl | with_unfolding_all rfl | kernel_rfl) ?_
    refine ks_wpAny_isType_cls hD1 hD2 ⟨rfl, ?_⟩
    refine ks_wpAny_call_super hD1 hD2 I₁.at_ I₁.cls (fun c e => by cases e) (looks_mroIn X₁ T.ms) (fun h₂ so k₂ => ?_)
    have X₂ : K.In h₂ := X₁.keeps k₂
    have hx₂ := k₂ _ _ hx₁
    have I₂ : InstAt h₂ x (excO C t0) C none := ⟨hx₂, rfl, rfl, trivial⟩
    have hsi : alongIn K "__init__" (((Value.ref C :: bm).dropWhile (· != .ref C)).drop 1) = some (some (.builtin "ValueError.__init__")) := by
      have := T.si
      unfold ks_superIn at this
      rw [hcl] at this
      exact this
    refine getMethod_v so (looks_opaque X₂ T.st) (l₀ := .ref C :: bm) ((looks_clsIn X₂ hcl).andThen .now) rfl X₂ hsi hxC (by decide) (I₂.type.andThen (looks_mroIn X₂ T.mv)) ?_
    have kv : ∀ b o, h₂.get? b = some o → (h₂.push (bv x)).get? b = some o := fun b o e => Heap.get?_push_of_some _ e
    have hu : (h₂.push (bv x)).get? h₂.objs.size = some (bv x) := Heap.get?_push_size _ rfl
    refine callWith_v (x := x) rfl (evalArgs_plain ?_)
    refine spliced_cons (wpAny_Constant_str (k := j) (pos := a4) (spliced_nil ⟨hu, ?_⟩))
    refine call_v (kv _ _ (X₂ _ _ hC)) (kv _ _ hx₂) hu (by rw [sizeLine_eq]; exact (by decide : 1 ≤ 16777216)) fun h₃ t₃ k₃ hx₃ => ?_
    have old : ∀ b o, b ≠ x → h₁.get? b = some o → h₃.get? b = some o := fun b o hb e => k₃ b o hb (kv _ _ (k₂ _ _ e))
    have X₃ : K.In h₃ := kept_but X₁ hnx old
    have hn₃ : h₃.Ns s0.objs.size (fun y => [((PySem.Str.ofString "self"), Value.ref x), ((PySem.Str.ofString "reason"), v)].reverse.lookup y) := by
      obtain ⟨oL, es, ep, hL, r⟩ := hn
      exact ⟨oL, es, ep, old _ _ hxL hL, r⟩
    refine ks_wpAt_execs_cons (ks_wpAt_Assign_Attr ?_)
    refine wpAt_of_wpAny (wpAny_Name (wpAny_loadName_local rfl rfl hn₃ (by first | rfl | with_unfolding_all rfl | kernel_rfl) ?_) (by decide))
    refine wpAny_Name (wpAny_loadName_local rfl rfl hn₃ (by first | rfl | with_unfolding_all rfl | kernel_rfl) ?_) (by decide)
    refine set_plain X₃ (ox := excO C t₃) (od := none) ⟨hx₃, rfl, rfl, trivial⟩ T.sa ?_
    refine exc_osa X₃ hx₃ hcl (show refsVE (.ref C :: bm) = true from hbm) rfl T.noR (fun h₄ tk₄ dx k₄ dn dne hx₄ hn₄ => ?_)
    have z : s0.objs.size < h₁.objs.size := hn.lt
    have z3 : s0.objs.size < h₃.objs.size := hn₃.lt
    exact wpAt_of_wpAny (wpAny_execs_nil (hq h₄ tk₄ dx t₃ ⟨fun b o hb e => k₄ b o hb (old b o hb (k b o e)), hx₄, Nat.le_of_lt (Nat.lt_of_lt_of_le z3 dn), dne, hn₄⟩))
/-- an error just made -/
structure Made (h h' : Heap) (e C d : Addr) (v : Value) : Prop where
  keep : ∀ b o, h.get? b = some o → h'.get? b = some o
  new : h.objs.size ≤ e
  obj : ∃ oe vs, h'.get? e = some oe ∧ oe.cls = .ref C ∧ oe.dict = some d ∧ oe.data = .fields vs ∧ vs[1]? = some .none ∧ vs[2]? = some .none ∧ 4 < vs.size
  dbig : h.objs.size ≤ d
  dne : d ≠ e
  ns : h'.Ns1 d (fun y => if y = "reason" then some v else none)
theorem sup_made (T : Txt prog K mg C fI) {v : Value} (X : K.In s.heap) (hlim : s.heap.NoLimit) (hG : s.heap.Ns mainGlobals mg) (hB : s.heap.Ns builtinsNs mb) (hb : mb "super" = some (.type "super")) (hroom : A.depth + 1 < recursionLimit)
    (hq : ∀ h' tk e d, Made s.heap h' e C d v → R (.ok (.ret (.ref e))) { s with heap := h', toks := tk }) :
    codeAny (model prog w) A (.call (.ref C) ⟨[v], []⟩) R s := by
  obtain ⟨nm, q, N, bs, bm, sn, sub, ab, col, dd, k0, k1, k2, k3, k5, hC, hbm⟩ := T.cls
  obtain ⟨hp, g, dr, tk, os⟩ := s
  have k : ∀ b o, hp.get? b = some o → ((hp.push (kdv_tup [v])).push (excO C hp.objs.size)).get? b = some o := fun b o e => Heap.get?_push_of_some _ (Heap.get?_push_of_some _ e)
  have hget : ((hp.push (kdv_tup [v])).push (excO C hp.objs.size)).get? (hp.objs.size + 1) = some (excO C hp.objs.size) := by heap_get
  have hnx : K.lookup (hp.objs.size + 1) = none := by
    cases e : K.lookup (hp.objs.size + 1) with
    | none => rfl
    | some o =>
      have z : hp.get? (hp.objs.size + 1) = some o := X _ _ e
      exact absurd (Nat.lt_of_succ_lt (Heap.lt_size z)) (Nat.lt_irrefl _)
  refine call_own F.excBase_ValueError (fun Y => refsVE_contains Y bm hbm) (X _ _ hC) (looks_findIn X T.iC) (fun self => bind_fn X self T.tI) (by rw [sizeLine_eq]; exact (by decide : 1 ≤ 16777216)) ?_
  refine sup_init (mb := mb) (s := ⟨(hp.push (kdv_tup [v])).push (excO C hp.objs.size), g, dr, tk, os⟩) T (X.keeps k) (hlim.keeps k) (hG.keeps k) (hB.keeps k) hb hget hnx ?_ fun h' tk' dx t1 ⟨k', hx, dn, dne, hns⟩ => ?_
  · show A.depth + 1 < recursionLimit
    exact hroom
  · have old : ∀ b o, hp.get? b = some o → h'.get? b = some o := fun b o e => k' b o (Nat.ne_of_lt (Nat.lt_succ_of_lt (Heap.lt_size e))) (k b o e)
    have z : hp.objs.size + 1 + 1 ≤ dx := by
      have q := dn
      rw [Heap.size_push, Heap.size_push] at q
      exact q
    exact ⟨rfl, hq h' tk' (hp.objs.size + 1) dx ⟨old, Nat.le_succ _, ⟨_, _, hx, rfl, rfl, rfl, rfl, rfl, show 4 < 6 by decide⟩, Nat.le_trans (Nat.le_trans (Nat.le_succ _) (Nat.le_succ _)) z, dne, hns⟩⟩
end
end Sup

open PySem PySem.Spec L2
open PyProof.Rows hiding St
theorem relO_reason {v : V} {v' : Value} (r : RelV v v') (f : Str) : RelO (List.lookup f [(("reason" : Str), v)]) (if f = "reason" then some v' else none) := by
  by_cases hw : f = "reason"
  · subst hw
    rw [if_pos rfl]
    have q : List.lookup ("reason" : Str) [(("reason" : Str), v)] = some v := by simp [List.lookup]
    rw [q]
    exact r
  · rw [if_neg hw]
    have qw : (f == ("reason" : Str)) = false := by simpa using hw
    have q2 : List.lookup f [(("reason" : Str), v)] = none := by simp [List.lookup, qw]
    rw [q2]
    trivial
section
variable {X : Cx} {P : Program} {w : World} {K : PySem.W.Frag} {mg : Str → Option Value} {base : Heap} {N : List Str} {sc : Scope} {k : Nat} {bk nn : Bool} {g : Ce} {W : WX}
variable {pu sh : Bool} {e : Expr} {pos p pos' : Pos} {m : Ev} {x : Str} {C fI : Addr}
/-- C(e) -/
def tMkS (C : Addr) (ta : TA) : L2.St → Hp → XK → Prop := fun σ H Q => ta σ H fun vs H1 => ∃ v, vs = [v] ∧ ∀ d, H1 d = none → Q (.ref C) (some d) (upd H1 d (.xd [(("reason" : Str), v)]))
theorem pmk5_sup {te : TE} (T : Sup.Txt X.prog X.K X.mg C fI) (hr : X.A.depth + 1 < recursionLimit) (hg : Gl X x) (hm : X.mg x = some (.ref C)) (ha : PE X e te) (hdb : (x == ("__debug__" : Str)) = false)
    (he : starEach (e :: []) X.env = (false, eval e X.env) :: starEach [] X.env := by rfl) (hpl : (backTo pos (starEach [] X.env)).any (·.1) = false := by rfl) :
    L2H.PMk5 X (.Call (.Name x p) [e] [] pos) (tMkS C (tCons te tNil)) := by
  intro pins s σ H Q I h
  refine wpAny_Call_Name_kw (ld_glob I hg hm ?_ hdb)
  refine PySem.W.callWith_K (h₀ := X.base) I.ok.mod.kin T.kC (thn ((pa_cons ha pa_nil he).run pos pins s σ H _ I h) fun us s1 hh => ?_) he hpl
  obtain ⟨vs, H1, I1, r1, v, ev, q1⟩ := hh
  subst ev
  refine ⟨I1.kIn, ?_⟩
  cases r1 with
  | cons rv rn =>
    rename_i v' us'
    cases rn
    show wpAny _ _ (call (.ref C) [v']) _ _ _
    have hlim := I1.nolimit
    have hG := I1.mod.glob.keeps I1.bk
    obtain ⟨mb, hB0, hb0⟩ := I1.mod.blt
    have hB := hB0.keeps I1.bk
    have hb : mb "super" = some (.type "super") := (hb0 "super" (by decide)).trans rfl
    obtain ⟨hp, gg, dr, tk, os⟩ := s1
    refine wpAny_call (Sup.sup_made T I1.kIn hlim hG hB hb hr fun h' tk' e d M => ?_)
    show L2N.MkP X pins σ Q (.ref e) ⟨h', gg, dr, tk', os⟩ ∧ L2H.Six (.ref e) ⟨h', gg, dr, tk', os⟩
    obtain ⟨oe, fv, hoe, hc, hd, hdat, h1, h2, h4⟩ := M.obj
    have hns := M.ns
    obtain ⟨G', g1, g2⟩ := restrict h' fun b => decide (b ≠ e)
    have gk : ∀ b, b ≠ e → G'.get? b = h'.get? b := fun b hb => g1 b (decide_eq_true hb)
    have ge : G'.get? e = none := g2 e (by simp)
    have old : ∀ b o, hp.get? b = some o → G'.get? b = some o := fun b o q => (gk b (Nat.ne_of_lt (Nat.lt_of_lt_of_le (Heap.lt_size q) M.new))).trans (M.keep b o q)
    have ob : ObjOk X.prog X.w (upd H1 d (.xd [(("reason" : Str), v)])) G' d (.xd [(("reason" : Str), v)]) :=
      ⟨_, hns.at (fun o q => (gk d M.dne).trans q), fun f => relO_reason rv f⟩
    have J : Inv X pins σ (upd H1 d (.xd [(("reason" : Str), v)])) ⟨G', gg, dr, tk', os⟩ := I1.laid (t' := tk') old M.dbig ob
    refine ⟨⟨e, oe, fv, ⟨G', gg, dr, tk', os⟩, _, .ref C, some d, rfl, J, fun b o q => ?_, ge, hoe, ⟨hc, hd, fun vs ev => by rw [hdat] at ev; cases ev; exact h2⟩, hdat, h1, ?_, rfl, I1.bare, raises_own T.exC T.tyC, q1 d (I1.hok.fresh M.dbig)⟩, fun a' oe' vs' ea eo ed => by
      cases ea
      rw [show h'.get? e = some oe' from eo] at hoe
      cases hoe
      rw [ed] at hdat
      cases hdat
      exact h4⟩
    · by_cases hb : b = e
      · have q' : G'.get? b = some o := q
        rw [hb, ge] at q'; cases q'
      · exact (gk b hb).symm.trans q
    · rw [upd_ne (Ne.symm M.dne)]
      exact I1.hok.fresh M.new
theorem pmk_zc {e : Expr} {t : L2.St → Hp → XK → Prop} (h : L2N.PMk X e t) : PMk X e t := fun pins s σ H Q I w => thn (h pins s σ H Q I w) fun u s1 ⟨a, oe, vs, sI, H', cls, d, e1, e2, e3, e4, e5, e6, e7⟩ => ⟨a, oe, vs, sI, H', cls, d, e1, e2, e3, e4, e5, e6.zc, e7⟩
theorem raiseN {e : Expr} {t : L2.St → Hp → XK → Prop} {nn : Bool} (hc : X.calm = true) (tk : Tk nn X W) (he : L2N.PMk X e t) : PS X (.Raise (some e) none pos) (fun _ σ H => t σ H fun cls d H' => W cls d σ H') := by
  cases nn with
  | true => exact L2N.ps_raise hc tk he
  | false => exact L2.ps_raise hc tk (pmk_zc he)
def sRaise (i : Nat) (m : Ev) : Sv := fun env => bnd (m env) fun p => .error (.raise i p.1)
theorem s_raise (Cc : Cok nn X W P w K mg base N sc k bk) {i j : Nat} (T : Sup.Txt P K mg C fI) (hj : j + 1 ≤ k + 1) (hg : gloB sc x = true) (hm : mg x = some (.ref C)) (hec : g.ec i = some C) (hen : g.en i = "reason") (ha : DE X g pu false e m W) (hdb : (x == ("__debug__" : Str)) = false := by rfl)
    (he : starEach (e :: []) X.env = (false, eval e X.env) :: starEach [] X.env := by rfl) (hpl : (backTo pos (starEach [] X.env)).any (·.1) = false := by rfl) : DS X g (.Raise (some (.Call (.Name x p) [e] [] pos)) none pos') (sRaise i m) W := by
  have hgl := gloB_of Cc hg
  have tk := Cc.tk
  have hr := Cc.room
  have hc := Cc.calm
  obtain ⟨rfl, rfl, rfl, rfl, rfl⟩ := And.intro Cc.eP (And.intro Cc.ew (And.intro Cc.eK (And.intro Cc.em Cc.eb)))
  refine PS.imp (raiseN hc tk (L2H.PMk5.pmk (pmk5_sup T (by have := hr.dp; omega) hgl hm ha hdb he hpl))) fun E σ H ⟨xs, env, S, w⟩ => ?_
  refine ⟨xs, env, S, WantS.bindE w fun d env' v H' e s r w' => ⟨v, rfl, fun d' hd => ?_⟩⟩
  have r' : IsD (cc X g) (hide H' (Hid xs env σ)) d v := r
  refine w' _ _ σ _ rfl (s.sm.trans (hide_full.trans (same_new hd))) ⟨C, d', v, hec, rfl, rfl, ?_, r'.same (hide_full.trans (same_new hd))⟩
  show upd H' d' _ d' = some (.xd [(g.en i, v)])
  rw [hen]; exact upd_same
end
end Dn

/-! Dn19 -/
set_option Elab.async false
set_option linter.all false
set_option maxRecDepth 100000
set_option maxHeartbeats 1000000
/-! Dn19: a def that changes its first argument's list. -/
namespace Dn
open PySem PySem.Spec L2
open PyProof.Rows hiding St

def enterO (n : Nat) (s : D) (ds : List D) : En := Sl.ow s :: enter (n - 1) ds
def finO : M (Fl × En) → M (D × D)
  | .ok (fl, env) => match env[(0 : Nat)]? with
    | some (.ow s) => match fl with
      | .nx => .ok (.non, s)
      | .rt d => .ok (d, s)
      | .rf d => .ok (d, s)
      | _ => stuck
    | _ => stuck
  | .error e => .error e
section
variable {c : Cc} {N : List Str} {ds : List D} {s : D} {a : Addr} {ws : List V} {H : Hp} {xs : Addr → Prop} {o : HO}
theorem startO_eq (hN : ws.length + 1 ≤ N.length) : L2.start N (.ref a :: ws) = some (V.ref a) :: (ws.map some ++ List.replicate (N.length - 1 - ws.length) none) := by
  unfold L2.start
  simp only [List.map_cons, List.length_cons, List.cons_append]
  have : N.length - (ws.length + 1) = N.length - 1 - ws.length := by omega
  rw [this]
theorem enterO_owns (hN : ws.length + 1 ≤ N.length) {b : Addr} : Owns (enterO N.length s ds) (L2.start N (.ref a :: ws)) b ↔ b = a := by
  rw [startO_eq hN]
  constructor
  · rintro ⟨i, d, h1, h2⟩
    cases i with
    | zero => simp at h2; exact h2.symm
    | succ i =>
      have h1' : (enter (N.length - 1) ds)[i]? = some (Sl.ow d) := h1
      rcases enter_get h1' with ⟨e, _, h⟩ | h <;> cases h
  · rintro rfl
    exact ⟨0, s, rfl, rfl⟩
theorem enterO_ok (hN : ds.length + 1 ≤ N.length) (hx : ∀ b, xs b → H b ≠ none ∧ b ≠ a) (ho : H a = some o) (hr : ObjRep c (hide H (fun b => b = a ∨ xs b)) s o) (r : IsDs c (hide H (fun b => b = a ∨ xs b)) ds ws) :
    StOk c xs (enterO N.length s ds) (L2.start N (.ref a :: ws)) H := by
  have hl := r.len
  have hN' : ws.length + 1 ≤ N.length := by omega
  have eq : Hid xs (enterO N.length s ds) (L2.start N (.ref a :: ws)) = fun b => b = a ∨ xs b := by
    funext b; unfold Hid; rw [propext (enterO_owns (s := s) (ds := ds) hN')]
  refine ⟨?_, fun b hb => ⟨(hx b hb).1, fun z => (hx b hb).2 ((enterO_owns hN').mp z)⟩, fun i d h => ?_, fun i d h => ?_, fun i j d e b h1 h2 h3 h4 => ?_⟩
  · rw [startO_eq hN']
    unfold enterO enter
    simp [hl]
  · rw [eq, startO_eq hN']
    cases i with
    | zero => cases h
    | succ i =>
      have h' : (enter (N.length - 1) ds)[i]? = some (Sl.va d) := h
      rcases enter_get h' with ⟨e, h1, h2⟩ | h
      · cases h2
        obtain ⟨v, h3, h4⟩ := r.getD h1
        refine ⟨v, ?_, h4⟩
        show (ws.map some ++ _)[i]? = _
        rw [List.getElem?_append_left (by rw [List.length_map]; exact (List.getElem?_eq_some_iff.mp h3).1), List.getElem?_map, h3]
        rfl
      · cases h
  · rw [eq, startO_eq hN']
    cases i with
    | zero =>
      have : s = d := by
        have h' : some (Sl.ow s) = some (Sl.ow d) := h
        cases h'; rfl
      subst this
      exact ⟨a, o, rfl, ho, hr⟩
    | succ i =>
      have h' : (enter (N.length - 1) ds)[i]? = some (Sl.ow d) := h
      rcases enter_get h' with ⟨e, _, h⟩ | h <;> cases h
  · have z : ∀ {i d}, (enterO N.length s ds)[i]? = some (Sl.ow d) → i = 0 := fun {i d} h => by
      cases i with
      | zero => rfl
      | succ i =>
        have h' : (enter (N.length - 1) ds)[i]? = some (Sl.ow d) := h
        rcases enter_get h' with ⟨e, _, h⟩ | h <;> cases h
    rw [z h1, z h2]
theorem body_endO {Q : VK} {E : XK} {r : M (Fl × En)} (hN : ws.length + 1 ≤ N.length)
    (h : match finO r with
      | .ok (d, s') => ∀ v H' o', Same (hide H (· = a)) (hide H' (· = a)) → H' a = some o' → ObjRep c (hide H' (fun b => b = a ∨ xs b)) s' o' → IsD c (hide H' (fun b => b = a ∨ xs b)) d v → Q v H'
      | .error (.raise k p) => ∀ cls dd H', Same (hide H (· = a)) H' → ExcRep c H' k p cls dd → E cls dd H'
      | .error .stuck => False) :
    WantS c xs (enterO N.length s ds) (L2.start N (.ref a :: ws)) H (fun cls d _ H => E cls d H) { nx := fun _ H' => Q .non H', rt := Q } r := by
  have own : Owns (enterO N.length s ds) (L2.start N (.ref a :: ws)) = (· = a) := by funext b; exact propext (enterO_owns hN)
  have hw0 : isOw (enterO N.length s ds) 0 = true := rfl
  have hs0 : (L2.start N (.ref a :: ws))[0]? = some (some (V.ref a)) := by rw [startO_eq hN]; rfl
  cases r with
  | error e => cases e with
    | raise k p => exact fun cls dd σ' H' _ k' r => h cls dd H' (by rw [← own]; exact k') r
    | stuck => exact h
  | ok p =>
    obtain ⟨fl, env'⟩ := p
    have key : ∀ {σ' : St} {H' : Hp}, StOk c xs env' σ' H' → Kept (enterO N.length s ds) (L2.start N (.ref a :: ws)) H env' σ' H' →
        ∃ s' o', env'[0]? = some (Sl.ow s') ∧ H' a = some o' ∧ Same (hide H (· = a)) (hide H' (· = a)) ∧ ObjRep c (hide H' (fun b => b = a ∨ xs b)) s' o' ∧ Same (hide H' (Hid xs env' σ')) (hide H' (fun b => b = a ∨ xs b)) := fun {σ' H'} S' k => by
      obtain ⟨f1, f2⟩ := k.fx hw0
      obtain ⟨s', hs'⟩ := of_isOw f1
      obtain ⟨b, o', e1, e2, e3⟩ := S'.ow 0 s' hs'
      rw [f2, hs0] at e1; cases e1
      have sub : Same (hide H' (Hid xs env' σ')) (hide H' (fun b => b = a ∨ xs b)) := hide_sub fun b z => by
        rcases z with z | z
        · subst z; exact .inl ⟨0, s', hs', by rw [f2, hs0]⟩
        · exact .inr z
      refine ⟨s', o', hs', e2, fun b u hb => ?_, e3.same sub, sub⟩
      obtain ⟨h1, h2⟩ := hide_some hb
      have := k.sm b u (by rw [own]; exact hb)
      rw [hide_of (P := (· = a)) h1]
      exact (hide_some this).2
    cases fl with
    | nx =>
      intro σ' H' S' k
      obtain ⟨s', o', q1, q2, q3, q4, _⟩ := key S' k
      unfold finO at h
      simp only [q1] at h
      exact h .non H' o' q3 q2 q4 isNon
    | bk =>
      intro σ' H' S' k
      obtain ⟨s', o', q1, _⟩ := key S' k
      unfold finO at h
      simp only [q1] at h
    | ct =>
      intro σ' H' S' k
      obtain ⟨s', o', q1, _⟩ := key S' k
      unfold finO at h
      simp only [q1] at h
    | rt d =>
      intro σ' v H' S' k hd
      obtain ⟨s', o', q1, q2, q3, q4, q5⟩ := key S' k
      unfold finO at h
      simp only [q1] at h
      exact h v H' o' q3 q2 q4 (hd.same q5)
    | rf d =>
      rintro σ' v H' S' k ⟨b, u, e1, e2, e3, e4, e5⟩
      obtain ⟨s', o', q1, q2, q3, q4, q5⟩ := key S' k
      unfold finO at h
      simp only [q1] at h
      subst e1
      have nb : ¬ (b = a ∨ xs b) := fun z => e4 (by
        rcases z with z | z
        · subst z
          obtain ⟨f1, f2⟩ := k.fx hw0
          exact .inl ⟨0, s', q1, by rw [f2, hs0]⟩
        · exact .inr z)
      refine h _ H' o' q3 q2 q4 (ObjRep.isD (e5.same (hide_sub fun c' z => ?_)) e3 nb)
      rcases z with (z | z) | z
      · subst z
        obtain ⟨f1, f2⟩ := k.fx hw0
        exact .inl (.inl ⟨0, s', q1, by rw [f2, hs0]⟩)
      · exact .inl (.inr z)
      · exact .inr z
    | ro i =>
      intro σ' a' H' S' k
      obtain ⟨s', o', q1, _⟩ := key S' k
      unfold finO at h
      simp only [q1] at h
end
section
variable {P : Program} {w : World} {K : PySem.W.Frag} {mg : Str → Option Value} {base : Heap} {g : Ce}
/-- THE RULE for a def that may change its first argument's list -/
theorem def_own {nn : Bool} {x qual : Str} {st : Stmt} {f : Addr} {fd : FuncData} {N ps : List Str} {k n : Nat} {mf : D → List D → M (D × D)} {body : Sv} (F : Fun K x qual st f fd) (S : FnScope N ps (defScope st)) (hn : ps.length = n + 1) (hN : ps.length ≤ N.length) (hf : ∀ s ds, mf s ds = finO (body (enterO N.length s ds)))
    (hbody : ∀ (X : Cx) (W : WX), Cok nn X W P w K mg base N (defScope st) k false → PaOk X → DSs X g (defBody st) body W) :
    FnOk P w K mg base (CXn nn P w) (k + 1) f fd ps (spO (ck K g) n mf) := by
  refine fun_ok F S (fun vs H Q E ⟨xs, a, o, s, ds, ws, h1, h2, h3, h4, h5, h6, _⟩ => by rw [h1, List.length_cons, ← h6.len, h2, hn]) (fun cdv A outer s H vs Q E hr ⟨xs, a, o, st', ds, ws, h1, h2, h3, h4, h5, h6, h⟩ => ?_)
  subst h1
  have hl := h6.len
  refine ⟨_, hbody _ _ (ctx_def S hr) (L2H.passesAt_of rfl), xs, enterO N.length st' ds, enterO_ok (by omega) h3 h4 h5 h6, ?_⟩
  rw [hf] at h
  exact body_endO (by omega) h
end
end Dn

/-! Dn20 -/
set_option Elab.async false
set_option linter.all false
set_option maxRecDepth 100000
set_option maxHeartbeats 2000000
/-! Dn20: a def called on the error that a suite holds. -/
namespace Dn
open PySem PySem.Spec L2
open PyProof.Rows hiding St
open L2H (RoomH PinOk)

/-- what such a def promises: it lets no error out -/
structure FnW (P : Program) (w : World) (K : PySem.W.Frag) (mg : Str → Option Value) (base : Heap) (k : Nat) (f : Addr) (fd : FuncData) (ps : List Str) (sp : Addr → Value → Option Addr → Sp) : Prop where
  len : ∀ a cls d vs H Q E, sp a cls d vs H Q E → vs.length = ps.length
  run : ∀ (A : Around) (outer : List Env) (s : Shared) (H : Hp) (args : Args) (us : List Value) (vs : List V) (Q : VK) (a : Addr) (oe : Obj) (cls : Value) (d : Option Addr), RoomH k A → PinOk outer H s (a, oe) → Zc cls d oe → (∃ vs, oe.data = .fields vs) → Env0 P w K mg base A outer s H → BindsTo s fd args (ps.zip us) → Vals vs us →
    sp a cls d vs H Q (fun _ _ _ => False) → codeAny (model P w) A (.call (.ref f) args) (CR CX0 outer P w H s Q (fun _ _ _ => False)) s
theorem fn_ofW {P : Program} {w : World} {K : PySem.W.Frag} {mg : Str → Option Value} {base : Heap} {k : Nat} {f : Addr} {x qual : Str} {st : Stmt} {fd : FuncData} {N ps : List Str} {sp : Addr → Value → Option Addr → Sp} (F : Fun K x qual st f fd) (S : FnScope N ps (defScope st))
    (len : ∀ a cls d vs H Q E, sp a cls d vs H Q E → vs.length = ps.length)
    (hbody : ∀ (cdv : Value) (A : Around) (outer : List Env) (s : Shared) (H : Hp) (vs : List V) (Q : VK) (a : Addr) (oe : Obj) (cls : Value) (d : Option Addr), Zc cls d oe → (∃ vs, oe.data = .fields vs) → sp a cls d vs H Q (fun _ _ _ => False) →
      ∃ t, PSs (L2H.cxH CX0 P w K mg base N qual (defScope st) f cdv A outer s H (fun _ _ _ => False) (a, oe)) (defBody st) t ∧ t { nx := fun _ H' => Q .non H', rt := Q } (L2.start N vs) H) :
    FnW P w K mg base (k + 1) f fd ps sp := by
  obtain ⟨oc, od, kV, doc, pm, an, cdv, ct, osl, rfl, lk, hcd⟩ := F.ex
  refine ⟨len, fun A outer s H args us vs Q a oe cls d hr hpin hz hf e0 hb r hsp => ?_⟩
  have hl := len _ _ _ _ _ _ _ hsp
  have KX : K.In s.heap := e0.mod.kin.keeps fun b o e => (e0.bs b o e).1
  have lim : s.heap.NoLimit := e0.mod.nolimit.keeps fun b o e => (e0.bs b o e).1
  have hkind : ∀ y ∈ ps.zip us, (defScope st).names.lookup y.1 = some .local ∨ ((defScope st).names.lookup y.1 = some .cell ∧ ((cellsFrom (s.heap.objs.size + 1) (defScope st).names []).lookup y.1).isSome = true) := fun ⟨n, v⟩ hy => by
    rcases S.par n (List.of_mem_zip hy).1 with q | q
    · exact .inl q
    · exact .inr ⟨q, PySem.W.cellsFrom_some _ _ _ (.inl q)⟩
  refine codeAny_call_function hr.depth (KX _ _ lk) rfl S.co S.gen rfl (PySem.W.codeRec_of KX hcd) (hb _ _ _ _ ?_)
  refine wpAny_newFunctionEnv_cells S.kind hkind fun env he s1 x => ?_
  subst he
  refine ⟨lim.keeps x.toInCall.keep, codeAny_func ?_⟩
  obtain ⟨t, ht, hq⟩ := hbody cdv A outer s H vs Q a oe cls d hz hf hsp
  have I : Inv (L2H.cxH CX0 P w K mg base N qual (defScope st) f cdv A outer s H (fun _ _ _ => False) (a, oe)) [] (L2.start N vs) H s1 := L2H.inv_startH S hpin e0 hl r x
  refine wpAny_mono (ht.run [] s1 (L2.start N vs) H _ I hq) (fun fl s' hs => ?_) fun e s' hs => hs
  have fin : ∀ {σ' : St} {H' : Hp} {v : V} {u : Value}, Inv (L2H.cxH CX0 P w K mg base N qual (defScope st) f cdv A outer s H (fun _ _ _ => False) (a, oe)) [] σ' H' s' → RelV v u → Q v H' → CE outer P w H s Q u s' :=
    fun {σ' H' v u} J rv q => ⟨v, H', J.os, J.bare, J.base, J.hok, rv, q⟩
  cases fl with
  | ret u =>
    obtain ⟨v, σ', H', J, rv, q⟩ := hs
    exact fin J rv q
  | next =>
    obtain ⟨σ', H', J, q⟩ := hs
    exact fin (v := V.non) (u := Value.none) J rfl q
  | brk =>
    obtain ⟨_, _, _, q⟩ := hs
    exact False.elim q
  | cont =>
    obtain ⟨_, _, _, q⟩ := hs
    exact False.elim q
section
variable {X : Cx} {k : Nat} {f : Addr} {fd : FuncData} {ps : List Str} {sp : Addr → Value → Option Addr → Sp} {x : Str} {q pos : Pos} {e : Expr} {es : List Expr} {t : TA} {a : Addr} {oe : Obj} {cls : Value} {d : Option Addr}
def tCallW (a : Addr) (cls : Value) (d : Option Addr) (sp : Addr → Value → Option Addr → Sp) (t : TA) : TE := fun σ H Q => t σ H fun vs H1 => sp a cls d vs H1 Q (fun _ _ _ => False)
theorem pe_callW (F : FnW X.prog X.w X.K X.mg X.base k f fd ps sp) (hr : RoomH k X.A) (hp : (a, oe) ∈ X.pn) (hz : Zc cls d oe) (hf : ∃ vs, oe.data = .fields vs) (hg : Gl X x) (hm : X.mg x = some (.ref f)) (hk : PySem.W.keepIn X.K (.ref f) = true) (hb : Binds X.K fd ps [])
    (ha : PA X (e :: es) t) (hdb : (x == ("__debug__" : Str)) = false := by decide) (he : starEach (e :: es) X.env = (false, eval e X.env) :: starEach es X.env := by rfl) (hpl : (backTo pos (starEach es X.env)).any (·.1) = false := by rfl) :
    PE X (.Call (.Name x q) (e :: es) [] pos) (tCallW a cls d sp t) := by
  refine ⟨fun pins s σ H Q I h => ?_⟩
  refine wpAny_Call_Name_kw (ld_glob I hg hm ?_ hdb)
  refine PySem.W.callWith_K (h₀ := X.base) I.ok.mod.kin hk (thn (ha.run pos pins s σ H _ I h) fun us s1 ⟨vs, H1, I1, r, q⟩ => ⟨I1.kIn, ?_⟩) he hpl
  have hl : us.length = ps.length := by rw [← r.length]; exact F.len _ _ _ _ _ _ _ q
  have b := hb s1 us I1.kIn (by rw [List.append_nil]; exact hl)
  rw [List.append_nil] at b
  have P1 := I1.pin (a, oe) (List.mem_append_left _ hp)
  have hpin : PinOk X.stack H1 s1 (a, oe) := ⟨P1.1, P1.2.1, fun hm => (List.mem_cons.mp (I1.stkSub a hm)).elim P1.2.2.1 P1.2.2.2.1, P1.2.2.2.2⟩
  show wpAny _ _ (call (.ref f) us) _ _ _
  refine wpAny_call (codeAny_mono (F.run X.A X.stack s1 H1 ⟨us, []⟩ us vs Q a oe cls d hr hpin hz hf I1.env0 b r q) fun r s' hq => ?_)
  cases r with
  | error e => exact False.elim hq
  | ok fl =>
    cases fl with
    | ret u => exact I1.after hq
    | next => exact False.elim hq
    | brk => exact False.elim hq
    | cont => exact False.elim hq
end

/-! ### asking the error -/
section
variable {X : Cx} {a : Addr} {oe : Obj} {cls : Value} {d : Option Addr}
theorem inst_of {pins : List (Addr × Obj)} {σ : St} {H : Hp} {s : Shared} {D dd : Addr} {fs : List (Str × V)} (I : Inv X pins σ H s) (hp : (a, oe) ∈ X.pn) (hz : Zc (.ref D) (some dd) oe) (hf : ∃ vs, oe.data = .fields vs) (hd : H dd = some (.xd fs)) :
    ∃ od, PySem.W.InstAt s.heap a oe D (some od) ∧ s.heap.get? dd = some od := by
  obtain ⟨hget, _⟩ := I.pin (a, oe) (List.mem_append_left _ hp)
  obtain ⟨vs, hv⟩ := hf
  have hx : ObjOk X.prog X.w H s.heap dd (.xd fs) := I.hok dd _ hd
  obtain ⟨mA, hns, hr⟩ := hx
  obtain ⟨od, ho, hl⟩ := L2.lookIn_ns hns
  exact ⟨od, ⟨hget, hz.1, by unfold PySem.W.notCls; rw [hv] <;> rfl, by rw [hz.2]; exact ho⟩, ho⟩
/-- isinstance(e, c) -/
def rIsX (K : PySem.W.Frag) (a : Addr) (cls : Value) (d : Option Addr) : RC := fun xs H Q => ∃ (D dd : Addr) (fs : List (Str × V)) (c : V) (cv : Value) (b : Bool), cls = .ref D ∧ d = some dd ∧ H dd = some (.xd fs) ∧ ExcC K D ∧ xs = [.ref a, c] ∧ (∀ u, RelV c u → u = cv) ∧ PySem.W.kitOne K (.ref D) cv = some b ∧ Q (.bl b) H
theorem call_isX (hp : (a, oe) ∈ X.pn) (hz : Zc cls d oe) (hf : ∃ vs, oe.data = .fields vs) : CallR X (.builtin "isinstance") (rIsX X.K a cls d) := by
  intro pins s σ H xs us Q I r h
  obtain ⟨D, dd, fs, c, cv, b, rfl, rfl, hd, C, rfl, hcv, e, q⟩ := h
  cases r with
  | cons rx rr =>
    cases rr with
    | cons rt rr =>
      cases rr
      cases rx
      have ec := hcv _ rt
      subst ec
      obtain ⟨od, J, _⟩ := inst_of I hp hz hf hd
      have hcl : (PySem.W.clsIn X.K D).isSome = true := by obtain ⟨cd, hc, _⟩ := PySem.W.any_some C.hd; rw [hc]; rfl
      exact PySem.W.kia_one (PySem.W.kitx_exc hcl C.hg C.hk C.hs C.ha C.hn C.ht C.hm) I.kIn J e (fun z => nomatch z) fun tk => ⟨.bl b, H, I.kept (t' := tk) fun _ _ z => z, rfl, q⟩
/-- e.f -/
def tXg (a : Addr) (cls : Value) (d : Option Addr) (K : PySem.W.Frag) (f : Str) (te : TE) : TE := fun σ H Q => te σ H fun x H1 => ∃ (D dd : Addr) (fs : List (Str × V)) (v : V), x = .ref a ∧ cls = .ref D ∧ d = some dd ∧ XfC K D ∧ PySem.W.findIn K (.ref D) f = some none ∧ H1 dd = some (.xd fs) ∧ fs.lookup f = some v ∧ Q v H1
theorem pe_xg {e : Expr} {te : TE} {pos : Pos} {n : Str} (hp : (a, oe) ∈ X.pn) (hz : Zc cls d oe) (hf : ∃ vs, oe.data = .fields vs) (he : PE X e te) (hb : attributeBase e n X.env (eval e X.env) = eval e X.env := by rfl) :
    PE X (.Attribute e n pos) (tXg a cls d X.K n te) := by
  refine ⟨fun pins s σ H Q I h => ?_⟩
  refine attr_of hb (thn (he.run pins s σ H _ I h) fun u s1 hh => ?_)
  obtain ⟨x, H1, I1, rx, D, dd, fs, v, ex, ec, ed, T, hno, ea, l, q⟩ := hh
  subst ex
  obtain rfl : u = Value.ref a := rx
  subst ec
  subst ed
  obtain ⟨ha, _⟩ := I1.pin (a, oe) (List.mem_append_left _ hp)
  obtain ⟨vs, hd⟩ := hf
  have hx : ObjOk X.prog X.w H1 s1.heap dd (.xd fs) := I1.hok dd _ ea
  obtain ⟨mA, hns, hr⟩ := hx
  obtain ⟨od, ho, hl⟩ := L2.lookIn_ns hns
  obtain ⟨u, hu, ru⟩ := RelO.some_of (v := v) (o := mA n) (by rw [← l]; exact hr n)
  have J : PySem.W.InstAt s1.heap a oe D (some od) := ⟨ha, hz.1, by unfold PySem.W.notCls; rw [hd] <;> rfl, by rw [hz.2]; exact ho⟩
  exact HandSPX.exc_get I1.kIn J T.ga T.gg T.exC (PySem.W.findObj_own T.hdC hno rfl (by rw [hl, hu])) (handed_of ru) ⟨v, H1, I1.tok _, ru, q⟩
end

/-! ### list.count, flat items -/
section
variable {X : Cx}
def rCountV (K : PySem.W.Frag) : V → List V → Hp → VK → Prop := fun x xs H Q => ∃ (a : Addr) (ys : List V) (y : V), x = V.ref a ∧ xs = [y] ∧ SqL K H a ys ∧ flatV y = true ∧ ys.all flatV = true ∧ Q (.int (ys.countP fun z => eqV z y : Nat)) H
theorem count_eqU {y : V} : ∀ {ys : List V} {us : List Value}, Vals ys us → ys.all flatV = true → us.countP (eqU y) = ys.countP fun z => eqV z y
  | _, _, .nil, _ => rfl
  | _, _, .cons r t, f => by
    rw [List.all_cons, Bool.and_eq_true] at f
    rw [List.countP_cons, List.countP_cons, count_eqU t f.2, eqU_of r f.1]
theorem mt_countV : MtR X "list.count" (rCountV X.K) := by
  intro pins s σ H x xs v us Q I rx rxs h
  obtain ⟨a, ys, y, rfl, rfl, hs, fy, fys, q⟩ := h
  cases rx
  cases rxs with
  | cons ry rt =>
    rename_i uy ut
    cases rt
    obtain ⟨its, rv, ⟨⟨cls, dd, data, sl⟩, n, ho, hc, hdn, hd⟩, hlen⟩ := I.list hs
    simp only at hc hd
    subst hc hd
    refine call_meets PySem.F.slot_list_count ⟨_, ho, rfl⟩ PySem.F.entry_list_count (PySem.F.args_list_count_2 _ _)
      (SeqAt.list_countAt a its.toArray n dd sl uy (eqU y)) ⟨ho, fun u' hu' => mem_eqAt ry fy rv fys u' (by simpa using hu'), ?_⟩
    refine ⟨.int (ys.countP fun z => eqV z y : Nat), H, I.tok _, ⟨s.toks, ?_⟩, q⟩
    show Value.int ((its.toArray.toList.countP (eqU y) : Nat) : Int) s.toks = _
    rw [show its.toArray.toList = its from rfl, count_eqU rv fys]
end
end Dn

/-! Dn21 -/
set_option Elab.async false
set_option linter.all false
set_option maxRecDepth 100000
set_option maxHeartbeats 2000000
/-! Dn21: _law_word. -/
namespace Dn
open PySem PySem.Spec L2
open PyProof.Rows hiding St

/-! ### the text -/
def wHeads : List Str := ["flow ", "argument ", "paper ", "many "]
def wNames : List Str := ["FlowError", "ArgumentError", "PaperError", "TooMany"]
def wIs (x : Str) (a b c d : Pos) : Expr := .Call (.Name "isinstance" a) [.Name "error" b, .Name x c] [] d
def wBody (j0 j1 j2 j3 j4 j5 j6 j7 : Nat) (p : Nat → Pos) : List Stmt :=
  [.Assign [.Name "heads" (p 0)] (.List [.Constant (.str "flow ") j0 (p 1), .Constant (.str "argument ") j1 (p 2), .Constant (.str "paper ") j2 (p 3), .Constant (.str "many ") j3 (p 4)] (p 5)) (p 6),
   .Assign [.Name "found" (p 7)] (.List [wIs "FlowError" (p 8) (p 9) (p 10) (p 11), wIs "ArgumentError" (p 12) (p 13) (p 14) (p 15), wIs "PaperError" (p 16) (p 17) (p 18) (p 19), wIs "TooMany" (p 20) (p 21) (p 22) (p 23)] (p 24)) (p 25),
   .Return (some (.IfExp (.BoolOp .And [.Compare (.Call (.Attribute (.Name "found" (p 26)) "count" (p 27)) [.Constant (.bool true) j4 (p 28)] [] (p 29)) [.Eq] [.Constant (.int 1) j5 (p 30)] (p 31), wIs "ValueError" (p 32) (p 33) (p 34) (p 35)] (p 36))
     (.BinOp (.Subscript (.Name "heads" (p 37)) (.Call (.Attribute (.Name "found" (p 38)) "index" (p 39)) [.Constant (.bool true) j6 (p 40)] [] (p 41)) (p 42)) .Add (.Attribute (.Name "error" (p 43)) "reason" (p 44)) (p 45))
     (.Constant (.str "other") j7 (p 46)) (p 47))) (p 48)]
def wS : Scope := { kind := .function, names := [("error", .local), ("heads", .local), ("found", .local), ("isinstance", .globalImplicit), ("FlowError", .globalImplicit), ("ArgumentError", .globalImplicit), ("PaperError", .globalImplicit), ("TooMany", .globalImplicit), ("ValueError", .globalImplicit)], isGenerator := false, isCoroutine := false, more := [] }
def wN : List Str := ["error", "heads", "found"]
/-- the four classes -/
structure WCls (K : PySem.W.Frag) (mg : Str → Option Value) (g : Ce) (C : Nat → Addr) : Prop where
  ec : ∀ i, i < 4 → g.ec i = some (C i)
  m0 : mg "FlowError" = some (.ref (C 0))
  m1 : mg "ArgumentError" = some (.ref (C 1))
  m2 : mg "PaperError" = some (.ref (C 2))
  m3 : mg "TooMany" = some (.ref (C 3))
  mi : mg "isinstance" = none
  mv : mg "ValueError" = none
  ex : ∀ i, i < 4 → ExcC K (C i)
  xf : ∀ i, i < 4 → XfC K (C i)
  no : ∀ i, i < 4 → PySem.W.findIn K (.ref (C i)) "reason" = some none
  is : ∀ i j, i < 4 → j < 4 → PySem.W.kitOne K (.ref (C i)) (.ref (C j)) = some (i == j)
  iv : ∀ i, i < 4 → PySem.W.kitOne K (.ref (C i)) (.type "ValueError") = some true
/-- the word for the error i with that reason -/
def wordOf : Nat → D → M D
  | i, .str x => match wHeads[i]? with
    | some h => if x.length ≤ 1000 then .ok (.str (h ++ x)) else stuck
    | none => stuck
  | _, _ => stuck
def spWord (C : Nat → Addr) (a : Addr) (cls : Value) (d : Option Addr) : Sp := fun vs H Q _ => vs = [V.ref a] ∧ ∃ (i : Nat) (h x : Str) (dd : Addr), i < 4 ∧ wHeads[i]? = some h ∧ x.length ≤ 1000 ∧ cls = .ref (C i) ∧ d = some dd ∧ H dd = some (.xd [("reason", .str x)]) ∧
  ∀ H', Same H H' → Q (.str (h ++ x)) H'
section
variable {X : Cx} {K : PySem.W.Frag} {mg : Str → Option Value} {g : Ce} {C : Nat → Addr} {a : Addr} {oe : Obj} {cls : Value} {d : Option Addr}
/-- the reading of isinstance(error, c) -/
def tIsX (K : PySem.W.Frag) (a : Addr) (cls : Value) (d : Option Addr) (cv : V) : TE := tCB (rIsX K a cls d) (tCons (tVar 0) (tCons (tC cv) tNil))
theorem pe_wIs {x : Str} {cv : V} {p1 p2 p3 p4 : Pos} (hp : (a, oe) ∈ X.pn) (hz : Zc cls d oe) (hf : ∃ vs, oe.data = .fields vs) (hN : X.N = wN) (hs : X.env.scope = wS) (hm : X.mg "isinstance" = none) (hc : PE X (.Name x p3) (tC cv)) (h1 : starEach [.Name x p3] X.env = (false, eval (.Name x p3) X.env) :: starEach [] X.env := by rfl) : PE X (wIs x p1 p2 p3 p4) (tIsX X.K a cls d cv) :=
  pe_callB (call_isX hp hz hf) (by show X.env.scope.names.lookup _ = _; rw [hs]; rfl) hm rfl (pa_cons (pe_var (by rw [hN]; rfl) (.inl (by rw [hs]; rfl))) (pa_cons hc pa_nil))
theorem word_ok {P : Program} {w : World} {base : Heap} {f : Addr} {fd : FuncData} {x qual : Str} {st : Stmt} {k : Nat} {j0 j1 j2 j3 j4 j5 j6 j7 : Nat} {p : Nat → Pos} (T : WCls K mg g C) (F : Fun K x qual st f fd) (hB : defBody st = wBody j0 j1 j2 j3 j4 j5 j6 j7 p) (hS : defScope st = wS)
    (l1 : ((p 27).endLine == (p 29).line) = true) (l2 : ((p 39).endLine == (p 41).line) = true) (S : FnScope wN ["error"] (defScope st)) : FnW P w K mg base (k + 1) f fd ["error"] (spWord C) := by
  refine fn_ofW F S (fun a cls d vs H Q E ⟨e, _⟩ => by rw [e]; rfl) (fun cdv A outer s H vs Q a oe cls d hz hf hsp => ?_)
  obtain ⟨ev, i, h, x, dd, hi, hh, hx, ec, ed, hd, q⟩ := hsp
  subst ev ec ed
  generalize hX : L2H.cxH CX0 P w K mg base wN qual (defScope st) f cdv A outer s H (fun _ _ _ => False) (a, oe) = X
  have eN : X.N = wN := by rw [← hX]; rfl
  have es : X.env.scope = wS := by rw [← hX, ← hS]; rfl
  have eK : X.K = K := by rw [← hX]; rfl
  have em : X.mg = mg := by rw [← hX]; rfl
  have ef : ∀ y, X.fn y = true := by rw [← hX]; exact fun _ => rfl
  have hp : (a, oe) ∈ X.pn := by rw [← hX]; exact List.mem_cons_self
  have gl : ∀ y : Str, wS.names.lookup y = some .globalImplicit → Gl X y := fun y e => by show X.env.scope.names.lookup y = _; rw [es]; exact e
  have vr : ∀ (n : Nat) (y : Str) (pos : Pos), wN[n]? = some y → wS.names.lookup y = some .local → (y == ("__debug__" : Str)) = false → (y == ("__classdict__" : Str)) = false → PE X (.Name y pos) (tVar n) := fun n y pos h1 h2 h3 h4 => pe_var (by rw [eN]; exact h1) (.inl (by rw [es]; exact h2)) h3 h4
  have cl : ∀ (y : Str) (n : Nat) (pos : Pos), wS.names.lookup y = some .globalImplicit → mg y = some (.ref (C n)) → (y == ("__debug__" : Str)) = false → PE X (.Name y pos) (tC (.ref (C n))) := fun y n pos h1 h2 h3 => pe_glob (gl y h1) (by rw [em]; exact h2) rfl h3
  have hmi : X.mg "isinstance" = none := by rw [em]; exact T.mi
  have s1 : PS X (.Assign [.Name "heads" (p 0)] (.List [.Constant (.str "flow ") j0 (p 1), .Constant (.str "argument ") j1 (p 2), .Constant (.str "paper ") j2 (p 3), .Constant (.str "many ") j3 (p 4)] (p 5)) (p 6)) _ :=
    ps_set (i := 1) (by rw [eN]; decide) (by rw [eN]; rfl) (.inl (by rw [es]; rfl)) (pe_lst (pa_cons pe_str (pa_cons pe_str (pa_cons pe_str (pa_cons pe_str pa_nil))))) rfl (.inl (ef _))
  have s2 : PS X (.Assign [.Name "found" (p 7)] (.List [wIs "FlowError" (p 8) (p 9) (p 10) (p 11), wIs "ArgumentError" (p 12) (p 13) (p 14) (p 15), wIs "PaperError" (p 16) (p 17) (p 18) (p 19), wIs "TooMany" (p 20) (p 21) (p 22) (p 23)] (p 24)) (p 25)) _ :=
    ps_set (i := 2) (by rw [eN]; decide) (by rw [eN]; rfl) (.inl (by rw [es]; rfl)) (pe_lst (pa_cons (pe_wIs hp hz hf eN es hmi (cl _ 0 _ rfl T.m0 rfl)) (pa_cons (pe_wIs hp hz hf eN es hmi (cl _ 1 _ rfl T.m1 rfl)) (pa_cons (pe_wIs hp hz hf eN es hmi (cl _ 2 _ rfl T.m2 rfl)) (pa_cons (pe_wIs hp hz hf eN es hmi (cl _ 3 _ rfl T.m3 rfl)) pa_nil))))) rfl (.inl (ef _))
  have s3 : PS X (.Return (some (.IfExp (.BoolOp .And [.Compare (.Call (.Attribute (.Name "found" (p 26)) "count" (p 27)) [.Constant (.bool true) j4 (p 28)] [] (p 29)) [.Eq] [.Constant (.int 1) j5 (p 30)] (p 31), wIs "ValueError" (p 32) (p 33) (p 34) (p 35)] (p 36))
     (.BinOp (.Subscript (.Name "heads" (p 37)) (.Call (.Attribute (.Name "found" (p 38)) "index" (p 39)) [.Constant (.bool true) j6 (p 40)] [] (p 41)) (p 42)) .Add (.Attribute (.Name "error" (p 43)) "reason" (p 44)) (p 45))
     (.Constant (.str "other") j7 (p 46)) (p 47))) (p 48)) _ :=
    ps_ret (pe_ifExp (pw_and (pt_cmpR op_eq (pe_bm PySem.F.plainAttrs_list PySem.F.slot_list_count PySem.F.type_list_count mt_countV (vr 2 "found" _ rfl rfl rfl rfl) (pa_cons pe_bl pa_nil) rfl rfl l1) pe_int rfl)
        (pw_and1 (pt_val (pe_wIs hp hz hf eN es hmi (pe_bltn (v := .ty "ValueError") (gl _ rfl) (by rw [em]; exact T.mv) PyProof.Rows.Boot.«ValueError» rfl))))).pt
      (pe_op op_add_str (pe_ix ix_list (vr 1 "heads" _ rfl rfl rfl rfl) (pe_bm PySem.F.plainAttrs_list PySem.F.slot_list_index PySem.F.type_list_index mt_index (vr 2 "found" _ rfl rfl rfl rfl) (pa_cons pe_bl pa_nil) rfl rfl l2) fun _ _ => rfl) (pe_xg hp hz hf (vr 0 "error" _ rfl rfl rfl rfl))) pe_str)
  refine ⟨_, by rw [hB]; exact pss_cons s1 (pss_cons s2 (pss_one s3)), ?_⟩
  have hst : L2.start wN [V.ref a] = [some (V.ref a), none, none] := rfl
  rw [hst]
  -- isinstance(error, C j), anywhere that keeps the error's dict
  have isj : ∀ (j : Nat) (σ : L2.St) (H' : Hp) (Q' : VK), j < 4 → σ[0]? = some (some (V.ref a)) → Same H H' → Q' (.bl (i == j)) H' → tIsX X.K a (.ref (C i)) (some dd) (.ref (C j)) σ H' Q' := fun j σ H' Q' hj h0 k q' =>
    ⟨.ref a, h0, C i, dd, _, .ref (C j), .ref (C j), (i == j), rfl, rfl, k _ _ hd, by rw [eK]; exact T.ex i hi, rfl, fun u r => r, by rw [eK]; exact T.is i j hi hj, q'⟩
  -- heads
  refine ⟨by show 4 ≤ sizeLine; rw [sizeLine_eq]; decide, fun b1 hb1 => ?_⟩
  have k1 : Same H (upd H b1 (.lst [.str "flow ", .str "argument ", .str "paper ", .str "many "])) := same_new hb1
  generalize hH1 : upd H b1 (.lst [.str "flow ", .str "argument ", .str "paper ", .str "many "]) = H1 at k1
  have hd1 : H1 b1 = some (.lst [.str "flow ", .str "argument ", .str "paper ", .str "many "]) := by rw [← hH1]; exact upd_same
  -- found
  refine isj 0 _ _ _ (by decide) rfl k1 (isj 1 _ _ _ (by decide) rfl k1 (isj 2 _ _ _ (by decide) rfl k1 (isj 3 _ _ _ (by decide) rfl k1 ?_)))
  refine ⟨by show 4 ≤ sizeLine; rw [sizeLine_eq]; decide, fun b2 hb2 => ?_⟩
  have k2 : Same H1 (upd H1 b2 (.lst [.bl (i == 0), .bl (i == 1), .bl (i == 2), .bl (i == 3)])) := same_new hb2
  generalize hH2 : upd H1 b2 (.lst [.bl (i == 0), .bl (i == 1), .bl (i == 2), .bl (i == 3)]) = H2 at k2
  have hd2 : H2 b2 = some (.lst [.bl (i == 0), .bl (i == 1), .bl (i == 2), .bl (i == 3)]) := by rw [← hH2]; exact upd_same
  have k3 := k1.trans k2
  have he : ∃ h0 : Str, wHeads[i]? = some h0 ∧ h0.length ≤ 10 := by
    have : i = 0 ∨ i = 1 ∨ i = 2 ∨ i = 3 := by omega
    rcases this with rfl | rfl | rfl | rfl <;> exact ⟨_, rfl, by decide⟩
  obtain ⟨h0, e0, z0⟩ := he
  rw [hh] at e0
  cases e0
  have hcount : ([V.bl (i == 0), .bl (i == 1), .bl (i == 2), .bl (i == 3)].countP fun z => eqV z (.bl true)) = 1 := by
    have : i = 0 ∨ i = 1 ∨ i = 2 ∨ i = 3 := by omega
    rcases this with rfl | rfl | rfl | rfl <;> rfl
  have hidx : ∃ z, [V.bl (i == 0), .bl (i == 1), .bl (i == 2), .bl (i == 3)][i]? = some z ∧ eqV z (.bl true) = true ∧ ∀ (m : Nat) (z' : V), m < i → [V.bl (i == 0), .bl (i == 1), .bl (i == 2), .bl (i == 3)][m]? = some z' → eqV z' (.bl true) = false := by
    have : i = 0 ∨ i = 1 ∨ i = 2 ∨ i = 3 := by omega
    rcases this with rfl | rfl | rfl | rfl <;> refine ⟨_, rfl, rfl, fun m z' hm e => ?_⟩
    · omega
    · obtain rfl : m = 0 := by omega
      cases e; rfl
    · have : m = 0 ∨ m = 1 := by omega
      rcases this with rfl | rfl <;> (cases e; rfl)
    · have : m = 0 ∨ m = 1 ∨ m = 2 := by omega
      rcases this with rfl | rfl | rfl <;> (cases e; rfl)
  obtain ⟨z, i1, i2, i3⟩ := hidx
  refine ⟨.ref b2, rfl, .inl ⟨rfl, _, SqL.of hd2⟩, b2, _, .bl true, rfl, rfl, SqL.of hd2, rfl, rfl, ?_⟩
  rw [hcount]
  refine ⟨rfl, true, rfl, ?_⟩
  simp only [↓reduceIte]
  refine ⟨.ref a, rfl, C i, dd, _, .ty "ValueError", .type "ValueError", true, rfl, rfl, k3 _ _ hd, by rw [eK]; exact T.ex i hi, rfl, fun u r => r, by rw [eK]; exact T.iv i hi, true, rfl, ?_⟩
  simp only [↓reduceIte]
  refine ⟨.ref b1, rfl, .ref b2, rfl, .inl ⟨rfl, _, SqL.of hd2⟩, b2, _, .bl true, i, z, rfl, rfl, SqL.of hd2, rfl, rfl, i1, i2, i3, ?_⟩
  refine ⟨b1, _, (i : Int), .str h, rfl, rfl, SqL.of (k2 _ _ hd1), ?_, ?_⟩
  · have : i = 0 ∨ i = 1 ∨ i = 2 ∨ i = 3 := by omega
    rcases this with rfl | rfl | rfl | rfl <;> (cases hh; rfl)
  refine ⟨.ref a, rfl, C i, dd, _, .str x, rfl, rfl, rfl, by rw [eK]; exact T.xf i hi, by rw [eK]; exact T.no i hi, k3 _ _ hd, ?_, h, x, rfl, rfl, by rw [sizeLine_eq]; omega, q _ k3⟩
  simp [List.lookup]
end
end Dn

/-! Dn22 -/
set_option Elab.async false
set_option linter.all false
set_option maxRecDepth 100000
set_option maxHeartbeats 1000000
/-! Dn22: calls of def values; try. -/
namespace Dn
open PySem PySem.Spec L2
open PyProof.Rows hiding St

section
variable {X : Cx} {P : Program} {w : World} {K : PySem.W.Frag} {mg : Str → Option Value} {base : Heap} {N : List Str} {sc : Scope} {k : Nat} {bk nn : Bool} {g : Ce} {W : WX}
variable {pu sh : Bool} {e : Expr} {es : List Expr} {pos p : Pos} {m : Ev} {ma : Av} {shs : List Bool} {x y : Str} {sts : List Stmt} {ms : Sv}

/-! ### calls of defs that are values -/
abbrev Tbl := Nat → Option (Nat × (List D → M D))
def TblOk (nn : Bool) (P : Program) (w : World) (K : PySem.W.Frag) (mg : Str → Option Value) (base : Heap) (k : Nat) (g : Ce) (tbl : Tbl) : Prop :=
  ∀ i n mf, tbl i = some (n, mf) → ∃ (f : Addr) (fd : FuncData) (ps : List Str), g.fa i = some f ∧ FnOk P w K mg base (CXn nn P w) k f fd ps (spP (ck K g) n mf) ∧ PySem.W.keepIn K (.ref f) = true ∧ Binds K fd ps []
def dCallV (tbl : Tbl) (i : Nat) (ms : Av) : Ev := fun env => match env[i]? with
  | some (.va (.fn j)) => match tbl j with
    | some (n, mf) => bnd (ms env) fun p => if p.1.length = n then bnd (mf p.1) fun d => .ok (d, p.2) else stuck
    | none => stuck
  | _ => stuck
theorem e_callV (C : Cok nn X W P w K mg base N sc k bk) {tbl : Tbl} {j i : Nat} (T : TblOk nn P w K mg base j g tbl) (hj : j ≤ k) (hi : N[i]? = some x) (hv : visB sc x = true) (hs : shs.all (!·) = true) (ha : DA X g pu shs (e :: es) ma W)
    (hdb : (x == ("__debug__" : Str)) = false := by rfl) (hcd : (x == ("__classdict__" : Str)) = false := by rfl) (he : starEach (e :: es) X.env = (false, eval e X.env) :: starEach es X.env := by rfl) (hpl : (backTo pos (starEach es X.env)).any (·.1) = false := by rfl) :
    DE X g pu false (.Call (.Name x p) (e :: es) [] pos) (dCallV tbl i ma) W := by
  have hN : X.N[i]? = some x := by rw [C.eN]; exact hi
  have hvis : Vis X.env.scope x := by rw [C.es]; exact visB_of hv
  have tk := C.tk
  have hr := C.room.mono hj
  obtain ⟨rfl, rfl, rfl, rfl, rfl⟩ := And.intro C.eP (And.intro C.ew (And.intro C.eK (And.intro C.em C.eb)))
  refine ⟨fun pins s σ H Q I h => ?_⟩
  obtain ⟨xs, env, S, wn⟩ := h
  unfold dCallV at wn
  split at wn
  case h_2 => exact wn.elim
  rename_i jf hjf
  obtain ⟨v, hv1, hv2⟩ := S.va i _ hjf
  unfold IsD at hv2
  obtain ⟨f, hf, rfl⟩ := hv2
  refine wpAny_Call_Name_kw (thn ((pe_var (pos := p) hN hvis hdb hcd).run pins s σ H (fun v H1 => v = .ref f ∧ H1 = H) I ⟨.ref f, hv1, rfl, rfl⟩) fun u s1 ⟨v, H1, I1, r1, q1⟩ => ?_)
  obtain ⟨rfl, rfl⟩ := q1
  cases r1
  cases ht : tbl jf with
  | none => rw [ht] at wn; exact wn.elim
  | some t =>
  obtain ⟨n0, mf0⟩ := t
  rw [ht] at wn
  obtain ⟨f', fd, ps, h1, G, hk, hb⟩ := T jf n0 mf0 ht
  rw [show g.fa jf = some f from hf] at h1
  cases h1
  refine PySem.W.callWith_K (h₀ := X.base) I.ok.mod.kin hk (thn (ha.run pos pins s1 σ _ (fun vs H2 => spP (ck X.K g) n0 mf0 vs H2 Q (WE W σ)) I1 ⟨xs, env, S, Want.bind wn fun ds env' vs H' e s r w' => ?_⟩) fun us s2 ⟨vs, H2, I2, r, q⟩ => ⟨I2.kIn, ?_⟩) he hpl
  · dsimp only at w'
    split at w'
    case isFalse => exact w'.elim
    rename_i hl
    have hP : ∀ a, Hid xs env σ a → H' a ≠ none := fun a ha => s.st.hid (by rw [s.hid]; exact ha)
    refine ⟨Hid xs env σ, ds, hl, hP, r.clean hs, ?_⟩
    cases q : mf0 ds with
    | error x =>
      rw [q] at w'
      cases x with
      | raise kk pp => exact fun cls dd H2 k2 hx => w' cls dd H2 (s.sm.trans (Same.trans hide_full k2)) hx
      | stuck => exact w'.elim
    | ok d =>
      rw [q] at w'
      intro v H2 k2 hd
      exact w' v H2 (s.grow k2) hd
  · exact run_fnS G hr hb (passAtN tk σ) I2 r q

/-! ### try: .. except C as n: return word(n) -/
def noOwE (env : En) : Bool := env.all fun s => match s with
  | .ow _ => false
  | _ => true
theorem noOwE_of {env : En} (h : noOwE env = true) {σ : St} {a : Addr} : ¬ Owns env σ a := fun ⟨i, d, h1, _⟩ => by
  unfold noOwE at h
  rw [List.all_eq_true] at h
  have := h _ (List.mem_of_getElem? h1)
  cases this
def sHeard (ms : Sv) (i : Nat) : Sv := fun env => if (noOwE env && decide (i < env.length)) = true then (match ms env with
  | .error (.raise k p) => bnd (wordOf k p) fun d => .ok (.rt d, env)
  | .error .stuck => stuck
  | .ok p => .ok p) else stuck
theorem Cok.tr (C : Cok false X W P w K mg base N sc k false) {W' : WX} {pn : List (Addr × Obj)} {xe : Value → Shared → Prop} (tk : L2.Takes (X.tr pn xe) W') (ow : PassesOwn (model X.prog X.w) X.A X.env xe) : Cok false (X.tr pn xe) W' P w K mg base N sc k false :=
  ⟨C.eP, C.ew, C.eK, C.em, C.eb, C.eN, C.es, C.calm, C.room, C.nd, C.fn, tk, fun _ => ow, C.sf⟩
theorem Cok.trN (C : Cok false X W P w K mg base N sc k false) {W' : WX} {pn : List (Addr × Obj)} {xe : Value → Shared → Prop} (tk : L2N.Takes (X.tr pn xe) W') (ow : PassesOwn (model X.prog X.w) X.A X.env xe) : Cok true (X.tr pn xe) W' P w K mg base N sc k false :=
  ⟨C.eP, C.ew, C.eK, C.em, C.eb, C.eN, C.es, C.calm, C.room, C.nd, C.fn, tk, fun _ => ow, C.sf⟩
theorem wordOf_ok {i : Nat} {p d : D} (h : wordOf i p = .ok d) : ∃ x hd, p = .str x ∧ i < 4 ∧ wHeads[i]? = some hd ∧ x.length ≤ 1000 ∧ d = .str (hd ++ x) := by
  unfold wordOf at h
  split at h
  · split at h
    · rename_i hd hh
      split at h
      · rename_i hx
        cases h
        exact ⟨_, hd, rfl, (List.getElem?_eq_some_iff.mp hh).1, hh, hx, rfl⟩
      · cases h
    · cases h
  · cases h
/-- a word function: on the error that a suite holds -/
structure WordOk (P : Program) (w : World) (K : PySem.W.Frag) (mg : Str → Option Value) (base : Heap) (k : Nat) (C : Nat → Addr) (x : Str) : Prop where
  ex : ∃ (f : Addr) (fd : FuncData), mg x = some (.ref f) ∧ FnW P w K mg base k f fd ["error"] (spWord C) ∧ PySem.W.keepIn K (.ref f) = true ∧ Binds K fd ["error"] []
theorem s_heard {xw n xc : Str} {i j : Nat} {AW : Addr} {np p1 p2 p3 pos' : Pos} {Ca : Nat → Addr} (C : Cok false X W P w K mg base N sc k false) (T : WCls K mg g Ca) (hen : ∀ i, i < 4 → g.en i = "reason") (FW : WordOk P w K mg base j Ca xw) (hj : j ≤ k) (hi : N[i]? = some n) (hln : locL sc n = true) (hc : gloB sc xc = true) (hmc : mg xc = some (.ref AW)) (hxm : ∀ i, i < 4 → PySem.W.exmOne K (.ref (Ca i)) (.ref AW) = some true)
    (hgw : gloB sc xw = true) (hb : ∀ (X' : Cx) (W' : WX), Cok false X' W' P w K mg base N sc k false → DSs X' g sts ms W') (hd1 : (xc == ("__debug__" : Str)) = false := by rfl) (hd2 : (xw == ("__debug__" : Str)) = false := by rfl) (hd3 : (n == ("__debug__" : Str)) = false := by rfl) (hd4 : (n == ("__classdict__" : Str)) = false := by rfl)
    (he : ∀ Y : Cx, starEach [.Name n p2] Y.env = (false, eval (.Name n p2) Y.env) :: starEach [] Y.env := by intro _; rfl) (hpl : ∀ Y : Cx, (backTo p3 (starEach [] Y.env)).any (·.1) = false := by intro _; rfl) :
    DS X g (.Try sts [.ExceptHandler (some (.Name xc np)) (some n) [.Return (some (.Call (.Name xw p1) [.Name n p2] [] p3)) pos'] p] [] [] pos) (sHeard ms i) W := by
  obtain ⟨f, fd, hmw, G, hk, hbd⟩ := FW.ex
  have hgl := gloB_of C hgw
  have hgc := gloB_of C hc
  have hl : X.env.scope.names.lookup n = some .local := by rw [C.es]; exact eq_of_beq hln
  have hN : X.N[i]? = some n := by rw [C.eN]; exact hi
  have hNd : X.N.Nodup := by rw [C.eN]; exact C.nd
  have hr : L2H.RoomH j X.A := L2H.roomH_of (C.room.mono hj)
  obtain ⟨sf1, sf2⟩ := C.sf rfl
  have tkW : L2.Takes X W := C.tk
  have hbt := fun (W' : WX) (pn : List (Addr × Obj)) (xe : Value → Shared → Prop) (tk : L2.Takes (X.tr pn xe) W') (ow : PassesOwn (model X.prog X.w) X.A X.env xe) => hb (X.tr pn xe) W' (C.tr tk ow)
  obtain ⟨rfl, rfl, rfl, rfl, rfl⟩ := And.intro C.eP (And.intro C.ew (And.intro C.eK (And.intro C.em C.eb)))
  refine PS.imp (ps_try_as (c := .ref AW) (tb := fun W' => tS (cc X g) ms W') (ts := fun a cls d => tRet (tCallW a cls d (spWord Ca) (tCons (tVar i) tNil))) sf1 sf2 hNd hN hl ⟨hgc, hd1, .inl hmc⟩ tkW hbt fun a oe cls d pn hz hf => ?_) fun E σ H ⟨xs, env, S, w⟩ => ?_
  · exact pss_one (ps_ret (pe_callW (X := X.suite a ((a, oe) :: pn)) G ⟨hr.dp, hr.un⟩ List.mem_cons_self hz hf hgl hmw hk hbd (pa_cons (pe_var hN (.inl hl) hd3 hd4) pa_nil (he _)) hd2 (he _) (hpl _)))
  · unfold sHeard at w
    split at w
    case isFalse => exact w.elim
    rename_i hno
    rw [Bool.and_eq_true, decide_eq_true_eq] at hno
    refine ⟨xs, env, S, ?_⟩
    generalize hr0 : ms env = r at w ⊢
    cases r with
    | ok p =>
      obtain ⟨fl, env'⟩ := p
      cases fl <;> exact w
    | error x =>
      cases x with
      | stuck => exact w.elim
      | raise kk pp =>
        intro cls dd σ' H' hlen q hx
        dsimp only at w
        cases hw : wordOf kk pp with
        | error z =>
          exfalso
          rw [hw] at w
          cases z with
          | raise k1 p1 =>
            unfold wordOf at hw
            split at hw
            · split at hw
              · split at hw <;> cases hw
              · cases hw
            · cases hw
          | stuck => exact w
        | ok d =>
          rw [hw] at w
          obtain ⟨x, hd, rfl, hk4, hh, hxl, rfl⟩ := wordOf_ok hw
          obtain ⟨C0, d0, v, e1, e2, e3, e4, e5⟩ := hx
          have e1' := e1.symm.trans (T.ec kk hk4)
          cases e1'
          unfold IsD at e5
          subst e2 e3 e5
          have own : ∀ a, ¬ Owns env σ a := fun a => noOwE_of hno.1
          have k0 : Same H H' := fun b o hb => q b o (by rw [hide_of (own b)]; exact hb)
          refine ⟨true, hxm kk hk4, fun _ a ha => ?_, fun z => nomatch z⟩
          have hset : (σ'.set i (some (V.ref a)))[i]? = some (some (V.ref a)) := by
            rw [List.getElem?_set, if_pos rfl, if_pos (by rw [hlen, ← S.len]; exact hno.2)]
          refine ⟨.ref a, hset, rfl, kk, hd, x, d0, hk4, hh, hxl, rfl, rfl, ?_, fun H2 k2 => ?_⟩
          · rw [← hen kk hk4]; exact e4
          · have kk2 := k0.trans k2
            exact w σ _ H2 (S.same kk2) ⟨hide_same kk2, Same.th kk2, fun h => ⟨h, rfl⟩, rfl⟩ isStr

/-! ### try: .. except C: raise C'(text) from None -/
def sReraise (ms : Sv) (f : Nat → Bool) (k' : Nat) (txt : Str) : Sv := fun env => match ms env with
  | .error (.raise k p) => if k < 4 then (if f k = true then .error (.raise k' (.str txt)) else .error (.raise k p)) else stuck
  | .error .stuck => stuck
  | .ok p => .ok p
theorem s_reraise {xc xr txt : Str} {i' j jj : Nat} {AC AR fR : Addr} {f : Nat → Bool} {np p1 p2 p3 pos' cp : Pos} {Ca : Nat → Addr} (C : Cok false X W P w K mg base N sc k false) (pa : PaOk X) (T : WCls K mg g Ca) (TR : Sup.Txt P K mg AR fR) (hc : gloB sc xc = true) (hmc : mg xc = some (.ref AC)) (hxm : ∀ i, i < 4 → PySem.W.exmOne K (.ref (Ca i)) (.ref AC) = some (f i))
    (hgr : gloB sc xr = true) (hmr : mg xr = some (.ref AR)) (her : g.ec i' = some AR) (hen : g.en i' = "reason") (hb : ∀ (X' : Cx) (W' : WX), Cok true X' W' P w K mg base N sc k false → DSs X' g sts ms W') (hd1 : (xc == ("__debug__" : Str)) = false := by rfl) (hd2 : (xr == ("__debug__" : Str)) = false := by rfl)
    (he : ∀ Y : Cx, starEach [.Constant (.str txt) jj p2] Y.env = (false, eval (.Constant (.str txt) jj p2) Y.env) :: starEach [] Y.env := by intro _; rfl) (hpl : ∀ Y : Cx, (backTo p3 (starEach [] Y.env)).any (·.1) = false := by intro _; rfl) :
    DS X g (.Try sts [.ExceptHandler (some (.Name xc np)) none [.Raise (some (.Call (.Name xr p1) [.Constant (.str txt) jj p2] [] p3)) (some (.Constant .none j cp)) pos'] p] [] [] pos) (sReraise ms f i' txt) W := by
  have hgl := gloB_of C hgr
  have hgc := gloB_of C hc
  have hdp : X.A.depth + 1 < recursionLimit := by have := C.room.dp; omega
  obtain ⟨sf1, sf2⟩ := C.sf rfl
  have tkW : L2.Takes X W := C.tk
  have hbt := fun (W' : WX) (pn : List (Addr × Obj)) (xe : Value → Shared → Prop) (tk : L2N.Takes (X.tr pn xe) W') (_ : L2.Takes (X.tr pn xe) (L2H.wPass X.K (.ref AC) W)) (ow : PassesOwn (model X.prog X.w) X.A X.env xe) => hb (X.tr pn xe) W' (C.trN tk ow)
  obtain ⟨rfl, rfl, rfl, rfl, rfl⟩ := And.intro C.eP (And.intro C.ew (And.intro C.eK (And.intro C.em C.eb)))
  refine PS.imp (L2H.ps_try_onlyX (c := .ref AC) (Wout := W) (tb := fun W' => tS (cc X g) ms W') (ts := fun a cls d => fun _ σ H => tMkS AR (tCons (tC (.str txt)) tNil) σ H fun cls d H' => W cls d σ H') sf1 sf2 ⟨hgc, hd1, .inl hmc⟩ pa tkW hbt fun a oe cls d pn hz hf tk2 hot => ?_) fun E σ H ⟨xs, env, S, w⟩ => ?_
  · exact pss_one (L2H.ps_raiseHN hot tk2 (pmk5_sup (X := L2H.suiteX X a ((a, oe) :: pn)) TR hdp hgl hmr pe_str hd2 (he _) (hpl _)))
  · unfold sReraise at w
    refine ⟨xs, env, S, ?_⟩
    generalize hr0 : ms env = r at w ⊢
    cases r with
    | ok p =>
      obtain ⟨fl, env'⟩ := p
      cases fl <;> exact w
    | error x =>
      cases x with
      | stuck => exact w.elim
      | raise kk pp =>
        intro cls dd σ' H' hlen q hx
        dsimp only at w
        split at w
        case isFalse => exact w.elim
        rename_i hk4
        have hx' := hx
        obtain ⟨C0, d0, v, e1, e2, e3, e4, e5⟩ := hx'
        have e1' := e1.symm.trans (T.ec kk hk4)
        cases e1'
        subst e2 e3
        refine ⟨f kk, hxm kk hk4, fun hf a ha => ⟨.str txt, rfl, fun d' hd' => ?_⟩, fun hf => ?_⟩
        · rw [if_pos hf] at w
          refine w _ _ σ' _ hlen (q.trans (same_new hd')) ⟨AR, d', .str txt, her, rfl, rfl, ?_, isStr⟩
          show upd H' d' _ d' = some (.xd [(g.en i', V.str txt)])
          rw [hen]; exact upd_same
        · rw [hf, if_neg Bool.false_ne_true] at w
          exact w _ _ σ' H' hlen q hx
end
end Dn

/-! Dn23 -/
set_option Elab.async false
set_option linter.all false
set_option maxRecDepth 100000
set_option maxHeartbeats 1000000
/-! Dn23: short rules for the printer. -/
namespace Dn
open PySem PySem.Spec L2
open PyProof.Rows hiding St

/-! ### code that is never come to -/
def sNever : Sv := fun _ => stuck
def eNever : Ev := fun _ => stuck
section
variable {X : Cx} {P : Program} {w : World} {K : PySem.W.Frag} {mg : Str → Option Value} {base : Heap} {N : List Str} {sc : Scope} {k : Nat} {bk nn : Bool} {g : Ce} {W : WX}
variable {pu pu1 pu2 sh sh1 sh2 : Bool} {e a b : Expr} {es : List Expr} {pos p : Pos} {m m1 m2 : Ev} {ma : Av} {shs : List Bool} {x y : Str} {st : Stmt} {sts : List Stmt} {ms : Sv}
theorem s_never : DS X g st sNever W := ⟨fun _ _ _ _ _ _ ⟨_, _, _, w⟩ => w.elim⟩
theorem ss_never : DSs X g sts sNever W := ⟨fun _ _ _ _ _ _ ⟨_, _, _, w⟩ => w.elim⟩
theorem e_never : DE X g pu sh e eNever W := ⟨fun _ _ _ _ _ _ ⟨_, _, _, w⟩ => w.elim⟩

/-! ### unary minus -/
def dNeg (m : Ev) : Ev := fun env => bnd (m env) fun p => match p.1 with
  | .int i => .ok (.int (-i), p.2)
  | _ => stuck
theorem e_neg (h : DE X g pu sh a m W) : DE X g pu false (.UnaryOp .USub a pos) (dNeg m) W := PE.imp (pe_un un_neg h) fun σ H Q ⟨xs, env, S, w⟩ => ⟨xs, env, S, Want.bind w fun d env' v H' e s r w' => by
  have r' := Rep.shell r
  dsimp only at w'
  split at w'
  · exact ⟨_, r'.int, w' _ H' s (Rep.of isInt)⟩
  · exact w'.elim⟩

/-! ### operators -/
theorem un_room (C : Cok nn X W P w K mg base N sc k bk) : X.A.units + 65 < cLine := by have := C.room.un; omega
theorem un_roomE (C : Cok nn X W P w K mg base N sc k bk) : X.A.units + 64 < cLine := by have := C.room.un; omega
theorem eAdd (hc : sh1 = false ∨ pu2 = true) (ha : DE X g pu1 sh1 a m1 W) (hb : DE X g pu2 sh2 b m2 W) : DE X g (pu1 && pu2) false (.BinOp a .Add b pos) (dBin dAdd m1 m2) W := e_bin op_addD vb_add dAdd_nr hc ha hb
theorem eSub (hc : sh1 = false ∨ pu2 = true) (ha : DE X g pu1 sh1 a m1 W) (hb : DE X g pu2 sh2 b m2 W) : DE X g (pu1 && pu2) false (.BinOp a .Sub b pos) (dBin dSub m1 m2) W := e_bin op_sub vb_sub dIntOp_nr hc ha hb
theorem eMul (hc : sh1 = false ∨ pu2 = true) (ha : DE X g pu1 sh1 a m1 W) (hb : DE X g pu2 sh2 b m2 W) : DE X g (pu1 && pu2) false (.BinOp a .Mult b pos) (dBin dMul m1 m2) W := e_bin op_mulD vb_mul dMul_nr hc ha hb
theorem eFdiv (hc : sh1 = false ∨ pu2 = true) (ha : DE X g pu1 sh1 a m1 W) (hb : DE X g pu2 sh2 b m2 W) : DE X g (pu1 && pu2) false (.BinOp a .FloorDiv b pos) (dBin dFdiv m1 m2) W := e_bin op_fdivW vb_fdiv dIntOp_nr hc ha hb
theorem eMod (hc : sh1 = false ∨ pu2 = true) (ha : DE X g pu1 sh1 a m1 W) (hb : DE X g pu2 sh2 b m2 W) : DE X g (pu1 && pu2) false (.BinOp a .Mod b pos) (dBin dMod m1 m2) W := e_bin op_mod vb_mod dIntOp_nr hc ha hb
theorem ePow (hc : sh1 = false ∨ pu2 = true) (ha : DE X g pu1 sh1 a m1 W) (hb : DE X g pu2 sh2 b m2 W) : DE X g (pu1 && pu2) false (.BinOp a .Pow b pos) (dBin dPow m1 m2) W := e_bin op_pow vb_pow dIntOp_nr hc ha hb
theorem eIx (hc : sh1 = false ∨ pu2 = true) (ha : DE X g pu1 sh1 a m1 W) (hb : DE X g pu2 sh2 b m2 W) (hs : PlainIx b := by intro _ _; rfl) : DE X g (pu1 && pu2) false (.Subscript a b pos) (dBin dIx m1 m2) W := e_ix ix_seq vb_ix dIx_nr hc ha hb hs
theorem eEq (C : Cok nn X W P w K mg base N sc k bk) (hc : sh1 = false ∨ pu2 = true) (ha : DE X g pu1 sh1 a m1 W) (hb : DE X g pu2 sh2 b m2 W) (hm : behindInMarks .Eq b = false := by rfl) : DE X g (pu1 && pu2) false (.Compare a [.Eq] [b] pos) (dBin dEq m1 m2) W := e_cmp (op_eqD (un_roomE C)) vb_eq dEq_nr hc hm ha hb
theorem eNe (C : Cok nn X W P w K mg base N sc k bk) (hc : sh1 = false ∨ pu2 = true) (ha : DE X g pu1 sh1 a m1 W) (hb : DE X g pu2 sh2 b m2 W) (hm : behindInMarks .NotEq b = false := by rfl) : DE X g (pu1 && pu2) false (.Compare a [.NotEq] [b] pos) (dBin dNe m1 m2) W := e_cmp (op_neD (un_roomE C)) vb_ne dNe_nr hc hm ha hb
theorem eLt (hc : sh1 = false ∨ pu2 = true) (ha : DE X g pu1 sh1 a m1 W) (hb : DE X g pu2 sh2 b m2 W) (hm : behindInMarks .Lt b = false := by rfl) : DE X g (pu1 && pu2) false (.Compare a [.Lt] [b] pos) (dBin dLt m1 m2) W := e_cmp op_ltD vb_cmpI dCmpI_nr hc hm ha hb
theorem eLe (hc : sh1 = false ∨ pu2 = true) (ha : DE X g pu1 sh1 a m1 W) (hb : DE X g pu2 sh2 b m2 W) (hm : behindInMarks .LtE b = false := by rfl) : DE X g (pu1 && pu2) false (.Compare a [.LtE] [b] pos) (dBin dLe m1 m2) W := e_cmp op_leD vb_cmpI dCmpI_nr hc hm ha hb
theorem eGt (hc : sh1 = false ∨ pu2 = true) (ha : DE X g pu1 sh1 a m1 W) (hb : DE X g pu2 sh2 b m2 W) (hm : behindInMarks .Gt b = false := by rfl) : DE X g (pu1 && pu2) false (.Compare a [.Gt] [b] pos) (dBin dGt m1 m2) W := e_cmp op_gtD vb_cmpI dCmpI_nr hc hm ha hb
theorem eGe (hc : sh1 = false ∨ pu2 = true) (ha : DE X g pu1 sh1 a m1 W) (hb : DE X g pu2 sh2 b m2 W) (hm : behindInMarks .GtE b = false := by rfl) : DE X g (pu1 && pu2) false (.Compare a [.GtE] [b] pos) (dBin dGe m1 m2) W := e_cmp op_geD vb_cmpI dCmpI_nr hc hm ha hb
theorem eIn (C : Cok nn X W P w K mg base N sc k bk) (hc : sh1 = false ∨ pu2 = true) (ha : DE X g pu1 sh1 a m1 W) (hb : DE X g pu2 sh2 b m2 W) (hm : behindInMarks .In b = false := by rfl) : DE X g (pu1 && pu2) false (.Compare a [.In] [b] pos) (dBin dIn m1 m2) W := e_cmp (op_inS (un_room C)) vb_in dIn_nr hc hm ha hb
theorem eNotIn (C : Cok nn X W P w K mg base N sc k bk) (hc : sh1 = false ∨ pu2 = true) (ha : DE X g pu1 sh1 a m1 W) (hb : DE X g pu2 sh2 b m2 W) (hm : behindInMarks .NotIn b = false := by rfl) : DE X g (pu1 && pu2) false (.Compare a [.NotIn] [b] pos) (dBin dNotIn m1 m2) W := e_cmp (op_notInS (un_room C)) vb_notIn dNotIn_nr hc hm ha hb
theorem tEq (C : Cok nn X W P w K mg base N sc k bk) (hc : sh1 = false ∨ pu2 = true) (ha : DE X g pu1 sh1 a m1 W) (hb : DE X g pu2 sh2 b m2 W) (hm : behindInMarks .Eq b = false := by rfl) : DT X g (pu1 && pu2) (.Compare a [.Eq] [b] pos) (dTb (dBin dEq m1 m2)) W := t_cmp (op_eqD (un_roomE C)) vb_eq dEq_nr hc hm ha hb
theorem tNe (C : Cok nn X W P w K mg base N sc k bk) (hc : sh1 = false ∨ pu2 = true) (ha : DE X g pu1 sh1 a m1 W) (hb : DE X g pu2 sh2 b m2 W) (hm : behindInMarks .NotEq b = false := by rfl) : DT X g (pu1 && pu2) (.Compare a [.NotEq] [b] pos) (dTb (dBin dNe m1 m2)) W := t_cmp (op_neD (un_roomE C)) vb_ne dNe_nr hc hm ha hb
theorem tLt (hc : sh1 = false ∨ pu2 = true) (ha : DE X g pu1 sh1 a m1 W) (hb : DE X g pu2 sh2 b m2 W) (hm : behindInMarks .Lt b = false := by rfl) : DT X g (pu1 && pu2) (.Compare a [.Lt] [b] pos) (dTb (dBin dLt m1 m2)) W := t_cmp op_ltD vb_cmpI dCmpI_nr hc hm ha hb
theorem tLe (hc : sh1 = false ∨ pu2 = true) (ha : DE X g pu1 sh1 a m1 W) (hb : DE X g pu2 sh2 b m2 W) (hm : behindInMarks .LtE b = false := by rfl) : DT X g (pu1 && pu2) (.Compare a [.LtE] [b] pos) (dTb (dBin dLe m1 m2)) W := t_cmp op_leD vb_cmpI dCmpI_nr hc hm ha hb
theorem tGt (hc : sh1 = false ∨ pu2 = true) (ha : DE X g pu1 sh1 a m1 W) (hb : DE X g pu2 sh2 b m2 W) (hm : behindInMarks .Gt b = false := by rfl) : DT X g (pu1 && pu2) (.Compare a [.Gt] [b] pos) (dTb (dBin dGt m1 m2)) W := t_cmp op_gtD vb_cmpI dCmpI_nr hc hm ha hb
theorem tGe (hc : sh1 = false ∨ pu2 = true) (ha : DE X g pu1 sh1 a m1 W) (hb : DE X g pu2 sh2 b m2 W) (hm : behindInMarks .GtE b = false := by rfl) : DT X g (pu1 && pu2) (.Compare a [.GtE] [b] pos) (dTb (dBin dGe m1 m2)) W := t_cmp op_geD vb_cmpI dCmpI_nr hc hm ha hb
theorem tIn (C : Cok nn X W P w K mg base N sc k bk) (hc : sh1 = false ∨ pu2 = true) (ha : DE X g pu1 sh1 a m1 W) (hb : DE X g pu2 sh2 b m2 W) (hm : behindInMarks .In b = false := by rfl) : DT X g (pu1 && pu2) (.Compare a [.In] [b] pos) (dTb (dBin dIn m1 m2)) W := t_cmp (op_inS (un_room C)) vb_in dIn_nr hc hm ha hb
theorem tNotIn (C : Cok nn X W P w K mg base N sc k bk) (hc : sh1 = false ∨ pu2 = true) (ha : DE X g pu1 sh1 a m1 W) (hb : DE X g pu2 sh2 b m2 W) (hm : behindInMarks .NotIn b = false := by rfl) : DT X g (pu1 && pu2) (.Compare a [.NotIn] [b] pos) (dTb (dBin dNotIn m1 m2)) W := t_cmp (op_notInS (un_room C)) vb_notIn dNotIn_nr hc hm ha hb
theorem tTruth (ha : DE X g pu sh a m W) (he : ∀ whole, isTrue a X.env whole = (do let v ← whole; standAt a.pos; holding [v] (truthy v)) := by intro _; rfl) : DT X g pu a (dTr m) W := t_truth he ha

/-! ### zip -/
def zipD (xs ys : List D) : List D := List.zipWith (fun x y => D.tup [x, y]) xs ys
theorem zipD_get : ∀ {xs ys : List D} {i : Nat} {d : D}, (zipD xs ys)[i]? = some d → ∃ x y, xs[i]? = some x ∧ ys[i]? = some y ∧ d = .tup [x, y]
  | [], ys, i, d, h => by simp [zipD] at h
  | x :: xs, [], i, d, h => by simp [zipD] at h
  | x :: xs, y :: ys, 0, d, h => by simp [zipD] at h; exact ⟨x, y, rfl, rfl, h.symm⟩
  | x :: xs, y :: ys, i + 1, d, h => by
    have h' : (zipD xs ys)[i]? = some d := by simpa [zipD] using h
    obtain ⟨x', y', h1, h2, h3⟩ := zipD_get h'
    exact ⟨x', y', by simpa using h1, by simpa using h2, h3⟩
theorem zipD_len (xs ys : List D) : (zipD xs ys).length = min xs.length ys.length := by unfold zipD; exact List.length_zipWith
theorem walk_zipT {K : PySem.W.Frag} {a b : Addr} {xs ys : List V} {n : Nat} (hn : n = min xs.length ys.length) : Walk (RZ.ItzT K a b) n (fun H => SqT K H a xs ∧ SqT K H b ys) (YPair (fun i => xs[i]?) (fun i => ys[i]?)) := by
  subst hn
  refine ⟨fun i _ hi q => ?_, fun _ q => ⟨xs, ys, q.1, q.2, by omega⟩, fun i H v H' _ q y => ?_⟩
  · have h1 : i < xs.length := by omega
    have h2 : i < ys.length := by omega
    exact ⟨xs, ys, xs[i], ys[i], q.1, q.2, by simp [h1], by simp [h2]⟩
  · obtain ⟨T, x, z, h1, h2, h3, h4, h5⟩ := y
    exact ⟨T, x, z, h1, h2, h3, h4 xs q.1, h5 ys q.2⟩
theorem itok_zipT {c : Cc} {G0 : Hp} {a b : Addr} {ds es : List D} {vs ws : List V} (h : SqT c.K G0 a vs) (h' : SqT c.K G0 b ws) (r : IsDs c G0 ds vs) (r' : IsDs c G0 es ws) : ItOk c G0 (RZ.ItzT c.K a b) (zipD ds es) := by
  refine ⟨fun H => SqT c.K H a vs ∧ SqT c.K H b ws, _, walk_zipT (by rw [zipD_len, r.len, r'.len]), fun H z => ⟨SqT.same z h, SqT.same z h'⟩, fun i x H H' d e z y => ?_⟩
  obtain ⟨T, u, v, rfl, hT, rfl, h1, h2⟩ := y
  obtain ⟨d1, d2, e1, e2, rfl⟩ := zipD_get e
  refine ⟨same_new hT, fun Z k hZ => ?_⟩
  obtain ⟨v1, h3, h4⟩ := r.getD e1
  obtain ⟨v2, h5, h6⟩ := r'.getD e2
  rw [show vs[i]? = some u from h1] at h3; cases h3
  rw [show ws[i]? = some v from h2] at h5; cases h5
  exact isNewT hT hZ (IsDs.cons (h4.same k) (IsDs.cons (h6.same k) IsDs.nil))
theorem itok_zipL {c : Cc} {G0 : Hp} {a b : Addr} {ds es : List D} {vs ws : List V} (h : SqL c.K G0 a vs) (h' : SqL c.K G0 b ws) (r : IsDs c G0 ds vs) (r' : IsDs c G0 es ws) : ItOk c G0 (Itz c.K a b) (zipD ds es) := by
  refine ⟨fun H => SqL c.K H a vs ∧ SqL c.K H b ws, _, walk_zip (by rw [zipD_len, r.len, r'.len]), fun H z => ⟨z.seq h, z.seq h'⟩, fun i x H H' d e z y => ?_⟩
  obtain ⟨T, u, v, rfl, hT, rfl, h1, h2⟩ := y
  obtain ⟨d1, d2, e1, e2, rfl⟩ := zipD_get e
  refine ⟨same_new hT, fun Z k hZ => ?_⟩
  obtain ⟨v1, h3, h4⟩ := r.getD e1
  obtain ⟨v2, h5, h6⟩ := r'.getD e2
  rw [show vs[i]? = some u from h1] at h3; cases h3
  rw [show ws[i]? = some v from h2] at h5; cases h5
  exact isNewT hT hZ (IsDs.cons (h4.same k) (IsDs.cons (h6.same k) IsDs.nil))
def dZip (ms : Av) : Iv := fun env => bnd (ms env) fun p => match p.1 with
  | [.lst xs, .lst ys] => .ok (zipD xs ys, p.2)
  | [.tup xs, .tup ys] => .ok (zipD xs ys, p.2)
  | _ => stuck
theorem i_zip {elts : List Expr} {kk : Nat} {tpos : Pos} (hg : Gl X "zip") (hm : X.mg "zip" = none) (h : DA X g pu [false, false] [a, b] ma W) (hs : starEach [a, b] X.env = (false, eval a X.env) :: starEach [b] X.env := by rfl) (hpl : (backTo pos (starEach [b] X.env)).any (·.1) = false := by rfl) : DI X g (.Tuple elts kk tpos) pu (.Call (.Name "zip" p) [a, b] [] pos) (dZip ma) W :=
  PI.imp (RZ.pi_zipA hg hm h hs hpl) fun σ H Q ⟨xs, env, S, w⟩ => ⟨xs, env, S, Want.bind w fun ds env' vs H' e s r w' => by
    have rc := r.clean rfl
    dsimp only at w'
    split at w'
    · obtain ⟨v1, v2, rfl, h1, h2⟩ := rc.two
      unfold IsD at h1 h2
      obtain ⟨a1, vs1, rfl, q1, r1⟩ := h1
      obtain ⟨a2, vs2, rfl, q2, r2⟩ := h2
      have z1 : SqL X.K (hide H' (Hid xs env σ)) a1 vs1 := SqL.of q1
      have z2 : SqL X.K (hide H' (Hid xs env σ)) a2 vs2 := SqL.of q2
      exact ⟨a1, a2, vs1, vs2, rfl, .inl ⟨SqL.hid z1, SqL.hid z2, w' _ H' s (itok_zipL z1 z2 r1 r2)⟩⟩
    · obtain ⟨v1, v2, rfl, h1, h2⟩ := rc.two
      unfold IsD at h1 h2
      obtain ⟨a1, vs1, rfl, q1, r1⟩ := h1
      obtain ⟨a2, vs2, rfl, q2, r2⟩ := h2
      exact ⟨a1, a2, vs1, vs2, rfl, .inr ⟨SqT.hid q1, SqT.hid q2, w' _ H' s (itok_zipT q1 q2 r1 r2)⟩⟩
    · exact w'.elim⟩

/-! ### defs by name -/
/-- the written part holds this def, as it stands in the text -/
def FunAt (K : PySem.W.Frag) (mg : Str → Option Value) (x : Str) (st : Stmt) (ps : List Str) : Prop := ∃ (f : Addr) (fd : FuncData), mg x = some (.ref f) ∧ Fun K x x st f fd ∧ PySem.W.keepIn K (.ref f) = true ∧ Binds K fd ps []
theorem fok_pure {N ps : List Str} {n : Nat} {mf : List D → M D} {body : Sv} (F : FunAt K mg x st ps) (S : FnScope N ps (defScope st)) (hl : ps.length = n) (hN : ps.length ≤ N.length) (hf : ∀ ds, mf ds = fin (body (enter N.length ds)))
    (hbody : ∀ (X : Cx) (W : WX), Cok nn X W P w K mg base N (defScope st) k false → PaOk X → DSs X g (defBody st) body W) : Fok nn P w K mg base (k + 1) x (spP (ck K g) n mf) := by
  obtain ⟨f, fd, h1, h2, h3, h4⟩ := F
  subst hl
  exact ⟨f, fd, ps, h1, def_pure h2 S hN hf hbody, h3, h4⟩
theorem fok_own {N ps : List Str} {n : Nat} {mf : D → List D → M (D × D)} {body : Sv} (F : FunAt K mg x st ps) (S : FnScope N ps (defScope st)) (hn : ps.length = n + 1) (hN : ps.length ≤ N.length) (hf : ∀ s ds, mf s ds = finO (body (enterO N.length s ds)))
    (hbody : ∀ (X : Cx) (W : WX), Cok nn X W P w K mg base N (defScope st) k false → PaOk X → DSs X g (defBody st) body W) : Fok nn P w K mg base (k + 1) x (spO (ck K g) n mf) := by
  obtain ⟨f, fd, h1, h2, h3, h4⟩ := F
  exact ⟨f, fd, ps, h1, def_own h2 S hn hN hf hbody, h3, h4⟩
/-- out of a body that hands back a new object -/
def finF : M (Fl × En) → M D
  | .ok (.rf d, _) => .ok d
  | .ok (.ro i, env) => match env[i]? with
    | some (.ow d) => .ok d
    | _ => stuck
  | .ok _ => stuck
  | .error e => .error e
theorem fok_fresh {N ps : List Str} {n : Nat} {mf : List D → M D} {body : Sv} (F : FunAt K mg x st ps) (S : FnScope N ps (defScope st)) (hl : ps.length = n) (hN : ps.length ≤ N.length) (hf : ∀ ds, mf ds = finF (body (enter N.length ds)))
    (hbody : ∀ (X : Cx) (W : WX), Cok nn X W P w K mg base N (defScope st) k false → PaOk X → DSs X g (defBody st) body W) : Fok nn P w K mg base (k + 1) x (spF (ck K g) n mf) := by
  obtain ⟨f, fd, h1, h2, h3, h4⟩ := F
  subst hl
  refine ⟨f, fd, ps, h1, ?_, h3, h4⟩
  refine fun_ok h2 S (fun vs H Q E ⟨xs, ds, h1, h2, h3, _⟩ => by rw [← h3.len, h1]) (fun cdv A outer s H vs Q E hr ⟨xs, ds, h1, h2, h3, h⟩ => ?_)
  refine ⟨_, hbody _ _ (ctx_def S hr) (L2H.passesAt_of rfl), xs, enter N.length ds, enter_ok (by rw [h1]; exact hN) h2 h3, ?_⟩
  rw [hf] at h
  cases hb : body (enter N.length ds) with
  | error e =>
    rw [hb] at h
    refine body_endF (fun d env z => nomatch z) (fun env z => nomatch z) ?_
    cases e <;> exact h
  | ok p =>
    obtain ⟨fl, env'⟩ := p
    rw [hb] at h
    cases fl with
    | nx => exact h.elim
    | rt d => exact h.elim
    | bk => exact h.elim
    | ct => exact h.elim
    | rf d => exact body_endF (fun d env z => nomatch z) (fun env z => nomatch z) h
    | ro i => exact body_endF (fun d env z => nomatch z) (fun env z => nomatch z) h
/-- a def as a value -/
theorem tbl_of {i n : Nat} {mf : List D → M D} {f : Addr} (F : Fok nn P w K mg base k x (spP (ck K g) n mf)) (hm : mg x = some (.ref f)) (hf : g.fa i = some f) : ∃ (f : Addr) (fd : FuncData) (ps : List Str), g.fa i = some f ∧ FnOk P w K mg base (CXn nn P w) k f fd ps (spP (ck K g) n mf) ∧ PySem.W.keepIn K (.ref f) = true ∧ Binds K fd ps [] := by
  obtain ⟨f', fd, ps, h1, h2, h3, h4⟩ := F.ex
  rw [hm] at h1
  cases h1
  exact ⟨f, fd, ps, hf, h2, h3, h4⟩
theorem Fok.mono {j k : Nat} {sp : Sp} (F : Fok nn P w K mg base j x sp) (h : j ≤ k) : Fok nn P w K mg base k x sp := by
  obtain ⟨f, fd, ps, h1, h2, h3, h4⟩ := F.ex
  exact ⟨f, fd, ps, h1, h2.mono h, h3, h4⟩
end
end Dn

/-! Dn24 -/
set_option Elab.async false
set_option linter.all false
set_option maxRecDepth 100000
set_option maxHeartbeats 1000000
/-! Dn24: plain laws: what an evaluation gives. -/
namespace Dn
open PySem
/-- it ends well, and Q holds of what it gives -/
def wm {β : Type} (r : M β) (Q : β → Prop) : Prop := match r with
  | .ok b => Q b
  | .error _ => False
@[simp] theorem wm_ok {β : Type} (b : β) (Q : β → Prop) : wm (.ok b) Q = Q b := rfl
@[simp] theorem wm_stuck {β : Type} (x : Exn) (Q : β → Prop) : wm (.error x) Q = False := rfl
theorem wm_bnd {α β : Type} (m : M α) (f : α → M β) (Q : β → Prop) : wm (bnd m f) Q = wm m (fun a => wm (f a) Q) := by
  cases m <;> rfl
theorem wm_mono {β : Type} {r : M β} {Q Q' : β → Prop} (h : wm r Q) (k : ∀ b, Q b → Q' b) : wm r Q' := by
  cases r with
  | ok b => exact k b h
  | error x => exact h
theorem wm_eq {β : Type} {r : M β} {b : β} {Q : β → Prop} (h : r = .ok b) (q : Q b) : wm r Q := by rw [h]; exact q
theorem wm_out {β : Type} {r : M β} {Q : β → Prop} (h : wm r Q) : ∃ b, r = .ok b ∧ Q b := by
  cases r with
  | ok b => exact ⟨b, rfl, h⟩
  | error x => exact h.elim
theorem wm_ite {β : Type} {c : Prop} [Decidable c] {a b : M β} {Q : β → Prop} : wm (if c then a else b) Q = if c then wm a Q else wm b Q := by split <;> rfl
/-- a for loop by an invariant -/
theorem forL_inv {mt : Gv} {mb : Sv} {Q : Fl × En → Prop} (I : Nat → En → Prop) : ∀ (ds : List D) (i : Nat) (env : En), I i env →
    (∀ (j : Nat) (d : D) (e : En), ds[j]? = some d → I (i + j) e → wm (ns (mt d e)) fun e1 => wm (mb e1) fun q => match q.1 with
      | .nx => I (i + j + 1) q.2
      | .ct => I (i + j + 1) q.2
      | .bk => Q (.nx, q.2)
      | f => Q (f, q.2)) → (∀ e, I (i + ds.length) e → Q (.nx, e)) → wm (forL mt mb ds env) Q
  | [], i, env, h, _, hd => hd env (by simpa using h)
  | d :: r, i, env, h, hs, hd => by
    unfold forL
    rw [wm_bnd]
    refine wm_mono (hs 0 d env rfl (by simpa using h)) fun e1 h1 => ?_
    rw [wm_bnd]
    refine wm_mono h1 fun q hq => ?_
    obtain ⟨fl, e2⟩ := q
    have next : I (i + 1) e2 → wm (forL mt mb r e2) Q := fun hI => forL_inv I r (i + 1) e2 hI (fun j d' e he hi => by
      have := hs (j + 1) d' e (by simpa using he) (by rw [← Nat.add_assoc, Nat.add_right_comm]; exact hi)
      rw [← Nat.add_assoc, Nat.add_right_comm i j 1] at this
      exact this) fun e he => hd e (by rw [List.length_cons, ← Nat.add_assoc, Nat.add_right_comm]; exact he)
    cases fl with
    | nx => exact next hq
    | ct => exact next hq
    | bk => exact hq
    | rt d => exact hq
    | rf d => exact hq
    | ro i => exact hq
theorem bitsOf_lt {i : Int} {n : Nat} (h : i.natAbs < 2 ^ n) : bitsOf i ≤ n := by
  unfold bitsOf
  by_cases z : i.natAbs = 0
  · rw [z]; exact Nat.zero_le _
  · exact Nat.le_of_lt ((Nat.log2_lt z).mpr h)
theorem mulOk_of {i j : Int} {m n : Nat} (h1 : i.natAbs < 2 ^ m) (h2 : j.natAbs < 2 ^ n) (h : m + n < 1000000) : mulOk i j = true := by
  unfold mulOk
  have := bitsOf_lt h1
  have := bitsOf_lt h2
  exact decide_eq_true (by omega)
theorem divOk_of {i j : Int} {n : Nat} (h0 : 0 < j) (h2 : j.natAbs < 2 ^ n) (h : n < 9000) : divOk i j = true := by
  unfold divOk
  have := bitsOf_lt h2
  rw [decide_eq_true h0, decide_eq_true (show bitsOf j < 9000 by omega)]; rfl
end Dn

/-! Dn25 -/
set_option Elab.async false
set_option linter.all false
set_option maxRecDepth 100000
set_option maxHeartbeats 1000000
/-! Dn25: from a law's mirror to the row. -/
namespace Dn
open PySem PySem.Spec L2
open PyProof.Rows hiding St
/-- what the law's def promises -/
def spL (K : PySem.W.Frag) : Sp := fun vs H Q _ => ∃ (a : Addr) (ns : List Int), vs = [.ref a] ∧ SqL K H a (ns.map V.int) ∧ ∀ H', Q (.bl true) H'
theorem FnOk.weaken {P : Program} {w : World} {K : PySem.W.Frag} {mg : Str → Option Value} {base : Heap} {CX : CXT} {k : Nat} {f : Addr} {fd : FuncData} {ps : List Str} {sp sp' : Sp} (F : FnOk P w K mg base CX k f fd ps sp) (h : ∀ vs H Q E, sp' vs H Q E → sp vs H Q E) : FnOk P w K mg base CX k f fd ps sp' :=
  ⟨fun vs H Q E z => F.len vs H Q E (h _ _ _ _ z), fun A outer s H args us vs Q E hr e0 b r z => F.run A outer s H args us vs Q E hr e0 b r (h _ _ _ _ z)⟩
theorem law_fn {P : Program} {w : World} {K : PySem.W.Frag} {mg : Str → Option Value} {base : Heap} {k : Nat} {g : Ce} {f : Addr} {fd : FuncData} {ps : List Str} {mf : List D → M D} (F : FnOk P w K mg base (CXn false P w) k f fd ps (spP (ck K g) 1 mf)) (hl : ∀ ns : List Int, mf [.scr ns] = .ok (.bl true)) :
    FnOk P w K mg base (L2.CX P w) k f fd ps (spL K) := by
  refine FnOk.weaken F fun vs H Q E ⟨a, ns, e, hs, q⟩ => ⟨fun _ => False, [.scr ns], rfl, fun _ z => z.elim, ?_, ?_⟩
  · subst e
    refine IsDs.cons ?_ IsDs.nil
    unfold IsD
    exact ⟨a, rfl, Same.seq (fun b o hb => by rw [hide_of (fun z => z)]; exact hb) hs⟩
  · rw [hl ns]
    intro v H' _ hv
    unfold IsD at hv
    subst hv
    exact q H'
theorem walkD {l : PySem.W.OpenLaw} {k : Nat} {q : Program} {loose : List Str} {XP : (Str → Option Value) → Heap → Prop} {YP : World → Heap → Prop} {d : DefRec} {K : Params → PySem.W.Frag} (hn : l.most = some 63) (hdf : d.params.defaults = []) (hr : Room k callerA)
    (hY : ∀ (w : World) (h : Heap), YP w h → (K w.params).In h)
    (F : ∀ (w : World) (mg : Str → Option Value) (fa : Addr) (h : Heap), (K w.params).In h → h.Ns mainGlobals mg → mg d.name = some (.ref fa) →
      ∃ fd : FuncData, (∀ (s : Shared) (u : Value), BindsTo s fd ⟨[u], []⟩ [("script", u)]) ∧ ∀ base : Heap, (K w.params).In base → base.Ns mainGlobals mg → FnOk l.prog w (K w.params) mg base (L2.CX l.prog w) k fa fd ["script"] (spL (K w.params))) :
    PySem.W.WalkO q loose XP YP l.row.toRowW d [] (fun f vs => PySem.call f vs) :=
  L2.walk_of (n := 63) (k := k) (x := "script") (CX := fun w => L2.CX l.prog w) (sp := fun w => spL (K w.params)) hn (by decide) hdf hr hY F (fun _ _ a ns hl _ hS => ⟨a, ns, rfl, hS, fun _ => rfl⟩) fun _ _ _ _ _ ⟨_, _, _, _, _, _, _, _, _, _, _, _, z⟩ => z.elim
end Dn

/-! Dn26 -/
set_option Elab.async false
set_option linter.all false
set_option maxRecDepth 100000
set_option maxHeartbeats 1000000
/-! Dn26: several targets, of which some are places of own lists. -/
namespace Dn
open PySem PySem.Spec L2
open PyProof.Rows hiding St

section
variable {X : Cx} {P : Program} {w : World} {K : PySem.W.Frag} {mg : Str → Option Value} {base : Heap} {N : List Str} {sc : Scope} {k : Nat} {bk nn : Bool} {g : Ce} {W : WX}
variable {pu pu1 pu2 sh sh1 sh2 : Bool} {m m1 m2 : Ev} {a b e tg : Expr} {es : List Expr} {pos p pos' : Pos} {x : Str} {mg1 : Gv} {mgs : Gsv} {i : Nat}

def WantG2 (c : Cc) (xs : Addr → Prop) (env : En) (σ : St) (H : Hp) (Q : St → Hp → Prop) : M En → Prop
  | .ok env' => ∀ σ' H', StOk c xs env' σ' H' → Kept env σ H env' σ' H' → Q σ' H'
  | .error _ => False
def tG2 (c : Cc) (m : Gv) : TG := fun v σ H Q => ∃ xs env d, StOk c xs env σ H ∧ IsD c (hide H (Hid xs env σ)) d v ∧ WantG2 c xs env σ H Q (m d env)
def tG2s (c : Cc) (m : Gsv) : TGs := fun v σ H Q => ∃ xs env d, StOk c xs env σ H ∧ IsDs c (hide H (Hid xs env σ)) d v ∧ WantG2 c xs env σ H Q (m d env)
abbrev DG2 (X : Cx) (g : Ce) (e : Expr) (m : Gv) : Prop := PG X e (tG2 (cc X g) m)
abbrev DG2s (X : Cx) (g : Ce) (e : List Expr) (m : Gsv) : Prop := PGs X e (tG2s (cc X g) m)
theorem g2_name (h : PG X e (gName i)) : DG2 X g e (gSet i) := PG.imp h fun v σ H Q ⟨xs, env, d, S, r, w⟩ => by
  unfold gSet at w
  rcases put_cases i (.va d) env with q | ⟨q, h0⟩ <;> rw [q] at w
  · exact w.elim
  · exact w _ H (S.setVa i r) (kept_set_va h0)
theorem g2_nil : DG2s X g [] gsNil := PGs.imp pgs_nil fun v σ H Q ⟨xs, env, ds, S, r, w⟩ => by
  cases ds with
  | nil => unfold IsDs at r; exact ⟨r, w σ H S .refl⟩
  | cons _ _ => exact w.elim
theorem g2_cons (h1 : DG2 X g e mg1) (h2 : DG2s X g es mgs) (hs : (assignEach (e :: es) X.env).map (·.2) = assign e X.env :: (assignEach es X.env).map (·.2) := by rfl) : DG2s X g (e :: es) (gsCons mg1 mgs) :=
  PGs.imp (pgs_cons h1 h2 hs) fun v σ H Q ⟨xs, env, ds, S, r, w⟩ => by
    cases ds with
    | nil => exact w.elim
    | cons d ds =>
      unfold IsDs at r
      obtain ⟨v1, vr, e1, r1, r2⟩ := r
      refine ⟨v1, vr, e1, xs, env, d, S, r1, ?_⟩
      have w' : WantG2 (cc X g) xs env σ H Q (bnd (mg1 d env) fun env1 => mgs ds env1) := w
      cases q : mg1 d env with
      | error x => rw [q] at w'; exact w'.elim
      | ok env1 =>
        rw [q] at w'
        intro σ1 H1 S1 k1
        refine ⟨xs, env1, ds, S1, r2.same k1.smH, ?_⟩
        dsimp only [bnd] at w'
        cases q2 : mgs ds env1 with
        | error x => rw [q2] at w'; exact w'.elim
        | ok env2 =>
          rw [q2] at w'
          exact fun σ2 H2 S2 k2 => w' σ2 H2 S2 (k1.trans k2)
theorem g2_tup {kk : Nat} (hc : X.calm = true) (h : DG2s X g es mgs) (hst : (assignEach es X.env).findIdx? (·.1) = none := by rfl) (hl : (assignEach es X.env).length = es.length := by rfl) : DG2 X g (.Tuple es kk pos) (gTupD (lenOf es.length mgs)) :=
  PG.imp (pg_tup hc h hl hst) fun v σ H Q ⟨xs, env, d, S, r, w⟩ => by
    unfold gTupD at w
    split at w
    · rename_i ds
      unfold IsD at r
      obtain ⟨a, ws, e1, e2, e3⟩ := r
      unfold lenOf at w
      split at w
      · rename_i hz
        exact ⟨a, ws, e1, SqT.hid e2, by rw [← e3.len]; exact hz, xs, env, ds, S, e3, w⟩
      · exact w.elim
    · exact w.elim
def gSubT (i : Nat) (mi : Ev) : Gv := fun d env => match env[i]? with
  | some (.ow _) => bnd (ns (mi env)) fun q => match q.2[i]?, q.1 with
    | some (.ow (.lst ds)), .int k => match ixN ds.length k with
      | some j => .ok (q.2.set i (.ow (.lst (ds.set j d))))
      | none => stuck
    | _, _ => stuck
  | _ => stuck
theorem g2_sub (hx : PE X (.Name x p) (tVar i)) (hi : DE X g pu1 sh1 b m1 W) (ha : ∀ v, assign (.Subscript (.Name x p) b pos') X.env v = (do
      let ov ← holding [v] (eval (.Name x p) X.env)
      let iv ← holding [v, ov] (eval b X.env)
      standAt pos'
      holding [v, ov, iv] (setItem ov iv v)
      release [v, ov, iv] []) := by intro _; rfl) : DG2 X g (.Subscript (.Name x p) b pos') (gSubT i m1) :=
  PG.imp (pg_sub hx hi set_list ha) fun v σ H Q ⟨xs, env, d, S, r, w⟩ => by
    unfold gSubT at w
    split at w
    case h_2 => exact w.elim
    rename_i d0 hi0
    obtain ⟨a, o0, ha0, ho0, hr0⟩ := S.ow i d0 hi0
    refine ⟨.ref a, ha0, xs, env, S, ?_⟩
    cases e2 : m1 env with
    | error z => rw [e2] at w; exact w.elim
    | ok pr =>
      obtain ⟨dk, env2⟩ := pr
      rw [e2] at w
      intro vk H2 s2 r2
      rw [ns_ok, bnd_ok] at w
      dsimp only at w
      split at w
      case h_2 => exact w.elim
      rename_i ds kk hi2
      split at w
      case h_2 => exact w.elim
      rename_i j hj
      obtain ⟨a', vs, ha2, ho2, hr2⟩ := own_lst s2.st hi2
      rw [ha0] at ha2; cases ha2
      have r2' := IsD.same s2.smH _ _ r
      rw [s2.hid] at hr2
      have hst := s2.st.write hi2 ha0 (ds' := ds.set j d) (vs' := vs.set j v) (by rw [s2.hid]; exact hr2.set j r2')
      exact ⟨a, vs, kk, j, rfl, (Rep.shell r2).int, ho2, by rw [← hr2.len]; exact hj, w σ _ hst.st (s2.kept.trans hst.kept)⟩
theorem s_asg2 (he : DE X g pu false e m W) (hg : DG2 X g tg mg1) (hs : swapsWithSole [tg] e pos.line X.env = pure false := by rfl) (hw : swappedStores [tg] e X.env = pure none := by rfl)
    (h1 : (assignEach [tg] X.env).map (·.2) = [assign tg X.env] := by rfl) : DS X g (.Assign [tg] e pos) (sAsg m mg1) W := PS.imp (ps_asg he hg hs hw h1) fun E σ H ⟨xs, env, S, w⟩ =>
  ⟨xs, env, S, WantS.bindE w fun d env' v H' e s r w' => by
    have r' : IsD (cc X g) (hide H' (Hid xs env σ)) d v := r
    rw [← s.hid] at r'
    refine ⟨xs, env', d, s.st, r', ?_⟩
    dsimp only at w'
    cases q : mg1 d env' with
    | error x =>
      rw [q] at w'
      exact w'.elim
    | ok env2 =>
      rw [q] at w'
      exact fun σ2 H2 S2 k2 => w' σ2 H2 S2 (s.kept.trans k2)⟩

/-! ### operators that make a new list -/
def VBF (c : Cc) (r : R2) (f : D → D → M D) : Prop := ∀ (P : Addr → Prop) (H : Hp) (x y : V) (d1 d2 d : D) (Q : VK), (∀ a, P a → H a ≠ none) → RepS c P H d1 x → RepS c P H d2 y →
  f d1 d2 = .ok d → (∀ v H', Same H H' → RepV c P H H' d v → Q v H') → r x y H Q
theorem t_binF {r : R2} {f : D → D → M D} (hv : VBF (cc X g) r f) (nr : NoR2 f) (hc : sh1 = false ∨ pu2 = true) {σ : St} {H : Hp} {Q : VK} (h : tF (cc X g) (pu1 && pu2) (dBin f m1 m2) W σ H Q) :
    tOp r (tE (cc X g) pu1 sh1 m1 W) (tE (cc X g) pu2 sh2 m2 W) σ H Q := by
  obtain ⟨xs, env, S, w⟩ := h
  refine ⟨xs, env, S, w.bind fun d1 env1 x H1 e1 s1 r1 w1 => ?_⟩
  refine ⟨xs, env1, s1.st, Want.bind (pu' := pu2) (w1.after s1) fun d2 env2 y H2 e2 s2 r2 w2 => ?_⟩
  rw [← s1.hid] at r1
  have r1' := (s2.rep hc r1).shell
  have r2' := r2.shell
  cases q : f d1 d2 with
  | error e => cases e with
    | raise k p => exact absurd q (nr _ _ _ _)
    | stuck => rw [q] at w2; exact w2.elim
  | ok d =>
    rw [q] at w2
    refine hv (Hid xs env1 σ) H2 x y d1 d2 d Q (fun a ha => s2.st.hid (by rw [s2.hid]; exact ha)) r1' r2' q fun v H' k hd => ?_
    rw [s1.hid] at hd
    have ss := s1.trans s2
    exact w2 v H' (s2.grow k) (hd.step ss S k fun p hp => ss.free S hp)
theorem f_bin {op : Operator} {r : R2} {f : D → D → M D} (ho : OpR X (binaryOp op) r) (hv : VBF (cc X g) r f) (nr : NoR2 f) (hc : sh1 = false ∨ pu2 = true) (ha : DE X g pu1 sh1 a m1 W) (hb : DE X g pu2 sh2 b m2 W) :
    DF X g (pu1 && pu2) (.BinOp a op b pos) (dBin f m1 m2) W := PE.imp (pe_op ho ha hb) fun _ _ _ h => t_binF hv nr hc h
def dMulL : D → D → M D
  | .lst ds, .int k => if (decide (k ≤ 16777216) && decide (-16777216 ≤ k) && decide (ds.length * k.toNat ≤ maxSeq)) = true then .ok (.lst (repD k ds)) else stuck
  | _, _ => stuck
theorem dMulL_nr : NoR2 dMulL := fun d1 d2 k p h => by
  unfold dMulL at h
  split at h <;> (try split at h) <;> cases h
theorem vbf_mulL {c : Cc} : VBF c (rMulD c.K) dMulL := by
  intro P H x y d1 d2 d Q hP r1 r2 e k
  unfold dMulL at e
  split at e
  · split at e
    · rename_i h
      simp only [Bool.and_eq_true, decide_eq_true_eq] at h
      cases e
      obtain ⟨a, vs, rfl, h1, h2⟩ := r1.lst
      exact .inr (.inl ⟨a, _, vs, rfl, r2.int, h1, by omega, by omega, by rw [maxSeq_eq, ← h2.len]; exact h.2, fun p hp => k _ _ (same_new hp) (repV_lst hp (h2.rep _))⟩)
    · cases e
  · cases e
theorem fMulL (hc : sh1 = false ∨ pu2 = true) (ha : DE X g pu1 sh1 a m1 W) (hb : DE X g pu2 sh2 b m2 W) : DF X g (pu1 && pu2) (.BinOp a .Mult b pos) (dBin dMulL m1 m2) W := f_bin op_mulD vbf_mulL dMulL_nr hc ha hb
end
end Dn

/-! Dn27 -/
set_option Elab.async false
set_option linter.all false
set_option maxRecDepth 100000
set_option maxHeartbeats 1000000
/-! Dn27: zip over a tuple and a list, in any mix. -/
namespace Dn
open PySem PySem.Spec L2
open PyProof.Rows hiding St

/-- t: a tuple; else a list -/
def SqB (K : PySem.W.Frag) (t : Bool) (H : Hp) (a : Addr) (xs : List V) : Prop := match t with
  | true => SqT K H a xs
  | false => SqL K H a xs
def ItB (h : Heap) (t : Bool) (it a : Addr) (i : Nat) : Prop := match t with
  | true => h.IsTupleIter it a i
  | false => h.IsListIter it a i
def StB (h : Heap) (t : Bool) (a : Addr) (its : Array Value) : Prop := match t with
  | true => h.IsTuple a its
  | false => h.IsList a its
def obB (t : Bool) (a : Addr) : Obj := match t with
  | true => { cls := .type "tuple_iterator", data := .fields #[.ref a, .int 0 0] }
  | false => { cls := .type "list_iterator", data := .fields #[.ref a, .int 0 0] }
theorem begB (t : Bool) (a : Addr) (its : Array Value) : Begins (.ref a) (obB t a) (fun h => StB h t a its) := by
  cases t
  · exact begins_list a its
  · exact begins_tuple a its
theorem drawB {prog : Program} {w : World} {A : Around} (hh : A.handled = none) (t : Bool) {it a : Addr} (ne : a ≠ it) (its : Array Value) : Draws prog w A it [it, a] its.size (fun i v => its[i]? = some v) (fun i h => ItB h t it a i ∧ StB h t a its) := by
  cases t
  · exact Draws.list hh it a ne its
  · exact Draws.tuple hh it a ne its
theorem ItB.at' {h h' : Heap} {t : Bool} {it a : Addr} {i : Nat} (x : ItB h t it a i) (k : ∀ o, h.get? it = some o → h'.get? it = some o) : ItB h' t it a i := by
  cases t
  · exact Heap.IsListIter.at x k
  · exact Heap.IsTupleIter.at x k
theorem ItB.obj {h : Heap} {t : Bool} {it a : Addr} {i : Nat} (x : ItB h t it a i) : ∃ o, h.get? it = some o ∧ ∀ v, o.data ≠ .cell v := by
  cases t <;>
  · obtain ⟨o, e, _, d⟩ := x
    exact ⟨o, e, fun v z => by rw [d] at z; cases z⟩
theorem ItB.of {h : Heap} {t : Bool} {it a : Addr} (x : h.get? it = some (obB t a)) : ItB h t it a 0 := by
  cases t <;> exact ⟨_, x, rfl, rfl⟩
theorem SqB.of_inv {X : Cx} {pins : List (Addr × Obj)} {σ : L2.St} {H : Hp} {s : Shared} {t : Bool} {a : Addr} {xs : List V} (I : Inv X pins σ H s) (h : SqB X.K t H a xs) : ∃ its : List Value, Vals xs its ∧ StB s.heap t a its.toArray := by
  cases t
  · obtain ⟨its, r, p, _⟩ := I.list h
    exact ⟨its, r, p.isList⟩
  · obtain ⟨its, r, p, _⟩ := I.tuple h
    exact ⟨its, r, p⟩
theorem StB.lt {h : Heap} {t : Bool} {a : Addr} {its : Array Value} (x : StB h t a its) : a < h.objs.size := by
  cases t <;>
  · obtain ⟨o, e, _⟩ := x
    exact Heap.lt_size e
theorem SqB.inj {X : Cx} {pins : List (Addr × Obj)} {σ : L2.St} {H : Hp} {s : Shared} {t : Bool} {a : Addr} {xs ys : List V} (I : Inv X pins σ H s) (h : SqB X.K t H a xs) (h' : SqB X.K t H a ys) : xs = ys := by
  cases t
  · exact I.list_inj h h'
  · exact I.tuple_inj h h'
theorem SqB.same {K : PySem.W.Frag} {t : Bool} {H H' : Hp} {a : Addr} {xs : List V} (k : Same H H') (h : SqB K t H a xs) : SqB K t H' a xs := by
  cases t
  · exact k.seq h
  · exact SqT.same k h
theorem SqB.unhide {K : PySem.W.Frag} {t : Bool} {H : Hp} {P : Addr → Prop} {a : Addr} {xs : List V} (h : SqB K t (hide H P) a xs) : SqB K t H a xs := by
  cases t
  · exact SqL.hid h
  · exact SqT.hid h

def ItzB (K : PySem.W.Frag) (t1 t2 : Bool) (a b : Addr) : It where
  go := fun i H => ∃ (xs ys : List V), SqB K t1 H a xs ∧ SqB K t2 H b ys ∧ i < min xs.length ys.length
  yld := fun i H v H' => ∃ T x y, v = .ref T ∧ H T = none ∧ H' = upd H T (.tup [x, y]) ∧ (∀ xs, SqB K t1 H a xs → xs[i]? = some x) ∧ ∀ ys, SqB K t2 H b ys → ys[i]? = some y
  stop := fun i H => ∃ xs ys : List V, SqB K t1 H a xs ∧ SqB K t2 H b ys ∧ i = min xs.length ys.length
/-- what stands while it turns -/
def TnB (z TI TO i1 i2 a b : Addr) (t1 t2 : Bool) (i : Nat) (h : Heap) : Prop := IsZip h z TI TO .none ∧ IsTupOf2 h TI (.ref i1) (.ref i2) ∧ (∃ x y, IsTupOf2 h TO x y) ∧ ItB h t1 i1 a i ∧ ItB h t2 i2 b i
theorem turn_zipB {P : Program} {w : World} {K : PySem.W.Frag} {elts : List Expr} {kk : Nat} {tpos : Pos} {t1 t2 : Bool} {a b z TI TO i1 i2 : Addr} (S : ZipSep2 z TI TO i1 i2 [i1, a] [i2, b]) :
    Turn P w K (.Tuple elts kk tpos) (ItzB K t1 t2 a b) [z, TI, TO, i1, i2] z (TnB z TI TO i1 i2 a b t1 t2) where
  mem := List.mem_cons_self
  obj := by
    rintro i h ⟨q1, q2, ⟨x, y, q3⟩, q4, q5⟩ c hc
    simp only [List.mem_cons, List.not_mem_nil, or_false] at hc
    rcases hc with rfl | rfl | rfl | rfl | rfl
    · exact ⟨_, q1, fun v q => nomatch q⟩
    · exact ⟨_, q2, fun v q => nomatch q⟩
    · exact ⟨_, q3, fun v q => nomatch q⟩
    · exact q4.obj
    · exact q5.obj
  keep := by
    rintro i h h' ⟨q1, q2, ⟨x, y, q3⟩, q4, q5⟩ k
    have m : ∀ c, c ∈ [z, TI, TO, i1, i2] → ∀ o, h.get? c = some o → h'.get? c = some o := k
    exact ⟨m z (by simp) _ q1, m TI (by simp) _ q2, ⟨x, y, m TO (by simp) _ q3⟩, q4.at' (m i1 (by simp)), q5.at' (m i2 (by simp))⟩
  item := by
    intro X hP hw hK hc i pins s σ H E I hf st hg
    subst hP hw hK
    obtain ⟨xs, ys, hx, hy, hi⟩ := hg
    obtain ⟨its, rv, p⟩ := hx.of_inv I
    obtain ⟨its2, rv2, p2⟩ := hy.of_inv I
    have l1 := rv.length
    have l2 := rv2.length
    obtain ⟨q1, q2, q3, q4, q5⟩ := st
    have n1 : a ≠ i1 := fun e => by
      obtain ⟨o, ho, _⟩ := q4.obj
      subst e
      cases t1
      · obtain ⟨o1, e1, c1, _⟩ := p
        obtain ⟨o2, e2, c2, _⟩ := q4
        rw [e1] at e2; cases e2; rw [c1] at c2; simp at c2
      · obtain ⟨o1, e1, c1, _⟩ := p
        obtain ⟨o2, e2, c2, _⟩ := q4
        rw [e1] at e2; cases e2; rw [c1] at c2; simp at c2
    have n2 : b ≠ i2 := fun e => by
      subst e
      cases t2
      · obtain ⟨o1, e1, c1, _⟩ := p2
        obtain ⟨o2, e2, c2, _⟩ := q5
        rw [e1] at e2; cases e2; rw [c1] at c2; simp at c2
      · obtain ⟨o1, e1, c1, _⟩ := p2
        obtain ⟨o2, e2, c2, _⟩ := q5
        rw [e1] at e2; cases e2; rw [c1] at c2; simp at c2
    have hh : X.A.in1.handled = none := I.ok.hd hc
    have W := GoesN.zip2 (prog := X.prog) (w := X.w) (A := X.A) (elts := elts) (x1 := kk) (pos := tpos) S (drawB hh t1 n1 its.toArray) (drawB hh t2 n2 its2.toArray)
    have hi' : i < min its.toArray.size its2.toArray.size := by simp only [List.size_toArray]; omega
    refine W.goes i s _ E hi' ⟨q1, q2, q3, ⟨q4, p⟩, ⟨q5, p2⟩⟩ fun v h' tk hY st' hk _ => ?_
    obtain ⟨T, u, u2, rfl, hT, hu, hu2, hpair⟩ := hY
    have hx1 : xs[i]? = some xs[i] := List.getElem?_eq_getElem (by omega)
    have hy1 : ys[i]? = some ys[i] := List.getElem?_eq_getElem (by omega)
    obtain ⟨u', hu', ru⟩ := rv.get hx1
    obtain ⟨u2', hu2', ru2⟩ := rv2.get hy1
    have hu3 : its[i]? = some u := by simpa using hu
    have hu4 : its2[i]? = some u2 := by simpa using hu2
    rw [hu3] at hu'; cases hu'
    rw [hu4] at hu2'; cases hu2'
    have new : ObjOk X.prog X.w (upd H T (.tup [xs[i], ys[i]])) h' T (.tup [xs[i], ys[i]]) := ⟨by show 2 ≤ sizeLine; decide, [u, u2], .cons ru (.cons ru2 .nil), hpair⟩
    have I1 : Inv X pins σ (upd H T (.tup [xs[i], ys[i]])) { s with heap := h', toks := tk } :=
      I.turnedNew (t' := tk) (ch := [z, TI, TO, i1, i2]) (fun c o hb q => hk c o (fun q' => hb (by
        simp only [List.mem_cons, List.not_mem_nil, or_false] at q' ⊢
        rcases q' with e | e | e | e
        · exact .inl e
        · exact .inr (.inr (.inl e))
        · exact .inr (.inr (.inr (.inl e)))
        · exact .inr (.inr (.inr (.inr e))))) q) hf hT new
    refine ⟨.ref T, _, I1, rfl, ⟨T, _, _, rfl, I.hok.fresh hT, rfl, fun l hl => by rw [hl.inj I hx]; exact hx1, fun l hl => by rw [hl.inj I hy]; exact hy1⟩, ?_, fun c hcm => ?_⟩
    · obtain ⟨r1, r2, r3, r4, r5⟩ := st'
      exact ⟨r1, r2, r3, r4.1, r5.1⟩
    · have hlt : c < s.heap.objs.size := by
        simp only [List.mem_cons, List.not_mem_nil, or_false] at hcm
        obtain ⟨x, y, q3⟩ := q3
        rcases hcm with rfl | rfl | rfl | rfl | rfl
        · exact Heap.lt_size q1
        · exact Heap.lt_size q2
        · exact Heap.lt_size q3
        · obtain ⟨o, e, _⟩ := q4.obj; exact Heap.lt_size e
        · obtain ⟨o, e, _⟩ := q5.obj; exact Heap.lt_size e
      rw [upd_ne (Nat.ne_of_lt (Nat.lt_of_lt_of_le hlt hT))]
      exact (hf c hcm).1
  done := by
    intro X hP hw hK hc i pins s σ H E I hf st hg
    subst hP hw hK
    obtain ⟨xs, ys, hx, hy, hi⟩ := hg
    obtain ⟨its, rv, p⟩ := hx.of_inv I
    obtain ⟨its2, rv2, p2⟩ := hy.of_inv I
    have l1 := rv.length
    have l2 := rv2.length
    obtain ⟨q1, q2, q3, q4, q5⟩ := st
    have n1 : a ≠ i1 := fun e => by
      subst e
      cases t1
      · obtain ⟨o1, e1, c1, _⟩ := p
        obtain ⟨o2, e2, c2, _⟩ := q4
        rw [e1] at e2; cases e2; rw [c1] at c2; simp at c2
      · obtain ⟨o1, e1, c1, _⟩ := p
        obtain ⟨o2, e2, c2, _⟩ := q4
        rw [e1] at e2; cases e2; rw [c1] at c2; simp at c2
    have n2 : b ≠ i2 := fun e => by
      subst e
      cases t2
      · obtain ⟨o1, e1, c1, _⟩ := p2
        obtain ⟨o2, e2, c2, _⟩ := q5
        rw [e1] at e2; cases e2; rw [c1] at c2; simp at c2
      · obtain ⟨o1, e1, c1, _⟩ := p2
        obtain ⟨o2, e2, c2, _⟩ := q5
        rw [e1] at e2; cases e2; rw [c1] at c2; simp at c2
    have hh : X.A.in1.handled = none := I.ok.hd hc
    have W := GoesN.zip2 (prog := X.prog) (w := X.w) (A := X.A) (elts := elts) (x1 := kk) (pos := tpos) S (drawB hh t1 n1 its.toArray) (drawB hh t2 n2 its2.toArray)
    have hi' : i = min its.toArray.size its2.toArray.size := by simp only [List.size_toArray]; omega
    subst hi'
    refine W.stops s _ E ⟨q1, q2, q3, ⟨q4, p⟩, ⟨q5, p2⟩⟩ fun h' tk hk _ => ?_
    exact I.turnedL (t' := tk) (ch := [z, TI, TO, i1, i2]) (fun c o hb q => hk c o (fun q' => hb (by
        simp only [List.mem_cons, List.not_mem_nil, or_false] at q' ⊢
        rcases q' with e | e | e | e
        · exact .inl e
        · exact .inr (.inr (.inl e))
        · exact .inr (.inr (.inr (.inl e)))
        · exact .inr (.inr (.inr (.inr e))))) q) hf
  self := fun A i s Q E st h => wpAny_pyIter_zip st.1 h
def iZipB (K : PySem.W.Frag) (ta : TA) : TI := fun σ H R => ta σ H fun vs H1 => ∃ t1 t2 a b xs ys, vs = [.ref a, .ref b] ∧ SqB K t1 H1 a xs ∧ SqB K t2 H1 b ys ∧ R (ItzB K t1 t2 a b) H1
theorem pi_zipB {X : Cx} {e e2 : Expr} {ta : TA} {p pos tpos : Pos} {elts : List Expr} {kk : Nat} (hg : Gl X "zip") (hm : X.mg "zip" = none) (ha : PA X [e, e2] ta)
    (hs : starEach [e, e2] X.env = (false, eval e X.env) :: starEach [e2] X.env := by rfl) (hpl : (backTo pos (starEach [e2] X.env)).any (·.1) = false := by rfl) :
    PI X (.Tuple elts kk tpos) (.Call (.Name "zip" p) [e, e2] [] pos) (iZipB X.K ta) := by
  refine ⟨fun pins s σ H R I h => ?_⟩
  refine Call_ (ld_blt I hg hm PyProof.Rows.boot_zip (PyProof.Rows.callWith_type1 (thn (ha.run pos pins s σ H _ I h) fun us s1 ⟨vs, H1, I1, r1, q1⟩ => ?_) hs hpl))
  obtain ⟨t1, t2, a, b, xs, ys, rfl, hx, hy, q⟩ := q1
  cases r1 with
  | cons r rr =>
  cases rr with
  | cons r' rr =>
  cases rr
  cases r
  cases r'
  obtain ⟨its, rv, p1⟩ := hx.of_inv I1
  obtain ⟨its2, rv2, p2⟩ := hy.of_inv I1
  refine zip_begins2 (begB t1 a its.toArray) (begB t2 b its2.toArray) p1 p2 fun h' hz hTI hTO h1 h2 _ hk => wpAny_pyIter_zip hz ?_
  have I2 : Inv X pins σ H1 { s1 with heap := h' } := I1.kept (t' := s1.toks) hk
  have la := p1.lt
  have lb := p2.lt
  refine ⟨_, [s1.heap.objs.size + 4, s1.heap.objs.size + 2, s1.heap.objs.size + 3, s1.heap.objs.size, s1.heap.objs.size + 1], TnB (s1.heap.objs.size + 4) (s1.heap.objs.size + 2) (s1.heap.objs.size + 3) s1.heap.objs.size (s1.heap.objs.size + 1) a b t1 t2, ItzB X.K t1 t2 a b, H1, rfl, I2,
    turn_zipB (zip_sep2 (fun c hc => by rw [List.mem_singleton.mp hc]; exact la) fun c hc => by rw [List.mem_singleton.mp hc]; exact lb), ⟨hz, hTI, ⟨_, _, hTO⟩, .of h1, .of h2⟩, fun c hcm => ?_, q⟩
  have le : s1.heap.objs.size ≤ c := by
    simp only [List.mem_cons, List.not_mem_nil, or_false] at hcm
    rcases hcm with rfl | rfl | rfl | rfl | rfl <;> first | exact Nat.le_refl _ | exact Nat.le_add_right _ _
  exact I1.fpOk le (I1.hok.fresh le)
theorem walk_zipB {K : PySem.W.Frag} {t1 t2 : Bool} {a b : Addr} {xs ys : List V} {n : Nat} (hn : n = min xs.length ys.length) : Walk (ItzB K t1 t2 a b) n (fun H => SqB K t1 H a xs ∧ SqB K t2 H b ys) (YPair (fun i => xs[i]?) (fun i => ys[i]?)) := by
  subst hn
  refine ⟨fun i H hi q => ⟨xs, ys, q.1, q.2, hi⟩, fun H q => ⟨xs, ys, q.1, q.2, rfl⟩, fun i H v H' _ q y => ?_⟩
  obtain ⟨T, x, z, h1, h2, h3, h4, h5⟩ := y
  exact ⟨T, x, z, h1, h2, h3, h4 xs q.1, h5 ys q.2⟩
theorem itok_zipB {c : Cc} {G0 : Hp} {t1 t2 : Bool} {a b : Addr} {ds es : List D} {vs ws : List V} (h : SqB c.K t1 G0 a vs) (h' : SqB c.K t2 G0 b ws) (r : IsDs c G0 ds vs) (r' : IsDs c G0 es ws) : ItOk c G0 (ItzB c.K t1 t2 a b) (zipD ds es) := by
  refine ⟨fun H => SqB c.K t1 H a vs ∧ SqB c.K t2 H b ws, _, walk_zipB (by rw [zipD_len, r.len, r'.len]), fun H z => ⟨h.same z, h'.same z⟩, fun i x H H' d e z y => ?_⟩
  obtain ⟨T, u, v, rfl, hT, rfl, h1, h2⟩ := y
  obtain ⟨d1, d2, e1, e2, rfl⟩ := zipD_get e
  refine ⟨same_new hT, fun Z k hZ => ?_⟩
  obtain ⟨v1, h3, h4⟩ := r.getD e1
  obtain ⟨v2, h5, h6⟩ := r'.getD e2
  rw [show vs[i]? = some u from h1] at h3; cases h3
  rw [show ws[i]? = some v from h2] at h5; cases h5
  exact isNewT hT hZ (IsDs.cons (h4.same k) (IsDs.cons (h6.same k) IsDs.nil))
/-- what zip takes -/
def seqD : D → Option (List D)
  | .lst xs => some xs
  | .tup xs => some xs
  | _ => none
theorem seqD_sq {c : Cc} {H : Hp} {d : D} {xs : List D} {v : V} (h : seqD d = some xs) (r : IsD c H d v) : ∃ t a vs, v = .ref a ∧ SqB c.K t H a vs ∧ IsDs c H xs vs := by
  cases d <;> first | cases h; done | skip
  all_goals
    cases h
    unfold IsD at r
    obtain ⟨a, vs, rfl, q, r⟩ := r
  · exact ⟨true, a, vs, rfl, q, r⟩
  · exact ⟨false, a, vs, rfl, SqL.of q, r⟩
def dZipB (ms : Av) : Iv := fun env => bnd (ms env) fun p => match p.1 with
  | [a, b] => match seqD a, seqD b with
    | some xs, some ys => .ok (zipD xs ys, p.2)
    | _, _ => stuck
  | _ => stuck
section
variable {X : Cx} {g : Ce} {W : WX} {pu : Bool} {a b : Expr} {pos p : Pos} {ma : Av}
theorem i_zipB {elts : List Expr} {kk : Nat} {tpos : Pos} (hg : Gl X "zip") (hm : X.mg "zip" = none) (h : DA X g pu [false, false] [a, b] ma W) (hs : starEach [a, b] X.env = (false, eval a X.env) :: starEach [b] X.env := by rfl) (hpl : (backTo pos (starEach [b] X.env)).any (·.1) = false := by rfl) : DI X g (.Tuple elts kk tpos) pu (.Call (.Name "zip" p) [a, b] [] pos) (dZipB ma) W :=
  PI.imp (pi_zipB hg hm h hs hpl) fun σ H Q ⟨xs, env, S, w⟩ => ⟨xs, env, S, Want.bind w fun ds env' vs H' e s r w' => by
    have rc := r.clean rfl
    dsimp only at w'
    split at w'
    · rename_i d1 d2
      obtain ⟨v1, v2, rfl, h1, h2⟩ := rc.two
      cases q1 : seqD d1 with
      | none => rw [q1] at w'; exact w'.elim
      | some xs1 =>
        cases q2 : seqD d2 with
        | none => rw [q1, q2] at w'; exact w'.elim
        | some xs2 =>
          rw [q1, q2] at w'
          obtain ⟨t1, a1, vs1, rfl, z1, r1⟩ := seqD_sq q1 h1
          obtain ⟨t2, a2, vs2, rfl, z2, r2⟩ := seqD_sq q2 h2
          exact ⟨t1, t2, a1, a2, vs1, vs2, rfl, z1.unhide, z2.unhide, w' _ H' s (itok_zipB z1 z2 r1 r2)⟩
    · exact w'.elim⟩
end
end Dn

/-! Dn28 -/
set_option Elab.async false
set_option linter.all false
set_option maxRecDepth 100000
set_option maxHeartbeats 1000000
/-! Dn28: bit operators, [::-1], augmented stores in own lists, list(range). -/
namespace Dn
open PySem PySem.Spec L2
open PyProof.Rows hiding St

section
variable {X : Cx} {P : Program} {w : World} {K : PySem.W.Frag} {mg : Str → Option Value} {base : Heap} {N : List Str} {sc : Scope} {k : Nat} {bk nn : Bool} {g : Ce} {W : WX}
variable {pu pu1 pu2 sh sh1 sh2 : Bool} {m m1 m2 : Ev} {a b e tg : Expr} {es : List Expr} {pos p pos' : Pos} {x : Str} {i : Nat}
theorem eShl (hc : sh1 = false ∨ pu2 = true) (ha : DE X g pu1 sh1 a m1 W) (hb : DE X g pu2 sh2 b m2 W) : DE X g (pu1 && pu2) false (.BinOp a .LShift b pos) (dBin dShl m1 m2) W := e_bin op_shl vb_shl dIntOp_nr hc ha hb
theorem eShr (hc : sh1 = false ∨ pu2 = true) (ha : DE X g pu1 sh1 a m1 W) (hb : DE X g pu2 sh2 b m2 W) : DE X g (pu1 && pu2) false (.BinOp a .RShift b pos) (dBin dShr m1 m2) W := e_bin op_shr vb_shr dIntOp_nr hc ha hb
theorem eAnd (hc : sh1 = false ∨ pu2 = true) (ha : DE X g pu1 sh1 a m1 W) (hb : DE X g pu2 sh2 b m2 W) : DE X g (pu1 && pu2) false (.BinOp a .BitAnd b pos) (dBin dAnd2 m1 m2) W := e_bin op_and vb_and dIntOp_nr hc ha hb
theorem eOr (hc : sh1 = false ∨ pu2 = true) (ha : DE X g pu1 sh1 a m1 W) (hb : DE X g pu2 sh2 b m2 W) : DE X g (pu1 && pu2) false (.BinOp a .BitOr b pos) (dBin dOr2 m1 m2) W := e_bin op_or vb_or dIntOp_nr hc ha hb
end

/-! ### t[::-1], t a tuple -/
section
variable {prog : Program} {w : World} {A : Around} {E : Value → Shared → Prop} {s : Shared}
theorem adj_rev (n : Int) : Builtin.Slice.sliceAdjust none none (-1) n = (n - 1, -1) := rfl
theorem plc_rev (n : Nat) : Builtin.Slice.slicePlaces ((n : Int) - 1) (-1) (-1) = n := by
  unfold Builtin.Slice.slicePlaces
  rw [if_neg (by decide)]
  by_cases h : ((n : Int) - 1) > -1
  · rw [if_pos h]
    have e : ((n : Int) - 1 - -1 - 1) / (- -1) = n - 1 := by
      rw [show (- -1 : Int) = 1 from rfl, Int.ediv_one]; omega
    rw [e]; omega
  · rw [if_neg h]; omega
theorem applied_rev {sl : Addr} {n : Nat} {t : Tok} {Q : Int × Int × Nat → Shared → Prop} (hs : s.heap.IsSliceOf sl .none .none (.int (-1) t)) (h : Q ((n : Int) - 1, -1, n) s) :
    wpAny (model prog w) A (Builtin.Slice.sliceApplied (.ref sl) (pure (n : Int))) Q E s := by
  obtain ⟨o, e1, e2, e3⟩ := id hs
  unfold Builtin.Slice.sliceApplied Builtin.Slice.sliceFields
  have f0 := fun (Q : Value → Shared → Prop) (q : Q .none s) => wpAny_field (M := model prog w) (A := A) (E := E) (Q := Q) e1 e3 (x := .none) (i := 0) rfl q
  have f1 := fun (Q : Value → Shared → Prop) (q : Q .none s) => wpAny_field (M := model prog w) (A := A) (E := E) (Q := Q) e1 e3 (x := .none) (i := 1) rfl q
  have f2 := fun (Q : Value → Shared → Prop) (q : Q (.int (-1) t) s) => wpAny_field (M := model prog w) (A := A) (E := E) (Q := Q) e1 e3 (x := .int (-1) t) (i := 2) rfl q
  refine wpAny_bind (wpAny_bind (f0 _ (wpAny_bind (f1 _ (wpAny_bind (f2 _ (wpAny_pure ?_)))))))
  refine wpAny_bind (slicePart_int ?_)
  show wpAny _ _ (if ((-1 : Int) == 0) = true then _ else _) _ _ s
  rw [if_neg (by decide)]
  refine wpAny_bind (slicePart_none (wpAny_bind (slicePart_none (wpAny_bind (wpAny_pure ?_)))))
  show wpAny _ _ (pure ((n : Int) - 1, (-1 : Int), Builtin.Slice.slicePlaces ((n : Int) - 1) (-1) (-1))) _ _ s
  rw [plc_rev]
  exact wpAny_pure h
theorem pick_rev (xs : List Value) : ((List.range xs.length).filterMap fun (m : Nat) => xs.toArray[((xs.length : Int) - 1 + (m : Int) * -1).toNat]?) = xs.reverse := by
  have key : ∀ (l : List Nat), (∀ m, m ∈ l → m < xs.length) → (l.filterMap fun (m : Nat) => xs.toArray[((xs.length : Int) - 1 + (m : Int) * -1).toNat]?) = l.map fun m => (xs.reverse[m]?).getD .none := by
    intro l
    induction l with
    | nil => exact fun _ => rfl
    | cons m r ih =>
      intro h
      have hm := h m List.mem_cons_self
      have e : ((xs.length : Int) - 1 + (m : Int) * -1).toNat = xs.length - 1 - m := by omega
      have hv : xs.toArray[((xs.length : Int) - 1 + (m : Int) * -1).toNat]? = some ((xs.reverse[m]?).getD .none) := by
        rw [e, List.getElem?_toArray, List.getElem?_reverse hm, List.getElem?_eq_getElem (by omega)]
        rfl
      rw [List.filterMap_cons, hv, List.map_cons, ih fun y hy => h y (List.mem_cons_of_mem _ hy)]
  rw [key _ fun m hm => List.mem_range.mp hm]
  apply List.ext_getElem?
  intro j
  rw [List.getElem?_map]
  by_cases hj : j < xs.length
  · have hj2 : j < xs.reverse.length := by simpa using hj
    rw [List.getElem?_range hj, Option.map_some, List.getElem?_eq_getElem hj2, Option.getD_some]
  · rw [List.getElem?_eq_none (by simp; omega), List.getElem?_eq_none (by simp; omega)]
    rfl
theorem item_rev {t sl : Addr} {xs : List Value} {tk : Tok} {Q : Value → Shared → Prop} (ht : IsTup s.heap t xs.toArray) (hs : s.heap.IsSliceOf sl .none .none (.int (-1) tk))
    (h : Q (.ref s.heap.objs.size) { s with heap := s.heap.push { cls := .type "tuple", data := .seq xs.reverse.toArray } }) (hz : xs.length ≤ sizeLine) : wpAny (model prog w) A (getItem (.ref t) (.ref sl)) Q E s := by
  have room : sizeOk (.seq xs.reverse.toArray) := by show xs.reverse.toArray.size ≤ sizeLine; rw [List.size_toArray, List.length_reverse]; exact hz
  obtain ⟨o, e1, e2, e3⟩ := id hs
  have ty : s.TypeIs (.ref sl) "slice" := ⟨o, e1, e2⟩
  unfold getItem
  try with_reducible refine wpAny_holding ?_
  first | refine wpAny_bind (wpAny_pure ?_) | skip
  refine wpAny_bind (wpAny_sequenceKey ht.typeIs (by decide) (wpAny_bind (wpAny_callSpecial?_slot (name := Str.ofString "__getitem__") ht.typeIs PyProof.Rows.slot_tuple_getitem
    (wpAny_call_entry PyProof.Rows.slot_tuple_getitem ht.typeIs entry_tuple_getitem ?_ (args_tuple_getitem _ _)))))
  show wpAny _ _ (Builtin.Tuple.tupleItemsOf (.ref t) >>= _) _ _ s
  refine wpAny_bind (tupleItemsOf_ ht (wpAny_bind (wpAny_typeOf ty ?_)))
  rw [if_pos (by decide)]
  refine wpAny_bind ?_
  rw [show (pure (xs.toArray.size : Int) : Sem Int) = pure ((xs.length : Nat) : Int) by rw [List.size_toArray]]
  refine applied_rev hs ?_
  have no : ¬ (((xs.length : Int) - 1 == 0 && (-1 : Int) == 1 && xs.length == xs.toArray.size) = true) := by
    rw [show ((-1 : Int) == 1) = false from rfl, Bool.and_false, Bool.false_and]; exact Bool.false_ne_true
  show wpAny _ _ (if ((xs.length : Int) - 1 == 0 && (-1 : Int) == 1 && xs.length == xs.toArray.size) = true then _ else _) _ _ s
  rw [if_neg no, pick_rev]
  first
    | exact wpAny_bind (m := Builtin.Tuple.tupleExact _) (wpAny_newObj_type (wpAny_pure ⟨_, rfl, wpAny_pure h⟩) room)
    | exact wpAny_bind (m := Builtin.Tuple.tupleExact _) (wpAny_newObj_type (wpAny_bind (wpAny_pure (wpAny_pure ⟨_, rfl, wpAny_pure h⟩))) room)
    | exact wpAny_bind (wpAny_bind (m := Builtin.Tuple.tupleExact _) (wpAny_newObj_type (wpAny_pure (wpAny_pure ⟨_, rfl, wpAny_pure h⟩)) room))
    | exact wpAny_bind (wpAny_bind (m := Builtin.Tuple.tupleExact _) (wpAny_newObj_type (wpAny_pure ⟨_, rfl, wpAny_pure h⟩) room))
end
section
variable {X : Cx}
/-- x[::-1], x a list or a tuple -/
def tRevB (K : PySem.W.Frag) (te : TE) : TE := fun σ H Q => te σ H fun x H1 => ∃ a xs, x = .ref a ∧ ((SqL K H1 a xs ∧ ∀ p, H1 p = none → Q (.ref p) (upd H1 p (.lst xs.reverse))) ∨ (SqT K H1 a xs ∧ ∀ p, H1 p = none → Q (.ref p) (upd H1 p (.tup xs.reverse))))
theorem pe_revB {e : Expr} {te : TE} {k : Nat} {p1 p2 p3 pos : Pos} (he : PE X e te) : PE X (.Subscript e (.Slice none none (some (.UnaryOp .USub (.Constant (.int 1) k p1) p2)) p3) pos) (tRevB X.K te) := by
  refine ⟨fun pins s σ H Q I h => Subscript_ (thn (he.run pins s σ H _ I h) fun v s1 ⟨x, H1, I1, r1, a, xs, ex, q⟩ => ?_)⟩
  subst ex
  cases r1
  have hst : PO X (some (.UnaryOp .USub (.Constant (.int 1) k p1) p2)) (tPart (tUn (rU fun i => .int (-i)) (tC (.int 1)))) := po_some (pe_un un_neg pe_int)
  refine wpAny_Slice (thn (po_none.run pins s1 σ H1 (fun o z => o = none ∧ z = H1) I1 ⟨rfl, rfl⟩) fun vl s2 ⟨o2, z2, I2, pl, eo2, ez2⟩ => thn (po_none.run pins s2 σ z2 (fun o z => o = none ∧ z = H1) I2 ⟨rfl, ez2⟩) fun vu s3 ⟨o3, z3, I3, pu', eo3, ez3⟩ =>
    thn (hst.run pins s3 σ z3 (fun o z => o = some (-1) ∧ z = H1) I3 ⟨1, rfl, -1, rfl, rfl, ez3⟩) fun vs s4 ⟨o4, z4, I4, ps, eo4, ez4⟩ => ?_)
  rw [ez4] at I4
  rw [eo2] at pl
  rw [eo3] at pu'
  rw [eo4] at ps
  clear ez2 ez3 ez4 I2 I3
  have I5 : Inv X pins σ H1 { s4 with heap := s4.heap.push { cls := .type "slice", data := .fields #[vl, vu, vs] } } := I4.kept (t' := s4.toks) fun b ob z => Heap.get?_push_of_some _ z
  have hsl : Heap.IsSliceOf (s4.heap.push { cls := .type "slice", data := .fields #[vl, vu, vs] }) s4.heap.objs.size vl vu vs := Heap.IsSliceOf.new _ vl vu vs
  show wpAny (model X.prog X.w) X.A (subscriptTail e (.Slice none none (some (.UnaryOp .USub (.Constant (.int 1) k p1) p2)) p3) (.ref a) (.ref s4.heap.objs.size)) (EP X pins σ Q) X.xe { s4 with heap := s4.heap.push { cls := .type "slice", data := .fields #[vl, vu, vs] } }
  rcases q with ⟨hx, q⟩ | ⟨hx, q⟩
  · obtain ⟨its, r, ht, hz⟩ := I5.list hx
    have hlen := r.length
    refine tail_any (ops := [.ref a, .ref s4.heap.objs.size]) ht.isList.typeIs (PySem.slot_list_getitem.lookup) ?_ (by with_unfolding_all rfl)
    refine wpAny_getItem_list_slice ht.isList hsl pl pu' ps (by decide) ?_ (by rw [List.size_toArray]; omega)
    rw [PySem.W.krv_pick]
    refine ⟨.ref _, _, I5.laid (t' := s4.toks) (o := .lst xs.reverse) (fun b ob z => Heap.get?_push_of_some _ z) (Nat.le_refl _) ⟨by rw [List.length_reverse]; exact hz, _, 0, r.reverse, Heap.get?_push_size _ rfl⟩, rfl, q _ (I5.hok.fresh (Nat.le_refl _))⟩
  · obtain ⟨its, r, ht, hz⟩ := I5.tuple hx
    have hlen := r.length
    cases pl
    cases pu'
    cases ps
    refine tail_any (ops := [.ref a, .ref s4.heap.objs.size]) ht.typeIs PyProof.Rows.slot_tuple_getitem.lookup ?_ (by with_unfolding_all rfl)
    refine item_rev ht hsl ?_ (by rw [← hlen]; exact hz)
    refine ⟨.ref _, _, I5.laid (t' := s4.toks) (o := .tup xs.reverse) (fun b ob z => Heap.get?_push_of_some _ z) (Nat.le_refl _) ⟨by rw [List.length_reverse]; exact hz, _, r.reverse, ⟨_, Heap.get?_push_size _ rfl, rfl, _, rfl⟩⟩, rfl, q _ (I5.hok.fresh (Nat.le_refl _))⟩
end
def dRev (m : Ev) : Ev := fun env => bnd (m env) fun p => match p.1 with
  | .lst xs => .ok (.lst xs.reverse, p.2)
  | .tup xs => .ok (.tup xs.reverse, p.2)
  | _ => stuck
section
variable {X : Cx} {g : Ce} {W : WX} {pu sh : Bool} {m : Ev} {e : Expr} {pos p1 p2 p3 : Pos} {k : Nat}
theorem e_rev (h : DE X g pu false e m W) : DE X g pu false (.Subscript e (.Slice none none (some (.UnaryOp .USub (.Constant (.int 1) k p1) p2)) p3) pos) (dRev m) W :=
  PE.imp (pe_revB h) fun σ H Q ⟨xs, env, S, w⟩ => ⟨xs, env, S, Want.bind w fun d env1 v H1 e1 s1 r1 w1 => by
    have r1c : IsD (cc X g) (hide H1 (Hid xs env σ)) d v := r1
    have hP : ∀ a, Hid xs env σ a → H1 a ≠ none := fun a ha => s1.st.hid (by rw [s1.hid]; exact ha)
    dsimp only at w1
    split at w1
    · unfold IsD at r1c
      obtain ⟨a, vs, rfl, q1, q2⟩ := r1c
      exact ⟨a, vs, rfl, .inl ⟨SqL.hid (SqL.of q1), fun p hp => w1 _ _ (s1.grow (same_new hp)) (isNewL hp hP q2.reverse)⟩⟩
    · unfold IsD at r1c
      obtain ⟨a, vs, rfl, q1, q2⟩ := r1c
      exact ⟨a, vs, rfl, .inr ⟨SqT.hid q1, fun p hp => w1 _ _ (s1.grow (same_new hp)) (isNewT hp hP q2.reverse)⟩⟩
    · exact w1.elim⟩
end
end Dn

/-! Dn29 -/
set_option Elab.async false
set_option linter.all false
set_option maxRecDepth 100000
set_option maxHeartbeats 1000000
/-! Dn29: xs[i] op= e, xs an own list. -/
namespace Dn
open PySem PySem.Spec L2
open PyProof.Rows hiding St

/-- xs[k], a list that stands in H, k not below nought -/
def rGet0 : V → V → Hp → VK → Prop := fun o i H Q => ∃ p xs k v, o = .ref p ∧ i = .int k ∧ H p = some (.lst xs) ∧ 0 ≤ k ∧ xs[k.toNat]? = some v ∧ Q v H
theorem get0 {X : Cx} : PGet X rGet0 := by
  intro pins s σ H o i ov iv Q I ro ri h
  obtain ⟨p, xs, k, v, rfl, rfl, hp, h0, hv, q⟩ := h
  cases ro
  obtain ⟨t, rfl⟩ := ri
  obtain ⟨its, r, pl, hz⟩ := I.list (SqL.of hp)
  obtain ⟨u, eu, ru⟩ := r.get hv
  have hlt := (List.getElem?_eq_some_iff.mp hv).1
  have hn := line63
  exact wpAny_getItem_list pl.isList h0 (by omega) (by simpa using eu) ⟨v, H, I, ru, q⟩
def sAugSub (i : Nat) (f : D → D → M D) (mi m : Ev) : Sv := fun env => match env[i]? with
  | some (.ow _) => bnd (mi env) fun q => match q.2[i]?, q.1 with
    | some (.ow (.lst ds)), .int k => match (if 0 ≤ k then ds[k.toNat]? else none) with
      | some d => bnd (m q.2) fun r => match r.2[i]? with
        | some (.ow (.lst ds')) => bnd (f d r.1) fun z => if k.toNat < ds'.length then .ok (.nx, r.2.set i (.ow (.lst (ds'.set k.toNat z)))) else stuck
        | _ => stuck
      | none => stuck
    | _, _ => stuck
  | _ => stuck
section
variable {X : Cx} {g : Ce} {W : WX} {pu1 pu2 sh1 sh2 : Bool} {m m1 : Ev} {b e : Expr} {pos p pos' : Pos} {x : Str} {i : Nat}
theorem s_augSub {op : Operator} {r : R2} {f : D → D → M D} (ho : OpR X (inplaceOp op) r) (hv : VB (cc X g) r f) (nr : NoR2 f) (hx : PE X (.Name x p) (tVar i)) (hi : DE X g pu1 sh1 b m1 W) (he : DE X g pu2 sh2 e m W)
    (ha : ∀ ov iv new, augStore b ov iv new = (do holding [new, ov, iv] (setItem ov iv new); release [new, ov, iv] []; pure .next) := by intros; rfl) : DS X g (.AugAssign (.Subscript (.Name x p) b pos') op e pos) (sAugSub i f m1 m) W :=
  PS.imp (ps_augS hx hi get0 he ho set_list ha) fun E σ H ⟨xs, env, S, w⟩ => by
    unfold sAugSub at w
    split at w
    case h_2 => exact w.elim
    rename_i d0 hi0
    obtain ⟨a, o0, ha0, ho0, hr0⟩ := S.ow i d0 hi0
    refine ⟨.ref a, ha0, xs, env, S, WantS.bindE w fun dk env1 vk H1 e1 s1 r1 w1 => ?_⟩
    dsimp only at w1
    split at w1
    case h_2 => exact w1.elim
    rename_i ds kk hi1
    split at w1
    case h_2 => exact w1.elim
    rename_i d hd
    split at hd
    case isFalse => cases hd
    rename_i h0
    obtain ⟨a', vs, ha1, ho1, hr1⟩ := own_lst s1.st hi1
    rw [ha0] at ha1; cases ha1
    obtain ⟨v, hvv, hdv⟩ := hr1.getD hd
    refine ⟨a, vs, kk, v, rfl, (Rep.shell r1).int, ho1, h0, hvv, xs, env1, s1.st, WantS.bindE (WantS.after s1.kept w1) fun d2 env2 u H2 e2 s2 r2 w2 => ?_⟩
    dsimp only at w2
    split at w2
    case h_2 => exact w2.elim
    rename_i ds' hi2
    cases q : f d d2 with
    | error z =>
      rw [q] at w2
      cases z with
      | raise kk pp => exact absurd q (nr _ _ _ _)
      | stuck => exact w2.elim
    | ok z =>
      rw [q, bnd_ok] at w2
      split at w2
      case isFalse => exact w2.elim
      rename_i hlt
      have hdv' := hdv.same s2.smH
      refine hv (Hid xs env1 σ) H2 v u d d2 z _ (fun y hy => s2.st.hid (by rw [s2.hid]; exact hy)) (RepS.of hdv') (Rep.shell r2) q fun t H3 k3 hd3 => ?_
      have s3 := s2.grow k3
      obtain ⟨a', vs', ha3, ho3, hr3⟩ := own_lst s3.st hi2
      rw [ha0] at ha3; cases ha3
      have hst := s3.st.write hi2 ha0 (ds' := ds'.set kk.toNat z) (vs' := vs'.set kk.toNat t) (hr3.set _ (by rw [s3.hid]; exact hd3))
      refine ⟨a, vs', kk, kk.toNat, rfl, (Rep.shell r1).int, ho3, ?_, w2 σ _ hst.st (s3.kept.trans hst.kept)⟩
      have hl := hr3.len
      unfold L2.ixN
      rw [if_pos h0, if_pos (by omega)]
end
end Dn

/-! Dn30 -/
set_option Elab.async false
set_option linter.all false
set_option maxRecDepth 100000
set_option maxHeartbeats 1000000
/-! Dn30: list(range(n)), sorted of integers (a list or a tuple). -/
namespace Dn
open PySem PySem.Spec L2
open PyProof.Rows hiding St

/-! ### list(range(n)) -/
def dLstRg (m : Ev) : Ev := fun env => bnd (m env) fun p => match p.1 with
  | .int j => if (decide (0 ≤ j) && decide (j ≤ 16777216)) = true then .ok (.lst (rngD 0 1 j.toNat), p.2) else stuck
  | _ => stuck
theorem isDs_rg {c : Cc} {H : Hp} (j : Int) : IsDs c H (rngD 0 1 j.toNat) (rgV 0 j) := by
  unfold rngD rgV
  rw [Int.sub_zero]
  generalize List.range j.toNat = l
  induction l with
  | nil => exact IsDs.nil
  | cons n r ih =>
    rw [List.map_cons, List.map_cons]
    refine IsDs.cons ?_ ih
    rw [Int.mul_one]
    exact isInt
section
variable {X : Cx} {P : Program} {w : World} {K : PySem.W.Frag} {mg : Str → Option Value} {base : Heap} {N : List Str} {sc : Scope} {k : Nat} {bk nn : Bool} {g : Ce} {W : WX}
variable {pu sh : Bool} {m : Ev} {a : Expr} {pos p p2 pos2 : Pos}
theorem f_lstRg (hc : X.calm = true) (hg : Gl X "list") (hm : X.mg "list" = none) (hgr : Gl X "range") (hmr : X.mg "range" = none) (ha : DE X g pu sh a m W)
    (na : starEach [.Call (.Name "range" p2) [a] [] pos2] X.env = (false, eval (.Call (.Name "range" p2) [a] [] pos2) X.env) :: starEach [] X.env := by rfl) (na2 : starEach [a] X.env = (false, eval a X.env) :: starEach [] X.env := by rfl) :
    DF X g pu (.Call (.Name "list" p) [.Call (.Name "range" p2) [a] [] pos2] [] pos) (dLstRg m) W :=
  PE.imp (pe_listRg hc hg hm (prg_1 hgr hmr ha na2) na) fun σ H Q ⟨xs, env, S, w⟩ => ⟨xs, env, S, Want.bind w fun d env' v H' e s r w' => by
    dsimp only at w'
    split at w'
    · rename_i j
      split at w'
      · rename_i hz
        rw [Bool.and_eq_true, decide_eq_true_eq, decide_eq_true_eq] at hz
        exact ⟨j, (Rep.shell r).int, .of_le (by omega) hz.2 (by omega) hz.1, fun q hq => w' _ _ (s.grow (same_new hq)) (RepF.lst s (isDs_rg j) hq (s.free S hq))⟩
      · exact w'.elim
    · exact w'.elim⟩
end

/-! ### sorted -/
def insI (x : Int) : List Int → List Int
  | [] => [x]
  | y :: r => if x ≤ y then x :: y :: r else y :: insI x r
def sortI : List Int → List Int
  | [] => []
  | x :: r => insI x (sortI r)
theorem insI_perm (x : Int) : ∀ l : List Int, (insI x l).Perm (x :: l)
  | [] => .refl _
  | y :: r => by
    unfold insI
    split
    · exact .refl _
    · exact ((insI_perm x r).cons y).trans (.swap x y r)
theorem sortI_perm : ∀ l : List Int, (sortI l).Perm l
  | [] => .refl _
  | x :: r => (insI_perm x (sortI r)).trans ((sortI_perm r).cons x)
theorem insI_le {x : Int} : ∀ {l : List Int}, l.Pairwise (· ≤ ·) → (insI x l).Pairwise (· ≤ ·)
  | [], _ => List.pairwise_singleton _ _
  | y :: r, h => by
    unfold insI
    rw [List.pairwise_cons] at h
    split
    · rename_i hx
      rw [List.pairwise_cons, List.pairwise_cons]
      exact ⟨fun z hz => by
        rcases List.mem_cons.mp hz with rfl | hz
        · exact hx
        · exact Int.le_trans hx (h.1 z hz), h⟩
    · rename_i hx
      rw [List.pairwise_cons]
      exact ⟨fun z hz => by
        rcases List.mem_cons.mp ((insI_perm x r).mem_iff.mp hz) with rfl | hz
        · omega
        · exact h.1 z hz, insI_le h.2⟩
theorem sortI_le : ∀ l : List Int, (sortI l).Pairwise (· ≤ ·)
  | [] => List.Pairwise.nil
  | _ :: r => insI_le (sortI_le r)
theorem sorted_one : ∀ {l l' : List Int}, l.Perm l' → l.Pairwise (· ≤ ·) → l'.Pairwise (· ≤ ·) → l = l'
  | [], l', p, _, _ => p.nil_eq
  | a :: r, [], p, _, _ => absurd p.symm.nil_eq (by simp)
  | a :: r, b :: r', p, h, h' => by
    rw [List.pairwise_cons] at h h'
    have e : a = b := by
      have h1 : a = b ∨ b ≤ a := by
        rcases List.mem_cons.mp (p.mem_iff.mp List.mem_cons_self) with e | e
        · exact .inl e
        · exact .inr (h'.1 a e)
      have h2 : b = a ∨ a ≤ b := by
        rcases List.mem_cons.mp (p.mem_iff.mpr List.mem_cons_self) with e | e
        · exact .inl e
        · exact .inr (h.1 b e)
      omega
    subst e
    rw [sorted_one p.cons_inv h.2 h'.2]
theorem sortI_of {ns ns' : List Int} (p : ns'.Perm ns) (h : ns'.Pairwise (· ≤ ·)) : ns' = sortI ns := sorted_one (p.trans (sortI_perm ns).symm) h (sortI_le ns)
section
variable {prog : Program} {w : World} {A : Around} {E : Value → Shared → Prop} {s : Shared}
/-- the items of a tuple collected -/
theorem col_tup {t : Addr} {vs : List Value} {Q : List Value → Shared → Prop} (ht : s.heap.IsTuple t vs.toArray) (hz : vs.length ≤ sizeLine)
    (h : Q vs { s with heap := (s.heap.push (seqObj "list" #[] 0)).update s.heap.objs.size (Obj.mapSeq (· ++ vs.toArray)) }) : wpAny (model prog w) A (collect (.ref t)) Q E s := by
  obtain ⟨o, e1, e2, n, e3⟩ := id ht
  have old : (s.heap.push (seqObj "list" #[] 0)).get? t = some o := Heap.get?_push_of_some _ e1
  have mine : (s.heap.push (seqObj "list" #[] 0)).get? s.heap.objs.size = some (seqObj "list" #[] 0) := Heap.get?_push_size _ rfl
  have room : ((#[] : Array Value) ++ vs.toArray).size ≤ sizeLine + 1 := by simp only [Array.size_append, List.size_toArray, List.length_nil]; omega
  unfold collect
  refine wpAny_bind (wpAny_runValue (codeAny_builtin entry_proto_collect' ?_))
  show wpAny _ _ (do again (.builtin "list.__iadd__" ⟨[← newList [], .ref t], []⟩)) _ _ s
  refine wpAny_bind (wpAny_newList (wpAny_pure ⟨Code.quiet_builtin _ (by decide +kernel), codeAny_builtin entry_list_iadd' ?_⟩))
  show wpAny _ _ (Builtin.List.listExtendWith (.ref s.heap.objs.size) (.ref t) (.ref s.heap.objs.size)) _ _ { s with heap := s.heap.push (seqObj "list" #[] 0) }
  unfold Builtin.List.listExtendWith
  refine wpAny_bind (wpAny_typeOf (T := "tuple") ⟨o, old, e2⟩ ?_)
  rw [if_pos (by rw [show (Value.type "tuple" == Value.type "tuple") = true from rfl, Bool.or_true])]
  refine wpAny_bind (listItems_at old e3 (wpAny_bind (listItems_at (xs := #[]) (n := 0) mine rfl ?_)))
  rw [if_neg (by simp)]
  refine wpAny_bind (listUpdate_at (xs := #[]) (n := 0) mine rfl (wpAny_pure ?_) (Nat.zero_le _) room)
  show wpAny (model prog w) A (do
      let o ← load s.heap.objs.size
      match o.data with
      | .seq xs _ => pure xs.toList
      | _ => unsupported "internal:collect") Q E { s with heap := (s.heap.push (seqObj "list" #[] 0)).update s.heap.objs.size (Obj.mapSeq (· ++ vs.toArray)) }
  refine wpAny_bind (wpAny_load (get?_update_seq mine _) ?_)
  show wpAny _ _ (pure ((#[] : Array Value) ++ vs.toArray).toList) Q E _
  rw [show ((#[] : Array Value) ++ vs.toArray).toList = vs by simp]
  exact wpAny_pure h
/-- sorted(t), t a tuple of integers -/
theorem srt_tup {t : Addr} {vs : List Value} {ns : List Int} {Q : Value → Shared → Prop} (ht : s.heap.IsTuple t vs.toArray) (hi : IntsAre vs ns) (hz : vs.length ≤ sizeLine)
    (h : ∀ out : List Value, SrtO.Srtd SrtO.ltIv out → SrtO.Stb SrtO.ltIv out vs → Q (.ref (s.heap.objs.size + 1)) { s with heap := sortedAll s.heap vs out.toArray }) : wpAny (model prog w) A (call (.builtin "sorted") [.ref t]) Q E s := by
  refine Calls.call_function_entry kind_sorted plain_sorted entry_sorted (args_sorted1 _) ?_
  unfold Builtin.«sorted»
  refine wpAny_bind (m := checkCount "sorted" 1 1 _) (wpAny_pure (wpAny_bind (col_tup ht hz (wpAny_bind (wpAny_newList ?_ hz)))))
  have sz : ((s.heap.push (seqObj "list" #[] 0)).update s.heap.objs.size (Obj.mapSeq (· ++ vs.toArray))).objs.size = s.heap.objs.size + 1 := by
    rw [Heap.size_update, size_push']
  have new : (((s.heap.push (seqObj "list" #[] 0)).update s.heap.objs.size (Obj.mapSeq (· ++ vs.toArray))).push (seqObj "list" vs.toArray 0)).get? (s.heap.objs.size + 1) = some (seqObj "list" vs.toArray 0) := by
    rw [← sz]; exact Heap.get?_push_size _ rfl
  show wpAny _ _ _ _ _ { s with heap := ((s.heap.push (seqObj "list" #[] 0)).update s.heap.objs.size (Obj.mapSeq (· ++ vs.toArray))).push (seqObj "list" vs.toArray 0) }
  rw [sz]
  refine wpAny_bind (wpAny_holding (wpAny_call_entry PyProof.Rows.slot_list_sort ⟨_, new, rfl⟩ PyProof.Rows.entry_list_sort
    (SrtO.list_sort_ord SrtO.swo_int new hz (fun h2 => SrtO.ints_sortable hi h2) fun out h1 h2 => ⟨_, rfl, ?_⟩) (PyProof.Rows.args_list_sort _)))
  exact wpAny_pure ⟨_, rfl, h out h1 h2⟩
end
section
variable {X : Cx}
def rSortB (K : PySem.W.Frag) : List V → Hp → VK → Prop := fun vs H Q => ∃ (a : Addr) (ns : List Int), vs = [V.ref a] ∧ (SqL K H a (ns.map V.int) ∨ SqT K H a (ns.map V.int)) ∧
  ∀ p : Addr, H p = none → Q (.ref p) (upd H p (.lst ((sortI ns).map V.int)))
theorem cr_sortB : CallR X (.builtin "sorted") (rSortB X.K) := by
  intro pins s σ H vs us Q I r h
  obtain ⟨a, ns, rfl, hs, q⟩ := h
  rcases hs with hs | hs
  · exact cr_sortedI pins s σ H _ us Q I r ⟨a, ns, rfl, hs, fun ns' p h1 h2 hp => by rw [sortI_of h1 h2]; exact q p hp⟩
  · obtain ⟨its, rv, ht, hz⟩ := I.tuple hs
    rw [Vals.ref1 r]
    have hi := rv.ints
    refine srt_tup ht hi (by rw [← rv.length]; exact hz) fun out h1 h2 => ?_
    obtain ⟨k1, k2, k3⟩ := SrtO.ints_out hi h1 h2
    obtain ⟨ep, he'⟩ := PyProof.Rows.sortedAll_at s.heap its out.toArray
    have hlen : ((out.map SrtO.iv).map V.int).length ≤ sizeLine := by
      rw [List.length_map, k2.length_eq]
      rw [List.length_map] at hz
      exact hz
    have q' := q (s.heap.objs.size + 1) (I.hok.fresh (Nat.le_succ _))
    rw [← sortI_of k2 k3] at q'
    exact ⟨.ref _, upd H (s.heap.objs.size + 1) (.lst ((out.map SrtO.iv).map V.int)), I.laid (t' := s.toks) (fun _ _ => PyProof.Rows.sortedAll_old) (Nat.le_succ _) ⟨hlen, out, ep, vals_of_ints k1, he'⟩, rfl, q'⟩
end
def bSorted : List D → M D
  | [.lst xs] => match intsOf xs with
    | some ns => .ok (.lst ((sortI ns).map D.int))
    | none => stuck
  | [.tup xs] => match intsOf xs with
    | some ns => .ok (.lst ((sortI ns).map D.int))
    | none => stuck
  | _ => stuck
theorem bSorted_nr : NoRL bSorted := fun ds k p h => by
  unfold bSorted at h
  split at h <;> (try split at h) <;> cases h
theorem vcf_sorted {c : Cc} : VCF c (rSortB c.K) bSorted := fun Z H vs ds d Q hP r e k => by
  unfold bSorted at e
  split at e
  · split at e
    · rename_i xs ns hn
      obtain ⟨v, rfl, r1⟩ := r.one
      obtain ⟨a, ws, rfl, h1, h2⟩ := r1.lst
      cases e
      exact ⟨a, ns, rfl, .inl (by rw [← intsOf_rep hn h2]; exact SqL.of h1), fun l hl => k _ _ (same_new hl) (repV_lst hl (isDs_ints (sortI ns)))⟩
    · cases e
  · split at e
    · rename_i xs ns hn
      obtain ⟨v, rfl, r1⟩ := r.one
      obtain ⟨a, ws, rfl, h1, h2⟩ := r1.tup
      cases e
      exact ⟨a, ns, rfl, .inr (by rw [← intsOf_rep hn h2]; exact h1), fun l hl => k _ _ (same_new hl) (repV_lst hl (isDs_ints (sortI ns)))⟩
    · cases e
  · cases e
end Dn

/-! Dn31 -/
set_option Elab.async false
set_option linter.all false
set_option maxRecDepth 100000
set_option maxHeartbeats 2000000
/-! Dn31: list(enumerate(xs)), xs a list. -/
namespace Dn
open PySem PySem.Spec L2
open PyProof.Rows hiding St

theorem en_nolen : typeLookup (.type "enumerate") "__len__" = pure none := by rw [typeLookup_type, builtinLookup_eq_fast]; kernel_rfl
theorem en_nohint : typeLookup (.type "enumerate") "__length_hint__" = pure none := by rw [typeLookup_type, builtinLookup_eq_fast]; kernel_rfl
abbrev lstO (acc : Array Value) (c : Nat) : Obj := { cls := .type "list", dict := none, data := .seq acc c, slots := #[] }
/-- an enumerate object about to give number i; it may have given tuples out -/
def EnSt (h : Heap) (e it : Addr) (i : Nat) (S : Addr) : Prop :=
  (∃ old, IsEnum h e it ((i : Nat) : Int) old) ∨ ∃ (old : Value) (T : Addr) (f : Bool) (oT : Obj), IsEnumHeld h e it ((i : Nat) : Int) old T f ∧ h.get? T = some oT ∧ T ≠ e ∧ T ≠ it ∧ T ≠ S
/-- the pairs made so far, above lo, rising -/
structure EnG (xs : Array Value) (lo : Addr) (h : Heap) (as : List Addr) : Prop where
  up : as.Pairwise (· < ·)
  lo : ∀ a ∈ as, lo < a
  at' : ∀ (j : Nat) (a : Addr), as[j]? = some a → ∃ (t : Tok) (x : Value), xs[j]? = some x ∧ h.get? a = some { cls := .type "tuple", data := .seq #[.int ((j : Nat) : Int) t, x] }
theorem EnG.lt {xs : Array Value} {lo : Addr} {h : Heap} {as : List Addr} (g : EnG xs lo h as) {a : Addr} (ha : a ∈ as) : a < h.objs.size := by
  obtain ⟨j, hj⟩ := List.mem_iff_getElem?.mp ha
  obtain ⟨_, _, _, q⟩ := g.at' j a hj
  exact Heap.lt_size q
theorem EnG.snoc {xs : Array Value} {lo : Addr} {h h' : Heap} {as : List Addr} {a : Addr} {t : Tok} {x : Value} (g : EnG xs lo h as) (hl : ∀ b ∈ as, b < a) (h0 : lo < a) (hx : xs[as.length]? = some x)
    (ha : h'.get? a = some { cls := .type "tuple", data := .seq #[.int ((as.length : Nat) : Int) t, x] }) (k : ∀ b o, b ∈ as → h.get? b = some o → h'.get? b = some o) : EnG xs lo h' (as ++ [a]) := by
  refine ⟨?_, ?_, ?_⟩
  · rw [List.pairwise_append]
    refine ⟨g.up, List.pairwise_singleton _ _, fun b hb c hc => ?_⟩
    cases List.mem_singleton.mp hc
    exact hl b hb
  · intro b hb
    rw [List.mem_append, List.mem_singleton] at hb
    rcases hb with hb | rfl
    · exact g.lo b hb
    · exact h0
  · intro j b hj
    by_cases h1 : j < as.length
    · rw [List.getElem?_append_left h1] at hj
      obtain ⟨t', x', q1, q2⟩ := g.at' j b hj
      exact ⟨t', x', q1, k b _ (List.mem_of_getElem? hj) q2⟩
    · by_cases h2 : j = as.length
      · subst h2
        rw [List.getElem?_append_right (Nat.le_refl _), Nat.sub_self] at hj
        cases hj
        exact ⟨t, x, hx, ha⟩
      · rw [List.getElem?_eq_none (by rw [List.length_append, List.length_singleton]; omega)] at hj
        cases hj

section
variable {prog : Program} {w : World} {A : Around} {E : Value → Shared → Prop} {s : Shared} {e it l S : Addr} {xs : Array Value}
theorem en_item {i : Nat} {x : Value} {Q : Option Value → Shared → Prop} (st : EnSt s.heap e it i S) (hS : S < s.heap.objs.size) (hit : s.heap.IsListIter it l i) (hl : s.heap.IsList l xs) (hx : xs[i]? = some x) (hne : e ≠ it)
    (hQ : ∀ h', EnSt h' e it (i + 1) S → h'.IsListIter it l (i + 1) → h'.get? s.heap.objs.size = some { cls := .type "tuple", data := .seq #[.int i s.toks, x] } → (∀ b o, b ≠ e → b ≠ it → s.heap.get? b = some o → h'.get? b = some o) → Q (some (.ref s.heap.objs.size)) { s with heap := h', toks := s.toks + 1 }) :
    wpAny (model prog w) A (pyNext (.ref e)) Q E s := by
  have e1 : ((i + 1 : Nat) : Int) = (i : Int) + 1 := by omega
  have nit : s.heap.objs.size ≠ it := let ⟨_, z, _⟩ := hit; Nat.ne_of_gt (Heap.lt_size z)
  rcases st with ⟨old, he⟩ | ⟨old, T, f, oT, he, hT, r1, r2, r3⟩
  · refine wpAny_pyNext_enum_item he hit hl hx hne fun h' ho hi ht _ hk => hQ h' (.inr ⟨x, s.heap.objs.size, false, _, ?_, ht, Nat.ne_of_gt (Heap.lt_size he), nit, Nat.ne_of_gt hS⟩) hi ht hk
    rw [e1]; exact ho
  · refine wpAny_pyNext_enum_item_held he hT r1 r2 hit hl hx hne fun h' ho hi ht _ hk => hQ h' (.inr ⟨old, T, true, oT, ?_, hk T _ r1 r2 hT, r1, r2, r3⟩) hi ht hk
    rw [e1]; exact ho
theorem en_done {i : Nat} {Q : Option Value → Shared → Prop} (hh : A.handled = none) (st : EnSt s.heap e it i S) (hit : s.heap.IsListIter it l i) (hl : s.heap.IsList l xs) (hx : xs[i]? = none)
    (hQ : ∀ h', Heap.ExtBut it s.heap h' → Q none { s with heap := h' }) : wpAny (model prog w) A (pyNext (.ref e)) Q E s := by
  rcases st with ⟨old, he⟩ | ⟨old, T, f, oT, he, _, _, _, _⟩
  · exact wpAny_pyNext_enum_end hh he hit hl hx hQ
  · exact wpAny_pyNext_enum_end_held hh he hit hl hx hQ
theorem en_loop {R : Result → Shared → Prop} (hh : A.handled = none) (heS : e < S) (hiS : it < S) (hlS : l < S) (hne : e ≠ it) (hle : l ≠ e) (hli : l ≠ it) (hn : xs.size ≤ sizeLine) (res : Value) {h₁ : Heap}
    (hR : ∀ h' tk acc c as, (∀ b o, b ≠ S → b ≠ e → b ≠ it → h₁.get? b = some o → h'.get? b = some o) → h'.get? S = some (lstO acc c) → as.length = xs.size → EnG xs S h' as → acc.toList = as.map Value.ref → R (.ok (.ret res)) { s with heap := h', toks := tk }) :
    ∀ (k i : Nat) (h : Heap) (tk c : Nat) (acc : Array Value) (as : List Addr), i + k = xs.size → EnSt h e it i S → h.IsListIter it l i → h.IsList l xs → (∀ b o, b ≠ S → b ≠ e → b ≠ it → h₁.get? b = some o → h.get? b = some o) →
      h.get? S = some (lstO acc c) → acc.toList = as.map Value.ref → as.length = i → EnG xs S h as →
      codeAny (model prog w) A (.builtin "list.extend.loop" ⟨[.ref S, .ref e, res], []⟩) R { s with heap := h, toks := tk }
  | 0, i, h, tk, c, acc, as, hk, st, hit, hl, kp, hS, ha, hal, hG => by
    refine codeAny_builtin PySem.F.entry_extend_loop ?_
    rw [Around.under_plainId PySem.F.plain_extend_loop _]
    show wpAny _ A.in1 (pyNext (.ref e) >>= _) _ _ _
    refine wpAny_bind (en_done (A := A.in1) hh st hit hl (Array.getElem?_eq_none (Nat.le_of_eq (by omega))) fun h' hx => ?_)
    have hxs : ∀ b o, b ≠ it → h.get? b = some o → h'.get? b = some o := hx
    refine wpAny_pure (hR h' tk acc c as (fun b o n1 n2 n3 z => hxs b o n3 (kp b o n1 n2 n3 z)) (hxs S _ (Nat.ne_of_gt hiS) hS) (by omega) ⟨hG.up, hG.lo, fun j a hj => ?_⟩ ha)
    obtain ⟨t, x, q1, q2⟩ := hG.at' j a hj
    exact ⟨t, x, q1, hxs a _ (Nat.ne_of_gt (Nat.lt_trans hiS (hG.lo a (List.mem_of_getElem? hj)))) q2⟩
  | k + 1, i, h, tk, c, acc, as, hk, st, hit, hl, kp, hS, ha, hal, hG => by
    have hlt : i < xs.size := by omega
    have hsz : acc.size = i := by rw [← Array.length_toList, ha, List.length_map, hal]
    have hSl : S < h.objs.size := Heap.lt_size hS
    refine codeAny_builtin PySem.F.entry_extend_loop ?_
    rw [Around.under_plainId PySem.F.plain_extend_loop _]
    show wpAny _ A.in1 (pyNext (.ref e) >>= _) _ _ _
    refine wpAny_bind (en_item (s := { s with heap := h, toks := tk }) (S := S) st hSl hit hl (Array.getElem?_eq_getElem hlt) hne fun h' st' hit' ht hkp => ?_)
    replace hkp : ∀ b o, b ≠ e → b ≠ it → h.get? b = some o → h'.get? b = some o := hkp
    replace ht : h'.get? h.objs.size = some { cls := .type "tuple", data := .seq #[.int i tk, xs[i]] } := ht
    have hS' : h'.get? S = some (lstO acc c) := hkp S _ (Nat.ne_of_gt heS) (Nat.ne_of_gt hiS) hS
    generalize hu : h'.update S (Obj.mapSeq (·.push (Value.ref h.objs.size))) = u
    have up : ∀ b o, b ≠ S → h'.get? b = some o → u.get? b = some o := fun b o hb z => by rw [← hu]; exact (Heap.get?_update_other _ _ (Ne.symm hb)).trans z
    have hSu : ∃ c', u.get? S = some (lstO (acc.push (Value.ref h.objs.size)) c') := ⟨_, by rw [← hu]; exact Heap.get?_update_self _ hS' rfl⟩
    obtain ⟨c', hSu⟩ := hSu
    have st2 : EnSt u e it (i + 1) S := by
      rcases st' with ⟨old, z⟩ | ⟨old, T, f, oT, z, zT, r1, r2, r3⟩
      · exact .inl ⟨old, up e _ (Nat.ne_of_lt heS) z⟩
      · exact .inr ⟨old, T, f, oT, up e _ (Nat.ne_of_lt heS) z, up T _ r3 zT, r1, r2, r3⟩
    have hit2 : u.IsListIter it l (i + 1) := hit'.at fun o z => up it o (Nat.ne_of_lt hiS) z
    have hl2 : u.IsList l xs := hl.at fun o z => up l o (Nat.ne_of_lt hlS) (hkp l o hle hli z)
    have hG2 : EnG xs S u (as ++ [h.objs.size]) := by
      subst hal
      exact hG.snoc (fun b hb => hG.lt hb) hSl (Array.getElem?_eq_getElem hlt) (up _ _ (Nat.ne_of_gt hSl) ht) fun b o hb z => up b o (Nat.ne_of_gt (hG.lo b hb)) (hkp b o (Nat.ne_of_gt (Nat.lt_trans heS (hG.lo b hb))) (Nat.ne_of_gt (Nat.lt_trans hiS (hG.lo b hb))) z)
    show wpAny _ A.in1 (updateSeq S (·.push (Value.ref h.objs.size)) >>= _) _ _ _
    refine wpAny_bind (wpAny_updateSeq hS' rfl ?_ (by rw [hsz]; omega) (by show (acc.push (Value.ref h.objs.size)).size ≤ sizeLine + 1; rw [Array.size_push, hsz]; omega))
    rw [show ({ s with heap := h', toks := tk + 1 } : Shared).heap.update S (Obj.mapSeq (·.push (Value.ref h.objs.size))) = u from hu]
    exact wpAny_pure ⟨plainId_quiet PySem.F.plain_extend_loop _, en_loop hh heS hiS hlS hne hle hli hn res hR k (i + 1) u (tk + 1) _ _ (as ++ [h.objs.size]) (by omega) st2 hit2 hl2 (fun b o n1 n2 n3 z => up b o n1 (hkp b o n2 n3 (kp b o n1 n2 n3 z))) hSu
      (by rw [Array.toList_push, ha, List.map_append]; rfl) (by rw [List.length_append, hal]; rfl) hG2⟩
end

section
variable {prog : Program} {w : World} {A : Around} {E : Value → Shared → Prop} {s : Shared} {e it l : Addr} {xs : Array Value}
theorem en_hint {Q : Bool → Shared → Prop} (hT : s.TypeIs (.ref e) "enumerate") (h : Q true s) : wpAny (model prog w) A (Builtin.List.listLengthHint (.ref e)) Q E s := by
  unfold Builtin.List.listLengthHint
  refine wpAny_bind (wpAny_specialOf hT en_nolen ?_)
  show wpAny _ A (specialOf (Value.ref e) (Str.ofString "__length_hint__") >>= _) _ _ s
  exact wpAny_bind (wpAny_specialOf hT en_nohint (wpAny_pure h))
/-- what the list's object is behind the call -/
def EnOut (xs : Array Value) (S e it : Addr) (h₁ : Heap) (s : Shared) (Q : Value → Shared → Prop) (res : Value) : Prop :=
  ∀ h' tk acc c as, (∀ b o, b ≠ S → b ≠ e → b ≠ it → h₁.get? b = some o → h'.get? b = some o) → h'.get? S = some (lstO acc c) → as.length = xs.size → EnG xs S h' as → acc.toList = as.map Value.ref → Q res { s with heap := h', toks := tk }
theorem en_list {Q : Value → Shared → Prop} (hh : A.handled = none) (hn : xs.size ≤ sizeLine) (he : IsEnum s.heap e it 0 .none) (hit : s.heap.IsListIter it l 0) (hl : s.heap.IsList l xs) (hne : e ≠ it) (hle : l ≠ e) (hli : l ≠ it)
    (hQ : EnOut xs s.heap.objs.size e it s.heap s Q (.ref s.heap.objs.size)) : wpAny (model prog w) A (call (.type "list") [.ref e]) Q E s := by
  generalize hS0 : s.heap.objs.size = S at hQ
  have heS : e < S := by rw [← hS0]; exact Heap.lt_size he
  have hiS : it < S := by rw [← hS0]; obtain ⟨_, z, _⟩ := id hit; exact Heap.lt_size z
  have hlS : l < S := by rw [← hS0]; obtain ⟨_, z, _⟩ := id hl; exact Heap.lt_size z
  refine callType_codes (Q₁ := fun obj s₁ => obj = .ref S ∧ s₁ = { s with heap := s.heap.push (lstO #[] 0) }) PySem.F.called_list (PySem.F.typeCall_list_1 _) PySem.F.entry_list_init (code_list_new _ ⟨by rw [hS0], rfl⟩) ?_
  rintro obj s₁ ⟨rfl, rfl⟩
  have k0 : ∀ b o, s.heap.get? b = some o → (s.heap.push (lstO #[] 0)).get? b = some o := fun b o z => Heap.get?_push_of_some _ z
  have g0 : (s.heap.push (lstO #[] 0)).get? S = some (lstO #[] 0) := by rw [← hS0]; exact Heap.get?_push_size _ rfl
  generalize s.heap.push (lstO #[] 0) = u0 at k0 g0
  refine ⟨⟨_, g0, rfl⟩, PySem.F.args_list_init_2 _ _, ?_⟩
  show wpAny _ _ (do let old ← Builtin.List.listItems (.ref S); Builtin.List.listUpdate (.ref S) (fun _ => #[]); letGo old.toList.reverse; Builtin.List.listExtendWith (.ref S) (.ref e) .none) _ _ _
  refine wpAny_bind ?_
  unfold Builtin.List.listItems
  refine wpAny_bind (wpAny_seqItems g0 rfl (wpAny_pure ?_))
  refine wpAny_bind (m := Builtin.List.listUpdate (.ref S) (fun _ => #[])) ?_
  show wpAny _ _ (updateSeq S (fun _ => #[])) _ _ _
  refine wpAny_updateSeq g0 rfl ?_
  have g1 : ∃ c, (u0.update S (Obj.mapSeq (fun _ => (#[] : Array Value)))).get? S = some (lstO #[] c) := ⟨_, Heap.get?_update_self _ g0 rfl⟩
  have k1 : ∀ b o, b ≠ S → u0.get? b = some o → (u0.update S (Obj.mapSeq (fun _ => (#[] : Array Value)))).get? b = some o := fun b o hb z => (Heap.get?_update_other _ _ (Ne.symm hb)).trans z
  show wpAny _ _ _ _ _ { s with heap := u0.update S (Obj.mapSeq (fun _ => (#[] : Array Value))) }
  generalize u0.update S (Obj.mapSeq (fun _ => (#[] : Array Value))) = u1 at g1 k1
  obtain ⟨c1, g1⟩ := g1
  refine wpAny_bind (wpAny_letGo ?_)
  have k2 : ∀ b o, b ≠ S → s.heap.get? b = some o → u1.get? b = some o := fun b o hb z => k1 b o hb (k0 b o z)
  have he1 : IsEnum u1 e it 0 .none := k2 e _ (Nat.ne_of_lt heS) he
  unfold Builtin.List.listExtendWith
  refine wpAny_bind (wpAny_typeOf (T := "enumerate") ⟨_, he1, rfl⟩ ?_)
  have ns : Builtin.List.listSameRef (.ref S) (.ref e) = false := by simp [Builtin.List.listSameRef, Nat.ne_of_gt heS]
  have nl : (Value.type "enumerate" == Value.type "list") = false := by decide
  have nt : (Value.type "enumerate" == Value.type "tuple") = false := by decide
  simp only [ns, nl, nt, Bool.or_false, Bool.false_eq_true, if_false]
  refine wpAny_bind (wpAny_pyIter_enum he1 ?_)
  refine wpAny_bind (wpAny_holding (en_hint ⟨_, he1, rfl⟩ ?_))
  have fin : ∀ (u : Heap) (c tk : Nat), (∀ b o, b ≠ S → u1.get? b = some o → u.get? b = some o) → u.get? S = some (lstO #[] c) →
      codeAny (model prog w) A.in1 (.builtin "list.extend.loop" ⟨[.ref S, .ref e, .none], []⟩) (wants (fun r s₂ => r = .none ∧ Q (.ref S) s₂) E) { s with heap := u, toks := tk } := fun u c tk ku gu => by
    refine en_loop (prog := prog) (w := w) (A := A.in1) (R := wants (fun r s₂ => r = .none ∧ Q (.ref S) s₂) E) (l := l) (xs := xs) (h₁ := s.heap) (s := s) hh heS hiS hlS hne hle hli hn .none (fun h' tk' acc c' as q1 q2 q3 q4 q5 => ⟨rfl, hQ h' tk' acc c' as q1 q2 q3 q4 q5⟩) xs.size 0 u tk c #[] [] (Nat.zero_add _) (.inl ⟨.none, ?_⟩) (hit.at fun o z => ?_) (hl.at fun o z => ?_) (fun b o n1 _ _ z => ku b o n1 (k2 b o n1 z)) gu rfl rfl
      ⟨List.Pairwise.nil, (fun _ z => nomatch z), (fun j a z => by simp at z)⟩
    · exact ku e _ (Nat.ne_of_lt heS) he1
    · exact ku it o (Nat.ne_of_lt hiS) (k2 it o (Nat.ne_of_lt hiS) z)
    · exact ku l o (Nat.ne_of_lt hlS) (k2 l o (Nat.ne_of_lt hlS) z)
  refine wpAny_ite_split (fun _ => ?_) (fun _ => wpAny_pure ⟨plainId_quiet PySem.F.plain_extend_loop _, fin u1 c1 _ (fun _ _ _ z => z) g1⟩)
  refine wpAny_bind (wpAny_rule (wpAny_bind ?_))
  show wpAny _ _ (updateSeq S (·.push .none) >>= fun _ => updateSeq S (·.pop)) _ _ _
  refine wpAny_bind (wpAny_updateSeq g1 rfl ?_)
  have g2 := Heap.get?_update_self (Obj.mapSeq (·.push Value.none)) g1 rfl
  refine wpAny_updateSeq (hz := by seq_fits) g2 rfl ?_
  refine wpAny_pure ⟨plainId_quiet PySem.F.plain_extend_loop _, fin _ _ _ (fun b o hb z => ?_) (Heap.get?_update_self (Obj.mapSeq (·.pop)) g2 rfl)⟩
  have nb : S ≠ b := Ne.symm hb
  rw [← z]
  exact (Heap.get?_update_other _ _ nb).trans (Heap.get?_update_other _ _ nb)
end
end Dn

/-! Dn32 -/
set_option Elab.async false
set_option linter.all false
set_option maxRecDepth 100000
set_option maxHeartbeats 2000000
/-! Dn32: list(enumerate(e)) as an own list; int dicts in own slots; three names at once. -/
namespace Dn
open PySem PySem.Spec L2
open PyProof.Rows hiding St

/-! ### list(enumerate(e)) -/
def numK : Nat → List V → List (Key × V)
  | _, [] => []
  | n, x :: r => (.inl ((n : Nat) : Int), x) :: numK (n + 1) r
theorem numK_len : ∀ (n : Nat) (xs : List V), (numK n xs).length = xs.length
  | _, [] => rfl
  | n, x :: r => by show (numK (n + 1) r).length + 1 = r.length + 1; rw [numK_len]
theorem numK_get : ∀ {n : Nat} {xs : List V} {j : Nat} {q : Key × V}, (numK n xs)[j]? = some q → ∃ x, xs[j]? = some x ∧ q = (.inl ((n + j : Nat) : Int), x)
  | n, [], j, q, h => by cases h
  | n, x :: r, 0, q, h => by cases h; exact ⟨x, rfl, rfl⟩
  | n, x :: r, j + 1, q, h => by
    obtain ⟨y, h1, h2⟩ := numK_get (n := n + 1) (xs := r) (j := j) h
    exact ⟨y, h1, by rw [h2, show n + 1 + j = n + (j + 1) by omega]⟩
section
variable {X : Cx} {pins : List (Addr × Obj)} {σ : L2.St} {H : Hp} {s : Shared}
theorem en_laid {h' : Heap} {tk c : Nat} {acc : Array Value} {as : List Addr} {S : Addr} {its : List Value} {xs : List V} (I : Inv X pins σ H s) (rv : Vals xs its) (hz : xs.length ≤ sizeLine) (hb : s.heap.objs.size ≤ S)
    (hk : ∀ b o, s.heap.get? b = some o → h'.get? b = some o) (hS : h'.get? S = some (lstO acc c)) (hl : as.length = its.length) (hG : EnG its.toArray S h' as) (ha : acc.toList = as.map Value.ref) :
    ∃ H' : Hp, Same H H' ∧ H S = none ∧ (∀ t ∈ as, H t = none) ∧ H' S = some (.lst (as.map V.ref)) ∧ (∀ (j : Nat) (t : Addr), as[j]? = some t → ∃ x, xs[j]? = some x ∧ H' t = some (.tup [.int ((j : Nat) : Int), x])) ∧ Inv X pins σ H' { s with heap := h', toks := tk } := by
  have hlen := rv.length
  have nS : S ∉ as := fun z => Nat.lt_irrefl _ (hG.lo _ z)
  have nd : as.Nodup := List.Pairwise.imp (fun {a b} (z : a < b) => Nat.ne_of_lt z) hG.up
  have fS : H S = none := I.hok.fresh hb
  have fA : ∀ t ∈ as, H t = none := fun t ht => I.hok.fresh (Nat.le_trans hb (Nat.le_of_lt (hG.lo t ht)))
  generalize eG : LiI.putT (upd H S (.lst (as.map V.ref))) as (numK 0 xs) = G
  have gat : Paired (fun (t : Addr) (p : Key × V) => G t = some (.tup [kV p.1, p.2])) as (numK 0 xs) := by
    rw [← eG]; exact LiI.putT_at as _ _ (by rw [numK_len]; omega) nd
  have goff : ∀ b, b ∉ as → b ≠ S → G b = H b := fun b h1 h2 => by rw [← eG, LiI.putT_off as _ _ h1, upd_ne h2]
  have gS : G S = some (.lst (as.map V.ref)) := by rw [← eG, LiI.putT_off as _ _ nS, upd_same]
  have old : ∀ b o, s.heap.get? b = some o → b ∉ as ∧ b ≠ S := fun b o z => by
    have hb' := Heap.lt_size z
    exact ⟨fun m => Nat.lt_irrefl _ (Nat.lt_trans (Nat.lt_of_lt_of_le hb' hb) (hG.lo b m)), Nat.ne_of_lt (Nat.lt_of_lt_of_le hb' hb)⟩
  have up : Same H G := fun b u z => by
    rw [goff b (fun m => by rw [fA b m] at z; cases z) (ne_of_none z fS)]; exact z
  have each : ∀ (j : Nat) (t : Addr), as[j]? = some t → ∃ x, xs[j]? = some x ∧ G t = some (.tup [.int ((j : Nat) : Int), x]) := fun j t hj => by
    obtain ⟨p, q1, q2⟩ := LiI.paired_get gat hj
    obtain ⟨x, q3, q4⟩ := numK_get q1
    subst q4
    rw [Nat.zero_add] at q2
    exact ⟨x, q3, q2⟩
  refine ⟨G, up, fS, fA, gS, each, ?_⟩
  have un : Un (frs X.stack) [] H G s.heap h' := by
    refine ⟨fun b o q _ _ _ => hk b o q, fun b o q _ _ _ => ⟨o.slots, hk b o q⟩, fun b o q n _ => ?_, fun b o q _ => ⟨o, hk b o q⟩, fun b ys q => up b _ q, fun b o u q => up b _ q, fun b ps q => ⟨#[], by rw [up b _ q]; simp⟩⟩
    rw [goff b (old b o q).1 (old b o q).2]
    exact n
  refine I.call' (ch := []) rfl un (fun b u q => ?_) I.bare (fun b z => nomatch z)
  by_cases m : b ∈ as
  · obtain ⟨j, hj⟩ := List.mem_iff_getElem?.mp m
    obtain ⟨x, q1, q2⟩ := each j b hj
    rw [q2] at q
    cases q
    obtain ⟨t, y, q3, q4⟩ := hG.at' j b hj
    obtain ⟨y', q5, ry⟩ := rv.get q1
    have ey : y' = y := by
      rw [List.getElem?_toArray, q5] at q3
      exact Option.some.inj q3
    subst ey
    exact ⟨by show 2 ≤ sizeLine; decide, [.int ((j : Nat) : Int) t, y'], .cons ⟨t, rfl⟩ (.cons ry .nil), ⟨_, q4, rfl, _, rfl⟩⟩
  · by_cases m2 : b = S
    · subst m2
      rw [gS] at q
      cases q
      refine ⟨by rw [List.length_map]; omega, acc.toList, c, by rw [ha]; exact LiI.vals_refs as, ?_⟩
      rw [Array.toArray_toList]
      exact hS
    · rw [goff b m m2] at q
      exact (I.hok b u q).stay (fun d v _ z => hk d v z) (fun d z => up d _ z) fun d ys z => up d _ z
end
def tLstEn (K : PySem.W.Frag) (te : TE) : TE := fun σ H Q => te σ H fun x H1 => ∃ a xs, x = .ref a ∧ SqL K H1 a xs ∧
  ∀ (H' : Hp) (p : Addr) (ts : List Addr), Same H1 H' → H1 p = none → (∀ t ∈ ts, H1 t = none) → H' p = some (.lst (ts.map V.ref)) → ts.length = xs.length → (∀ (j : Nat) (t : Addr), ts[j]? = some t → ∃ x, xs[j]? = some x ∧ H' t = some (.tup [.int ((j : Nat) : Int), x])) → Q (.ref p) H'
theorem pe_lstEn {X : Cx} {e : Expr} {te : TE} {p p2 pos pos2 : Pos} (hc : X.calm = true) (hg : Gl X "list") (hm : X.mg "list" = none) (hge : Gl X "enumerate") (hme : X.mg "enumerate" = none) (he : PE X e te)
    (na : starEach [.Call (.Name "enumerate" p2) [e] [] pos2] X.env = (false, eval (.Call (.Name "enumerate" p2) [e] [] pos2) X.env) :: starEach [] X.env := by rfl) (hs : starEach [e] X.env = (false, eval e X.env) :: starEach [] X.env := by rfl) :
    PE X (.Call (.Name "list" p) [.Call (.Name "enumerate" p2) [e] [] pos2] [] pos) (tLstEn X.K te) := by
  refine ⟨fun pins s σ H Q I h => ?_⟩
  refine Call_ (ld_blt I hg hm boot_list (PyProof.Rows.callWith_type1 (args_cons ?_ na) na))
  refine Call_ (ld_blt I hge hme boot_enumerate (PyProof.Rows.callWith_type1 (args_cons (thn (he.run pins s σ H _ I h) fun u s1 ⟨x, H1, I1, r1, a, xs, ex, hq, q⟩ => args_nil ?_) hs) hs))
  subst ex
  cases r1
  obtain ⟨its, rv, pl, hz⟩ := I1.list hq
  have al : a < s1.heap.objs.size := by obtain ⟨o, n, ho, _⟩ := id pl; exact Heap.lt_size ho
  refine call_enumerate_list pl.isList fun h1 he1 hit1 hz1 hk1 => args_nil ?_
  have hl1 : h1.IsList a its.toArray := pl.isList.at fun o z => hk1 a o z
  have szl : its.toArray.size ≤ sizeLine := by rw [List.size_toArray, ← rv.length]; exact hz
  refine en_list (l := a) (xs := its.toArray) (s := { s1 with heap := h1 }) (I1.ok.hd hc) szl he1 hit1 hl1 (Nat.succ_ne_self _) (Nat.ne_of_lt (Nat.lt_succ_of_lt al)) (Nat.ne_of_lt al) fun h' tk acc c as q1 q2 q3 q4 q5 => ?_
  have hb : s1.heap.objs.size ≤ h1.objs.size := by rw [hz1]; omega
  obtain ⟨H', k1, k2, k3, k4, k5, J⟩ := en_laid (tk := tk) I1 rv hz hb (fun b o z => by
    have hb' := Heap.lt_size z
    exact q1 b o (Nat.ne_of_lt (Nat.lt_of_lt_of_le hb' hb)) (Nat.ne_of_lt (Nat.lt_succ_of_lt hb')) (Nat.ne_of_lt hb') (hk1 b o z)) q2 (by rw [q3, List.size_toArray]) q4 q5
  exact ⟨.ref _, H', J, rfl, q H' _ as k1 k2 k3 k4 (by rw [q3, List.size_toArray, rv.length]) k5⟩
end Dn

/-! Dn33 -/
set_option Elab.async false
set_option linter.all false
set_option maxRecDepth 100000
set_option maxHeartbeats 2000000
/-! Dn33: list(enumerate(e)) of data; three names at once. -/
namespace Dn
open PySem PySem.Spec L2
open PyProof.Rows hiding St

theorem IsDs.of_get {c : Cc} {G : Hp} : ∀ {ds : List D} {vs : List V}, ds.length = vs.length → (∀ (j : Nat) (d : D) (v : V), ds[j]? = some d → vs[j]? = some v → IsD c G d v) → IsDs c G ds vs
  | [], [], _, _ => IsDs.nil
  | [], _ :: _, h, _ => by cases h
  | _ :: _, [], h, _ => by cases h
  | d :: ds, v :: vs, h, k => IsDs.cons (k 0 d v rfl rfl) (IsDs.of_get (Nat.succ.inj h) fun j e u h1 h2 => k (j + 1) e u h1 h2)
def dLstEn (m : Ev) : Ev := fun env => bnd (m env) fun p => match p.1 with
  | .lst xs => .ok (.lst (enumD xs), p.2)
  | _ => stuck
section
variable {X : Cx} {P : Program} {w : World} {K : PySem.W.Frag} {mg : Str → Option Value} {base : Heap} {N : List Str} {sc : Scope} {k : Nat} {bk nn : Bool} {g : Ce} {W : WX}
variable {pu pu1 pu2 sh sh1 sh2 : Bool} {m m1 m2 m3 : Ev} {a b e : Expr} {pos p p2 pos2 : Pos} {x y z : Str} {ma : Av} {shs : List Bool}
theorem f_lstEn (hc : X.calm = true) (hg : Gl X "list") (hm : X.mg "list" = none) (hge : Gl X "enumerate") (hme : X.mg "enumerate" = none) (he : DE X g pu false e m W)
    (na : starEach [.Call (.Name "enumerate" p2) [e] [] pos2] X.env = (false, eval (.Call (.Name "enumerate" p2) [e] [] pos2) X.env) :: starEach [] X.env := by rfl) (hs : starEach [e] X.env = (false, eval e X.env) :: starEach [] X.env := by rfl) :
    DF X g pu (.Call (.Name "list" p) [.Call (.Name "enumerate" p2) [e] [] pos2] [] pos) (dLstEn m) W :=
  PE.imp (pe_lstEn hc hg hm hge hme he na hs) fun σ H Q ⟨xs, env, S, w⟩ => ⟨xs, env, S, Want.bind w fun d env' v H1 e s r w' => by
    dsimp only at w'
    split at w'
    · rename_i ds
      have r' : IsD (cc X g) (hide H1 (Hid xs env σ)) (.lst ds) v := r
      unfold IsD at r'
      obtain ⟨a, vs, rfl, hq, hr⟩ := r'
      refine ⟨a, vs, rfl, SqL.hid (SqL.of hq), fun H' p ts kk n1 n2 hp hl each => ?_⟩
      have np : ¬ Hid xs env σ p := fun z => s.st.hid (by rw [s.hid]; exact z) n1
      refine w' _ H' (s.grow kk) ⟨p, _, rfl, s.free S n1, hp, s.st.newX kk n1 hp, ts.map V.ref, rfl, ?_⟩
      rw [s.hid]
      refine IsDs.of_get (by rw [enumD_len, List.length_map, hl, hr.len]) fun j d v h1 h2 => ?_
      obtain ⟨x, q1, rfl⟩ := enumD_get h1
      rw [List.getElem?_map] at h2
      obtain ⟨t, q2, rfl⟩ := Option.map_eq_some_iff.mp h2
      obtain ⟨u, q3, q4⟩ := each j t q2
      obtain ⟨u', q5, q6⟩ := hr.getD q1
      rw [q3] at q5; cases q5
      have nt := n2 t (List.mem_of_getElem? q2)
      have ht : hide H' (fun b => Hid xs env σ b ∨ b = p) t = some (.tup [.int ((j : Nat) : Int), u]) := by
        rw [hide_of]
        · exact q4
        · rintro (z | z)
          · exact s.st.hid (by rw [s.hid]; exact z) nt
          · rw [z, hp] at q4; cases q4
      unfold IsD
      refine ⟨t, _, rfl, .inl (Rd.of ht), IsDs.cons isInt (IsDs.cons (q6.same fun b o hb => ?_) IsDs.nil)⟩
      obtain ⟨z1, z2⟩ := hide_some hb
      rw [hide_of fun z => z.elim z1 (ne_of_none z2 n1)]
      exact kk _ _ z2
    · exact w'.elim⟩

/-! ### three names at once -/
def sPar3 (i j l : Nat) (ms : Av) : Sv := fun env => bnd (ms env) fun p => match p.1 with
  | [d1, d2, d3] => bnd (put i (.va d1) p.2) fun e1 => bnd (put j (.va d2) e1) fun e2 => bnd (put l (.va d3) e2) fun e3 => .ok (.nx, e3)
  | _ => stuck
theorem IsDs.three {c : Cc} {H : Hp} {d1 d2 d3 : D} {vs : List V} (h : IsDs c H [d1, d2, d3] vs) : ∃ v1 v2 v3, vs = [v1, v2, v3] ∧ IsD c H d1 v1 ∧ IsD c H d2 v2 ∧ IsD c H d3 v3 := by
  unfold IsDs at h
  obtain ⟨v, r, rfl, h1, h2⟩ := h
  obtain ⟨v2, v3, rfl, h3, h4⟩ := h2.two
  exact ⟨v, v2, v3, rfl, h1, h3, h4⟩
theorem s_par3 {cx : Expr} {px py pz pt pt2 : Pos} {kt k2 : Nat} (C : Cok nn X W P w K mg base N sc k false) (i j l : Nat) (hi : N[i]? = some x) (hj : N[j]? = some y) (hl : N[l]? = some z) (hij : i ≠ j) (hil : i ≠ l) (hjl : j ≠ l)
    (hx : locL sc x = true) (hy : locL sc y = true) (hz : locL sc z = true) (hsh : shs.all (!·) = true) (ha : DA X g pu shs [a, b, cx] ma W)
    (hw : swappedStores [.Tuple [.Name x px, .Name y py, .Name z pz] kt pt] (.Tuple [a, b, cx] k2 pt2) (dumE sc) = pure (some [x, y, z]))
    (hs : swapsWithSole [.Tuple [.Name x px, .Name y py, .Name z pz] kt pt] (.Tuple [a, b, cx] k2 pt2) pos.line X.env = pure false := by rfl) :
    DS X g (.Assign [.Tuple [.Name x px, .Name y py, .Name z pz] kt pt] (.Tuple [a, b, cx] k2 pt2) pos) (sPar3 i j l ma) W :=
  PS.imp (ps_par3 C.calm (by rw [C.eN]; exact C.nd) (by rw [C.eN]; exact hi) (by rw [C.eN]; exact hj) (by rw [C.eN]; exact hl) hij hil hjl (by rw [C.es]; exact eq_of_beq hx) (by rw [C.es]; exact eq_of_beq hy) (by rw [C.es]; exact eq_of_beq hz) ha (by rw [sws_eq C.es]; exact hw) hs) fun E σ H ⟨xs, env, S, w⟩ =>
    ⟨xs, env, S, WantS.bindE w fun ds env1 vs H1 e1 s1 r1 w1 => by
      have rc := r1.clean hsh
      dsimp only at w1
      split at w1
      · rename_i d1 d2 d3
        obtain ⟨v1, v2, v3, rfl, h1, h2, h3⟩ := rc.three
        rw [← s1.hid] at h1 h2 h3
        have S1 := s1.st.setVa i h1
        rcases put_cases i (.va d1) env1 with q | ⟨q, h0⟩ <;> rw [q] at w1
        · exact w1.elim
        rw [bnd_ok] at w1
        rcases put_cases j (.va d2) (env1.set i (.va d1)) with q | ⟨q, h0'⟩ <;> rw [q] at w1
        · exact w1.elim
        rw [bnd_ok] at w1
        rcases put_cases l (.va d3) ((env1.set i (.va d1)).set j (.va d2)) with q | ⟨q, h0''⟩ <;> rw [q] at w1
        · exact w1.elim
        have k1 := kept_va (i := i) (d := d1) (v := v1) s1 h0
        have ka := kept_set_va (env := env1) (σ := σ) (H := H1) (i := i) (d := d1) (v := v1) h0
        have kb := kept_set_va (env := env1.set i (.va d1)) (σ := σ.set i (some v1)) (H := H1) (i := j) (d := d2) (v := v2) h0'
        have h2' := h2.same (Kept.smH ka)
        have h3' := (h3.same (Kept.smH ka)).same (Kept.smH kb)
        exact ⟨v1, v2, v3, rfl, w1 _ H1 ((S1.setVa j h2').setVa l h3') ((k1.trans kb).trans (kept_set_va h0''))⟩
      · exact w1.elim⟩
end

section
variable {c : Cc} {xs : Addr → Prop} {env : En} {σ : St} {H : Hp} {a : Addr} {o : HO} {d : D}
theorem hidX : (Hid (fun b => xs b ∨ b = a) env σ) = fun b => Hid xs env σ b ∨ b = a := by
  funext b; apply propext
  constructor
  · rintro (z | z | z)
    · exact .inl (.inl z)
    · exact .inl (.inr z)
    · exact .inr z
  · rintro ((z | z) | z)
    · exact .inl z
    · exact .inr (.inl z)
    · exact .inr (.inr z)
/-- an object that was held aside goes to a slot -/
theorem StOk.takeX (S : StOk c (fun b => xs b ∨ b = a) env σ H) (hx : ¬ xs a) (ho : H a = some o) (r : ObjRep c (hide H (fun b => Hid xs env σ b ∨ b = a)) d o) (i : Nat) : StOk c xs (env.set i (.ow d)) (σ.set i (some (.ref a))) H := by
  refine StOk.setOw (StOk.lessX (fun _ z => .inl z) S) i (fun z => z.elim (S.xb a (.inr rfl)).2 hx) ho r (fun j e v h1 h2 => ?_) (fun j e b u h1 h2 h3 => ?_)
  · obtain ⟨v', h3, h4⟩ := S.va j e h1
    rw [h2] at h3; cases h3
    rw [← hidX]; exact h4
  · obtain ⟨b', u', h4, h5, h6⟩ := S.ow j e h1
    rw [h2] at h4; cases h4
    rw [h3] at h5; cases h5
    rw [← hidX]; exact h6
end
/-- two new objects and a value -/
def sPar3F (i j l : Nat) (m1 m2 m3 : Ev) : Sv := fun env => bnd (m1 env) fun p1 => bnd (m2 p1.2) fun p2 => bnd (m3 p2.2) fun p3 =>
  bnd (put i (.ow p1.1) p3.2) fun e1 => bnd (put j (.ow p2.1) e1) fun e2 => bnd (put l (.va p3.1) e2) fun e3 => .ok (.nx, e3)
section
variable {X : Cx} {P : Program} {w : World} {K : PySem.W.Frag} {mg : Str → Option Value} {base : Heap} {N : List Str} {sc : Scope} {k : Nat} {bk nn : Bool} {g : Ce} {W : WX}
variable {m1 m2 m3 : Ev} {a b cx : Expr} {pos : Pos} {x y z : Str}
theorem s_par3F {px py pz pt pt2 : Pos} {kt k2 : Nat} (C : Cok nn X W P w K mg base N sc k false) (i j l : Nat) (hi : N[i]? = some x) (hj : N[j]? = some y) (hl : N[l]? = some z) (hij : i ≠ j) (hil : i ≠ l) (hjl : j ≠ l)
    (hx : locL sc x = true) (hy : locL sc y = true) (hz : locL sc z = true) (ha : DF X g true a m1 W) (hb : DF X g true b m2 W) (hc : DE X g true false cx m3 W)
    (hw : swappedStores [.Tuple [.Name x px, .Name y py, .Name z pz] kt pt] (.Tuple [a, b, cx] k2 pt2) (dumE sc) = pure (some [x, y, z]))
    (hs : swapsWithSole [.Tuple [.Name x px, .Name y py, .Name z pz] kt pt] (.Tuple [a, b, cx] k2 pt2) pos.line X.env = pure false := by rfl)
    (na : starEach [a, b, cx] X.env = (false, eval a X.env) :: starEach [b, cx] X.env := by rfl) (nb : starEach [b, cx] X.env = (false, eval b X.env) :: starEach [cx] X.env := by rfl) (nc : starEach [cx] X.env = (false, eval cx X.env) :: starEach [] X.env := by rfl) :
    DS X g (.Assign [.Tuple [.Name x px, .Name y py, .Name z pz] kt pt] (.Tuple [a, b, cx] k2 pt2) pos) (sPar3F i j l m1 m2 m3) W :=
  PS.imp (ps_par3 C.calm (by rw [C.eN]; exact C.nd) (by rw [C.eN]; exact hi) (by rw [C.eN]; exact hj) (by rw [C.eN]; exact hl) hij hil hjl (by rw [C.es]; exact eq_of_beq hx) (by rw [C.es]; exact eq_of_beq hy) (by rw [C.es]; exact eq_of_beq hz) (pa_cons ha (pa_cons hb (pa_cons hc pa_nil nc) nb) na) (by rw [sws_eq C.es]; exact hw) hs) fun E σ H ⟨xs, env, S, w⟩ => by
    unfold sPar3F at w
    refine ⟨xs, env, S, WantS.bindE w fun d1 env1 v1 H1 q1 s1 r1 _ => ?_⟩
    obtain ⟨rfl, k1⟩ := s1.pr rfl
    obtain ⟨a1, o1, rfl, n1, ho1, S1, r1⟩ := r1
    rw [q1, bnd_ok] at w
    dsimp only at w
    refine ⟨_, env1, S1, ?_⟩
    cases q2 : m2 env1 with
    | error er =>
      rw [q2] at w
      cases er with
      | raise kk pp => exact fun cls dd H' kx r => w cls dd σ H' rfl (s1.sm.trans kx) r
      | stuck => exact w.elim
    | ok pr =>
    obtain ⟨d2, env2⟩ := pr
    rintro v2 H2 s2 r2
    obtain ⟨rfl, k2⟩ := s2.pr rfl
    obtain ⟨a2, o2, rfl, n2, ho2, S2, r2⟩ := r2
    rw [q2, bnd_ok] at w
    dsimp only at w
    refine ⟨_, env2, S2, ?_⟩
    cases q3 : m3 env2 with
    | error er =>
      rw [q3] at w
      cases er with
      | raise kk pp => exact fun cls dd H' kx r => w cls dd σ H' rfl ((s1.sm.trans s2.sm).trans kx) r
      | stuck => exact w.elim
    | ok pr =>
    obtain ⟨d3, env3⟩ := pr
    rintro v3 H3 s3 r3
    obtain ⟨rfl, k3⟩ := s3.pr rfl
    rw [q3, bnd_ok] at w
    dsimp only at w
    rcases put_cases i (.ow d1) env3 with q | ⟨q, h0⟩ <;> rw [q] at w
    · exact w.elim
    rw [bnd_ok] at w
    rcases put_cases j (.ow d2) (env3.set i (.ow d1)) with q | ⟨q, h1⟩ <;> rw [q] at w
    · exact w.elim
    rw [bnd_ok] at w
    rcases put_cases l (.va d3) ((env3.set i (.ow d1)).set j (.ow d2)) with q | ⟨q, h2⟩ <;> rw [q] at w
    · exact w.elim
    have n21 : a2 ≠ a1 := fun z => by rw [z, ho1] at n2; cases n2
    have hn2 : H a2 = none := by
      cases z : H a2 with
      | none => rfl
      | some u => rw [k1 _ _ z] at n2; cases n2
    have T2 := StOk.takeX s3.st (S1.newHid n2 <| .inr ·) (k3 _ _ ho2) (r2.same (hide_same k3)) j
    have subj : ∀ b, Owns (env3.set j (.ow d2)) (σ.set j (some (.ref a2))) b → Owns env3 σ b ∨ b = a2 := fun b z => owns_set_ow z
    have T1 := StOk.takeX T2 (fun z => S.newHid n1 (.inr z)) (k3 _ _ (k2 _ _ ho1)) (r1.same (fun b u hb => by
      obtain ⟨z1, z2⟩ := hide_some hb
      rw [hide_of]
      · exact k3 _ _ (k2 _ _ z2)
      · rintro ((z | z) | z)
        · rcases subj b z with z | z
          · exact z1 (.inl (.inl z))
          · exact ne_of_none z2 n2 z
        · exact z1 (.inl (.inr z))
        · exact z1 (.inr z))) i
    rw [List.set_comm _ _ (Ne.symm hij), List.set_comm _ _ (Ne.symm hij)] at T1
    have sub : ∀ b, Owns ((env3.set i (.ow d1)).set j (.ow d2)) ((σ.set i (some (.ref a1))).set j (some (.ref a2))) b → (Owns env3 σ b ∨ b = a1) ∨ b = a2 := fun b z => by
      rcases owns_set_ow z with z | z
      · exact .inl (owns_set_ow z)
      · exact .inr z
    have T3 := T1.setVa l (d := d3) (v := v3) (IsD.same (hide_sub fun b z => by
      rcases z with z | z
      · rcases sub b z with (z | z) | z
        · exact .inl z
        · exact .inr (.inl (.inr z))
        · exact .inr (.inr z)
      · exact .inr (.inl (.inl z))) _ _ r3)
    refine ⟨_, _, _, rfl, w _ H3 T3 ⟨fun b u hb => ?_, fun b hb => Same.th (Same.trans (Same.trans k1 k2) k3) b hb, fun z => ?_, by simp⟩⟩
    · obtain ⟨z1, z2⟩ := hide_some hb
      rw [hide_of]
      · exact k3 _ _ (k2 _ _ (k1 _ _ z2))
      · intro z
        rcases sub b (owns_set_va z) with (z | z) | z
        · exact z1 z
        · exact ne_of_none z2 n1 z
        · exact ne_of_none z2 hn2 z
    · have e0 := h0 z
      have f0 : isOw (env3.set i (.ow d1)) 0 = true := (isOw_get0 (by rw [List.getElem?_set_ne e0])).trans z
      have e1 := h1 f0
      have f1 : isOw ((env3.set i (.ow d1)).set j (.ow d2)) 0 = true := (isOw_get0 (by rw [List.getElem?_set_ne e1])).trans f0
      have e2 := h2 f1
      exact ⟨(isOw_get0 (by rw [List.getElem?_set_ne e2])).trans f1, by rw [List.getElem?_set_ne e2, List.getElem?_set_ne e1, List.getElem?_set_ne e0]⟩
end
end Dn

/-! Dn34 -/
set_option Elab.async false
set_option linter.all false
set_option maxRecDepth 100000
set_option maxHeartbeats 2000000
/-! Dn34: dicts with int and text keys in own slots. -/
namespace Dn
open PySem PySem.Spec L2
open PyProof.Rows hiding St

def kOf : D → Option Key
  | .int i => some (.inl i)
  | .str x => some (.inr x)
  | _ => none
@[simp] theorem kOf_dk (k : Key) : kOf (dk k) = some k := by cases k <;> rfl
def lookD (k : Key) : List D → List D → Option D
  | q :: ks, w :: ws => if kOf q = some k then some w else lookD k ks ws
  | _, _ => none
def setD (k : Key) (d : D) : List D → List D → List D
  | q :: ks, w :: ws => (if kOf q = some k then d else w) :: setD k d ks ws
  | _, _ => []
def putD (k : Key) (d : D) (ks ws : List D) : D := if (lookD k ks ws).isSome = true then .dct ks (setD k d ks ws) else .dct (ks ++ [dk k]) (ws ++ [d])
section
variable {c : Cc} {G : Hp}
theorem kOf_rep {P : Addr → Prop} {H : Hp} {d : D} {k : Key} {v : V} (h : kOf d = some k) (r : RepS c P H d v) : v = kV k := by
  cases d with
  | int i => cases h; exact r.int
  | str x => cases h; exact r.str
  | _ => cases h
theorem lookD_rep {k : Key} : ∀ {kvs : List (Key × V)} {ws : List D}, IsDs c G ws (kvs.map (·.2)) → (∀ d, lookD k (kvs.map fun p => dk p.1) ws = some d → ∃ v, valV kvs k = some v ∧ IsD c G d v) ∧ (lookD k (kvs.map fun p => dk p.1) ws = none → valV kvs k = none)
  | [], ws, r => ⟨fun d h => (by cases h), fun _ => rfl⟩
  | p :: kvs, [], r => by have := r.len; cases this
  | p :: kvs, w :: ws, r => by
    rw [List.map_cons] at r
    unfold IsDs at r
    obtain ⟨v, vs, e, h1, h2⟩ := r
    obtain ⟨e1, e2⟩ := List.cons.inj e
    subst e1 e2
    have ih := lookD_rep (k := k) h2
    rw [List.map_cons]
    unfold lookD
    rw [kOf_dk]
    by_cases z : p.1 = k
    · rw [if_pos (by rw [z]), valV_pos z]
      exact ⟨fun d h => by cases h; exact ⟨_, rfl, h1⟩, fun h => by cases h⟩
    · rw [if_neg (fun q => z (Option.some.inj q)), valV_neg z]
      exact ih
theorem setD_rep {k : Key} {d : D} {v : V} (hd : IsD c G d v) : ∀ {kvs : List (Key × V)} {ws : List D}, IsDs c G ws (kvs.map (·.2)) → IsDs c G (setD k d (kvs.map fun p => dk p.1) ws) ((kvs.map fun kv => if kv.1 = k then (kv.1, v) else kv).map (·.2))
  | [], ws, r => IsDs.nil
  | p :: kvs, [], r => by have := r.len; cases this
  | p :: kvs, w :: ws, r => by
    rw [List.map_cons] at r
    unfold IsDs at r
    obtain ⟨u, vs, e, h1, h2⟩ := r
    obtain ⟨e1, e2⟩ := List.cons.inj e
    subst e1 e2
    have ih := setD_rep (k := k) hd h2
    rw [List.map_cons, List.map_cons, List.map_cons]
    unfold setD
    rw [kOf_dk]
    by_cases z : p.1 = k
    · rw [if_pos (by rw [z]), if_pos z]
      exact IsDs.cons hd ih
    · rw [if_neg (fun q => z (Option.some.inj q)), if_neg z]
      exact IsDs.cons h1 ih
theorem putD_rep {k : Key} {d : D} {v : V} {kvs : List (Key × V)} {ws : List D} (hd : IsD c G d v) (r : IsDs c G ws (kvs.map (·.2))) : ObjRep c G (putD k d (kvs.map fun p => dk p.1) ws) (.dK (putK kvs k v)) := by
  have lk := lookD_rep (k := k) r
  unfold putD putK
  rw [valV_any]
  cases q : lookD k (kvs.map fun p => dk p.1) ws with
  | none =>
    rw [lk.2 q]
    exact ⟨_, rfl, by rw [if_neg (by decide), List.map_append]; rfl, by rw [if_neg (by decide), List.map_append]; exact r.append (IsDs.cons hd IsDs.nil)⟩
  | some d0 =>
    obtain ⟨v0, e1, _⟩ := lk.1 d0 q
    rw [e1, if_pos (by rfl), if_pos (by rfl)]
    refine ⟨_, rfl, ?_, setD_rep hd r⟩
    rw [List.map_map]
    refine List.map_congr_left fun p _ => ?_
    show dk p.1 = dk (if p.1 = k then (p.1, v) else p).1
    split <;> rfl
end

/-! ### d[k], k in d -/
def dIxK : D → D → M D
  | .dct ks ws, q => match kOf q with
    | some k => match lookD k ks ws with
      | some d => .ok d
      | none => stuck
    | none => stuck
  | _, _ => stuck
def dInK : D → D → M D
  | q, .dct ks ws => match kOf q with
    | some k => .ok (.bl (lookD k ks ws).isSome)
    | none => stuck
  | _, _ => stuck
def dNotInK : D → D → M D
  | q, .dct ks ws => match kOf q with
    | some k => .ok (.bl (!(lookD k ks ws).isSome))
    | none => stuck
  | _, _ => stuck
theorem dIxK_nr : NoR2 dIxK := fun d1 d2 k p h => by
  unfold dIxK at h
  split at h <;> (try split at h) <;> (try split at h) <;> cases h
theorem dInK_nr : NoR2 dInK := fun d1 d2 k p h => by
  unfold dInK at h
  split at h <;> (try split at h) <;> cases h
theorem dNotInK_nr : NoR2 dNotInK := fun d1 d2 k p h => by
  unfold dNotInK at h
  split at h <;> (try split at h) <;> cases h
def rGetK : R2 := fun x y H Q => ∃ a v, x = .ref a ∧ DGet H a y (some v) ∧ Q v H
def rInK : R2 := fun y x H Q => ∃ a o, x = .ref a ∧ DGet H a y o ∧ Q (.bl o.isSome) H
def rNotInK : R2 := fun y x H Q => ∃ a o, x = .ref a ∧ DGet H a y o ∧ Q (.bl (!o.isSome)) H
theorem repS_dct {c : Cc} {P : Addr → Prop} {H : Hp} {ks ws : List D} {v : V} (r : RepS c P H (.dct ks ws) v) : ∃ a kvs, v = .ref a ∧ Rd H a (.dK kvs) ∧ ks = kvs.map (fun p => dk p.1) ∧ IsDs c (hide H P) ws (kvs.map (·.2)) := by
  obtain ⟨a, e, kvs, h1, h2, h3⟩ := r
  exact ⟨a, kvs, e, h1, h2, h3⟩
theorem vb_getK {c : Cc} : VB c rGetK dIxK := by
  intro P H x y d1 d2 d Q hP r1 r2 e k
  unfold dIxK at e
  split at e
  · rename_i ks ws
    split at e
    · rename_i kk hk
      split at e
      · rename_i d0 hd
        cases e
        obtain ⟨a, kvs, rfl, h1, rfl, h3⟩ := repS_dct r1
        obtain ⟨v, e1, e2⟩ := (lookD_rep h3).1 _ hd
        exact ⟨a, v, rfl, .inl ⟨kvs, kk, h1, kOf_rep hk r2, e1.symm⟩, k _ H (Same.refl _) e2⟩
      · cases e
    · cases e
  · cases e
theorem look_isSome {c : Cc} {G : Hp} {k : Key} {kvs : List (Key × V)} {ws : List D} (r : IsDs c G ws (kvs.map (·.2))) : (lookD k (kvs.map fun p => dk p.1) ws).isSome = (valV kvs k).isSome := by
  have lk := lookD_rep (k := k) r
  cases q : lookD k (kvs.map fun p => dk p.1) ws with
  | none => rw [lk.2 q]; rfl
  | some d => obtain ⟨v, e1, _⟩ := lk.1 d q; rw [e1]; rfl
theorem vb_inK {c : Cc} : VB c rInK dInK := by
  intro P H x y d1 d2 d Q hP r1 r2 e k
  unfold dInK at e
  split at e
  · rename_i ks ws
    split at e
    · rename_i kk hk
      cases e
      obtain ⟨a, kvs, rfl, h1, rfl, h3⟩ := repS_dct r2
      exact ⟨a, valV kvs kk, rfl, .inl ⟨kvs, kk, h1, kOf_rep hk r1, rfl⟩, k _ H (Same.refl _) (by rw [look_isSome h3]; exact isBl)⟩
    · cases e
  · cases e
theorem vb_notInK {c : Cc} : VB c rNotInK dNotInK := by
  intro P H x y d1 d2 d Q hP r1 r2 e k
  unfold dNotInK at e
  split at e
  · rename_i ks ws
    split at e
    · rename_i kk hk
      cases e
      obtain ⟨a, kvs, rfl, h1, rfl, h3⟩ := repS_dct r2
      exact ⟨a, valV kvs kk, rfl, .inl ⟨kvs, kk, h1, kOf_rep hk r1, rfl⟩, k _ H (Same.refl _) (by rw [look_isSome h3]; exact isBl)⟩
    · cases e
  · cases e
theorem op_inK {X : Cx} (hu : X.A.units + 1 < cLine) : OpR X (compareOp .In) rInK := by
  intro pins s σ H x y u v Q I rx ry h
  obtain ⟨a, o, rfl, g, q⟩ := h
  obtain rfl : v = Value.ref a := ry
  exact d_in hu I g rx fun s' I' => ⟨.bl o.isSome, H, I', rfl, q⟩
theorem op_notInK {X : Cx} (hu : X.A.units + 1 < cLine) : OpR X (compareOp .NotIn) rNotInK := by
  intro pins s σ H x y u v Q I rx ry h
  obtain ⟨a, o, rfl, g, q⟩ := h
  obtain rfl : v = Value.ref a := ry
  exact d_notIn hu I g rx fun s' I' => ⟨.bl (!o.isSome), H, I', rfl, q⟩
section
variable {X : Cx} {P : Program} {w : World} {K : PySem.W.Frag} {mg : Str → Option Value} {base : Heap} {N : List Str} {sc : Scope} {k : Nat} {bk nn : Bool} {g : Ce} {W : WX}
variable {pu pu1 pu2 sh sh1 sh2 : Bool} {m m1 m2 m3 : Ev} {a b e ke ve : Expr} {pos p p2 pos' pos2 : Pos} {x y z : Str} {ma : Av} {shs : List Bool} {i : Nat}
theorem un1 (C : Cok nn X W P w K mg base N sc k bk) : X.A.units + 1 < cLine := by have := C.room.un; omega
theorem eIxK (C : Cok nn X W P w K mg base N sc k bk) (hc : sh1 = false ∨ pu2 = true) (ha : DE X g pu1 sh1 a m1 W) (hb : DE X g pu2 sh2 b m2 W) (hn : NoSl b := by intro _ _; rfl) : DE X g (pu1 && pu2) false (.Subscript a b pos) (dBin dIxK m1 m2) W :=
  PE.imp (pe_dget (un1 C) ha hb hn) fun σ H Q h => t_bin (r := rGetK) vb_getK dIxK_nr hc h
theorem eInK (C : Cok nn X W P w K mg base N sc k bk) (hc : sh1 = false ∨ pu2 = true) (ha : DE X g pu1 sh1 a m1 W) (hb : DE X g pu2 sh2 b m2 W) (hm : behindInMarks .In b = false := by rfl) : DE X g (pu1 && pu2) false (.Compare a [.In] [b] pos) (dBin dInK m1 m2) W := e_cmp (op_inK (un1 C)) vb_inK dInK_nr hc hm ha hb
theorem eNotInK (C : Cok nn X W P w K mg base N sc k bk) (hc : sh1 = false ∨ pu2 = true) (ha : DE X g pu1 sh1 a m1 W) (hb : DE X g pu2 sh2 b m2 W) (hm : behindInMarks .NotIn b = false := by rfl) : DE X g (pu1 && pu2) false (.Compare a [.NotIn] [b] pos) (dBin dNotInK m1 m2) W := e_cmp (op_notInK (un1 C)) vb_notInK dNotInK_nr hc hm ha hb
theorem tInK (C : Cok nn X W P w K mg base N sc k bk) (hc : sh1 = false ∨ pu2 = true) (ha : DE X g pu1 sh1 a m1 W) (hb : DE X g pu2 sh2 b m2 W) (hm : behindInMarks .In b = false := by rfl) : DT X g (pu1 && pu2) (.Compare a [.In] [b] pos) (dTb (dBin dInK m1 m2)) W := t_cmp (op_inK (un1 C)) vb_inK dInK_nr hc hm ha hb
theorem tNotInK (C : Cok nn X W P w K mg base N sc k bk) (hc : sh1 = false ∨ pu2 = true) (ha : DE X g pu1 sh1 a m1 W) (hb : DE X g pu2 sh2 b m2 W) (hm : behindInMarks .NotIn b = false := by rfl) : DT X g (pu1 && pu2) (.Compare a [.NotIn] [b] pos) (dTb (dBin dNotInK m1 m2)) W := t_cmp (op_notInK (un1 C)) vb_notInK dNotInK_nr hc hm ha hb

/-! ### is None -/
theorem eNoneIs (hc : sh1 = false ∨ pu2 = true) (ha : DE X g pu1 sh1 a m1 W) (hb : DE X g pu2 sh2 b m2 W) (hm : behindInMarks .Is b = false := by rfl) : DE X g (pu1 && pu2) false (.Compare a [.Is] [b] pos) (dBin dIsN m1 m2) W := e_cmp op_isN vb_isN dIsN_nr hc hm ha hb
theorem eNoneNot (hc : sh1 = false ∨ pu2 = true) (ha : DE X g pu1 sh1 a m1 W) (hb : DE X g pu2 sh2 b m2 W) (hm : behindInMarks .IsNot b = false := by rfl) : DE X g (pu1 && pu2) false (.Compare a [.IsNot] [b] pos) (dBin dNotN m1 m2) W := e_cmp op_notN vb_notN dNotN_nr hc hm ha hb
theorem tNoneIs (hc : sh1 = false ∨ pu2 = true) (ha : DE X g pu1 sh1 a m1 W) (hb : DE X g pu2 sh2 b m2 W) (hm : behindInMarks .Is b = false := by rfl) : DT X g (pu1 && pu2) (.Compare a [.Is] [b] pos) (dTb (dBin dIsN m1 m2)) W := t_cmp op_isN vb_isN dIsN_nr hc hm ha hb
theorem tNoneNot (hc : sh1 = false ∨ pu2 = true) (ha : DE X g pu1 sh1 a m1 W) (hb : DE X g pu2 sh2 b m2 W) (hm : behindInMarks .IsNot b = false := by rfl) : DT X g (pu1 && pu2) (.Compare a [.IsNot] [b] pos) (dTb (dBin dNotN m1 m2)) W := t_cmp op_notN vb_notN dNotN_nr hc hm ha hb

/-! ### displays -/
theorem RepF.dct {c : Cc} {xs : Addr → Prop} {env : En} {σ : St} {H : Hp} {ks ws : List D} {kvs : List (Key × V)} (S : StOk c xs env σ H) {q : Addr} (hq : H q = none) (e : ks = kvs.map fun p => dk p.1) (r : IsDs c (hide H (Hid xs env σ)) ws (kvs.map (·.2))) {H' : Hp} (k : Same H H') (h' : H' q = some (.dK kvs)) :
    RepF c xs σ H (.dct ks ws) env (.ref q) H' := by
  refine ⟨q, _, rfl, hq, h', S.newX k hq h', kvs, rfl, e, r.same fun b o hb => ?_⟩
  obtain ⟨h1, h2⟩ := hide_some hb
  rw [hide_of fun z => z.elim h1 (ne_of_none h2 hq)]
  exact k _ _ h2
theorem f_dNew : DF X g true (.Dict [] [] pos) (dC (.dct [] [])) W := PE.imp pe_dnewK fun σ H Q ⟨xs, env, S, w⟩ p hp =>
  w _ _ ((Stp.refl S).grow (same_new hp)) (RepF.dct (kvs := []) S hp rfl IsDs.nil (same_new hp) upd_same)
theorem f_dOne {kk : Key} {v : V} {d : D} (hk : PE X ke (tC (kV kk))) (hv : PE X ve (tC v)) (hd : ∀ c H, IsD c H d v) : DF X g true (.Dict [some ke] [ve] pos) (dC (.dct [dk kk] [d])) W :=
  PE.imp (pe_disp (pps_cons hk hv pps_nil) rfl rfl (by simp) (by simp)) fun σ H Q ⟨xs, env, S, w⟩ p hp => by
    have k1 : Same H (upd (upd H p (.dK [])) p (.dK (mergeK [] [(kk, v)]))) := fun b o hb => by
      have ne := ne_of_none hb hp
      rw [upd_ne ne, upd_ne ne]; exact hb
    refine ⟨upd_same, [(kk, v)], rfl, by show 1 ≤ 15; decide, w _ _ ((Stp.refl S).grow k1) (RepF.dct (kvs := [(kk, v)]) S hp rfl (IsDs.cons (hd _ _) IsDs.nil) k1 ?_)⟩
    rw [upd_same]
    rfl

/-! ### d[k] = v, an own dict -/
def sSubK (i : Nat) (mi m : Ev) : Sv := fun env => bnd (m env) fun p => match p.2[i]? with
  | some (.ow _) => bnd (mi p.2) fun q => match q.2[i]?, kOf q.1 with
    | some (.ow (.dct ks ws)), some k => if ks.length < maxSeq then .ok (.nx, q.2.set i (.ow (putD k p.1 ks ws))) else stuck
    | _, _ => stuck
  | _ => stuck
theorem s_subK (C : Cok nn X W P w K mg base N sc k bk) (hx : PE X (.Name x p) (tVar i)) (hi : DE X g pu1 sh1 b m1 W) (he : DE X g pu false e m W)
    (hs : swapsWith e (some (.Subscript (.Name x p) b pos')) pos.line X.env = pure false := by rfl) : DS X g (.Assign [.Subscript (.Name x p) b pos'] e pos) (sSubK i m1 m) W :=
  PS.imp (ps_dput (un1 C) hx hi he hs) fun E σ H ⟨xs, env, S, w⟩ => ⟨xs, env, S, WantS.bindE w fun d env1 v H1 e1 s1 r1 w1 => by
    dsimp only at w1
    split at w1
    case h_2 => exact w1.elim
    rename_i d0 hi0
    obtain ⟨a, o0, ha0, ho0, hr0⟩ := s1.st.ow i d0 hi0
    refine ⟨.ref a, ha0, xs, env1, s1.st, WantS.bindE (WantS.after s1.kept w1) fun dq env2 vq H2 e2 s2 r2 w2 => ?_⟩
    dsimp only at w2
    split at w2
    case h_2 => exact w2.elim
    rename_i ks ws kk hi2 hkk
    split at w2
    case isFalse => exact w2.elim
    rename_i hlen
    obtain ⟨a', o2, ha2, ho2, hr2⟩ := s2.st.ow i _ hi2
    rw [ha0] at ha2; cases ha2
    obtain ⟨kvs, rfl, rfl, hr3⟩ := hr2
    rw [s2.hid, s1.hid] at hr3
    have r1' : IsD (cc X g) (hide H1 (Hid xs env1 σ)) d v := by rw [s1.hid]; exact r1
    have r2' := r1'.same s2.smH
    rw [s1.hid] at r2'
    rw [List.length_map] at hlen
    have oa : Hid xs env σ a := by rw [← s1.hid, ← s2.hid]; exact .inl ⟨i, _, hi2, ha0⟩
    have new := putD_rep (k := kk) r2' hr3
    have st := s2.st.change hi2 ha0 (d' := putD kk d (kvs.map fun p => dk p.1) ws) (H' := upd H2 a (.dK (putK kvs kk v))) hide_at upd_same (by rw [s2.hid, s1.hid]; exact new.upd oa)
    exact ⟨a, _, rfl, .inl ⟨kvs, kk, ho2, kOf_rep hkk (Rep.shell r2), by rw [maxSeq_eq]; exact hlen, rfl⟩, w2 σ _ st.st (s2.kept.trans st.kept)⟩⟩
end
end Dn

/-! Dn35 -/
set_option Elab.async false
set_option linter.all false
set_option maxRecDepth 100000
set_option maxHeartbeats 2000000
/-! Dn35: sorted of texts and of a dict with int keys, len of a dict, a constant tuple of texts, d.get(k, x). -/
namespace Dn
open PySem PySem.Spec L2
open PyProof.Rows hiding St

theorem CallR.or2 {X : Cx} {f : Value} {r s : List V → Hp → VK → Prop} (h1 : CallR X f r) (h2 : CallR X f s) : CallR X f (fun xs H Q => r xs H Q ∨ s xs H Q) := by
  intro pins sh σ H xs us Q I rv h
  rcases h with h | h
  · exact h1 pins sh σ H xs us Q I rv h
  · exact h2 pins sh σ H xs us Q I rv h

/-! ### texts in order -/
theorem lt_irr : ∀ a : List Nat, ltCps a a = false
  | [] => rfl
  | a :: r => by
    unfold ltCps
    rw [lt_irr r]
    simp
theorem lt_asym : ∀ {a b : List Nat}, ltCps a b = true → ltCps b a = false
  | [], [], h => by cases h
  | [], _ :: _, _ => rfl
  | _ :: _, [], h => by cases h
  | a :: r, b :: t, h => by
    unfold ltCps at h ⊢
    rw [Bool.or_eq_true, Bool.and_eq_true, decide_eq_true_eq, beq_iff_eq] at h
    rcases h with h | ⟨h, h'⟩
    · have e1 : decide (b < a) = false := decide_eq_false (by omega)
      have e2 : (b == a) = false := by simp; omega
      rw [e1, e2]; rfl
    · subst h
      rw [lt_asym h']
      simp
theorem lt_tri : ∀ {a b : List Nat}, ltCps a b = false → ltCps b a = false → a = b
  | [], [], _, _ => rfl
  | [], _ :: _, h, _ => by cases h
  | _ :: _, [], _, h => by cases h
  | a :: r, b :: t, h, h' => by
    unfold ltCps at h h'
    rw [Bool.or_eq_false_iff, decide_eq_false_iff_not] at h h'
    have e : a = b := by omega
    subst e
    have h1 := h.2
    have h2 := h'.2
    rw [show (a == a) = true by simp, Bool.true_and] at h1 h2
    rw [lt_tri h1 h2]
theorem lt_tr : ∀ {a b c : List Nat}, ltCps a b = true → ltCps b c = true → ltCps a c = true
  | [], [], _, h, _ => by cases h
  | [], _ :: _, [], _, h => by cases h
  | [], _ :: _, _ :: _, _, _ => rfl
  | _ :: _, [], _, h, _ => by cases h
  | _ :: _, _ :: _, [], _, h => by cases h
  | a :: r, b :: t, c :: u, h, h' => by
    unfold ltCps at h h' ⊢
    rw [Bool.or_eq_true, Bool.and_eq_true, decide_eq_true_eq, beq_iff_eq] at h h' ⊢
    rcases h with h | ⟨h, q⟩ <;> rcases h' with h' | ⟨h', q'⟩
    · left; omega
    · left; omega
    · left; omega
    · right; exact ⟨by omega, lt_tr q q'⟩
def leS (x y : Str) : Prop := ltCps y.cps.toList x.cps.toList = false
theorem leS_anti {x y : Str} (h : leS x y) (h' : leS y x) : x = y := by
  have e := lt_tri h' h
  cases x; cases y
  rename_i c d
  have e' : c.toList = d.toList := e
  rw [Array.toList_inj.mp e']
theorem leS_tr {x y z : Str} (h : leS x y) (h' : leS y z) : leS x z := by
  unfold leS at *
  cases q : ltCps z.cps.toList x.cps.toList with
  | false => rfl
  | true =>
    cases q2 : ltCps x.cps.toList y.cps.toList with
    | true => rw [lt_tr q q2] at h'; cases h'
    | false =>
      have e := lt_tri q2 h
      rw [← e] at h'
      rw [q] at h'
      cases h'
theorem leS_tot {x y : Str} (h : ¬ leS x y) : leS y x := by
  unfold leS at *
  rw [Bool.not_eq_false] at h
  exact lt_asym h
instance (x y : Str) : Decidable (leS x y) := by unfold leS; infer_instance
def insS (x : Str) : List Str → List Str
  | [] => [x]
  | y :: r => if leS x y then x :: y :: r else y :: insS x r
def sortS : List Str → List Str
  | [] => []
  | x :: r => insS x (sortS r)
theorem insS_perm (x : Str) : ∀ l : List Str, (insS x l).Perm (x :: l)
  | [] => .refl _
  | y :: r => by
    unfold insS
    split
    · exact .refl _
    · exact ((insS_perm x r).cons y).trans (.swap x y r)
theorem sortS_perm : ∀ l : List Str, (sortS l).Perm l
  | [] => .refl _
  | x :: r => (insS_perm x (sortS r)).trans ((sortS_perm r).cons x)
theorem insS_le {x : Str} : ∀ {l : List Str}, l.Pairwise leS → (insS x l).Pairwise leS
  | [], _ => List.pairwise_singleton _ _
  | y :: r, h => by
    unfold insS
    rw [List.pairwise_cons] at h
    split
    · rename_i hx
      rw [List.pairwise_cons]
      exact ⟨fun z hz => by
        rcases List.mem_cons.mp hz with rfl | hz
        · exact hx
        · exact leS_tr hx (h.1 z hz), List.pairwise_cons.mpr h⟩
    · rename_i hx
      rw [List.pairwise_cons]
      exact ⟨fun z hz => by
        rcases List.mem_cons.mp ((insS_perm x r).mem_iff.mp hz) with rfl | hz
        · exact leS_tot hx
        · exact h.1 z hz, insS_le h.2⟩
theorem sortS_le : ∀ l : List Str, (sortS l).Pairwise leS
  | [] => List.Pairwise.nil
  | _ :: r => insS_le (sortS_le r)
theorem sorted_oneG {α : Type} {le : α → α → Prop} (anti : ∀ a b, le a b → le b a → a = b) : ∀ {l l' : List α}, l.Perm l' → l.Pairwise le → l'.Pairwise le → l = l'
  | [], l', p, _, _ => p.nil_eq
  | a :: r, [], p, _, _ => absurd p.symm.nil_eq (by simp)
  | a :: r, b :: r', p, h, h' => by
    rw [List.pairwise_cons] at h h'
    have e : a = b := by
      rcases List.mem_cons.mp (p.mem_iff.mp List.mem_cons_self) with e | e
      · exact e
      · rcases List.mem_cons.mp (p.mem_iff.mpr List.mem_cons_self) with e' | e'
        · exact e'.symm
        · exact anti _ _ (h.1 b e') (h'.1 a e)
    subst e
    rw [sorted_oneG anti p.cons_inv h.2 h'.2]
theorem rising_le : ∀ {r : List Str} {x : Str}, risingS x r = true → (x :: r).Pairwise leS
  | [], x, _ => List.pairwise_singleton _ _
  | y :: r, x, h => by
    unfold risingS at h
    rw [Bool.and_eq_true, Bool.not_eq_true'] at h
    have ih := rising_le h.2
    rw [List.pairwise_cons]
    refine ⟨fun z hz => ?_, ih⟩
    rcases List.mem_cons.mp hz with rfl | hz
    · exact h.1
    · exact leS_tr h.1 ((List.pairwise_cons.mp ih).1 z hz)
theorem sorted_leS {l : List Str} (h : sortedS l = true) : l.Pairwise leS := by
  cases l with
  | nil => exact List.Pairwise.nil
  | cons x r => exact rising_le h
theorem sortS_of {xs ys : List Str} (p : ys.Perm xs) (h : sortedS ys = true) : ys = sortS xs :=
  sorted_oneG (fun _ _ => leS_anti) (p.trans (sortS_perm xs).symm) (sorted_leS h) (sortS_le xs)

def strsOf : List D → Option (List Str)
  | [] => some []
  | .str i :: r => (strsOf r).map (i :: ·)
  | _ => none
theorem strsOf_eq : ∀ {ds : List D} {zs : List Str}, strsOf ds = some zs → ds = zs.map D.str
  | [], zs, h => by cases h; rfl
  | d :: r, zs, h => by
    cases d with
    | str x =>
      have h' : (strsOf r).map (x :: ·) = some zs := h
      cases q : strsOf r with
      | none => rw [q] at h'; cases h'
      | some ys => rw [q] at h'; cases h'; rw [strsOf_eq q]; rfl
    | _ => exact absurd h (fun z => nomatch z)
theorem intsOf_eq : ∀ {ds : List D} {zs : List Int}, intsOf ds = some zs → ds = zs.map D.int
  | [], zs, h => by cases h; rfl
  | d :: r, zs, h => by
    cases d with
    | int x =>
      have h' : (intsOf r).map (x :: ·) = some zs := h
      cases q : intsOf r with
      | none => rw [q] at h'; cases h'
      | some ys => rw [q] at h'; cases h'; rw [intsOf_eq q]; rfl
    | _ => exact absurd h (fun z => nomatch z)
theorem isDs_strs {c : Cc} {H : Hp} : ∀ (zs : List Str), IsDs c H (zs.map D.str) (zs.map V.str)
  | [] => IsDs.nil
  | x :: r => IsDs.cons isStr (isDs_strs r)
theorem strs_rep {c : Cc} {H : Hp} : ∀ {zs : List Str} {vs : List V}, IsDs c H (zs.map D.str) vs → vs = zs.map V.str
  | [], vs, h => by unfold IsDs at h; exact h
  | x :: r, vs, h => by
    rw [List.map_cons] at h
    unfold IsDs at h
    obtain ⟨v, ws, rfl, h1, h2⟩ := h
    unfold IsD at h1
    rw [strs_rep h2, h1]; rfl
theorem intKeys : ∀ {kvs : List (Key × V)} {ns : List Int}, (kvs.map fun p => dk p.1) = ns.map D.int → kvs.map (·.1) = ns.map Sum.inl
  | [], [], _ => rfl
  | [], _ :: _, h => by cases h
  | _ :: _, [], h => by cases h
  | p :: kvs, n :: ns, h => by
    rw [List.map_cons, List.map_cons] at h
    obtain ⟨h1, h2⟩ := List.cons.inj h
    rw [List.map_cons, List.map_cons, intKeys h2]
    congr 1
    cases q : p.1 with
    | inl i => rw [q] at h1; unfold dk at h1; cases h1; rfl
    | inr i => rw [q] at h1; unfold dk at h1; cases h1

/-! ### sorted -/
def rSortDI : List V → Hp → VK → Prop := fun xs H Q => ∃ (a : Addr) (kvs : List (Key × V)) (ks : List Int), xs = [.ref a] ∧ Rd H a (.dK kvs) ∧ kvs.map (·.1) = ks.map Sum.inl ∧ ks.length < 64 ∧
    ∀ (ys : List Int) (p : Addr), ys.Perm ks → ys.Pairwise (· ≤ ·) → H p = none → Q (.ref p) (upd H p (.lst (ys.map V.int)))
def rSort2 (K : PySem.W.Frag) : List V → Hp → VK → Prop := fun vs H Q => rSortB K vs H Q ∨ rSortedS K vs H Q ∨ rSortDI vs H Q
theorem cr_sort2 {X : Cx} (hc : X.calm = true) : CallR X (.builtin "sorted") (rSort2 X.K) := CallR.or2 cr_sortB (CallR.or2 cr_sortedS (call_sortedDI hc))
def sortL (xs : List D) : M D := match intsOf xs with
  | some ns => .ok (.lst ((sortI ns).map D.int))
  | none => match strsOf xs with
    | some zs => if zs.length < 64 then .ok (.lst ((sortS zs).map D.str)) else stuck
    | none => stuck
def bSort2 : List D → M D
  | [.lst xs] => sortL xs
  | [.tup xs] => bSorted [.tup xs]
  | [.dct ks _] => match intsOf ks with
    | some ns => if ns.length < 64 then .ok (.lst ((sortI ns).map D.int)) else stuck
    | none => stuck
  | _ => stuck
theorem bSort2_nr : NoRL bSort2 := fun ds k p h => by
  unfold bSort2 at h
  split at h
  · unfold sortL at h
    split at h <;> (try split at h) <;> (try split at h) <;> cases h
  · exact bSorted_nr _ _ _ h
  · split at h <;> (try split at h) <;> cases h
  · cases h
theorem vcf_sort2 {c : Cc} : VCF c (rSort2 c.K) bSort2 := fun Z H vs ds d Q hP r e k => by
  unfold bSort2 at e
  split at e
  · rename_i xs
    unfold sortL at e
    split at e
    · rename_i ns hn
      refine .inl (vcf_sorted Z H vs _ d Q hP r ?_ k)
      show (match intsOf xs with
        | some ns => (.ok (.lst ((sortI ns).map D.int)) : M D)
        | none => stuck) = _
      rw [hn]
      exact e
    · split at e
      · rename_i zs hz
        split at e
        · rename_i hl
          obtain ⟨v, rfl, r1⟩ := r.one
          obtain ⟨a, ws, rfl, h1, h2⟩ := r1.lst
          rw [strsOf_eq hz] at h2
          cases e
          have h1' := h1
          rw [strs_rep h2] at h1'
          exact .inr (.inl ⟨a, zs, rfl, SqL.of h1', hl, fun ys l hp hs hl => by
            rw [sortS_of hp hs]
            exact k _ _ (same_new hl) (repV_lst hl (isDs_strs (sortS zs)))⟩)
        · cases e
      · cases e
  · exact .inl (vcf_sorted Z H vs _ d Q hP r e k)
  · rename_i ks ws
    split at e
    · rename_i ns hn
      split at e
      · rename_i hl
        obtain ⟨v, rfl, r1⟩ := r.one
        obtain ⟨a, kvs, rfl, h1, h2, h3⟩ := repS_dct r1
        cases e
        rw [intsOf_eq hn] at h2
        exact .inr (.inr ⟨a, kvs, ns, rfl, h1, intKeys h2.symm, hl, fun ys l hp hs hl => by
          rw [sortI_of hp hs]
          exact k _ _ (same_new hl) (repV_lst hl (isDs_ints (sortI ns)))⟩)
      · cases e
    · cases e
  · cases e

/-! ### len of a dict -/
def rLenD : List V → Hp → VK → Prop := fun xs H Q => ∃ a kvs, xs = [V.ref a] ∧ Rd H a (.dK kvs) ∧ Q (.int kvs.length) H
theorem call_lenRd {X : Cx} : CallR X (.builtin "len") rLenD := by
  intro pins s σ H xs us Q I r h
  obtain ⟨a, kvs, rfl, ha, q⟩ := h
  obtain ⟨u, rfl, ru⟩ := vals1 r
  cases ru
  exact d_len I ha fun t s' I' => ⟨.int kvs.length, H, I', ⟨t, rfl⟩, q⟩
def rLenK (K : PySem.W.Frag) : List V → Hp → VK → Prop := fun xs H Q => (∃ x n, xs = [x] ∧ LenV K x H n ∧ Q (.int n) H) ∨ rLenD xs H Q
theorem call_lenK {X : Cx} : CallR X (.builtin "len") (rLenK X.K) := CallR.or2 call_len call_lenRd
def bLenK : List D → M D
  | [.dct ks _] => .ok (.int ks.length)
  | ds => bLen ds
theorem bLenK_nr : NoRL bLenK := fun ds k p h => by
  unfold bLenK at h
  split at h
  · cases h
  · exact bLen_nr _ _ _ h
theorem vc_lenK {c : Cc} : VC c (rLenK c.K) bLenK := fun Z H vs ds d Q hP r e k => by
  unfold bLenK at e
  split at e
  · obtain ⟨v, rfl, r1⟩ := r.one
    obtain ⟨a, kvs, rfl, h1, h2, h3⟩ := repS_dct r1
    cases e
    refine .inr ⟨a, kvs, rfl, h1, ?_⟩
    rw [h2, List.length_map] at k
    exact k _ H (Same.refl _) isInt
  · exact .inl (vc_len Z H vs _ d Q hP r e k)

section
variable {X : Cx} {P : Program} {w : World} {K : PySem.W.Frag} {mg : Str → Option Value} {base : Heap} {N : List Str} {sc : Scope} {k : Nat} {bk nn : Bool} {g : Ce} {W : WX}
variable {pu pu1 pu2 pu3 sh sh1 sh2 sh3 : Bool} {m m1 m2 m3 : Ev} {a b e ke ve : Expr} {pos p p2 pos' pos2 : Pos} {x y z : Str} {i : Nat}
/-- a module's tuple of texts -/
theorem n_ctup (C : Cok nn X W P w K mg base N sc k bk) {zs : List Str} {t : Addr} (hg : gloB sc x = true) (hm : mg x = some (.ref t)) (ht : ∀ H, SqT K H t (zs.map V.str)) (hd : (x == ("__debug__" : Str)) = false) :
    DE X g true false (.Name x pos) (dC (.tup (zs.map D.str))) W := PE.imp (pe_glob (v := .ref t) (u := .ref t) (gloB_of C hg) (by rw [C.em]; exact hm) rfl hd) fun σ H Q ⟨xs, env, S, w⟩ => by
  refine w _ H (.refl S) (Rep.of ?_)
  unfold IsD
  exact ⟨t, _, rfl, by rw [show (cc X g).K = K from C.eK]; exact ht _, isDs_strs zs⟩
/-! ### d.get(k, x), an own dict -/
def dGetO (i : Nat) (m1 m2 : Ev) : Ev := fun env => match env[i]? with
  | some (.ow (.dct _ _)) => bnd (m1 env) fun p => bnd (m2 p.2) fun q => match q.2[i]?, kOf p.1 with
    | some (.ow (.dct ks ws)), some k => .ok ((lookD k ks ws).getD q.1, q.2)
    | _, _ => stuck
  | _ => stuck
theorem e_getO {apos cpos : Pos} (C : Cok nn X W P w K mg base N sc k bk) (hx : PE X (.Name x p) (tVar i)) (h1 : DE X g pu1 sh1 ke m1 W) (h2 : DE X g pu2 false ve m2 W) (mm : M2 X (.Name x p) "get" apos ke ve cpos) :
    DE X g (pu1 && pu2) false (.Call (.Attribute (.Name x p) "get" apos) [ke, ve] [] cpos) (dGetO i m1 m2) W :=
  PE.imp (pe_dget2 (un1 C) hx h1 h2 mm) fun σ H Q ⟨xs, env, S, w⟩ => by
    unfold dGetO at w
    split at w
    case h_2 => exact w.elim
    rename_i ks0 ws0 hi
    obtain ⟨a, o, ha, ho, kvs0, ho2, _, _⟩ := S.ow i _ hi
    subst ho2
    refine ⟨.ref a, ha, a, rfl, .inl ⟨kvs0, .inl ho⟩, xs, env, S, Want.bind w fun d1 env1 v1 H1 e1 s1 r1 w1 => ?_⟩
    refine ⟨xs, env1, s1.st, Want.bind (pu' := pu2) (Want.after s1 w1) fun d2 env2 v2 H2 e2 s2 r2 w2 => ?_⟩
    dsimp only at w2
    split at w2
    case h_2 => exact w2.elim
    rename_i ks ws kk hi2 hkk
    obtain ⟨a', o2, ha2, ho3, kvs, ho4, hks, hr⟩ := s2.st.ow i _ hi2
    rw [ha] at ha2; cases ha2
    subst ho4 hks
    refine ⟨valV kvs kk, .inl ⟨kvs, kk, .inl ho3, kOf_rep hkk (Rep.shell r1), rfl⟩, ?_⟩
    have lk := lookD_rep (k := kk) hr
    refine w2 _ H2 s2 (Rep.of ?_)
    cases q : lookD kk (kvs.map fun p => dk p.1) ws with
    | none => rw [lk.2 q, ← s1.hid]; exact r2
    | some d =>
      obtain ⟨v, q1, q2⟩ := lk.1 d q
      rw [q1]
      rw [s2.hid, s1.hid] at q2
      exact q2
end
end Dn

/-! Dn36 -/
set_option Elab.async false
set_option linter.all false
set_option maxRecDepth 100000
set_option maxHeartbeats 2000000
/-! Dn36: for over a dict's keys. -/
namespace Dn
open PySem PySem.Spec L2
open PyProof.Rows hiding St

/-- two heaps that differ in the lock of one dict alone -/
def Lk (d : Addr) (kvs : List (Key × V)) (G G' : Hp) : Prop := (∀ b, b ≠ d → G' b = G b) ∧ ((G d = none ∧ G' d = none) ∨ (Rd G d (.dK kvs) ∧ Rd G' d (.dK kvs)))
section
variable {d : Addr} {kvs : List (Key × V)} {G G' : Hp}
theorem Lk.hide (h : Lk d kvs G G') (P : Addr → Prop) : Lk d kvs (hide G P) (hide G' P) := by
  refine ⟨fun b hb => ?_, ?_⟩
  · by_cases p : P b
    · rw [hide_yes p, hide_yes p]
    · rw [hide_of p, hide_of p]; exact h.1 b hb
  · by_cases p : P d
    · exact .inl ⟨hide_yes p, hide_yes p⟩
    · rcases h.2 with q | q
      · exact .inl ⟨by rw [hide_of p]; exact q.1, by rw [hide_of p]; exact q.2⟩
      · refine .inr ⟨?_, ?_⟩
        · unfold Rd; rw [hide_of p]; exact q.1
        · unfold Rd; rw [hide_of p]; exact q.2
theorem Lk.rd (h : Lk d kvs G G') {a : Addr} {u : HO} (hu : ∀ o x, u ≠ .frz o x) (r : Rd G a u) : Rd G' a u := by
  by_cases e : a = d
  · subst e
    rcases h.2 with q | ⟨q, q'⟩
    · rcases r with r | ⟨o, r⟩ <;> rw [q.1] at r <;> cases r
    · have : u = .dK kvs := by
        rcases r with r | ⟨o, r⟩ <;> rcases q with q | ⟨o', q⟩ <;> rw [r] at q <;> cases q
        · rfl
        · exact absurd rfl (hu _ _)
        · rfl
      rw [this]; exact q'
  · unfold Rd at r ⊢
    rw [h.1 a e]; exact r
theorem Lk.lst (h : Lk d kvs G G') {a : Addr} {xs : List V} (r : G a = some (.lst xs)) : G' a = some (.lst xs) := by
  by_cases e : a = d
  · subst e
    rcases h.2 with q | ⟨q, q'⟩
    · rw [q.1] at r; cases r
    · rcases q with q | ⟨o', q⟩ <;> rw [r] at q <;> cases q
  · rw [h.1 a e]; exact r
mutual
theorem IsD.lk {c : Cc} (h : Lk d kvs G G') : ∀ (x : D) (v : V), IsD c G x v → IsD c G' x v
  | .non, v, r => by unfold IsD at r ⊢; exact r
  | .bl _, v, r => by unfold IsD at r ⊢; exact r
  | .int _, v, r => by unfold IsD at r ⊢; exact r
  | .str _, v, r => by unfold IsD at r ⊢; exact r
  | .tup xs, v, r => by
    unfold IsD at r ⊢
    obtain ⟨a, vs, e1, e2, e3⟩ := r
    refine ⟨a, vs, e1, ?_, IsDs.lk h xs vs e3⟩
    rcases e2 with e2 | e2
    · exact .inl (h.rd (fun _ _ z => nomatch z) e2)
    · exact .inr e2
  | .lst xs, v, r => by
    unfold IsD at r ⊢
    obtain ⟨a, vs, e1, e2, e3⟩ := r
    exact ⟨a, vs, e1, h.lst e2, IsDs.lk h xs vs e3⟩
  | .scr ns, v, r => by
    unfold IsD at r ⊢
    obtain ⟨a, e1, e2⟩ := r
    refine ⟨a, e1, ?_⟩
    rcases e2 with e2 | e2
    · exact .inl (h.rd (fun _ _ z => nomatch z) e2)
    · exact .inr e2
  | .dct ks ws, v, r => by
    unfold IsD at r ⊢
    obtain ⟨a, e1, k2, h1, h2, h3⟩ := r
    exact ⟨a, e1, k2, h.rd (fun _ _ z => nomatch z) h1, h2, IsDs.lk h ws _ h3⟩
  | .fn _, v, r => by unfold IsD at r ⊢; exact r
theorem IsDs.lk {c : Cc} (h : Lk d kvs G G') : ∀ (ds : List D) (vs : List V), IsDs c G ds vs → IsDs c G' ds vs
  | [], vs, r => by unfold IsDs at r ⊢; exact r
  | x :: ds, vs, r => by
    unfold IsDs at r ⊢
    obtain ⟨v, t, e1, h1, h2⟩ := r
    exact ⟨v, t, e1, IsD.lk h x v h1, IsDs.lk h ds t h2⟩
end
theorem ObjRep.lk {c : Cc} (h : Lk d kvs G G') {x : D} {o : HO} (r : ObjRep c G x o) : ObjRep c G' x o := by
  cases x with
  | lst xs => obtain ⟨vs, e, q⟩ := r; exact ⟨vs, e, IsDs.lk h _ _ q⟩
  | dct ks ws => obtain ⟨k2, e, e2, q⟩ := r; exact ⟨k2, e, e2, IsDs.lk h _ _ q⟩
  | _ => exact r
theorem StOk.lk {c : Cc} {xs : Addr → Prop} {env : En} {σ : St} (h : Lk d kvs G G') (hn : ¬ Owns env σ d) (S : StOk c xs env σ G) : StOk c xs env σ G' where
  len := S.len
  xb := fun a ha => by
    refine ⟨fun n => ?_, (S.xb a ha).2⟩
    have z := (S.xb a ha).1
    by_cases e : a = d
    · subst e
      rcases h.2 with q | ⟨q, q'⟩
      · exact z q.1
      · rcases q' with q' | ⟨o', q'⟩ <;> rw [n] at q' <;> cases q'
    · rw [h.1 a e] at n; exact z n
  va := fun i x hx => let ⟨v, h1, h2⟩ := S.va i x hx; ⟨v, h1, IsD.lk (h.hide _) _ _ h2⟩
  ow := fun i x hx => let ⟨a, o, h1, h2, h3⟩ := S.ow i x hx; ⟨a, o, h1, by rw [h.1 a fun e => hn (by rw [← e]; exact ⟨i, x, hx, h1⟩)]; exact h2, ObjRep.lk (h.hide _) h3⟩
  inj := S.inj
end

/-! ### the loop -/
def sForK (i : Nat) (mt : Gv) (mb : Sv) : Sv := fun env => match env[i]? with
  | some (.va (.dct ks _)) => match forL mt mb ks env with
    | .ok (.nx, env') => .ok (.nx, env')
    | _ => stuck
  | _ => stuck
section
variable {X : Cx} {P : Program} {w : World} {K : PySem.W.Frag} {mg : Str → Option Value} {base : Heap} {N : List Str} {sc : Scope} {k : Nat} {bk nn : Bool} {g : Ce} {W : WX}
variable {pu pu1 pu2 pu3 sh sh1 sh2 sh3 : Bool} {m m1 m2 m3 : Ev} {a b e tg : Expr} {pos p p2 pos' pos2 : Pos} {x y z : Str} {i : Nat} {mg1 : Gv} {ms : Sv} {sts : List Stmt} {vs : List Nat}
theorem isD_key {c : Cc} {H : Hp} (k : Key) : IsD c H (dk k) (kV k) := by
  cases k with
  | inl i => exact isInt
  | inr x => exact isStr
theorem forK_core {c : Cc} {E : Ends} {xs : Addr → Prop} {env envF : En} {σ : St} {H : Hp} {d : Addr} {od : Obj} {kvs : List (Key × V)}
    (S : StOk c xs env σ H) (hd : H d = some (.frz od (.dK kvs))) (hn : ¬ Owns env σ d)
    (hf : forL mg1 ms (kvs.map fun p => dk p.1) env = .ok (.nx, envF)) (hE : ∀ σ' H', StOk c xs envF σ' H' → Kept env σ H envF σ' H' → E.nx σ' H') :
    ∃ W' : Nat → Nat → St → Hp → Prop, (∃ m, W' 0 m σ H) ∧ ∀ i m σ H, W' i m σ H →
      ((Itk d od kvs).stop i H ∧ E.nx σ H) ∨ ((Itk d od kvs).go i H ∧ ∃ N : St → Hp → Prop, (∀ σ' H', N σ' H' → ∃ m', m' < m ∧ W' (i + 1) m' σ' H') ∧ ∀ x H', (Itk d od kvs).yld i H x H' → tG c mg1 vs x σ H' fun σ2 H2 => tS c ms W { E with nx := N, ct := N, bk := E.nx } σ2 H2) := by
  have stand : ∀ {env' : En} {σ' : St} {H' : Hp}, Kept env σ H env' σ' H' → H' d = some (.frz od (.dK kvs)) := fun q => (hide_some (q.sm d _ (by rw [hide_of hn]; exact hd))).2
  refine for_it walk_keys (fun j σ' H' => ∃ env', StOk c xs env' σ' H' ∧ Kept env σ H env' σ' H' ∧ forL mg1 ms ((kvs.map fun p => dk p.1).drop j) env' = .ok (.nx, envF)) ⟨env, S, .refl, hf⟩ ?_ ?_ ?_
  · rintro j σ' H' _ ⟨env', S', q, _⟩
    exact stand q
  · rintro j x σ' H' H2 hlt ⟨env', S', q, w2⟩ ⟨rfl, kk, v, hk, rfl⟩
    have hlt' : j < (kvs.map fun p => dk p.1).length := by rw [List.length_map]; exact hlt
    have hg : (kvs.map fun p => dk p.1)[j] = dk kk := by
      have h1 : (kvs.map fun p => dk p.1)[j]? = some (dk kk) := by rw [List.getElem?_map, hk]; rfl
      rw [List.getElem?_eq_getElem hlt'] at h1
      exact Option.some.inj h1
    rw [List.drop_eq_getElem_cons hlt', hg] at w2
    unfold forL at w2
    refine ⟨xs, env', dk kk, S', isD_key kk, ?_⟩
    cases q2 : mg1 (dk kk) env' with
    | error x => rw [q2] at w2; cases w2
    | ok env3 =>
      rw [q2] at w2
      intro σ3 S3 k3 _ _ _
      refine ⟨xs, env3, S3, ?_⟩
      simp only [ns_ok, bnd_ok] at w2
      cases hr : ms env3 with
      | error e => rw [hr] at w2; cases w2
      | ok r =>
        obtain ⟨fl, env4⟩ := r
        rw [hr] at w2
        simp only [bnd_ok] at w2
        cases fl with
        | nx => exact fun σ5 H5 S5 q5 => ⟨env4, S5, q.trans (k3.trans q5), w2⟩
        | ct => exact fun σ5 H5 S5 q5 => ⟨env4, S5, q.trans (k3.trans q5), w2⟩
        | bk => cases w2; exact fun σ5 H5 S5 q5 => hE σ5 H5 S5 (q.trans (k3.trans q5))
        | rt d => cases w2
        | rf d => cases w2
        | ro i => cases w2
  · rintro σ' H' ⟨env', S', q, w2⟩
    have : (kvs.map fun p => dk p.1).drop kvs.length = [] := by rw [show kvs.length = (kvs.map fun p => dk p.1).length by rw [List.length_map]]; exact List.drop_length
    rw [this] at w2
    unfold forL at w2
    cases w2
    exact hE σ' H' S' q
theorem PS.or2 {st : Stmt} {t t' : TS} (h : PS X st t) (h' : PS X st t') : PS X st (fun D σ H => t D σ H ∨ t' D σ H) := ⟨fun pins s σ H D I w => w.elim (h.run pins s σ H D I) (h'.run pins s σ H D I)⟩
theorem s_forK (C : Cok nn X W P w K mg base N sc k false) (he : PE X (.Name x p) (tVar i)) (hg : DG X g vs tg mg1) (hb : DSs X g sts ms W) (hs : ∀ z, foldedSetIterable (.Name x p) X.env z = pure z := by intro _; rfl) :
    DS X g (.For tg (.Name x p) sts [] pos) (sForK i mg1 ms) W :=
  PS.imp (PS.or2 (ps_lock (ps_for (C.own rfl) C.calm (pi_keys he) hg hb hs)) (ps_for (C.own rfl) C.calm (pi_keys he) hg hb hs)) fun E σ H ⟨xs, env, S, w⟩ => by
    unfold sForK at w
    split at w
    case h_2 => exact w.elim
    rename_i ks ws hi
    split at w
    case h_2 => exact w.elim
    rename_i envF hf
    obtain ⟨v, hv, rv⟩ := S.va i _ hi
    unfold IsD at rv
    obtain ⟨d, rfl, kvs, h1, rfl, h3⟩ := rv
    have hn : ¬ Hid xs env σ d := fun z => by
      unfold Rd at h1
      rw [hide_yes z] at h1
      rcases h1 with h1 | ⟨o, h1⟩ <;> cases h1
    have hno : ¬ Owns env σ d := fun z => hn (.inl z)
    unfold Rd at h1
    rw [hide_of hn] at h1
    rcases h1 with h1 | ⟨od, h1⟩
    · refine .inl ⟨d, .dK kvs, h1, trivial, fun od => ?_⟩
      have hl : Lk d kvs H (upd H d (.frz od (.dK kvs))) := ⟨fun b hb => upd_ne hb, .inr ⟨.inl h1, .inr ⟨od, upd_same⟩⟩⟩
      have S1 := S.lk hl hno
      refine ⟨.ref d, hv, d, od, rfl, .inl ⟨kvs, upd_same, ?_⟩⟩
      refine forK_core S1 upd_same hno hf fun σ' H' S' q => ?_
      have e1 := q.sm d (.frz od (.dK kvs)) (by rw [hide_of hno]; exact upd_same)
      obtain ⟨n2, e2⟩ := hide_some e1
      refine ⟨e2, w σ' _ (S'.lk ⟨fun b hb => upd_ne hb, .inr ⟨.inr ⟨od, e2⟩, .inl upd_same⟩⟩ n2) ⟨fun b o hb => ?_, fun b hb => ?_, q.fx, q.ln⟩⟩
      · obtain ⟨z1, z2⟩ := hide_some hb
        by_cases e : b = d
        · subst e
          rw [hide_of n2, upd_same]
          rw [h1] at z2; exact z2
        · have z3 := q.sm b o (by rw [hide_of z1, upd_ne e]; exact z2)
          obtain ⟨z4, z5⟩ := hide_some z3
          rw [hide_of z4, upd_ne e]
          exact z5
      · by_cases e : b = d
        · subst e; rw [upd_same]; exact fun z => nomatch z
        · rw [upd_ne e]; exact q.th b (by rw [upd_ne e]; exact hb)
    · refine .inr ⟨.ref d, hv, d, od, rfl, .inl ⟨kvs, h1, ?_⟩⟩
      exact forK_core S h1 hno hf w
end
end Dn

/-! Dn37 -/
set_option Elab.async false
set_option linter.all false
set_option maxRecDepth 100000
set_option maxHeartbeats 2000000
/-! Dn37: dict comprehensions. -/
namespace Dn
open PySem PySem.Spec L2
open PyProof.Rows hiding St

/-! ### dict comprehensions -/
/-- a dict comprehension over a walk -/
theorem dc_it {J : It} {n : Nat} {G : Hp → Prop} {Y : Nat → Hp → V → Hp → Prop} (w : Walk J n G Y) {g : TG} {tt : TT} {tk tv : TE} {vs : List Nat} {σ : St} {H1 : Hp} {D : Addr} {Qd : Hp → Prop} (Pv : Nat → Hp → Prop) (h0 : Pv 0 (upd H1 D (.dK []))) (hG : ∀ i H, i ≤ n → Pv i H → G H)
    (hs : ∀ i x H H', i < n → Pv i H → Y i H x H' → g x (wipe σ vs) H' fun σ2 H2 => wipe σ2 vs = wipe σ vs ∧ tt σ2 H2 fun b H3 =>
      if b = true then tk σ2 H3 fun y H4 => tv σ2 H4 fun z H5 => ∃ kvs k, y = kV k ∧ H5 D = some (.dK kvs) ∧ kvs.length < sizeLine ∧ Pv (i + 1) (upd H5 D (.dK (putK kvs k z))) else Pv (i + 1) H3) (hd : ∀ H, Pv n H → Qd H) :
    ∃ W : Nat → Nat → Hp → Prop, (∃ m, W 0 m (upd H1 D (.dK []))) ∧ ∀ i m H, W i m H →
      (J.stop i H ∧ Qd H) ∨ (J.go i H ∧ ∃ Nx : Hp → Prop, (∀ H', Nx H' → ∃ m', m' < m ∧ W (i + 1) m' H') ∧ ∀ x H', J.yld i H x H' → g x (wipe σ vs) H' fun σ2 H2 => wipe σ2 vs = wipe σ vs ∧ tt σ2 H2 fun b H3 =>
        if b = true then tk σ2 H3 fun y H4 => tv σ2 H4 fun z H5 => ∃ kvs k, y = kV k ∧ H5 D = some (.dK kvs) ∧ kvs.length < sizeLine ∧ Nx (upd H5 D (.dK (putK kvs k z))) else Nx H3) := by
  refine ⟨fun i m H => m = n - i ∧ i ≤ n ∧ Pv i H, ⟨n, by simp, Nat.zero_le _, h0⟩, ?_⟩
  rintro i m H ⟨rfl, hi, p⟩
  have q := hG i H hi p
  by_cases hlt : i < n
  · exact .inr ⟨w.goes i H hlt q, Pv (i + 1), fun H' p' => ⟨n - (i + 1), by omega, rfl, hlt, p'⟩, fun x H' y => hs i x H H' hlt p (w.yields i H x H' hlt q y)⟩
  · have e : i = n := by omega
    subst e
    exact .inl ⟨w.stops H q, hd H p⟩
def dcL (mt : Gv) (tt : Tv) (mk me : Ev) (vs : List Nat) : List D → D → En → M (D × En)
  | [], acc, env => .ok (acc, env)
  | d :: r, acc, env => bnd (mt d env) fun env1 => bnd (tt env1) fun p => if p.1 = true then bnd (mk p.2) fun q => bnd (me q.2) fun z => match kOf q.1, acc with
    | some k, .dct ks ws => if ks.length < maxSeq then dcL mt tt mk me vs r (putD k z.1 ks ws) (wipeE z.2 vs) else stuck
    | _, _ => stuck
    else dcL mt tt mk me vs r acc (wipeE p.2 vs)
def dDc (mi : Iv) (mt : Gv) (tt : Tv) (mk me : Ev) (vs : List Nat) : Ev := fun env => bnd (mi env) fun p => if noOw p.2 vs = true then bnd (ns (dcL mt tt mk me vs p.1 (.dct [] []) (wipeE p.2 vs))) fun q => .ok (q.1, resE p.2 q.2 vs) else stuck
section
variable {X : Cx} {P : Program} {w : World} {K : PySem.W.Frag} {mg : Str → Option Value} {base : Heap} {N : List Str} {sc : Scope} {k : Nat} {bk nn : Bool} {g : Ce} {W : WX}
variable {pu pu1 pu2 pu3 sh : Bool} {e kx vx tg iter : Expr} {ifs : List Expr} {scope : Scope} {own : List (Str × Nat)} {pos : Pos} {mi : Iv} {mt : Gv} {tt : Tv} {mk me : Ev} {vs : List Nat}
theorem t_dc {σ : St} {H : Hp} {Q : VK} (h : tF (cc X g) (pu && (pu1 && (pu2 && pu3))) (dDc mi mt tt mk me vs) W σ H Q) : tDc (tI (cc X g) pu mi W) (tG (cc X g) mt vs) (tT (cc X g) pu1 tt W0) (tE (cc X g) pu2 sh mk W0) (tE (cc X g) pu3 false me W0) vs σ H Q := by
  obtain ⟨xs, env, S, w⟩ := h
  refine ⟨xs, env, S, w.bind fun ds env1 J H1 e1 s r w1 => ?_⟩
  intro A hA
  dsimp only at w1
  split at w1
  case isFalse => exact w1.elim
  rename_i hno
  have no : ∀ j ∈ vs, isOw env1 j = false := fun j hj => noOw_of hno hj
  cases qf : dcL mt tt mk me vs ds (.dct [] []) (wipeE env1 vs) with
  | error x => rw [qf] at w1; exact w1.elim
  | ok pf =>
  obtain ⟨total, envF⟩ := pf
  rw [qf] at w1
  simp only [ns_ok, bnd_ok] at w1
  have hA0 : H A = none := s.free S hA
  obtain ⟨G, Y, hw, hG, hY⟩ := r
  rw [← s.hid] at hG hY
  -- what stands through the loop
  have hS1 : StOk (cc X g) (fun b => xs b ∨ b = A) env1 σ (upd H1 A (.dK [])) := s.st.newX (same_new hA) hA upd_same
  have eqO : ∀ {env' σ'}, (∀ j, isOw env' j = isOw env1 j) → wipe σ' vs = wipe σ vs → Owns env' σ' = Owns env1 σ := fun a b => owns_blk no a b
  refine dc_it hw (fun i H2 => ∃ env2 accD acc, StOk (cc X g) (fun b => xs b ∨ b = A) env2 (wipe σ vs) H2 ∧ env2.length = env1.length ∧ (∀ j, isOw env2 j = isOw env1 j) ∧ H2 A = some (.dK acc) ∧
    ObjRep (cc X g) (hide H2 (fun b => Owns env1 σ b ∨ (xs b ∨ b = A))) accD (.dK acc) ∧ Same (hide H1 (Owns env1 σ)) (hide H2 (Owns env1 σ)) ∧ ((pu && (pu1 && (pu2 && pu3))) = true → env2 = wipeE env1 vs ∧ Same H1 H2) ∧
    dcL mt tt mk me vs (ds.drop i) accD env2 = .ok (total, envF)) ?_ ?_ ?_ ?_
  · refine ⟨wipeE env1 vs, .dct [] [], [], hS1.wipe vs, wipeE_len, isOw_wipe no, upd_same, ⟨[], rfl, rfl, IsDs.nil⟩, hide_same (same_new hA), fun _ => ⟨rfl, same_new hA⟩, qf⟩
  · rintro i H2 _ ⟨env2, accD, acc, S2, hl, hA2, hD, hacc, sm, hp, hr⟩
    refine hG H2 fun b o hb => ?_
    obtain ⟨h1, h2⟩ := hide_some hb
    exact (hide_some (sm b o (by rw [hide_of fun z => h1 (.inl z)]; exact h2))).2
  · rintro i x H2 H3 hlt ⟨env2, accD, acc, S2, hl, hA2, hD, hacc, sm, hp, hr⟩ y
    have o2 : Owns env2 (wipe σ vs) = Owns env1 σ := eqO hA2 wipe_wipe
    have hid2 : Hid (fun b => xs b ∨ b = A) env2 (wipe σ vs) = fun b => Owns env1 σ b ∨ (xs b ∨ b = A) := by funext b; unfold Hid; rw [o2]
    have up : Same (hide H1 (Hid xs env1 σ)) (hide H2 (Hid (fun b => xs b ∨ b = A) env2 (wipe σ vs))) := fun b o hb => by
      obtain ⟨h1, h2⟩ := hide_some hb
      have h3 := (hide_some (sm b o (by rw [hide_of fun z => h1 (.inl z)]; exact h2))).2
      rw [hid2, hide_of fun z => z.elim (fun z => h1 (.inl z)) fun z => z.elim (fun z => h1 (.inr z)) (ne_of_none h2 hA)]
      exact h3
    have hd : ds[i]? = some ds[i] := by simp [hlt]
    obtain ⟨k1, k2⟩ := hY i x H2 H3 _ hd (up.trans hide_full) y
    have rd := k2 _ up fun a ha => S2.hid ha
    have S3 := S2.same k1
    refine ⟨_, env2, ds[i], S3, rd, ?_⟩
    rw [List.drop_eq_getElem_cons hlt] at hr
    unfold dcL at hr
    cases q2 : mt ds[i] env2 with
    | error z => rw [q2] at hr; cases hr
    | ok env3 =>
    rw [q2] at hr
    simp only [bnd_ok] at hr
    intro σ3 S4 k3 hw3 hwE how
    have hw3' : wipe σ3 vs = wipe σ vs := hw3.trans wipe_wipe
    have hA3 : ∀ j, isOw env3 j = isOw env1 j := fun j => by
      cases q : isOw env1 j with
      | true =>
        have hj : j ∉ vs := fun z => by rw [no j z] at q; cases q
        have := congrArg (·[j]?) hwE
        simp only [wipeE_get, if_neg hj] at this
        rw [isOw_get this, hA2 j, q]
      | false =>
        cases q3 : isOw env3 j with
        | false => rfl
        | true => have := how j q3; rw [hA2 j, q] at this; cases this
    have o3 : Owns env3 σ3 = Owns env1 σ := eqO hA3 hw3'
    refine ⟨hw3', _, env3, S4, ?_⟩
    cases q4 : tt env3 with
    | error z => rw [q4] at hr; cases hr
    | ok p4 =>
    obtain ⟨b4, env4⟩ := p4
    rw [q4] at hr
    simp only [bnd_ok] at hr
    intro b H4 s4 hb
    subst hb
    have D4 : H4 A = some (.dK acc) := by
      have h3 : H3 A = some (.dK acc) := k1 _ _ hD
      have na : ¬ Owns env3 σ3 A := fun z => (S4.xb A (.inr rfl)).2 z
      exact (hide_some (s4.sm A _ (by rw [hide_of na]; exact h3))).2
    have o4 : Owns env4 σ3 = Owns env1 σ := s4.own.trans o3
    have sm4 : Same (hide H1 (Owns env1 σ)) (hide H4 (Owns env1 σ)) := sm.trans ((hide_same k1).trans (by have := s4.sm; rw [o3] at this; exact this))
    have acc4 : ObjRep (cc X g) (hide H4 (fun b => Owns env1 σ b ∨ (xs b ∨ b = A))) accD (.dK acc) := by
      refine hacc.same (Same.trans (hide_same k1) ?_)
      have := s4.smH
      unfold Hid at this
      rw [o3] at this
      exact this
    have len3 : env3.length = env1.length := by rw [S4.len, ← wipe_length σ3 vs, hw3', wipe_length, ← s.st.len]
    have len4 : env4.length = env1.length := by rw [s4.st.len, ← wipe_length σ3 vs, hw3', wipe_length, ← s.st.len]
    cases b with
    | false =>
      rw [if_neg Bool.false_ne_true] at hr
      rw [if_neg Bool.false_ne_true]
      have S5 := s4.st.wipe vs
      rw [hw3'] at S5
      refine ⟨wipeE env4 vs, accD, acc, S5, by rw [wipeE_len]; exact len4, fun j => ?_, D4, acc4, sm4, fun hpu => ?_, hr⟩
      · rw [isOw_wipe (fun j hj => by rw [s4.shp, hA3, no j hj]), s4.shp, hA3]
      · obtain ⟨p1, p2⟩ := hp hpu
        have : pu1 = true := by simp only [Bool.and_eq_true] at hpu; exact hpu.2.1
        obtain ⟨r1, r2⟩ := s4.pr this
        refine ⟨?_, p2.trans (k1.trans r2)⟩
        rw [r1, hwE, p1, wipeE_wipeE]
    | true =>
      rw [if_pos rfl] at hr
      rw [if_pos rfl]
      refine ⟨_, env4, s4.st, ?_⟩
      cases q5 : mk env4 with
      | error z => rw [q5] at hr; cases hr
      | ok p5 =>
      obtain ⟨d5, env5⟩ := p5
      rw [q5] at hr
      simp only [bnd_ok] at hr
      intro v5 H5 s5 r5
      refine ⟨_, env5, s5.st, ?_⟩
      cases q6 : me env5 with
      | error z => rw [q6] at hr; cases hr
      | ok p6 =>
      obtain ⟨d6, env6⟩ := p6
      rw [q6] at hr
      simp only [bnd_ok] at hr
      intro v6 H6 s6 r6
      have s56 := s5.trans s6
      split at hr
      case h_2 => cases hr
      rename_i kk ks ws hkk
      split at hr
      case isFalse => cases hr
      rename_i hsz
      have D6 : H6 A = some (.dK acc) := by
        have na : ¬ Owns env4 σ3 A := fun z => (s4.st.xb A (.inr rfl)).2 z
        exact (hide_some (s56.sm A _ (by rw [hide_of na]; exact D4))).2
      obtain ⟨acc', e1, e2, acc5⟩ := acc4
      cases e1
      subst e2
      rw [List.length_map] at hsz
      refine ⟨acc, kk, kOf_rep hkk (Rep.shell r5), D6, by rw [maxSeq_eq]; exact hsz, ?_⟩
      have o6 : Owns env6 σ3 = Owns env1 σ := s56.own.trans o4
      have acc6 : IsDs (cc X g) (hide H6 (fun b => Owns env1 σ b ∨ (xs b ∨ b = A))) ws (acc.map (·.2)) := by
        refine acc5.same ?_
        have := s56.smH
        unfold Hid at this
        rw [o4] at this
        exact this
      have r6' : IsD (cc X g) (hide H6 (fun b => Owns env1 σ b ∨ (xs b ∨ b = A))) d6 v6 := by
        have : IsD (cc X g) (hide H6 (Hid (fun b => xs b ∨ b = A) env5 σ3)) d6 v6 := r6
        unfold Hid at this
        rw [s5.own, o4] at this
        exact this
      have new : ObjRep (cc X g) (hide (upd H6 A (.dK (putK acc kk v6))) (fun b => Owns env1 σ b ∨ (xs b ∨ b = A))) (putD kk d6 (acc.map fun p => dk p.1) ws) (.dK (putK acc kk v6)) :=
        (putD_rep r6' acc6).upd (.inr (.inr rfl))
      have S6 := (s6.st.updX (o := .dK (putK acc kk v6)) (a := A) (.inr rfl)).wipe vs
      rw [hw3'] at S6
      have shp6 : ∀ j, isOw env6 j = isOw env1 j := fun j => by rw [s56.shp, s4.shp, hA3]
      have hno6 : ∀ j ∈ vs, isOw env6 j = false := fun j hj => by rw [shp6, no j hj]
      have nA : ∀ {b o}, H1 b = some o → b ≠ A := fun h => ne_of_none h hA
      refine ⟨wipeE env6 vs, _, _, S6, by rw [wipeE_len, s6.st.len, ← wipe_length σ3 vs, hw3', wipe_length, ← s.st.len], fun j => ?_, upd_same, new, fun b o hb => ?_, fun hpu => ?_, hr⟩
      · rw [isOw_wipe hno6, shp6]
      · have h1 := (sm4.trans (by have := s56.sm; rw [o4] at this; exact this)) b o hb
        obtain ⟨h2, h3⟩ := hide_some h1
        rw [hide_of h2, upd_ne (nA (hide_some hb).2)]
        exact h3
      · obtain ⟨p1, p2⟩ := hp hpu
        have h1 : pu1 = true := by simp only [Bool.and_eq_true] at hpu; exact hpu.2.1
        have h2 : (pu2 && pu3) = true := by rw [Bool.and_eq_true, Bool.and_eq_true] at hpu; exact hpu.2.2
        obtain ⟨r1, r2⟩ := s4.pr h1
        obtain ⟨r3, r4⟩ := s56.pr h2
        refine ⟨by rw [r3, r1, hwE, p1, wipeE_wipeE], fun b o hb => ?_⟩
        rw [upd_ne (nA hb)]
        exact r4 _ _ (r2 _ _ (k1 _ _ (p2 _ _ hb)))
  · rintro H2 ⟨env2, accD, acc, S2, hl, hA2, hD, hacc, sm, hp, hr⟩
    rw [List.drop_length] at hr
    unfold dcL at hr
    simp only [Except.ok.injEq, Prod.mk.injEq] at hr
    obtain ⟨hr1, hr2⟩ := hr
    subst hr1 hr2
    have SX : StOk (cc X g) (fun b => xs b ∨ b = A) (resE env1 env2 vs) σ H2 := by
      refine StOk.res s.st S2 no hl hA2 fun b o hb => ?_
      obtain ⟨h1, h2⟩ := hide_some hb
      have h3 := (hide_some (sm b o (by rw [hide_of fun z => h1 (.inl z)]; exact h2))).2
      rw [hide_of fun z => z.elim (fun z => h1 (.inl z)) fun z => z.elim (fun z => h1 (.inr z)) (ne_of_none h2 hA)]
      exact h3
    have shpR : ∀ j, isOw (resE env1 env2 vs) j = isOw env1 j := fun j => by
      by_cases h : j ∈ vs
      · exact isOw_get (by rw [resE_get hl, if_pos h])
      · exact (isOw_get (by rw [resE_get hl, if_neg h])).trans (hA2 j)
    have oR : Owns (resE env1 env2 vs) σ = Owns env1 σ := owns_shape shpR
    refine w1 (.ref A) H2 ⟨SX.lessX fun a h => .inl h, fun j => (shpR j).trans (s.shp j), s.sm.trans (by rw [← s.own]; exact sm), fun hpu => ?_⟩ ⟨A, .dK acc, rfl, hA0, hD, SX, ?_⟩
    · obtain ⟨p1, p2⟩ := hp hpu
      have h1 : pu = true := by simp only [Bool.and_eq_true] at hpu; exact hpu.1
      obtain ⟨r1, r2⟩ := s.pr h1
      refine ⟨?_, r2.trans p2⟩
      rw [p1, resE_wipe wipeE_len, r1]
    · refine hacc.same (hide_sub fun b z => ?_)
      unfold Hid at z
      rw [oR] at z
      rcases z with (z | z) | z
      · exact .inl z
      · exact .inr (.inl z)
      · exact .inr (.inr z)
theorem f_dc (C : Cok nn X W P w K mg base N sc k bk) (own : List (Str × Nat)) (ok : blkC N sc scope own = true) (hi : DI X g tg pu iter mi W) (hg : AllB X scope fun X' => DG X' g (own.map (·.2)) tg mt) (ht : AllB X scope fun X' => DC X' g pu1 ifs tt) (hk : AllB X scope fun X' => DE X' g pu2 sh kx mk W0) (he : AllB X scope fun X' => DE X' g pu3 false vx me W0)
    (hs : ∀ x, foldedSetIterable iter X.env x = pure x := by intro _; rfl) : DF X g (pu && (pu1 && (pu2 && pu3))) (.DictComp kx vx [⟨tg, iter, ifs, 0⟩] scope pos) (dDc mi mt tt mk me (own.map (·.2))) W :=
  PE.imp (pe_dc C.calm (by rw [C.eN]; exact C.nd) hi (blk_ok C ok) hg ht hk he hs) fun σ H Q h => t_dc h
end
end Dn

/-! PG1 -/
set_option Elab.async false
set_option linter.all false
set_option maxRecDepth 100000
set_option maxHeartbeats 1000000
namespace Dn
namespace LW
open PySem
/-! ### plain facts for every law -/
theorem dEq_int (i j : Int) : dEq (.int i) (.int j) = .ok (.bl (decide (i = j))) := rfl
theorem dNe_int (i j : Int) : dNe (.int i) (.int j) = .ok (.bl (!decide (i = j))) := rfl
theorem natAbs_mul_lt {a b : Int} {m n : Nat} (h1 : a.natAbs < 2 ^ m) (h2 : b.natAbs < 2 ^ n) : (a * b).natAbs < 2 ^ (m + n) := by
  rw [Int.natAbs_mul, Nat.pow_add]
  exact Nat.mul_lt_mul'' h1 h2
theorem lcL_map {mt : Gv} {te : Ev} {vs : List Nat} {f : D → D} {env : En} : ∀ (ds : List D), (∀ d, d ∈ ds → ∃ e1 e2, mt d env = .ok e1 ∧ te e1 = .ok (f d, e2) ∧ wipeE e2 vs = env) → lcL mt dYes te vs ds env = .ok (ds.map f, env)
  | [], _ => rfl
  | d :: r, h => by
    obtain ⟨e1, e2, q1, q2, q3⟩ := h d List.mem_cons_self
    unfold lcL
    rw [q1, bnd_ok]
    simp only [dYes, bnd_ok, if_true, q2, q3]
    rw [lcL_map r fun d' hd => h d' (List.mem_cons_of_mem _ hd)]
    rfl
/-- a comprehension with a test -/
theorem lcL_fmap {mt : Gv} {tt : Tv} {te : Ev} {vs : List Nat} {P : D → Bool} {f : D → D} {env : En} : ∀ (ds : List D), (∀ d, d ∈ ds → ∃ e1 e2 e3, mt d env = .ok e1 ∧ tt e1 = .ok (P d, e2) ∧ wipeE e2 vs = env ∧ (P d = true → te e2 = .ok (f d, e3) ∧ wipeE e3 vs = env)) → lcL mt tt te vs ds env = .ok ((ds.filter P).map f, env)
  | [], _ => rfl
  | d :: r, h => by
    obtain ⟨e1, e2, e3, q1, q2, q3, q4⟩ := h d List.mem_cons_self
    unfold lcL
    rw [q1, bnd_ok, q2, bnd_ok]
    have ih := lcL_fmap (P := P) (f := f) r fun d' hd => h d' (List.mem_cons_of_mem _ hd)
    cases hp : P d with
    | true => obtain ⟨q5, q6⟩ := q4 hp; simp only [if_true, q5, bnd_ok, q6, ih, List.filter_cons, hp, List.map_cons]
    | false =>
      simp only [Bool.false_eq_true, if_false, q3, ih, List.filter_cons, hp]
theorem bools_map : ∀ (bs : List Bool), bools (bs.map D.bl) = some bs
  | [] => rfl
  | b :: r => by
    rw [List.map_cons]
    unfold bools
    rw [bools_map r]
    rfl
theorem intsOf_map : ∀ (ss : List Int), intsOf (ss.map D.int) = some ss
  | [] => rfl
  | s :: r => by
    rw [List.map_cons]
    unfold intsOf
    rw [intsOf_map r]
    rfl
theorem intsOf_some : ∀ {ds : List D} {ws : List Int}, intsOf ds = some ws → ds = ws.map D.int
  | [], ws, h => by cases h; rfl
  | d :: r, ws, h => by
    cases d with
    | int i =>
      unfold intsOf at h
      cases e : intsOf r with
      | none => rw [e] at h; cases h
      | some w => rw [e] at h; cases h; rw [intsOf_some e]; rfl
    | _ => cases h
/-- whether it is an integer -/
def isI : D → Bool
  | .int _ => true
  | _ => false
theorem all_isI : ∀ (ds : List D), ds.all isI = (intsOf ds).isSome
  | [] => rfl
  | d :: r => by
    cases d with
    | int i =>
      rw [List.all_cons, all_isI r, show intsOf (D.int i :: r) = (intsOf r).map (i :: ·) from rfl]
      cases intsOf r <;> rfl
    | _ => rfl
theorem bAll_map (bs : List Bool) : bAll [.lst (bs.map D.bl)] = .ok (.bl (bs.all id)) := by
  simp only [bAll, bools_map]
theorem bAll_mapf {α : Type} (f : α → Bool) (xs : List α) : bAll [.lst (xs.map fun x => D.bl (f x))] = .ok (.bl (xs.all f)) := by
  rw [show xs.map (fun x => D.bl (f x)) = (xs.map f).map D.bl by rw [List.map_map]; rfl, bAll_map, List.all_map]
  rfl
theorem bSum_map (ss : List Int) : bSum [.lst (ss.map D.int)] = .ok (.int ss.sum) := by
  simp only [bSum, intsOf_map]
theorem dRng_ok {ms : Av} {env env' : En} {n : Int} (h : ms env = .ok ([.int n], env')) (h0 : smallI n = true) : dRng ms env = .ok (rngD 0 1 n.toNat, env') := by
  unfold dRng
  rw [h, bnd_ok]
  simp only [h0, if_true]
theorem mx2 : 2 ≤ maxSeq := by decide
theorem mx : 0 < maxSeq ∧ 1 < maxSeq ∧ 1 ≤ maxSeq ∧ 2 ≤ maxSeq := by decide
theorem mxs : 1 ≤ maxSeq ∧ 2 ≤ maxSeq ∧ 3 ≤ maxSeq ∧ 4 ≤ maxSeq ∧ 5 ≤ maxSeq ∧ 6 ≤ maxSeq ∧ 7 ≤ maxSeq ∧ 8 ≤ maxSeq ∧ 9 ≤ maxSeq ∧ 10 ≤ maxSeq ∧ 11 ≤ maxSeq ∧ 12 ≤ maxSeq ∧ 13 ≤ maxSeq ∧ 14 ≤ maxSeq ∧ 15 ≤ maxSeq ∧ 16 ≤ maxSeq := by decide
theorem le_maxSeq {n : Nat} (h : n ≤ 1000) : n ≤ maxSeq := Nat.le_trans h (by decide)
theorem smallI_of_le {n : Int} (h0 : 0 ≤ n) (h : n ≤ 1000) : smallI n = true := by
  unfold smallI
  rw [Bool.and_eq_true, decide_eq_true_eq, decide_eq_true_eq]
  omega
theorem dCall1 {f : List D → M D} {m : Ev} {env env' : En} {a r : D} (h : m env = .ok (a, env')) (hf : f [a] = .ok r) : dCall f (dCons m dNil) env = .ok (r, env') := by
  simp [dCall, dCons, dNil, h, hf]
theorem dCall2 {f : List D → M D} {m1 m2 : Ev} {env e1 e2 : En} {a b r : D} (h1 : m1 env = .ok (a, e1)) (h2 : m2 e1 = .ok (b, e2)) (hf : f [a, b] = .ok r) : dCall f (dCons m1 (dCons m2 dNil)) env = .ok (r, e2) := by
  simp [dCall, dCons, dNil, h1, h2, hf]
theorem dBin_ok {f : D → D → M D} {m1 m2 : Ev} {env e1 e2 : En} {a b r : D} (h1 : m1 env = .ok (a, e1)) (h2 : m2 e1 = .ok (b, e2)) (hf : f a b = .ok r) : dBin f m1 m2 env = .ok (r, e2) := by
  simp [dBin, h1, h2, hf]
theorem dTb_ok {m : Ev} {env e1 : En} {b : Bool} (h : m env = .ok (.bl b, e1)) : dTb m env = .ok (b, e1) := by
  simp [dTb, h]
theorem dTNot_ok {t : Tv} {env e1 : En} {b : Bool} (h : t env = .ok (b, e1)) : dTNot t env = .ok (!b, e1) := by
  simp [dTNot, h]
theorem dCons_ok {m : Ev} {ms : Av} {env e1 e2 : En} {a : D} {as : List D} (h1 : m env = .ok (a, e1)) (h2 : ms e1 = .ok (as, e2)) : dCons m ms env = .ok (a :: as, e2) := by
  simp [dCons, h1, h2]
theorem dCallN {f : List D → M D} {ms : Av} {env e1 : En} {as : List D} {r : D} (h1 : ms env = .ok (as, e1)) (hf : f as = .ok r) : dCall f ms env = .ok (r, e1) := by
  simp [dCall, h1, hf]
theorem sRet_ok {m : Ev} {env e1 : En} {d : D} (h : m env = .ok (d, e1)) : sRet m env = .ok (.rt d, e1) := by
  simp [sRet, h]
theorem dIf_ok {t : Tv} {m1 m2 : Ev} {env e1 : En} {b : Bool} (h : t env = .ok (b, e1)) : dIf t m1 m2 env = if b = true then m1 e1 else m2 e1 := by
  simp [dIf, h]
theorem sRaise_ok {i : Nat} {m : Ev} {env e1 : En} {d : D} (h : m env = .ok (d, e1)) : sRaise i m env = .error (.raise i d) := by
  simp [sRaise, h]
theorem dLst_ok {ms : Av} {env env' : En} {ds : List D} (h : ms env = .ok (ds, env')) (hl : ds.length ≤ 1000) : dLst ms env = .ok (.lst ds, env') := by
  unfold dLst
  rw [h, bnd_ok]
  simp only [le_maxSeq hl, if_true]
theorem dItems_lst {m : Ev} {env env' : En} {ds : List D} (h : m env = .ok (.lst ds, env')) : dItems m env = .ok (ds, env') := by
  unfold dItems
  rw [h]
  rfl
theorem dItems_tup {m : Ev} {env env' : En} {ds : List D} (h : m env = .ok (.tup ds, env')) : dItems m env = .ok (ds, env') := by
  unfold dItems
  rw [h]
  rfl
theorem set_back {env : En} {v : Nat} {s : Sl} (h1 : env[v]? = some s) : env.set v s = env := by
  apply List.ext_getElem?
  intro k
  by_cases e : v = k
  · subst e
    rw [List.getElem?_set, h1]
    have := (List.getElem?_eq_some_iff.mp h1).1
    simp [this]
  · rw [List.getElem?_set_ne e]
/-- a comprehension whose parts may change the slots (a drawing), but for the own one -/
theorem dLc_gen {mi : Iv} {mt : Gv} {tt : Tv} {te : Ev} {v : Nat} {env e0 e1 : En} {s : Sl} {ds rs : List D} (h : mi env = .ok (ds, e0)) (h0 : isOw e0 v = false) (h1 : e0[v]? = some s) (h2 : lcL mt tt te [v] ds (e0.set v .un) = .ok (rs, e1)) (h3 : rs.length ≤ 1000) : dLc mi mt tt te [v] env = .ok (.lst rs, e1.set v s) := by
  unfold dLc
  rw [h, bnd_ok]
  simp only [noOw, List.all_cons, List.all_nil, h0, Bool.not_false, Bool.and_self, if_true, wipeE, h2, ns_ok, bnd_ok, le_maxSeq h3, resE, h1, Option.getD_some]
theorem dLc_ok2 {mi : Iv} {mt : Gv} {tt : Tv} {te : Ev} {v : Nat} {env : En} {s : Sl} {ds rs : List D} (h : mi env = .ok (ds, env)) (h0 : isOw env v = false) (h1 : env[v]? = some s) (h2 : lcL mt tt te [v] ds (env.set v .un) = .ok (rs, env.set v .un)) (h3 : rs.length ≤ 1000) : dLc mi mt tt te [v] env = .ok (.lst rs, env) := by
  rw [dLc_gen h h0 h1 h2 h3, List.set_set, set_back h1]
theorem dTr_lst {m : Ev} {env env' : En} {rs : List D} (h : m env = .ok (.lst rs, env')) : dTr m env = .ok (!rs.isEmpty, env') := by
  unfold dTr
  rw [h]
  rfl
theorem dTr_bl {m : Ev} {env env' : En} {b : Bool} (h : m env = .ok (.bl b, env')) : dTr m env = .ok (b, env') := by
  unfold dTr
  rw [h]
  rfl
theorem ixl (x y : D) : dIx (.lst [x, y]) (.int 0) = .ok x ∧ dIx (.lst [x, y]) (.int 1) = .ok y := ⟨rfl, rfl⟩
theorem ixt (x y : D) : dIx (.tup [x, y]) (.int 0) = .ok x ∧ dIx (.tup [x, y]) (.int 1) = .ok y := ⟨rfl, rfl⟩
def intsD (ss : List Int) : D := .tup (ss.map D.int)
def intsL (ss : List Int) : D := .lst (ss.map D.int)
theorem ix_ints {ss : List Int} {i : Nat} {a : Int} (h : ss[i]? = some a) : dIx (intsD ss) (.int i) = .ok (.int a) := by
  have hi := (List.getElem?_eq_some_iff.mp h).1
  have e : ss[i] = a := by rw [List.getElem?_eq_getElem hi] at h; exact Option.some.inj h
  unfold intsD
  simp [dIx, L2.atI, L2.ixN, hi, e]
theorem ix_intsL {ss : List Int} {i : Nat} {a : Int} (h : ss[i]? = some a) : dIx (intsL ss) (.int i) = .ok (.int a) := by
  have hi := (List.getElem?_eq_some_iff.mp h).1
  have e : ss[i] = a := by rw [List.getElem?_eq_getElem hi] at h; exact Option.some.inj h
  unfold intsL
  simp [dIx, L2.atI, L2.ixN, hi, e]
theorem ix_tup {ds : List D} {i : Nat} {a : D} (h : ds[i]? = some a) : dIx (.tup ds) (.int i) = .ok a := by
  have hi := (List.getElem?_eq_some_iff.mp h).1
  have e : ds[i] = a := by rw [List.getElem?_eq_getElem hi] at h; exact Option.some.inj h
  simp [dIx, L2.atI, L2.ixN, hi, e]
theorem len_ints (ss : List Int) : bLen [intsD ss] = .ok (.int ss.length) := by unfold intsD; simp [bLen]
theorem mem_rng {n : Nat} {d : D} (h : d ∈ rngD 0 1 n) : ∃ k : Nat, k < n ∧ d = .int k := by
  unfold rngD at h
  obtain ⟨k, h1, h2⟩ := List.mem_map.mp h
  exact ⟨k, List.mem_range.mp h1, by rw [← h2]; congr 1; omega⟩
theorem rng_eq (n : Nat) : rngD 0 1 n = (List.range n).map fun k => D.int (k : Nat) := by
  unfold rngD
  apply List.map_congr_left
  intro k _
  congr 1
  omega
theorem ne_lit {x : Str} (h : x.cps.all (· < 0x110000) = true) : dNe (.str x) (.str x) = .ok (.bl false) := by
  have e : (x == x) = true := beq_self_eq_true x
  unfold dNe D.ok
  simp only [D.lay, D.dep, D.eqv, h, e, Nat.zero_le, decide_true, Bool.and_self, if_true, Bool.not_true]
theorem ne_self {d : D} (h : d.ok = true) (e : D.eqv d d = true) : dNe d d = .ok (.bl false) := by
  unfold dNe
  simp only [h, e, Bool.and_self, if_true, Bool.not_true]
theorem eq_self {d : D} (h : d.ok = true) (e : D.eqv d d = true) : dEq d d = .ok (.bl true) := by
  unfold dEq
  simp only [h, e, Bool.and_self, if_true]
theorem okS {x : Str} (h : x.cps.all (· < 0x110000) = true) : (D.str x).ok = true ∧ (D.str x).lay = true ∧ (D.str x).dep = 0 ∧ D.eqv (.str x) (.str x) = true := by
  refine ⟨?_, ?_, ?_, ?_⟩
  · unfold D.ok; simp only [D.lay, D.dep, h, Nat.zero_le, decide_true, Bool.and_self]
  · simp only [D.lay, h]
  · simp only [D.dep]
  · simp only [D.eqv]; exact beq_self_eq_true x
theorem rep_lay {x : Str} (h : x.cps.all (· < 0x110000) = true) : ∀ n : Nat, D.lays (List.replicate n (.str x)) = true ∧ D.deps (List.replicate n (.str x)) = 0 ∧ D.eqvs (List.replicate n (.str x)) (List.replicate n (.str x)) = true
  | 0 => by simp [D.lays, D.deps, D.eqvs]
  | n + 1 => by
    obtain ⟨a, b, c⟩ := rep_lay h n
    obtain ⟨_, l, d, e⟩ := okS h
    simp only [List.replicate_succ, D.lays, D.deps, D.eqvs, a, b, c, l, d, e, Bool.and_self, Nat.max_self, and_self]
/-- [x] * n beside itself -/
theorem ne_rep {x : Str} (h : x.cps.all (· < 0x110000) = true) (n : Nat) : dNe (.lst (List.replicate n (.str x))) (.lst (List.replicate n (.str x))) = .ok (.bl false) := by
  obtain ⟨a, b, c⟩ := rep_lay h n
  refine ne_self ?_ ?_
  · unfold D.ok; simp only [D.lay, D.dep, a, b]; rfl
  · simp only [D.eqv, c]
theorem mul_rep (x : D) (n : Nat) (h : n ≤ 1000) : dMul (.lst [x]) (.int n) = .ok (.lst (List.replicate n x)) := by
  have e : repD n [x] = List.replicate n x := by
    unfold repD
    rw [Int.toNat_natCast]
    clear h
    induction n with
    | zero => rfl
    | succ n ih => rw [List.replicate_succ, List.flatten_cons, ih]; rfl
  have h1 : (n : Int) ≤ 16777216 := by omega
  have h2 : (-16777216 : Int) ≤ n := by omega
  have h3 : ([x] : List D).length * (n : Int).toNat ≤ maxSeq := by rw [Int.toNat_natCast]; exact le_maxSeq (by simpa using h)
  simp only [dMul, e, h1, h2, h3, decide_true, Bool.and_self, if_true]
theorem stp {s rest : Sv} {env e' : En} (h : s env = .ok (.nx, e')) : bSeq s rest env = rest e' := by unfold bSeq; rw [h]; rfl
theorem stpk {s rest : Sv} {env e' : En} {R : M (Fl × En)} (h : s env = .ok (.nx, e')) (k : rest e' = R) : bSeq s rest env = R := by rw [stp h]; exact k
theorem stpw {s rest : Sv} {env e' : En} {Q : Fl × En → Prop} (h : s env = .ok (.nx, e')) (k : wm (rest e') Q) : wm (bSeq s rest env) Q := by rw [stp h]; exact k
theorem sIf_f {t : Tv} {x y : Sv} {env e' : En} (h : t env = .ok (false, e')) : sIf t x y env = y e' := by unfold sIf; rw [h]; rfl
theorem sIf_t {t : Tv} {x y : Sv} {env e' : En} (h : t env = .ok (true, e')) : sIf t x y env = x e' := by unfold sIf; rw [h]; rfl
theorem sSet_ok {i : Nat} {m : Ev} {env e' : En} {d : D} (h : m env = .ok (d, e')) : sSet (i + 1) m env = .ok (.nx, e'.set (i + 1) (.va d)) := by unfold sSet; rw [h]; rfl
theorem bInt_bl (b : Bool) : bInt [.bl b] = .ok (.int (if b = true then 1 else 0)) := by cases b <;> rfl
/-- a loop that goes on to its end -/
theorem forL_nx {mt : Gv} {mb : Sv} (I : En → Prop) : ∀ (ds : List D) (env : En), (∀ d, d ∈ ds → ∀ e, I e → ∃ e1 e2, mt d e = .ok e1 ∧ mb e1 = .ok (.nx, e2) ∧ I e2) → I env → ∃ e', forL mt mb ds env = .ok (.nx, e') ∧ I e'
  | [], env, _, h => ⟨env, rfl, h⟩
  | d :: r, env, hs, h => by
    obtain ⟨e1, e2, q1, q2, q3⟩ := hs d List.mem_cons_self env h
    obtain ⟨e', q4, q5⟩ := forL_nx I r e2 (fun d' hd => hs d' (List.mem_cons_of_mem _ hd)) q3
    refine ⟨e', ?_, q5⟩
    unfold forL
    rw [q1, ns_ok, bnd_ok, q2, bnd_ok]
    exact q4
/-- a comprehension whose parts may change the slots -/
theorem lcL_inv {mt : Gv} {te : Ev} {vs : List Nat} (I : En → Prop) (P : D → Prop) : ∀ (ds : List D) (env : En), (∀ d, d ∈ ds → ∀ e, I e → ∃ e1 e2 r, mt d e = .ok e1 ∧ te e1 = .ok (r, e2) ∧ P r ∧ I (wipeE e2 vs)) → I env → ∃ rs e', lcL mt dYes te vs ds env = .ok (rs, e') ∧ rs.length = ds.length ∧ (∀ r, r ∈ rs → P r) ∧ I e'
  | [], env, _, h => ⟨[], env, rfl, rfl, (fun _ z => by cases z), h⟩
  | d :: r, env, hs, h => by
    obtain ⟨e1, e2, x, q1, q2, q3, q4⟩ := hs d List.mem_cons_self env h
    obtain ⟨rs, e', q5, q6, q7, q8⟩ := lcL_inv I P r (wipeE e2 vs) (fun d' hd => hs d' (List.mem_cons_of_mem _ hd)) q4
    refine ⟨x :: rs, e', ?_, by simp [q6], ?_, q8⟩
    · unfold lcL
      rw [q1, bnd_ok]
      simp only [dYes, bnd_ok, if_true, q2]
      rw [q5]
      rfl
    · intro y hy
      rcases List.mem_cons.mp hy with rfl | hy
      · exact q3
      · exact q7 y hy
theorem ints_of {rs : List D} {P : Int → Prop} (h : ∀ r, r ∈ rs → ∃ i, r = .int i ∧ P i) : ∃ ss : List Int, rs = ss.map D.int ∧ ∀ s, s ∈ ss → P s := by
  induction rs with
  | nil => exact ⟨[], rfl, (fun _ z => by cases z)⟩
  | cons r rs ih =>
    obtain ⟨ss, e, hs⟩ := ih fun x hx => h x (List.mem_cons_of_mem _ hx)
    obtain ⟨i, rfl, hi⟩ := h r List.mem_cons_self
    refine ⟨i :: ss, by rw [e]; rfl, fun s z => ?_⟩
    rcases List.mem_cons.mp z with rfl | z
    · exact hi
    · exact hs s z
end LW
end Dn

/-! L04 -/
set_option Elab.async false
set_option linter.all false
set_option maxRecDepth 100000
set_option maxHeartbeats 4000000
namespace Dn
namespace LW
open PySem PySem.Spec L2
open PyProof.Rows hiding St
abbrev PP : Program := PySem.Challenge.pw_doneorundone_k04_arguments_of_trees
def top (i : Nat) : Stmt := PP.main.body.getD i (.Pass ⟨0, 0, 0, 0⟩)
theorem dbg_GROUPS : (("GROUPS" : Str) == ("__debug__" : Str)) = false := by decide +kernel
theorem cld_GROUPS : (("GROUPS" : Str) == ("__classdict__" : Str)) = false := by decide +kernel
theorem dbg_MAX_AGAIN : (("MAX_AGAIN" : Str) == ("__debug__" : Str)) = false := by decide +kernel
theorem cld_MAX_AGAIN : (("MAX_AGAIN" : Str) == ("__classdict__" : Str)) = false := by decide +kernel
theorem dbg_MAX_DEPTH : (("MAX_DEPTH" : Str) == ("__debug__" : Str)) = false := by decide +kernel
theorem cld_MAX_DEPTH : (("MAX_DEPTH" : Str) == ("__classdict__" : Str)) = false := by decide +kernel
theorem dbg_MAX_LEAVES : (("MAX_LEAVES" : Str) == ("__debug__" : Str)) = false := by decide +kernel
theorem cld_MAX_LEAVES : (("MAX_LEAVES" : Str) == ("__classdict__" : Str)) = false := by decide +kernel
theorem dbg_MAX_NAME : (("MAX_NAME" : Str) == ("__debug__" : Str)) = false := by decide +kernel
theorem cld_MAX_NAME : (("MAX_NAME" : Str) == ("__classdict__" : Str)) = false := by decide +kernel
theorem dbg_MAX_RUN : (("MAX_RUN" : Str) == ("__debug__" : Str)) = false := by decide +kernel
theorem cld_MAX_RUN : (("MAX_RUN" : Str) == ("__classdict__" : Str)) = false := by decide +kernel
theorem dbg__law_called : (("_law_called" : Str) == ("__debug__" : Str)) = false := by decide +kernel
theorem cld__law_called : (("_law_called" : Str) == ("__classdict__" : Str)) = false := by decide +kernel
theorem dbg__law_draw : (("_law_draw" : Str) == ("__debug__" : Str)) = false := by decide +kernel
theorem cld__law_draw : (("_law_draw" : Str) == ("__classdict__" : Str)) = false := by decide +kernel
theorem dbg__law_every : (("_law_every" : Str) == ("__debug__" : Str)) = false := by decide +kernel
theorem cld__law_every : (("_law_every" : Str) == ("__classdict__" : Str)) = false := by decide +kernel
theorem dbg__law_heard : (("_law_heard" : Str) == ("__debug__" : Str)) = false := by decide +kernel
theorem cld__law_heard : (("_law_heard" : Str) == ("__classdict__" : Str)) = false := by decide +kernel
theorem dbg__law_names : (("_law_names" : Str) == ("__debug__" : Str)) = false := by decide +kernel
theorem cld__law_names : (("_law_names" : Str) == ("__classdict__" : Str)) = false := by decide +kernel
theorem dbg__law_pick : (("_law_pick" : Str) == ("__debug__" : Str)) = false := by decide +kernel
theorem cld__law_pick : (("_law_pick" : Str) == ("__classdict__" : Str)) = false := by decide +kernel
theorem dbg__law_start : (("_law_start" : Str) == ("__debug__" : Str)) = false := by decide +kernel
theorem cld__law_start : (("_law_start" : Str) == ("__classdict__" : Str)) = false := by decide +kernel
theorem dbg__law_within : (("_law_within" : Str) == ("__debug__" : Str)) = false := by decide +kernel
theorem cld__law_within : (("_law_within" : Str) == ("__classdict__" : Str)) = false := by decide +kernel
theorem dbg__law_word : (("_law_word" : Str) == ("__debug__" : Str)) = false := by decide +kernel
theorem cld__law_word : (("_law_word" : Str) == ("__classdict__" : Str)) = false := by decide +kernel
theorem dbg_abs : (("abs" : Str) == ("__debug__" : Str)) = false := by decide +kernel
theorem cld_abs : (("abs" : Str) == ("__classdict__" : Str)) = false := by decide +kernel
theorem dbg_all : (("all" : Str) == ("__debug__" : Str)) = false := by decide +kernel
theorem cld_all : (("all" : Str) == ("__classdict__" : Str)) = false := by decide +kernel
theorem dbg_any : (("any" : Str) == ("__debug__" : Str)) = false := by decide +kernel
theorem cld_any : (("any" : Str) == ("__classdict__" : Str)) = false := by decide +kernel
theorem dbg_any_ended : (("any_ended" : Str) == ("__debug__" : Str)) = false := by decide +kernel
theorem cld_any_ended : (("any_ended" : Str) == ("__classdict__" : Str)) = false := by decide +kernel
theorem dbg_at : (("at" : Str) == ("__debug__" : Str)) = false := by decide +kernel
theorem cld_at : (("at" : Str) == ("__classdict__" : Str)) = false := by decide +kernel
theorem dbg_call : (("call" : Str) == ("__debug__" : Str)) = false := by decide +kernel
theorem cld_call : (("call" : Str) == ("__classdict__" : Str)) = false := by decide +kernel
theorem dbg_cell : (("cell" : Str) == ("__debug__" : Str)) = false := by decide +kernel
theorem cld_cell : (("cell" : Str) == ("__classdict__" : Str)) = false := by decide +kernel
theorem dbg_check_tree : (("check_tree" : Str) == ("__debug__" : Str)) = false := by decide +kernel
theorem cld_check_tree : (("check_tree" : Str) == ("__classdict__" : Str)) = false := by decide +kernel
theorem dbg_choose : (("choose" : Str) == ("__debug__" : Str)) = false := by decide +kernel
theorem cld_choose : (("choose" : Str) == ("__classdict__" : Str)) = false := by decide +kernel
theorem dbg_count_ways : (("count_ways" : Str) == ("__debug__" : Str)) = false := by decide +kernel
theorem cld_count_ways : (("count_ways" : Str) == ("__classdict__" : Str)) = false := by decide +kernel
theorem dbg_deep : (("deep" : Str) == ("__debug__" : Str)) = false := by decide +kernel
theorem cld_deep : (("deep" : Str) == ("__classdict__" : Str)) = false := by decide +kernel
theorem dbg_depth : (("depth" : Str) == ("__debug__" : Str)) = false := by decide +kernel
theorem cld_depth : (("depth" : Str) == ("__classdict__" : Str)) = false := by decide +kernel
theorem dbg_ended : (("ended" : Str) == ("__debug__" : Str)) = false := by decide +kernel
theorem cld_ended : (("ended" : Str) == ("__classdict__" : Str)) = false := by decide +kernel
theorem dbg_enumerate : (("enumerate" : Str) == ("__debug__" : Str)) = false := by decide +kernel
theorem cld_enumerate : (("enumerate" : Str) == ("__classdict__" : Str)) = false := by decide +kernel
theorem dbg_error : (("error" : Str) == ("__debug__" : Str)) = false := by decide +kernel
theorem cld_error : (("error" : Str) == ("__classdict__" : Str)) = false := by decide +kernel
theorem dbg_few : (("few" : Str) == ("__debug__" : Str)) = false := by decide +kernel
theorem cld_few : (("few" : Str) == ("__classdict__" : Str)) = false := by decide +kernel
theorem dbg_first : (("first" : Str) == ("__debug__" : Str)) = false := by decide +kernel
theorem cld_first : (("first" : Str) == ("__classdict__" : Str)) = false := by decide +kernel
theorem dbg_follow : (("follow" : Str) == ("__debug__" : Str)) = false := by decide +kernel
theorem cld_follow : (("follow" : Str) == ("__classdict__" : Str)) = false := by decide +kernel
theorem dbg_found : (("found" : Str) == ("__debug__" : Str)) = false := by decide +kernel
theorem cld_found : (("found" : Str) == ("__classdict__" : Str)) = false := by decide +kernel
theorem dbg_further : (("further" : Str) == ("__debug__" : Str)) = false := by decide +kernel
theorem cld_further : (("further" : Str) == ("__classdict__" : Str)) = false := by decide +kernel
theorem dbg_heads : (("heads" : Str) == ("__debug__" : Str)) = false := by decide +kernel
theorem cld_heads : (("heads" : Str) == ("__classdict__" : Str)) = false := by decide +kernel
theorem dbg_here : (("here" : Str) == ("__debug__" : Str)) = false := by decide +kernel
theorem cld_here : (("here" : Str) == ("__classdict__" : Str)) = false := by decide +kernel
theorem dbg_high : (("high" : Str) == ("__debug__" : Str)) = false := by decide +kernel
theorem cld_high : (("high" : Str) == ("__classdict__" : Str)) = false := by decide +kernel
theorem dbg_int : (("int" : Str) == ("__debug__" : Str)) = false := by decide +kernel
theorem cld_int : (("int" : Str) == ("__classdict__" : Str)) = false := by decide +kernel
theorem dbg_is_between : (("is_between" : Str) == ("__debug__" : Str)) = false := by decide +kernel
theorem cld_is_between : (("is_between" : Str) == ("__classdict__" : Str)) = false := by decide +kernel
theorem dbg_is_integer : (("is_integer" : Str) == ("__debug__" : Str)) = false := by decide +kernel
theorem cld_is_integer : (("is_integer" : Str) == ("__classdict__" : Str)) = false := by decide +kernel
theorem dbg_is_name : (("is_name" : Str) == ("__debug__" : Str)) = false := by decide +kernel
theorem cld_is_name : (("is_name" : Str) == ("__classdict__" : Str)) = false := by decide +kernel
theorem dbg_is_tree : (("is_tree" : Str) == ("__debug__" : Str)) = false := by decide +kernel
theorem cld_is_tree : (("is_tree" : Str) == ("__classdict__" : Str)) = false := by decide +kernel
theorem dbg_isinstance : (("isinstance" : Str) == ("__debug__" : Str)) = false := by decide +kernel
theorem cld_isinstance : (("isinstance" : Str) == ("__classdict__" : Str)) = false := by decide +kernel
theorem dbg_joined : (("joined" : Str) == ("__debug__" : Str)) = false := by decide +kernel
theorem cld_joined : (("joined" : Str) == ("__classdict__" : Str)) = false := by decide +kernel
theorem dbg_judge_run : (("judge_run" : Str) == ("__debug__" : Str)) = false := by decide +kernel
theorem cld_judge_run : (("judge_run" : Str) == ("__classdict__" : Str)) = false := by decide +kernel
theorem dbg_k : (("k" : Str) == ("__debug__" : Str)) = false := by decide +kernel
theorem cld_k : (("k" : Str) == ("__classdict__" : Str)) = false := by decide +kernel
theorem dbg_kind : (("kind" : Str) == ("__debug__" : Str)) = false := by decide +kernel
theorem cld_kind : (("kind" : Str) == ("__classdict__" : Str)) = false := by decide +kernel
theorem dbg_law : (("law" : Str) == ("__debug__" : Str)) = false := by decide +kernel
theorem cld_law : (("law" : Str) == ("__classdict__" : Str)) = false := by decide +kernel
theorem dbg_leaf : (("leaf" : Str) == ("__debug__" : Str)) = false := by decide +kernel
theorem cld_leaf : (("leaf" : Str) == ("__classdict__" : Str)) = false := by decide +kernel
theorem dbg_len : (("len" : Str) == ("__debug__" : Str)) = false := by decide +kernel
theorem cld_len : (("len" : Str) == ("__classdict__" : Str)) = false := by decide +kernel
theorem dbg_length_of : (("length_of" : Str) == ("__debug__" : Str)) = false := by decide +kernel
theorem cld_length_of : (("length_of" : Str) == ("__classdict__" : Str)) = false := by decide +kernel
theorem dbg_lengths : (("lengths" : Str) == ("__debug__" : Str)) = false := by decide +kernel
theorem cld_lengths : (("lengths" : Str) == ("__classdict__" : Str)) = false := by decide +kernel
theorem dbg_letters : (("letters" : Str) == ("__debug__" : Str)) = false := by decide +kernel
theorem cld_letters : (("letters" : Str) == ("__classdict__" : Str)) = false := by decide +kernel
theorem dbg_list : (("list" : Str) == ("__debug__" : Str)) = false := by decide +kernel
theorem cld_list : (("list" : Str) == ("__classdict__" : Str)) = false := by decide +kernel
theorem dbg_long : (("long" : Str) == ("__debug__" : Str)) = false := by decide +kernel
theorem cld_long : (("long" : Str) == ("__classdict__" : Str)) = false := by decide +kernel
theorem dbg_low : (("low" : Str) == ("__debug__" : Str)) = false := by decide +kernel
theorem cld_low : (("low" : Str) == ("__classdict__" : Str)) = false := by decide +kernel
theorem dbg_made : (("made" : Str) == ("__debug__" : Str)) = false := by decide +kernel
theorem cld_made : (("made" : Str) == ("__classdict__" : Str)) = false := by decide +kernel
theorem dbg_many : (("many" : Str) == ("__debug__" : Str)) = false := by decide +kernel
theorem cld_many : (("many" : Str) == ("__classdict__" : Str)) = false := by decide +kernel
theorem dbg_max : (("max" : Str) == ("__debug__" : Str)) = false := by decide +kernel
theorem cld_max : (("max" : Str) == ("__classdict__" : Str)) = false := by decide +kernel
theorem dbg_min : (("min" : Str) == ("__debug__" : Str)) = false := by decide +kernel
theorem cld_min : (("min" : Str) == ("__classdict__" : Str)) = false := by decide +kernel
theorem dbg_mixed : (("mixed" : Str) == ("__debug__" : Str)) = false := by decide +kernel
theorem cld_mixed : (("mixed" : Str) == ("__classdict__" : Str)) = false := by decide +kernel
theorem dbg_most : (("most" : Str) == ("__debug__" : Str)) = false := by decide +kernel
theorem cld_most : (("most" : Str) == ("__classdict__" : Str)) = false := by decide +kernel
theorem dbg_moved : (("moved" : Str) == ("__debug__" : Str)) = false := by decide +kernel
theorem cld_moved : (("moved" : Str) == ("__classdict__" : Str)) = false := by decide +kernel
theorem dbg_must_have : (("must_have" : Str) == ("__debug__" : Str)) = false := by decide +kernel
theorem cld_must_have : (("must_have" : Str) == ("__classdict__" : Str)) = false := by decide +kernel
theorem dbg_name : (("name" : Str) == ("__debug__" : Str)) = false := by decide +kernel
theorem cld_name : (("name" : Str) == ("__classdict__" : Str)) = false := by decide +kernel
theorem dbg_names : (("names" : Str) == ("__debug__" : Str)) = false := by decide +kernel
theorem cld_names : (("names" : Str) == ("__classdict__" : Str)) = false := by decide +kernel
theorem dbg_names_in : (("names_in" : Str) == ("__debug__" : Str)) = false := by decide +kernel
theorem cld_names_in : (("names_in" : Str) == ("__classdict__" : Str)) = false := by decide +kernel
theorem dbg_needed_in : (("needed_in" : Str) == ("__debug__" : Str)) = false := by decide +kernel
theorem cld_needed_in : (("needed_in" : Str) == ("__classdict__" : Str)) = false := by decide +kernel
theorem dbg_normal : (("normal" : Str) == ("__debug__" : Str)) = false := by decide +kernel
theorem cld_normal : (("normal" : Str) == ("__classdict__" : Str)) = false := by decide +kernel
theorem dbg_normal_of : (("normal_of" : Str) == ("__debug__" : Str)) = false := by decide +kernel
theorem cld_normal_of : (("normal_of" : Str) == ("__classdict__" : Str)) = false := by decide +kernel
theorem dbg_now : (("now" : Str) == ("__debug__" : Str)) = false := by decide +kernel
theorem cld_now : (("now" : Str) == ("__classdict__" : Str)) = false := by decide +kernel
theorem dbg_odd : (("odd" : Str) == ("__debug__" : Str)) = false := by decide +kernel
theorem cld_odd : (("odd" : Str) == ("__classdict__" : Str)) = false := by decide +kernel
theorem dbg_often : (("often" : Str) == ("__debug__" : Str)) = false := by decide +kernel
theorem cld_often : (("often" : Str) == ("__classdict__" : Str)) = false := by decide +kernel
theorem dbg_one : (("one" : Str) == ("__debug__" : Str)) = false := by decide +kernel
theorem cld_one : (("one" : Str) == ("__classdict__" : Str)) = false := by decide +kernel
theorem dbg_other : (("other" : Str) == ("__debug__" : Str)) = false := by decide +kernel
theorem cld_other : (("other" : Str) == ("__classdict__" : Str)) = false := by decide +kernel
theorem dbg_own : (("own" : Str) == ("__debug__" : Str)) = false := by decide +kernel
theorem cld_own : (("own" : Str) == ("__classdict__" : Str)) = false := by decide +kernel
theorem dbg_part : (("part" : Str) == ("__debug__" : Str)) = false := by decide +kernel
theorem cld_part : (("part" : Str) == ("__classdict__" : Str)) = false := by decide +kernel
theorem dbg_part_with : (("part_with" : Str) == ("__debug__" : Str)) = false := by decide +kernel
theorem cld_part_with : (("part_with" : Str) == ("__classdict__" : Str)) = false := by decide +kernel
theorem dbg_parts : (("parts" : Str) == ("__debug__" : Str)) = false := by decide +kernel
theorem cld_parts : (("parts" : Str) == ("__classdict__" : Str)) = false := by decide +kernel
theorem dbg_places : (("places" : Str) == ("__debug__" : Str)) = false := by decide +kernel
theorem cld_places : (("places" : Str) == ("__classdict__" : Str)) = false := by decide +kernel
theorem dbg_range : (("range" : Str) == ("__debug__" : Str)) = false := by decide +kernel
theorem cld_range : (("range" : Str) == ("__classdict__" : Str)) = false := by decide +kernel
theorem dbg_reason : (("reason" : Str) == ("__debug__" : Str)) = false := by decide +kernel
theorem cld_reason : (("reason" : Str) == ("__classdict__" : Str)) = false := by decide +kernel
theorem dbg_relation : (("relation" : Str) == ("__debug__" : Str)) = false := by decide +kernel
theorem cld_relation : (("relation" : Str) == ("__classdict__" : Str)) = false := by decide +kernel
theorem dbg_row : (("row" : Str) == ("__debug__" : Str)) = false := by decide +kernel
theorem cld_row : (("row" : Str) == ("__classdict__" : Str)) = false := by decide +kernel
theorem dbg_rows : (("rows" : Str) == ("__debug__" : Str)) = false := by decide +kernel
theorem cld_rows : (("rows" : Str) == ("__classdict__" : Str)) = false := by decide +kernel
theorem dbg_script : (("script" : Str) == ("__debug__" : Str)) = false := by decide +kernel
theorem cld_script : (("script" : Str) == ("__classdict__" : Str)) = false := by decide +kernel
theorem dbg_second : (("second" : Str) == ("__debug__" : Str)) = false := by decide +kernel
theorem cld_second : (("second" : Str) == ("__classdict__" : Str)) = false := by decide +kernel
theorem dbg_seed : (("seed" : Str) == ("__debug__" : Str)) = false := by decide +kernel
theorem cld_seed : (("seed" : Str) == ("__classdict__" : Str)) = false := by decide +kernel
theorem dbg_sign : (("sign" : Str) == ("__debug__" : Str)) = false := by decide +kernel
theorem cld_sign : (("sign" : Str) == ("__classdict__" : Str)) = false := by decide +kernel
theorem dbg_size : (("size" : Str) == ("__debug__" : Str)) = false := by decide +kernel
theorem cld_size : (("size" : Str) == ("__classdict__" : Str)) = false := by decide +kernel
theorem dbg_sizes : (("sizes" : Str) == ("__debug__" : Str)) = false := by decide +kernel
theorem cld_sizes : (("sizes" : Str) == ("__classdict__" : Str)) = false := by decide +kernel
theorem dbg_some : (("some" : Str) == ("__debug__" : Str)) = false := by decide +kernel
theorem cld_some : (("some" : Str) == ("__classdict__" : Str)) = false := by decide +kernel
theorem dbg_sorted : (("sorted" : Str) == ("__debug__" : Str)) = false := by decide +kernel
theorem cld_sorted : (("sorted" : Str) == ("__classdict__" : Str)) = false := by decide +kernel
theorem dbg_state : (("state" : Str) == ("__debug__" : Str)) = false := by decide +kernel
theorem cld_state : (("state" : Str) == ("__classdict__" : Str)) = false := by decide +kernel
theorem dbg_states : (("states" : Str) == ("__debug__" : Str)) = false := by decide +kernel
theorem cld_states : (("states" : Str) == ("__classdict__" : Str)) = false := by decide +kernel
theorem dbg_steps : (("steps" : Str) == ("__debug__" : Str)) = false := by decide +kernel
theorem cld_steps : (("steps" : Str) == ("__classdict__" : Str)) = false := by decide +kernel
theorem dbg_str : (("str" : Str) == ("__debug__" : Str)) = false := by decide +kernel
theorem cld_str : (("str" : Str) == ("__classdict__" : Str)) = false := by decide +kernel
theorem dbg_sum : (("sum" : Str) == ("__debug__" : Str)) = false := by decide +kernel
theorem cld_sum : (("sum" : Str) == ("__classdict__" : Str)) = false := by decide +kernel
theorem dbg_told : (("told" : Str) == ("__debug__" : Str)) = false := by decide +kernel
theorem cld_told : (("told" : Str) == ("__classdict__" : Str)) = false := by decide +kernel
theorem dbg_tree : (("tree" : Str) == ("__debug__" : Str)) = false := by decide +kernel
theorem cld_tree : (("tree" : Str) == ("__classdict__" : Str)) = false := by decide +kernel
theorem dbg_tuple : (("tuple" : Str) == ("__debug__" : Str)) = false := by decide +kernel
theorem cld_tuple : (("tuple" : Str) == ("__classdict__" : Str)) = false := by decide +kernel
theorem dbg_turn : (("turn" : Str) == ("__debug__" : Str)) = false := by decide +kernel
theorem cld_turn : (("turn" : Str) == ("__classdict__" : Str)) = false := by decide +kernel
theorem dbg_turned : (("turned" : Str) == ("__debug__" : Str)) = false := by decide +kernel
theorem cld_turned : (("turned" : Str) == ("__classdict__" : Str)) = false := by decide +kernel
theorem dbg_turned_of : (("turned_of" : Str) == ("__debug__" : Str)) = false := by decide +kernel
theorem cld_turned_of : (("turned_of" : Str) == ("__classdict__" : Str)) = false := by decide +kernel
theorem dbg_twice : (("twice" : Str) == ("__debug__" : Str)) = false := by decide +kernel
theorem cld_twice : (("twice" : Str) == ("__classdict__" : Str)) = false := by decide +kernel
theorem dbg_value : (("value" : Str) == ("__debug__" : Str)) = false := by decide +kernel
theorem cld_value : (("value" : Str) == ("__classdict__" : Str)) = false := by decide +kernel
theorem dbg_way : (("way" : Str) == ("__debug__" : Str)) = false := by decide +kernel
theorem cld_way : (("way" : Str) == ("__classdict__" : Str)) = false := by decide +kernel
theorem dbg_ways_in : (("ways_in" : Str) == ("__debug__" : Str)) = false := by decide +kernel
theorem cld_ways_in : (("ways_in" : Str) == ("__classdict__" : Str)) = false := by decide +kernel
theorem dbg_wrong : (("wrong" : Str) == ("__debug__" : Str)) = false := by decide +kernel
theorem cld_wrong : (("wrong" : Str) == ("__classdict__" : Str)) = false := by decide +kernel
theorem dbg_zip : (("zip" : Str) == ("__debug__" : Str)) = false := by decide +kernel
theorem cld_zip : (("zip" : Str) == ("__classdict__" : Str)) = false := by decide +kernel
def wposL : List Pos := [⟨244, 4, 244, 9⟩, ⟨244, 13, 244, 20⟩, ⟨244, 22, 244, 33⟩, ⟨244, 35, 244, 43⟩, ⟨244, 45, 244, 52⟩, ⟨244, 12, 244, 53⟩, ⟨244, 4, 244, 53⟩, ⟨245, 4, 245, 9⟩, ⟨245, 13, 245, 23⟩, ⟨245, 24, 245, 29⟩, ⟨245, 31, 245, 40⟩, ⟨245, 13, 245, 41⟩, ⟨245, 43, 245, 53⟩, ⟨245, 54, 245, 59⟩, ⟨245, 61, 245, 74⟩, ⟨245, 43, 245, 75⟩, ⟨245, 77, 245, 87⟩, ⟨245, 88, 245, 93⟩, ⟨245, 95, 245, 105⟩, ⟨245, 77, 245, 106⟩, ⟨245, 108, 245, 118⟩, ⟨245, 119, 245, 124⟩, ⟨245, 126, 245, 133⟩, ⟨245, 108, 245, 134⟩, ⟨245, 12, 245, 135⟩, ⟨245, 4, 245, 135⟩, ⟨246, 54, 246, 59⟩, ⟨246, 54, 246, 65⟩, ⟨246, 66, 246, 70⟩, ⟨246, 54, 246, 71⟩, ⟨246, 75, 246, 76⟩, ⟨246, 54, 246, 76⟩, ⟨246, 81, 246, 91⟩, ⟨246, 92, 246, 97⟩, ⟨246, 99, 246, 109⟩, ⟨246, 81, 246, 110⟩, ⟨246, 54, 246, 110⟩, ⟨246, 11, 246, 16⟩, ⟨246, 17, 246, 22⟩, ⟨246, 17, 246, 28⟩, ⟨246, 29, 246, 33⟩, ⟨246, 17, 246, 34⟩, ⟨246, 11, 246, 35⟩, ⟨246, 38, 246, 43⟩, ⟨246, 38, 246, 50⟩, ⟨246, 11, 246, 50⟩, ⟨246, 116, 246, 123⟩, ⟨246, 11, 246, 123⟩, ⟨246, 4, 246, 123⟩]
def wpos (i : Nat) : Pos := wposL.getD i ⟨0, 0, 0, 0⟩
theorem mgn {nn bk : Bool} {X : Cx} {W : WX} {P : Program} {w : World} {K : PySem.W.Frag} {mg : Str → Option Value} {base : Heap} {N : List Str} {sc : Scope} {k : Nat} {x : Str} (C : Cok nn X W P w K mg base N sc k bk) (h : mg x = none) : X.mg x = none := by rw [C.em]; exact h
-- _law_start: script, seed, cell
abbrev N__law_start : List Str := ["script", "seed", "cell"]
def b__law_start : Sv := bSeq (sSet 1 (dC (.int 7)))
  (bSeq (sFor (dItems (dVar 0)) (gSet 2) (sSet 1 (dBin dAdd (dBin dMod (dCall bInt (dCons (dBin dAdd (dBin dMul (dVar 1) (dC (.int 48271))) (dVar 2)) (dNil))) (dC (.int 2147483629))) (dC (.int 1)))))
  (sRetF (dLst (dCons (dCall bList (dCons (dVar 0) (dNil))) (dCons (dC (.int 0)) (dCons (dC (.int 0)) (dCons (dVar 1) (dNil))))))))
def m__law_start : List D → M D := fun ds => finF (b__law_start (enter 3 ds))
-- _law_draw: state, many, value
abbrev N__law_draw : List Str := ["state", "many", "value"]
def b__law_draw : Sv := bSeq (sIf (dTAnd (dTb (dBin dEq (dBin dIx (dVarO 0) (dC (.int 1))) (dC (.int 0)))) (dTb (dBin dGe (dBin dIx (dVarO 0) (dC (.int 2))) (dCall bLen (dCons (dBin dIx (dVarO 0) (dC (.int 0))) (dNil)))))) (bSeq (sSub 0 (dC (.int 3)) (dBin dMod (dCall bInt (dCons (dBin dAdd (dBin dMul (dBin dIx (dVarO 0) (dC (.int 3))) (dC (.int 48271))) (dC (.int 69621))) (dNil))) (dC (.int 2147483629))))
  (sRet (dBin dMod (dCall bInt (dCons (dBin dFdiv (dBin dIx (dVarO 0) (dC (.int 3))) (dC (.int 13))) (dNil))) (dVar 1)))) (bNil))
  (bSeq (sIf (dTb (dBin dEq (dBin dIx (dVarO 0) (dC (.int 1))) (dC (.int 0)))) (bSeq (sSub 0 (dC (.int 1)) (dCall bAbs (dCons (dBin dIx (dBin dIx (dVarO 0) (dC (.int 0))) (dBin dIx (dVarO 0) (dC (.int 2)))) (dNil))))
  (sSub 0 (dC (.int 2)) (dBin dAdd (dBin dIx (dVarO 0) (dC (.int 2))) (dC (.int 1))))) (bNil))
  (bSeq (sSet 2 (dBin dMod (dCall bInt (dCons (dBin dIx (dVarO 0) (dC (.int 1))) (dNil))) (dVar 1)))
  (bSeq (sSub 0 (dC (.int 1)) (dBin dFdiv (dBin dIx (dVarO 0) (dC (.int 1))) (dVar 1)))
  (sRet (dVar 2)))))
def m__law_draw : D → List D → M (D × D) := fun s ds => finO (b__law_draw (enterO 3 s ds))
-- _law_pick: state, some
abbrev N__law_pick : List Str := ["state", "some"]
def b__law_pick : Sv := sRet (dBin dIx (dVar 1) (dCallO m__law_draw 0 (dCons (dCall bLen (dCons (dVar 1) (dNil))) (dNil))))
def m__law_pick : D → List D → M (D × D) := fun s ds => finO (b__law_pick (enterO 2 s ds))
-- _law_within: state, depth, leaf, tree, k
abbrev N__law_within : List Str := ["state", "depth", "leaf", "tree", "k"]
def b__law_within : Sv := bSeq (sSet 3 (dVar 2))
  (bSeq (sFor (dRng (dCons (dVar 1) (dNil))) (gSet 4) (sSet 3 (dCallO m__law_pick 0 (dCons (dLst (dCons (dTup (dCons (dC (.str "row")) (dCons (dTup (dCons (dVar 3) (dNil))) (dNil)))) (dCons (dTup (dCons (dC (.str "all")) (dCons (dTup (dCons (dVar 3) (dNil))) (dNil)))) (dCons (dTup (dCons (dC (.str "one")) (dCons (dTup (dCons (dVar 3) (dNil))) (dNil)))) (dCons (dTup (dCons (dC (.str "again")) (dCons (dVar 3) (dCons (dC (.int 1)) (dNil))))) (dNil)))))) (dNil)))))
  (sRet (dVar 3)))
def m__law_within : D → List D → M (D × D) := fun s ds => finO (b__law_within (enterO 5 s ds))
-- is_name: value, sign
abbrev N_is_name : List Str := ["value", "sign"]
def b_is_name : Sv := sRet (dAndV (dIsi "str" (dVar 0)) (dAndV (dChain dLe dLe (dC (.int 1)) (dCall bLen (dCons (dVar 0) (dNil))) (dC (.int 10))) (dCall bAll (dCons (dLc (dItems (dVar 0)) (gSet 1) (dYes) (dChain dLe dLe (dC (.str "a")) (dVar 1) (dC (.str "z"))) [1]) (dNil)))))
def m_is_name : List D → M D := fun ds => fin (b_is_name (enter 2 ds))
-- is_integer: value
abbrev N_is_integer : List Str := ["value"]
def b_is_integer : Sv := sRet (dAndV (dIsi "int" (dVar 0)) (dNotV (dIsi "bool" (dVar 0))))
def m_is_integer : List D → M D := fun ds => fin (b_is_integer (enter 1 ds))
-- is_between: value, low, high
abbrev N_is_between : List Str := ["value", "low", "high"]
def b_is_between : Sv := sRet (dAndV (dCall m_is_integer (dCons (dVar 0) (dNil))) (dChain dLe dLe (dVar 1) (dVar 0) (dVar 2)))
def m_is_between : List D → M D := fun ds => fin (b_is_between (enter 3 ds))
-- is_tree: value, deep, part
abbrev N_is_tree : List Str := ["value", "deep", "part"]
def b_is_tree (R_is_tree : List D → M D) : Sv := bSeq (sIf (dTOr (dTb (dBin dEq (dVar 1) (dC (.int 0)))) (dTOr (dTNot (dTr (dIsi "tuple" (dVar 0)))) (dTOr (dTNot (dTr (dVar 0))) (dTNot (dTr (dIsi "str" (dBin dIx (dVar 0) (dC (.int 0))))))))) (sRet (dC (.bl false))) (bNil))
  (bSeq (sIf (dTb (dBin dEq (dBin dIx (dVar 0) (dC (.int 0))) (dC (.str "do")))) (sRet (dAndV (dBin dEq (dCall bLen (dCons (dVar 0) (dNil))) (dC (.int 2))) (dCall m_is_name (dCons (dBin dIx (dVar 0) (dC (.int 1))) (dNil))))) (bNil))
  (bSeq (sIf (dTb (dBin dEq (dBin dIx (dVar 0) (dC (.int 0))) (dC (.str "again")))) (sRet (dAndV (dBin dEq (dCall bLen (dCons (dVar 0) (dNil))) (dC (.int 3))) (dAndV (dCall m_is_between (dCons (dBin dIx (dVar 0) (dC (.int 2))) (dCons (dC (.int 1)) (dCons (dC (.int 5)) (dNil))))) (dCall R_is_tree (dCons (dBin dIx (dVar 0) (dC (.int 1))) (dCons (dBin dSub (dVar 1) (dC (.int 1))) (dNil))))))) (bNil))
  (bSeq (sIf (dTOr (dTb (dBin dNotIn (dBin dIx (dVar 0) (dC (.int 0))) (dC (.tup ((["row", "all", "one"] : List Str).map D.str))))) (dTOr (dTb (dBin dNe (dCall bLen (dCons (dVar 0) (dNil))) (dC (.int 2)))) (dTNot (dTr (dIsi "tuple" (dBin dIx (dVar 0) (dC (.int 1)))))))) (sRet (dC (.bl false))) (bNil))
  (sRet (dAndV (dChain dLe dLe (dC (.int 1)) (dCall bLen (dCons (dBin dIx (dVar 0) (dC (.int 1))) (dNil))) (dC (.int 30))) (dCall bAll (dCons (dLc (dItems (dBin dIx (dVar 0) (dC (.int 1)))) (gSet 2) (dYes) (dCall R_is_tree (dCons (dVar 2) (dCons (dBin dSub (dVar 1) (dC (.int 1))) (dNil)))) [2]) (dNil))))))))
def gr_is_tree : Nat → (List D → M D)
  | 0 => (fun _ => stuck)
  | n + 1 => (fun ds => fin (b_is_tree ((gr_is_tree n)) (enter 3 ds)))
def mr_is_tree (n : Nat) : List D → M D := (gr_is_tree n)
def m_is_tree : List D → M D := mr_is_tree 16
-- names_in: tree, found, part
abbrev N_names_in : List Str := ["tree", "found", "part"]
def b_names_in (R_names_in : List D → M D) : Sv := bSeq (sIf (dTb (dBin dEq (dBin dIx (dVar 0) (dC (.int 0))) (dC (.str "do")))) (sRet (dLst (dCons (dBin dIx (dVar 0) (dC (.int 1))) (dNil)))) (bNil))
  (bSeq (sIf (dTb (dBin dEq (dBin dIx (dVar 0) (dC (.int 0))) (dC (.str "again")))) (sRet (dCall R_names_in (dCons (dBin dIx (dVar 0) (dC (.int 1))) (dNil)))) (bNil))
  (bSeq (sSetO 1 (dLst (dNil)))
  (bSeq (sFor (dItems (dBin dIx (dVar 0) (dC (.int 1)))) (gSet 2) (sDrop (dMeth fExt 1 (dCons (dCall R_names_in (dCons (dVar 2) (dNil))) (dNil)))))
  (sRetO 1))))
def gr_names_in : Nat → (List D → M D)
  | 0 => (fun _ => stuck)
  | n + 1 => (fun ds => fin (b_names_in ((gr_names_in n)) (enter 3 ds)))
def mr_names_in (n : Nat) : List D → M D := (gr_names_in n)
def m_names_in : List D → M D := mr_names_in 16
-- length_of: tree, most, sizes, part
abbrev N_length_of : List Str := ["tree", "most", "sizes", "part"]
def b_length_of (R_length_of : List D → M D) : Sv := bSeq (sIf (dTb (dBin dEq (dBin dIx (dVar 0) (dC (.int 0))) (dC (.str "do")))) (sRet (dC (.int 1))) (bNil))
  (bSeq (sIf (dTb (dBin dEq (dBin dIx (dVar 0) (dC (.int 0))) (dC (.str "again")))) (sRet (dBin dMul (dCall R_length_of (dCons (dBin dIx (dVar 0) (dC (.int 1))) (dCons (dVar 1) (dNil)))) (dIf (dTr (dVar 1)) (dBin dIx (dVar 0) (dC (.int 2))) (dC (.int 1))))) (bNil))
  (bSeq (sSet 2 (dLc (dItems (dBin dIx (dVar 0) (dC (.int 1)))) (gSet 3) (dYes) (dCall R_length_of (dCons (dVar 3) (dCons (dVar 1) (dNil)))) [3]))
  (bSeq (sIf (dTb (dBin dEq (dBin dIx (dVar 0) (dC (.int 0))) (dC (.str "one")))) (sRet (dIf (dTr (dVar 1)) (dCall bMax (dCons (dVar 2) (dNil))) (dCall bMin (dCons (dVar 2) (dNil))))) (bNil))
  (sRet (dCall bSum (dCons (dVar 2) (dNil)))))))
def gr_length_of : Nat → (List D → M D)
  | 0 => (fun _ => stuck)
  | n + 1 => (fun ds => fin (b_length_of ((gr_length_of n)) (enter 4 ds)))
def mr_length_of (n : Nat) : List D → M D := (gr_length_of n)
def m_length_of : List D → M D := mr_length_of 16
-- check_tree: tree, names, own
abbrev N_check_tree : List Str := ["tree", "names", "own"]
def b_check_tree : Sv := bSeq (sIf (dTNot (dTr (dCall m_is_tree (dCons (dVar 0) (dCons (dC (.int 12)) (dNil)))))) (sRaise 0 (dC (.str "tree"))) (bNil))
  (bSeq (sSet 1 (dCall m_names_in (dCons (dVar 0) (dNil))))
  (bSeq (sIf (dTOr (dTb (dBin dGt (dCall bLen (dCons (dVar 1) (dNil))) (dC (.int 30)))) (dTb (dBin dNe (dCall bLenK (dCons (dDc (dItems (dVar 1)) (gSet 2) (dYes) (dVar 2) (dC (.bl true)) [2]) (dNil))) (dCall bLen (dCons (dVar 1) (dNil)))))) (sRaise 0 (dC (.str "names"))) (bNil))
  (sIf (dTb (dBin dGt (dCall m_length_of (dCons (dVar 0) (dCons (dC (.bl true)) (dNil)))) (dC (.int 200)))) (sRaise 0 (dC (.str "long"))) (bNil))))
def m_check_tree : List D → M D := fun ds => fin (b_check_tree (enter 3 ds))
-- lengths: tree
abbrev N_lengths : List Str := ["tree"]
def b_lengths : Sv := bSeq (sDrop (dCall m_check_tree (dCons (dVar 0) (dNil))))
  (sRet (dTup (dCons (dCall m_length_of (dCons (dVar 0) (dCons (dC (.bl false)) (dNil)))) (dCons (dCall m_length_of (dCons (dVar 0) (dCons (dC (.bl true)) (dNil)))) (dNil)))))
def m_lengths : List D → M D := fun ds => fin (b_lengths (enter 1 ds))
-- choose: many, few, found, at
abbrev N_choose : List Str := ["many", "few", "found", "at"]
def b_choose : Sv := bSeq (sSet 2 (dC (.int 1)))
  (bSeq (sFor (dRng (dCons (dVar 1) (dNil))) (gSet 3) (sSet 2 (dBin dFdiv (dBin dMul (dVar 2) (dBin dSub (dVar 0) (dVar 3))) (dBin dAdd (dVar 3) (dC (.int 1))))))
  (sRet (dVar 2)))
def m_choose : List D → M D := fun ds => fin (b_choose (enter 4 ds))
-- joined: first, second, mixed, found, one, other, many
abbrev N_joined : List Str := ["first", "second", "mixed", "found", "one", "other", "many"]
def b_joined : Sv := bSeq (sSetO 3 (dC (.dct [] [])))
  (bSeq (sForK 0 (gSet 4) (sForK 1 (gSet 5) (bSeq (sSet 6 (dBin dMul (dBin dMul (dBin dIxK (dVar 0) (dVar 4)) (dBin dIxK (dVar 1) (dVar 5))) (dIf (dTr (dVar 2)) (dCall m_choose (dCons (dBin dAdd (dVar 4) (dVar 5)) (dCons (dVar 5) (dNil)))) (dC (.int 1)))))
  (sSubK 3 (dBin dAdd (dVar 4) (dVar 5)) (dBin dAdd (dGetO 3 (dBin dAdd (dVar 4) (dVar 5)) (dC (.int 0))) (dVar 6))))))
  (sRetO 3))
def m_joined : List D → M D := fun ds => fin (b_joined (enter 7 ds))
-- ways_in: tree, found, made, rows, own, part, size
abbrev N_ways_in : List Str := ["tree", "found", "made", "rows", "own", "part", "size"]
def b_ways_in (R_ways_in : List D → M D) : Sv := bSeq (sIf (dTb (dBin dEq (dBin dIx (dVar 0) (dC (.int 0))) (dC (.str "do")))) (sRet (dC (.dct [dk (.inl 1)] [.int 1]))) (bNil))
  (bSeq (sIf (dTb (dBin dIn (dBin dIx (dVar 0) (dC (.int 0))) (dTup (dCons (dC (.str "row")) (dCons (dC (.str "all")) (dNil)))))) (bSeq (sSet 2 (dC (.dct [dk (.inl 0)] [.int 1])))
  (bSeq (sFor (dItems (dBin dIx (dVar 0) (dC (.int 1)))) (gSet 5) (sSet 2 (dCall m_joined (dCons (dVar 2) (dCons (dCall R_ways_in (dCons (dVar 5) (dNil))) (dCons (dBin dEq (dBin dIx (dVar 0) (dC (.int 0))) (dC (.str "all"))) (dNil)))))))
  (sRet (dVar 2)))) (bNil))
  (bSeq (sSetO 1 (dC (.dct [] [])))
  (bSeq (sSet 2 (dC (.dct [dk (.inl 0)] [.int 1])))
  (bSeq (sSet 3 (dIf (dTb (dBin dEq (dBin dIx (dVar 0) (dC (.int 0))) (dC (.str "one")))) (dLc (dItems (dBin dIx (dVar 0) (dC (.int 1)))) (gSet 5) (dYes) (dCall R_ways_in (dCons (dVar 5) (dNil))) [5]) (dBin dMul (dLst (dCons (dCall R_ways_in (dCons (dBin dIx (dVar 0) (dC (.int 1))) (dNil))) (dNil))) (dBin dIx (dVar 0) (dC (.int 2))))))
  (bSeq (sFor (dItems (dVar 3)) (gSet 4) (bSeq (sSet 2 (dIf (dTb (dBin dEq (dBin dIx (dVar 0) (dC (.int 0))) (dC (.str "one")))) (dVar 4) (dCall m_joined (dCons (dVar 2) (dCons (dVar 4) (dCons (dC (.bl false)) (dNil)))))))
  (sForK 2 (gSet 6) (sSubK 1 (dVar 6) (dBin dAdd (dGetO 1 (dVar 6) (dC (.int 0))) (dBin dIxK (dVar 2) (dVar 6)))))))
  (sRetO 1))))))
def gr_ways_in : Nat → (List D → M D)
  | 0 => (fun _ => stuck)
  | n + 1 => (fun ds => fin (b_ways_in ((gr_ways_in n)) (enter 7 ds)))
def mr_ways_in (n : Nat) : List D → M D := (gr_ways_in n)
def m_ways_in : List D → M D := mr_ways_in 16
-- count_ways: tree, found, size
abbrev N_count_ways : List Str := ["tree", "found", "size"]
def b_count_ways : Sv := bSeq (sDrop (dCall m_check_tree (dCons (dVar 0) (dNil))))
  (bSeq (sSet 1 (dCall m_ways_in (dCons (dVar 0) (dNil))))
  (sRet (dCall bTuple (dCons (dLc (dItems (dCall bSort2 (dCons (dVar 1) (dNil)))) (gSet 2) (dYes) (dTup (dCons (dVar 2) (dCons (dBin dIxK (dVar 1) (dVar 2)) (dNil)))) [2]) (dNil)))))
def m_count_ways : List D → M D := fun ds => fin (b_count_ways (enter 3 ds))
-- needed_in: tree, rows, found, row, part
abbrev N_needed_in : List Str := ["tree", "rows", "found", "row", "part"]
def b_needed_in (R_needed_in : List D → M D) : Sv := bSeq (sIf (dTb (dBin dEq (dBin dIx (dVar 0) (dC (.int 0))) (dC (.str "do")))) (sRet (dLst (dCons (dBin dIx (dVar 0) (dC (.int 1))) (dNil)))) (bNil))
  (bSeq (sIf (dTb (dBin dEq (dBin dIx (dVar 0) (dC (.int 0))) (dC (.str "again")))) (sRet (dCall R_needed_in (dCons (dBin dIx (dVar 0) (dC (.int 1))) (dNil)))) (bNil))
  (bSeq (sSet 1 (dLc (dItems (dBin dIx (dVar 0) (dC (.int 1)))) (gSet 4) (dYes) (dCall R_needed_in (dCons (dVar 4) (dNil))) [4]))
  (bSeq (sIf (dTb (dBin dEq (dBin dIx (dVar 0) (dC (.int 0))) (dC (.str "one")))) (sRet (dIf (dTb (dBin dEq (dCall bLen (dCons (dVar 1) (dNil))) (dC (.int 1)))) (dBin dIx (dVar 1) (dC (.int 0))) (dLst (dNil)))) (bNil))
  (bSeq (sSetO 2 (dLst (dNil)))
  (bSeq (sFor (dItems (dVar 1)) (gSet 3) (sDrop (dMeth fExt 2 (dCons (dVar 3) (dNil)))))
  (sRetO 2))))))
def gr_needed_in : Nat → (List D → M D)
  | 0 => (fun _ => stuck)
  | n + 1 => (fun ds => fin (b_needed_in ((gr_needed_in n)) (enter 5 ds)))
def mr_needed_in (n : Nat) : List D → M D := (gr_needed_in n)
def m_needed_in : List D → M D := mr_needed_in 16
-- must_have: tree
abbrev N_must_have : List Str := ["tree"]
def b_must_have : Sv := bSeq (sDrop (dCall m_check_tree (dCons (dVar 0) (dNil))))
  (sRet (dCall bTuple (dCons (dCall bSort2 (dCons (dCall m_needed_in (dCons (dVar 0) (dNil))) (dNil))) (dNil))))
def m_must_have : List D → M D := fun ds => fin (b_must_have (enter 1 ds))
-- turned_of: tree, parts, part
abbrev N_turned_of : List Str := ["tree", "parts", "part"]
def b_turned_of (R_turned_of : List D → M D) : Sv := bSeq (sIf (dTb (dBin dEq (dBin dIx (dVar 0) (dC (.int 0))) (dC (.str "do")))) (sRet (dVar 0)) (bNil))
  (bSeq (sIf (dTb (dBin dEq (dBin dIx (dVar 0) (dC (.int 0))) (dC (.str "again")))) (sRet (dTup (dCons (dC (.str "again")) (dCons (dCall R_turned_of (dCons (dBin dIx (dVar 0) (dC (.int 1))) (dNil))) (dCons (dBin dIx (dVar 0) (dC (.int 2))) (dNil)))))) (bNil))
  (bSeq (sSet 1 (dCall bTuple (dCons (dLc (dItems (dBin dIx (dVar 0) (dC (.int 1)))) (gSet 2) (dYes) (dCall R_turned_of (dCons (dVar 2) (dNil))) [2]) (dNil))))
  (sRet (dTup (dCons (dBin dIx (dVar 0) (dC (.int 0))) (dCons (dIf (dTb (dBin dEq (dBin dIx (dVar 0) (dC (.int 0))) (dC (.str "row")))) (dRev (dVar 1)) (dVar 1)) (dNil)))))))
def gr_turned_of : Nat → (List D → M D)
  | 0 => (fun _ => stuck)
  | n + 1 => (fun ds => fin (b_turned_of ((gr_turned_of n)) (enter 3 ds)))
def mr_turned_of (n : Nat) : List D → M D := (gr_turned_of n)
def m_turned_of : List D → M D := mr_turned_of 16
-- turned: tree
abbrev N_turned : List Str := ["tree"]
def b_turned : Sv := bSeq (sDrop (dCall m_check_tree (dCons (dVar 0) (dNil))))
  (sRet (dCall m_turned_of (dCons (dVar 0) (dNil))))
def m_turned : List D → M D := fun ds => fin (b_turned (enter 1 ds))
-- normal_of: tree, parts, part, own
abbrev N_normal_of : List Str := ["tree", "parts", "part", "own"]
def b_normal_of (R_normal_of : List D → M D) : Sv := bSeq (sIf (dTb (dBin dEq (dBin dIx (dVar 0) (dC (.int 0))) (dC (.str "do")))) (sRet (dVar 0)) (bNil))
  (bSeq (sIf (dTb (dBin dEq (dBin dIx (dVar 0) (dC (.int 0))) (dC (.str "again")))) (bSeq (sSet 2 (dCall R_normal_of (dCons (dBin dIx (dVar 0) (dC (.int 1))) (dNil))))
  (bSeq (sIf (dTb (dBin dEq (dBin dIx (dVar 0) (dC (.int 2))) (dC (.int 1)))) (sRet (dVar 2)) (bNil))
  (sNever))) (bNil))
  (bSeq (sSetO 1 (dLst (dNil)))
  (bSeq (sFor (dItems (dBin dIx (dVar 0) (dC (.int 1)))) (gSet 2) (bSeq (sSet 3 (dCall R_normal_of (dCons (dVar 2) (dNil))))
  (sDrop (dMeth fExt 1 (dCons (dIf (dTb (dBin dEq (dBin dIx (dVar 3) (dC (.int 0))) (dBin dIx (dVar 0) (dC (.int 0))))) (dCall bList (dCons (dBin dIx (dVar 3) (dC (.int 1))) (dNil))) (dLst (dCons (dVar 3) (dNil)))) (dNil))))))
  (bSeq (sIf (dTb (dBin dEq (dCall bLen (dCons (dVarO 1) (dNil))) (dC (.int 1)))) (sRet (dBin dIx (dVarO 1) (dC (.int 0)))) (bNil))
  (sNever)))))
def gr_normal_of : Nat → (List D → M D)
  | 0 => (fun _ => stuck)
  | n + 1 => (fun ds => fin (b_normal_of ((gr_normal_of n)) (enter 4 ds)))
def mr_normal_of (n : Nat) : List D → M D := (gr_normal_of n)
def m_normal_of : List D → M D := mr_normal_of 16
-- normal: tree
abbrev N_normal : List Str := ["tree"]
def b_normal : Sv := bSeq (sDrop (dCall m_check_tree (dCons (dVar 0) (dNil))))
  (sRet (dCall m_normal_of (dCons (dVar 0) (dNil))))
def m_normal : List D → M D := fun ds => fin (b_normal (enter 1 ds))
-- ended: tree, state, part, own
abbrev N_ended : List Str := ["tree", "state", "part", "own"]
def b_ended (R_ended : List D → M D) : Sv := bSeq (sIf (dTOr (dTb (dBin dIsN (dVar 1) (dC .non))) (dTb (dBin dEq (dBin dIx (dVar 0) (dC (.int 0))) (dC (.str "do"))))) (sRet (dBin dNotN (dVar 1) (dC .non))) (bNil))
  (bSeq (sIf (dTb (dBin dEq (dBin dIx (dVar 0) (dC (.int 0))) (dC (.str "all")))) (sNever) (bNil))
  (bSeq (sIf (dTb (dBin dEq (dBin dIx (dVar 0) (dC (.int 0))) (dC (.str "row")))) (sRet (dAndV (dBin dEq (dBin dIx (dVar 1) (dC (.int 0))) (dBin dSub (dCall bLen (dCons (dBin dIx (dVar 0) (dC (.int 1))) (dNil))) (dC (.int 1)))) (dCall R_ended (dCons (dBin dIx (dBin dIx (dVar 0) (dC (.int 1))) (dBin dIx (dVar 1) (dC (.int 0)))) (dCons (dBin dIx (dVar 1) (dC (.int 1))) (dNil)))))) (bNil))
  (sRet (dCall R_ended (dCons (dIf (dTb (dBin dEq (dBin dIx (dVar 0) (dC (.int 0))) (dC (.str "again")))) (dBin dIx (dVar 0) (dC (.int 1))) (dBin dIx (dBin dIx (dVar 0) (dC (.int 1))) (dBin dIx (dVar 1) (dC (.int 0))))) (dCons (dBin dIx (dVar 1) (dC (.int 1))) (dNil)))))))
def gr_ended : Nat → (List D → M D)
  | 0 => (fun _ => stuck)
  | n + 1 => (fun ds => fin (b_ended ((gr_ended n)) (enter 4 ds)))
def mr_ended (n : Nat) : List D → M D := (gr_ended n)
def m_ended : List D → M D := mr_ended 16
-- moved: tree, state, name, part, found, kind, parts, now, rows, at, own, row
abbrev N_moved : List Str := ["tree", "state", "name", "part", "found", "kind", "parts", "now", "rows", "at", "own", "row"]
def b_moved (R_moved : List D → M D) : Sv := bSeq (sPar 5 6 (dCons (dBin dIx (dVar 0) (dC (.int 0))) (dCons (dBin dIx (dVar 0) (dC (.int 1))) (dNil))))
  (bSeq (sIf (dTb (dBin dEq (dVar 5) (dC (.str "do")))) (sRet (dIf (dTAnd (dTb (dBin dIsN (dVar 1) (dC .non))) (dTb (dBin dEq (dVar 6) (dVar 2)))) (dLst (dCons (dC (.bl true)) (dNil))) (dLst (dNil)))) (bNil))
  (bSeq (sIf (dTb (dBin dEq (dVar 5) (dC (.str "all")))) (sNever) (bNil))
  (bSeq (sIf (dTAnd (dTb (dBin dEq (dVar 5) (dC (.str "one")))) (dTb (dBin dIsN (dVar 1) (dC .non)))) (sNever) (bNil))
  (bSeq (sAsg (dIf (dTb (dBin dIsN (dVar 1) (dC .non))) (dTup (dCons (dC (.int 0)) (dCons (dC .non) (dNil)))) (dVar 1)) (gTupD (lenOf 2 (gsCons (gSet 9) (gsCons (gSet 10) (gsNil))))))
  (bSeq (sSet 3 (dIf (dTb (dBin dEq (dVar 5) (dC (.str "again")))) (dVar 6) (dBin dIx (dVar 6) (dVar 9))))
  (bSeq (sSet 4 (dLc (dItems (dCall R_moved (dCons (dVar 3) (dCons (dVar 10) (dCons (dVar 2) (dNil)))))) (gSet 11) (dYes) (dTup (dCons (dVar 9) (dCons (dVar 11) (dNil)))) [11]))
  (bSeq (sIf (dTOr (dTb (dBin dEq (dVar 5) (dC (.str "one")))) (dTNot (dTr (dCall m_ended (dCons (dVar 3) (dCons (dVar 10) (dNil))))))) (sRet (dVar 4)) (bNil))
  (bSeq (sIf (dTAnd (dTb (dBin dEq (dVar 5) (dC (.str "again")))) (dTb (dBin dLt (dBin dAdd (dVar 9) (dC (.int 1))) (dBin dIx (dVar 0) (dC (.int 2)))))) (sRet (dBin dAdd (dVar 4) (dLc (dItems (dCall R_moved (dCons (dVar 3) (dCons (dC .non) (dCons (dVar 2) (dNil)))))) (gSet 11) (dYes) (dTup (dCons (dBin dAdd (dVar 9) (dC (.int 1))) (dCons (dVar 11) (dNil)))) [11]))) (bNil))
  (bSeq (sIf (dTAnd (dTb (dBin dEq (dVar 5) (dC (.str "row")))) (dTb (dBin dLt (dBin dAdd (dVar 9) (dC (.int 1))) (dCall bLen (dCons (dVar 6) (dNil)))))) (sRet (dBin dAdd (dVar 4) (dLc (dItems (dCall R_moved (dCons (dBin dIx (dVar 6) (dBin dAdd (dVar 9) (dC (.int 1)))) (dCons (dC .non) (dCons (dVar 2) (dNil)))))) (gSet 11) (dYes) (dTup (dCons (dBin dAdd (dVar 9) (dC (.int 1))) (dCons (dVar 11) (dNil)))) [11]))) (bNil))
  (sRet (dVar 4)))))))))))
def gr_moved : Nat → (List D → M D)
  | 0 => (fun _ => stuck)
  | n + 1 => (fun ds => fin (b_moved ((gr_moved n)) (enter 12 ds)))
def mr_moved (n : Nat) : List D → M D := (gr_moved n)
def m_moved : List D → M D := mr_moved 16
-- further: tree, states, name, found, state, own
abbrev N_further : List Str := ["tree", "states", "name", "found", "state", "own"]
def b_further : Sv := bSeq (sSetO 3 (dLst (dNil)))
  (bSeq (sFor (dItems (dVar 1)) (gSet 4) (sDrop (dMeth fExt 3 (dCons (dLc (dItems (dCall m_moved (dCons (dVar 0) (dCons (dVar 4) (dCons (dVar 2) (dNil)))))) (gSet 5) (dTb (dBin dNotIn (dVar 5) (dVarO 3))) (dVar 5) [5]) (dNil)))))
  (sRetO 3))
def m_further : List D → M D := fun ds => fin (b_further (enter 6 ds))
-- any_ended: tree, states, state
abbrev N_any_ended : List Str := ["tree", "states", "state"]
def b_any_ended : Sv := sRet (dBin dGt (dCall bLen (dCons (dLc (dItems (dVar 1)) (gSet 2) (dTr (dCall m_ended (dCons (dVar 0) (dCons (dVar 2) (dNil))))) (dC (.int 1)) [2]) (dNil))) (dC (.int 0)))
def m_any_ended : List D → M D := fun ds => fin (b_any_ended (enter 3 ds))
-- judge_run: tree, names, states, follow, at, name, own
abbrev N_judge_run : List Str := ["tree", "names", "states", "follow", "at", "name", "own"]
def b_judge_run : Sv := bSeq (sDrop (dCall m_check_tree (dCons (dVar 0) (dNil))))
  (bSeq (sIf (dTOr (dTNot (dTr (dIsi "tuple" (dVar 1)))) (dTOr (dTb (dBin dGt (dCall bLen (dCons (dVar 1) (dNil))) (dC (.int 200)))) (dTNot (dTr (dCall bAll (dCons (dLc (dItems (dVar 1)) (gSet 6) (dYes) (dCall m_is_name (dCons (dVar 6) (dNil))) [6]) (dNil))))))) (sRaise 1 (dC (.str "run"))) (bNil))
  (bSeq (sSet 2 (dLst (dCons (dC .non) (dNil))))
  (bSeq (sFor (dEnum (dVar 1)) (gTupD (lenOf 2 (gsCons (gSet 4) (gsCons (gSet 5) (gsNil))))) (bSeq (sSet 2 (dCall m_further (dCons (dVar 0) (dCons (dVar 2) (dCons (dVar 5) (dNil))))))
  (sIf (dTNot (dTr (dVar 2))) (sRet (dTup (dCons (dC (.str "wrong")) (dCons (dVar 4) (dNil))))) (bNil))))
  (bSeq (sSet 3 (dCall bTuple (dCons (dLc (dItems (dCall bSort2 (dCons (dCall m_names_in (dCons (dVar 0) (dNil))) (dNil)))) (gSet 5) (dTr (dCall m_further (dCons (dVar 0) (dCons (dVar 2) (dCons (dVar 5) (dNil)))))) (dVar 5) [5]) (dNil))))
  (sRet (dTup (dCons (dIf (dTr (dCall m_any_ended (dCons (dVar 0) (dCons (dVar 2) (dNil))))) (dC (.str "done")) (dC (.str "open"))) (dCons (dVar 3) (dNil)))))))))
def m_judge_run : List D → M D := fun ds => fin (b_judge_run (enter 7 ds))
-- relation: tree, one, other, names, places, reason, name, here, often
abbrev N_relation : List Str := ["tree", "one", "other", "names", "places", "reason", "name", "here", "often"]
def b_relation : Sv := bSeq (sDrop (dCall m_check_tree (dCons (dVar 0) (dNil))))
  (bSeq (sSet 3 (dCall m_names_in (dCons (dVar 0) (dNil))))
  (bSeq (sFor (dItems (dTup (dCons (dTup (dCons (dC (.str "one")) (dCons (dVar 1) (dNil)))) (dCons (dTup (dCons (dC (.str "other")) (dCons (dVar 2) (dNil)))) (dNil))))) (gTupD (lenOf 2 (gsCons (gSet 5) (gsCons (gSet 6) (gsNil))))) (sIf (dTOr (dTNot (dTr (dIsi "str" (dVar 6)))) (dTb (dBin dNotIn (dVar 6) (dVar 3)))) (sRaise 1 (dVar 5)) (bNil)))
  (bSeq (sIf (dTb (dBin dEq (dVar 1) (dVar 2))) (sRaise 1 (dC (.str "other"))) (bNil))
  (sNever))))
def m_relation : List D → M D := fun ds => fin (b_relation (enter 9 ds))
-- _law_called: call, some
abbrev N__law_called : List Str := ["call", "some"]
def tbl : Tbl
  | 0 => some (1, m_lengths)
  | 1 => some (1, m_count_ways)
  | 2 => some (1, m_must_have)
  | 3 => some (1, m_turned)
  | 4 => some (1, m_normal)
  | 5 => some (2, m_judge_run)
  | 6 => some (3, m_relation)
  | _ => none
def b__law_called : Sv := bSeq (sIf (dTb (dBin dLt (dCall bLen (dCons (dVar 1) (dNil))) (dC (.int 3)))) (sRet (dIf (dTb (dBin dEq (dCall bLen (dCons (dVar 1) (dNil))) (dC (.int 1)))) (dCallV tbl 0 (dCons (dBin dIx (dVar 1) (dC (.int 0))) (dNil))) (dCallV tbl 0 (dCons (dBin dIx (dVar 1) (dC (.int 0))) (dCons (dBin dIx (dVar 1) (dC (.int 1))) (dNil)))))) (bNil))
  (bSeq (sIf (dTb (dBin dLt (dCall bLen (dCons (dVar 1) (dNil))) (dC (.int 5)))) (sRet (dIf (dTb (dBin dEq (dCall bLen (dCons (dVar 1) (dNil))) (dC (.int 3)))) (dCallV tbl 0 (dCons (dBin dIx (dVar 1) (dC (.int 0))) (dCons (dBin dIx (dVar 1) (dC (.int 1))) (dCons (dBin dIx (dVar 1) (dC (.int 2))) (dNil))))) (dCallV tbl 0 (dCons (dBin dIx (dVar 1) (dC (.int 0))) (dCons (dBin dIx (dVar 1) (dC (.int 1))) (dCons (dBin dIx (dVar 1) (dC (.int 2))) (dCons (dBin dIx (dVar 1) (dC (.int 3))) (dNil)))))))) (bNil))
  (sNever))
def m__law_called : List D → M D := fun ds => fin (b__law_called (enter 2 ds))
-- _law_word: error, heads, found
abbrev N__law_word : List Str := ["error", "heads", "found"]
-- _law_heard: call, some, error
abbrev N__law_heard : List Str := ["call", "some", "error"]
def b__law_heard : Sv := sHeard (sRet (dLst (dCons (dCall m__law_called (dCons (dVar 0) (dCons (dVar 1) (dNil)))) (dNil)))) 2
def m__law_heard : List D → M D := fun ds => fin (b__law_heard (enter 3 ds))
-- _law_every: tree, told, way
abbrev N__law_every : List Str := ["tree", "told", "way"]
def b__law_every : Sv := bSeq (sSet 1 (dLc (dItems (dLst (dCons (dC (.fn 0)) (dCons (dC (.fn 1)) (dCons (dC (.fn 2)) (dCons (dC (.fn 3)) (dCons (dC (.fn 4)) (dNil)))))))) (gSet 2) (dYes) (dCall m__law_heard (dCons (dVar 2) (dCons (dLst (dCons (dVar 0) (dNil))) (dNil)))) [2]))
  (sRet (dBin dAdd (dVar 1) (dLst (dCons (dCall m__law_heard (dCons (dC (.fn 5)) (dCons (dLst (dCons (dVar 0) (dCons (dC .non) (dNil)))) (dNil)))) (dCons (dCall m__law_heard (dCons (dC (.fn 6)) (dCons (dLst (dCons (dVar 0) (dCons (dC .non) (dCons (dC .non) (dNil))))) (dNil)))) (dNil))))))
def m__law_every : List D → M D := fun ds => fin (b__law_every (enter 3 ds))
-- _law_names: many, letters, k
abbrev N__law_names : List Str := ["many", "letters", "k"]
def b__law_names : Sv := bSeq (sSet 1 (dC (.str "abcdefghijklmnopqrstuvwxyz")))
  (sRet (dBin dAdd (dSlice (dLc (dRng (dCons (dC (.int 26)) (dNil))) (gSet 2) (dYes) (dBin dAdd (dBin dIx (dVar 1) (dVar 2)) (dBin dIx (dVar 1) (dBin dFdiv (dVar 2) (dC (.int 26))))) [2]) (dONone) (dOSome (dVar 0))) (dLc (dRng (dCons (dBin dSub (dVar 0) (dC (.int 26))) (dNil))) (gSet 2) (dYes) (dBin dMul (dBin dIx (dVar 1) (dVar 2)) (dC (.int 3))) [2])))
def m__law_names : List D → M D := fun ds => fin (b__law_names (enter 3 ds))
-- law: script, state, turn, deep, steps, kind, twice, many, part, long, tree, names, odd, told, wrong, name
abbrev N_law : List Str := ["script", "state", "turn", "deep", "steps", "kind", "twice", "many", "part", "long", "tree", "names", "odd", "told", "wrong", "name"]
def b_law : Sv := bSeq (sSetO 1 (dCall m__law_start (dCons (dVar 0) (dNil))))
  (bSeq (sFor (dRng (dCons (dC (.int 4)) (dNil))) (gSet 2) (bSeq (sSet 14 (dLst (dCons (dC .non) (dCons (dTup (dNil)) (dCons (dTup (dCons (dC (.str "do")) (dNil))) (dCons (dTup (dCons (dC (.str "do")) (dCons (dC (.str "")) (dNil)))) (dCons (dTup (dCons (dC (.str "do")) (dCons (dC (.str "Ann")) (dNil)))) (dCons (dTup (dCons (dC (.str "do")) (dCons (dBin dMul (dC (.str "a")) (dC (.int 11))) (dNil)))) (dCons (dTup (dCons (dC (.str "do")) (dCons (dC (.int 5)) (dNil)))) (dCons (dTup (dCons (dC (.str "do")) (dCons (dC (.str "a")) (dCons (dC (.str "b")) (dNil))))) (dCons (dTup (dCons (dC (.str "row")) (dCons (dTup (dNil)) (dNil)))) (dCons (dTup (dCons (dC (.str "row")) (dCons (dTup (dCons (dC (.str "do")) (dCons (dC (.str "a")) (dNil)))) (dNil)))) (dCons (dTup (dCons (dC (.str "go")) (dCons (dTup (dCons (dTup (dCons (dC (.str "do")) (dCons (dC (.str "a")) (dNil)))) (dNil))) (dNil)))) (dNil))))))))))))))
  (bSeq (sSet 14 (dBin dAdd (dVar 14) (dLst (dCons (dTup (dCons (dC (.str "again")) (dCons (dTup (dCons (dC (.str "do")) (dCons (dC (.str "a")) (dNil)))) (dCons (dC (.int 0)) (dNil))))) (dCons (dTup (dCons (dC (.str "again")) (dCons (dTup (dCons (dC (.str "do")) (dCons (dC (.str "a")) (dNil)))) (dCons (dC (.int 6)) (dNil))))) (dCons (dTup (dCons (dC (.str "again")) (dCons (dTup (dCons (dC (.str "do")) (dCons (dC (.str "a")) (dNil)))) (dCons (dC (.bl true)) (dNil))))) (dCons (dTup (dCons (dC (.str "again")) (dCons (dTup (dCons (dC (.str "do")) (dCons (dC (.str "a")) (dNil)))) (dNil)))) (dCons (dTup (dCons (dC (.str "row")) (dCons (dLst (dCons (dTup (dCons (dC (.str "do")) (dCons (dC (.str "a")) (dNil)))) (dNil))) (dNil)))) (dCons (dLst (dCons (dC (.str "do")) (dCons (dC (.str "a")) (dNil)))) (dCons (dTup (dCons (dC (.int 5)) (dCons (dC (.str "a")) (dNil)))) (dCons (dC (.int 5)) (dCons (dC (.str "do")) (dNil)))))))))))))
  (bSeq (sSet 14 (dBin dAdd (dVar 14) (dLst (dCons (dTup (dCons (dC (.str "row")) (dCons (dBin dMul (dTup (dCons (dTup (dCons (dC (.str "do")) (dCons (dC (.str "a")) (dNil)))) (dNil))) (dC (.int 31))) (dNil)))) (dCons (dTup (dCons (dC (.str "one")) (dCons (dTup (dCons (dTup (dCons (dC (.str "do")) (dCons (dC (.str "b")) (dNil)))) (dCons (dC .non) (dNil)))) (dNil)))) (dCons (dTup (dCons (dC (.str "all")) (dCons (dTup (dCons (dTup (dCons (dC (.str "do")) (dCons (dC (.str "b")) (dNil)))) (dCons (dTup (dCons (dC (.str "do")) (dCons (dC (.str "z1")) (dNil)))) (dNil)))) (dNil)))) (dCons (dTup (dCons (dC (.str "row")) (dCons (dTup (dCons (dTup (dCons (dC (.str "do")) (dCons (dC (.str "a")) (dNil)))) (dNil))) (dCons (dC (.int 1)) (dNil))))) (dCons (dTup (dCons (dC (.str "again")) (dCons (dTup (dCons (dC (.str "do")) (dCons (dC (.str "a")) (dNil)))) (dCons (dC (.int 2)) (dCons (dC (.int 3)) (dNil)))))) (dNil)))))))))
  (bSeq (sSet 10 (dCallO m__law_within 1 (dCons (dCallO m__law_draw 1 (dCons (dC (.int 12)) (dNil))) (dCons (dCallO m__law_pick 1 (dCons (dVar 14) (dNil))) (dNil)))))
  (sIf (dTb (dBin dNe (dCall m__law_every (dCons (dVar 10) (dNil))) (dBin dMul (dLst (dCons (dC (.str "flow tree")) (dNil))) (dC (.int 7))))) (sNever) (bNil)))))))
  (bSeq (sSet 3 (dCallO m__law_within 1 (dCons (dC (.int 11)) (dCons (dTup (dCons (dC (.str "do")) (dCons (dC (.str "ann")) (dNil)))) (dNil)))))
  (bSeq (sIf (dTOr (dTb (dBin dNe (dCall m__law_every (dCons (dCallO m__law_within 1 (dCons (dC (.int 12)) (dCons (dTup (dCons (dC (.str "do")) (dCons (dC (.str "ann")) (dNil)))) (dNil)))) (dNil))) (dBin dMul (dLst (dCons (dC (.str "flow tree")) (dNil))) (dC (.int 7))))) (dTb (dBin dNe (dSlice (dCall m__law_every (dCons (dVar 3) (dNil))) (dOSome (dC (.int 5))) (dONone)) (dLst (dCons (dC (.str "argument run")) (dCons (dC (.str "argument one")) (dNil))))))) (sNever) (bNil))
  (bSeq (sIf (dTOr (dTb (dBin dNe (dSlice (dCall m__law_every (dCons (dVar 3) (dNil))) (dONone) (dOSome (dC (.int 3)))) (dLst (dCons (dLst (dCons (dTup (dCons (dC (.int 1)) (dCons (dC (.int 1)) (dNil)))) (dNil))) (dCons (dLst (dCons (dTup (dCons (dTup (dCons (dC (.int 1)) (dCons (dC (.int 1)) (dNil)))) (dNil))) (dNil))) (dCons (dLst (dCons (dTup (dCons (dC (.str "ann")) (dNil))) (dNil))) (dNil))))))) (dTb (dBin dNe (dCall m__law_heard (dCons (dC (.fn 4)) (dCons (dLst (dCons (dVar 3) (dNil))) (dNil)))) (dLst (dCons (dTup (dCons (dC (.str "do")) (dCons (dC (.str "ann")) (dNil)))) (dNil)))))) (sNever) (bNil))
  (bSeq (sSet 4 (dCall bTuple (dCons (dLc (dItems (dCall m__law_names (dCons (dC (.int 30)) (dNil)))) (gSet 15) (dYes) (dTup (dCons (dC (.str "do")) (dCons (dVar 15) (dNil)))) [15]) (dNil))))
  (bSeq (sSet 5 (dCallO m__law_pick 1 (dCons (dLst (dCons (dC (.str "row")) (dCons (dC (.str "all")) (dCons (dC (.str "one")) (dNil))))) (dNil))))
  (bSeq (sSet 6 (dTup (dCons (dC (.str "row")) (dCons (dTup (dCons (dTup (dCons (dC (.str "do")) (dCons (dC (.str "a")) (dNil)))) (dCons (dCallO m__law_within 1 (dCons (dCallO m__law_draw 1 (dCons (dC (.int 9)) (dNil))) (dCons (dTup (dCons (dC (.str "do")) (dCons (dC (.str "a")) (dNil)))) (dNil)))) (dNil)))) (dNil)))))
  (bSeq (sSet 7 (dTup (dCons (dVar 5) (dCons (dTup (dCons (dTup (dCons (dC (.str "row")) (dCons (dVar 4) (dNil)))) (dCons (dTup (dCons (dC (.str "do")) (dCons (dC (.str "q")) (dNil)))) (dNil)))) (dNil)))))
  (bSeq (sIf (dTOr (dTb (dBin dNe (dCall m__law_every (dCons (dVar 6) (dNil))) (dBin dMul (dLst (dCons (dC (.str "flow names")) (dNil))) (dC (.int 7))))) (dTb (dBin dNe (dCall m__law_every (dCons (dVar 7) (dNil))) (dBin dMul (dLst (dCons (dC (.str "flow names")) (dNil))) (dC (.int 7)))))) (sNever) (bNil))
  (bSeq (sIf (dTb (dBin dNe (dCall m__law_heard (dCons (dC (.fn 0)) (dCons (dLst (dCons (dTup (dCons (dVar 5) (dCons (dVar 4) (dNil)))) (dNil))) (dNil)))) (dLst (dCons (dIf (dTb (dBin dEq (dVar 5) (dC (.str "one")))) (dTup (dCons (dC (.int 1)) (dCons (dC (.int 1)) (dNil)))) (dTup (dCons (dC (.int 30)) (dCons (dC (.int 30)) (dNil))))) (dNil))))) (sNever) (bNil))
  (bSeq (sSet 8 (dTup (dCons (dC (.str "row")) (dCons (dSlice (dVar 4) (dONone) (dOSome (dC (.int 8)))) (dNil)))))
  (bSeq (sSet 9 (dTup (dCons (dC (.str "again")) (dCons (dTup (dCons (dC (.str "again")) (dCons (dVar 8) (dCons (dC (.int 5)) (dNil))))) (dCons (dC (.int 5)) (dNil))))))
  (bSeq (sIf (dTOr (dTb (dBin dNe (dCall m__law_heard (dCons (dC (.fn 0)) (dCons (dLst (dCons (dVar 9) (dNil))) (dNil)))) (dLst (dCons (dTup (dCons (dC (.int 8)) (dCons (dC (.int 200)) (dNil)))) (dNil))))) (dTb (dBin dNe (dCall m__law_every (dCons (dTup (dCons (dC (.str "row")) (dCons (dTup (dCons (dVar 9) (dCons (dTup (dCons (dC (.str "do")) (dCons (dC (.str "q")) (dNil)))) (dNil)))) (dNil)))) (dNil))) (dBin dMul (dLst (dCons (dC (.str "flow long")) (dNil))) (dC (.int 7)))))) (sNever) (bNil))
  (bSeq (sIf (dTOr (dTb (dBin dNe (dCall m__law_every (dCons (dTup (dCons (dC (.str "row")) (dCons (dTup (dCons (dTup (dCons (dC (.str "again")) (dCons (dTup (dCons (dC (.str "again")) (dCons (dTup (dCons (dC (.str "row")) (dCons (dSlice (dVar 4) (dONone) (dOSome (dC (.int 9)))) (dNil)))) (dCons (dC (.int 5)) (dNil))))) (dCons (dC (.int 5)) (dNil))))) (dCons (dTup (dCons (dC (.str "do")) (dCons (dBin dMul (dC (.str "a")) (dC (.int 10))) (dNil)))) (dNil)))) (dNil)))) (dNil))) (dBin dMul (dLst (dCons (dC (.str "flow long")) (dNil))) (dC (.int 7))))) (dTb (dBin dNe (dCall m__law_heard (dCons (dC (.fn 0)) (dCons (dLst (dCons (dTup (dCons (dC (.str "one")) (dCons (dTup (dCons (dVar 9) (dCons (dTup (dCons (dC (.str "do")) (dCons (dC (.str "q")) (dNil)))) (dNil)))) (dNil)))) (dNil))) (dNil)))) (dLst (dCons (dTup (dCons (dC (.int 1)) (dCons (dC (.int 200)) (dNil)))) (dNil)))))) (sNever) (bNil))
  (bSeq (sIf (dTb (dBin dNe (dCall m__law_heard (dCons (dC (.fn 5)) (dCons (dLst (dCons (dVar 9) (dCons (dBin dMul (dCall bTuple (dCons (dLc (dItems (dSlice (dVar 4) (dONone) (dOSome (dC (.int 8))))) (gSet 15) (dYes) (dBin dIx (dVar 15) (dC (.int 1))) [15]) (dNil))) (dC (.int 25))) (dNil)))) (dNil)))) (dLst (dCons (dTup (dCons (dC (.str "done")) (dCons (dTup (dNil)) (dNil)))) (dNil))))) (sNever) (bNil))
  (bSeq (sSet 10 (dTup (dCons (dC (.str "row")) (dCons (dTup (dCons (dTup (dCons (dC (.str "do")) (dCons (dC (.str "a")) (dNil)))) (dCons (dTup (dCons (dC (.str "do")) (dCons (dC (.str "b")) (dNil)))) (dNil)))) (dNil)))))
  (bSeq (sSet 11 (dCallO m__law_pick 1 (dCons (dLst (dCons (dC .non) (dCons (dTup (dCons (dC (.str "a")) (dCons (dC (.int 5)) (dNil)))) (dCons (dTup (dCons (dC (.str "a")) (dCons (dC (.str "")) (dNil)))) (dCons (dTup (dCons (dC (.str "a")) (dCons (dC (.str "B")) (dNil)))) (dCons (dLst (dCons (dC (.str "a")) (dNil))) (dCons (dC (.str "a")) (dCons (dBin dMul (dTup (dCons (dC (.str "a")) (dNil))) (dC (.int 201))) (dCons (dTup (dCons (dTup (dCons (dC (.str "a")) (dNil))) (dNil))) (dCons (dTup (dCons (dC (.str "a")) (dCons (dBin dMul (dC (.str "b")) (dC (.int 11))) (dNil)))) (dCons (dTup (dCons (dC (.str "a")) (dCons (dC .non) (dNil)))) (dNil)))))))))))) (dNil))))
  (bSeq (sSet 12 (dCallO m__law_pick 1 (dCons (dLst (dCons (dC .non) (dCons (dC (.str "c")) (dCons (dC (.str "")) (dCons (dC (.int 5)) (dCons (dTup (dCons (dC (.str "a")) (dNil))) (dCons (dC (.bl true)) (dCons (dC (.str "B")) (dNil))))))))) (dNil))))
  (bSeq (sSet 13 (dLst (dCons (dCall m__law_heard (dCons (dC (.fn 5)) (dCons (dLst (dCons (dVar 10) (dCons (dVar 11) (dNil)))) (dNil)))) (dCons (dCall m__law_heard (dCons (dC (.fn 6)) (dCons (dLst (dCons (dVar 10) (dCons (dVar 12) (dCons (dVar 12) (dNil))))) (dNil)))) (dCons (dCall m__law_heard (dCons (dC (.fn 6)) (dCons (dLst (dCons (dVar 10) (dCons (dC (.str "a")) (dCons (dVar 12) (dNil))))) (dNil)))) (dCons (dCall m__law_heard (dCons (dC (.fn 6)) (dCons (dLst (dCons (dVar 10) (dCons (dC (.str "b")) (dCons (dC (.str "b")) (dNil))))) (dNil)))) (dNil)))))))
  (bSeq (sIf (dTb (dBin dNe (dVar 13) (dLst (dCons (dC (.str "argument run")) (dCons (dC (.str "argument one")) (dCons (dC (.str "argument other")) (dCons (dC (.str "argument other")) (dNil)))))))) (sNever) (bNil))
  (sRet (dAndV (dBin dEq (dCall m__law_heard (dCons (dC (.fn 5)) (dCons (dLst (dCons (dVar 10) (dCons (dBin dAdd (dTup (dCons (dC (.str "a")) (dNil))) (dBin dMul (dTup (dCons (dBin dMul (dC (.str "z")) (dC (.int 10))) (dNil))) (dC (.int 199)))) (dNil)))) (dNil)))) (dLst (dCons (dTup (dCons (dC (.str "wrong")) (dCons (dC (.int 1)) (dNil)))) (dNil)))) (dBin dEq (dCall m__law_heard (dCons (dC (.fn 5)) (dCons (dLst (dCons (dVar 10) (dCons (dTup (dNil)) (dNil)))) (dNil)))) (dLst (dCons (dTup (dCons (dC (.str "open")) (dCons (dTup (dCons (dC (.str "a")) (dNil))) (dNil)))) (dNil))))))))))))))))))))))))))
def m_law : List D → M D := fun ds => fin (b_law (enter 16 ds))
structure TF (K : PySem.W.Frag) (mg : Str → Option Value) (g : Ce) (Ca Ci : Nat → Addr) (AW : Addr) : Prop where
  f__law_start : FunAt K mg "_law_start" (top 40) ["script"]
  f__law_draw : FunAt K mg "_law_draw" (top 41) ["state", "many"]
  f__law_pick : FunAt K mg "_law_pick" (top 42) ["state", "some"]
  f__law_within : FunAt K mg "_law_within" (top 46) ["state", "depth", "leaf"]
  f_is_name : FunAt K mg "is_name" (top 14) ["value"]
  f_is_integer : FunAt K mg "is_integer" (top 12) ["value"]
  f_is_between : FunAt K mg "is_between" (top 13) ["value", "low", "high"]
  f_is_tree : FunAt K mg "is_tree" (top 17) ["value", "deep"]
  f_names_in : FunAt K mg "names_in" (top 19) ["tree"]
  f_length_of : FunAt K mg "length_of" (top 20) ["tree", "most"]
  f_check_tree : FunAt K mg "check_tree" (top 18) ["tree"]
  f_lengths : FunAt K mg "lengths" (top 21) ["tree"]
  f_choose : FunAt K mg "choose" (top 22) ["many", "few"]
  f_joined : FunAt K mg "joined" (top 23) ["first", "second", "mixed"]
  f_ways_in : FunAt K mg "ways_in" (top 24) ["tree"]
  f_count_ways : FunAt K mg "count_ways" (top 25) ["tree"]
  f_needed_in : FunAt K mg "needed_in" (top 36) ["tree"]
  f_must_have : FunAt K mg "must_have" (top 35) ["tree"]
  f_turned_of : FunAt K mg "turned_of" (top 32) ["tree"]
  f_turned : FunAt K mg "turned" (top 31) ["tree"]
  f_normal_of : FunAt K mg "normal_of" (top 34) ["tree"]
  f_normal : FunAt K mg "normal" (top 33) ["tree"]
  f_ended : FunAt K mg "ended" (top 26) ["tree", "state"]
  f_moved : FunAt K mg "moved" (top 29) ["tree", "state", "name"]
  f_further : FunAt K mg "further" (top 28) ["tree", "states", "name"]
  f_any_ended : FunAt K mg "any_ended" (top 27) ["tree", "states"]
  f_judge_run : FunAt K mg "judge_run" (top 30) ["tree", "names"]
  f_relation : FunAt K mg "relation" (top 38) ["tree", "one", "other"]
  f__law_called : FunAt K mg "_law_called" (top 44) ["call", "some"]
  f__law_word : FunAt K mg "_law_word" (top 43) ["error"]
  f__law_heard : FunAt K mg "_law_heard" (top 45) ["call", "some"]
  f__law_every : FunAt K mg "_law_every" (top 47) ["tree"]
  f__law_names : FunAt K mg "_law_names" (top 48) ["many"]
  f_law : FunAt K mg "law" (top 49) ["script"]
  k_MAX_AGAIN : ∃ t, mg "MAX_AGAIN" = some (.int 5 t)
  k_MAX_DEPTH : ∃ t, mg "MAX_DEPTH" = some (.int 12 t)
  k_MAX_LEAVES : ∃ t, mg "MAX_LEAVES" = some (.int 30 t)
  k_MAX_NAME : ∃ t, mg "MAX_NAME" = some (.int 10 t)
  k_MAX_RUN : ∃ t, mg "MAX_RUN" = some (.int 200 t)
  k_GROUPS : ∃ t, mg "GROUPS" = some (.ref t) ∧ ∀ H, SqT K H t ((["row", "all", "one"] : List Str).map V.str)
  b_abs : mg "abs" = none
  b_all : mg "all" = none
  b_bool : mg "bool" = none
  b_enumerate : mg "enumerate" = none
  b_int : mg "int" = none
  b_isinstance : mg "isinstance" = none
  b_len : mg "len" = none
  b_list : mg "list" = none
  b_max : mg "max" = none
  b_min : mg "min" = none
  b_range : mg "range" = none
  b_sorted : mg "sorted" = none
  b_str : mg "str" = none
  b_sum : mg "sum" = none
  b_tuple : mg "tuple" = none
  v_lengths : ∃ f, mg "lengths" = some (.ref f) ∧ g.fa 0 = some f
  v_count_ways : ∃ f, mg "count_ways" = some (.ref f) ∧ g.fa 1 = some f
  v_must_have : ∃ f, mg "must_have" = some (.ref f) ∧ g.fa 2 = some f
  v_turned : ∃ f, mg "turned" = some (.ref f) ∧ g.fa 3 = some f
  v_normal : ∃ f, mg "normal" = some (.ref f) ∧ g.fa 4 = some f
  v_judge_run : ∃ f, mg "judge_run" = some (.ref f) ∧ g.fa 5 = some f
  v_relation : ∃ f, mg "relation" = some (.ref f) ∧ g.fa 6 = some f
  w : WCls K mg g Ca
  wk : mg "WorkError" = some (.ref AW)
  x0 : Sup.Txt PP K mg (Ca 0) (Ci 0)
  x1 : Sup.Txt PP K mg (Ca 1) (Ci 1)
  x2 : Sup.Txt PP K mg (Ca 2) (Ci 2)
  x3 : Sup.Txt PP K mg (Ca 3) (Ci 3)
  en : ∀ i, g.en i = "reason"
  hx : ∀ i, i < 4 → PySem.W.exmOne K (.ref (Ca i)) (.ref AW) = some true
  xm : ∀ i j, i < 4 → j < 4 → PySem.W.exmOne K (.ref (Ca i)) (.ref (Ca j)) = some (i == j)
section
variable {w : World} {K : PySem.W.Frag} {mg : Str → Option Value} {base : Heap} {g : Ce} {Ca Ci : Nat → Addr} {AW : Addr}
theorem sc__law_start : FnScope N__law_start ["script"] (defScope (top 40)) := ⟨rfl, rfl, rfl, by decide +kernel, rfl, by decide +kernel, by decide +kernel⟩
theorem ok__law_start (nn : Bool) (T : TF K mg g Ca Ci AW) : Fok nn PP w K mg base 1 "_law_start" (spF (ck K g) 1 m__law_start) := by
  have b_int := T.b_int
  have b_list := T.b_list
  refine fok_fresh (k := 0) (N := N__law_start) (body := b__law_start) T.f__law_start sc__law_start rfl (by decide) (fun _ => rfl) fun X W C pa => ?_
  unfold b__law_start
  exact ss_cons (s_set C 1 rfl (by decide +kernel) (e_int))
      (ss_cons (s_for (vs := [2]) C (i_items (n_var C 0 "script" rfl (by decide +kernel) dbg_script cld_script)) (g_name (n_pg C 2 "cell" rfl (by decide +kernel)) (by decide)) (ss_one (s_set C 1 rfl (by decide +kernel) (eAdd (.inl rfl) (eMod (.inl rfl) (e_callT call_int1 vc_int bInt_nr (gloB_of C (by decide +kernel)) (mgn C b_int) rfl (a_cons (.inl rfl) (eAdd (.inl rfl) (eMul (.inl rfl) (n_var C 1 "seed" rfl (by decide +kernel) dbg_seed cld_seed) (e_int)) (n_var C 2 "cell" rfl (by decide +kernel) dbg_cell cld_cell)) (a_nil))) (e_int)) (e_int)))))
      (ss_one (s_retF (f_lst rfl (a_cons (.inl rfl) (DF.val (f_callT call_list_of vcf_list bList_nr (gloB_of C (by decide +kernel)) (mgn C b_list) rfl (a_cons (.inl rfl) (n_var C 0 "script" rfl (by decide +kernel) dbg_script cld_script) (a_nil)))) (a_cons (.inl rfl) (e_int) (a_cons (.inl rfl) (e_int) (a_cons (.inl rfl) (n_var C 1 "seed" rfl (by decide +kernel) dbg_seed cld_seed) (a_nil)))))))))
theorem sc__law_draw : FnScope N__law_draw ["state", "many"] (defScope (top 41)) := ⟨rfl, rfl, rfl, by decide +kernel, rfl, by decide +kernel, by decide +kernel⟩
theorem ok__law_draw (nn : Bool) (T : TF K mg g Ca Ci AW) : Fok nn PP w K mg base 1 "_law_draw" (spO (ck K g) 1 m__law_draw) := by
  have b_abs := T.b_abs
  have b_int := T.b_int
  have b_len := T.b_len
  refine fok_own (k := 0) (N := N__law_draw) (body := b__law_draw) T.f__law_draw sc__law_draw rfl (by decide) (fun _ _ => rfl) fun X W C pa => ?_
  unfold b__law_draw
  exact ss_cons (s_if (t_w (w_and (tEq C (.inl rfl) (eIx (.inr rfl) (n_varO C 0 "state" rfl (by decide +kernel) dbg_state cld_state) (e_int)) (e_int)) (w_and1 (tGe (.inl rfl) (eIx (.inr rfl) (n_varO C 0 "state" rfl (by decide +kernel) dbg_state cld_state) (e_int)) (e_callB call_len vc_len bLen_nr (gloB_of C (by decide +kernel)) (mgn C b_len) rfl (a_cons (.inl rfl) (eIx (.inr rfl) (n_varO C 0 "state" rfl (by decide +kernel) dbg_state cld_state) (e_int)) (a_nil))))))) (ss_cons (s_sub (n_pe C 0 "state" rfl (by decide +kernel) dbg_state cld_state) (e_int) (eMod (.inl rfl) (e_callT call_int1 vc_int bInt_nr (gloB_of C (by decide +kernel)) (mgn C b_int) rfl (a_cons (.inl rfl) (eAdd (.inl rfl) (eMul (.inl rfl) (eIx (.inr rfl) (n_varO C 0 "state" rfl (by decide +kernel) dbg_state cld_state) (e_int)) (e_int)) (e_int)) (a_nil))) (e_int)))
      (ss_one (s_ret (eMod (.inl rfl) (e_callT call_int1 vc_int bInt_nr (gloB_of C (by decide +kernel)) (mgn C b_int) rfl (a_cons (.inl rfl) (eFdiv (.inl rfl) (eIx (.inr rfl) (n_varO C 0 "state" rfl (by decide +kernel) dbg_state cld_state) (e_int)) (e_int)) (a_nil))) (n_var C 1 "many" rfl (by decide +kernel) dbg_many cld_many))))) (ss_nil))
      (ss_cons (s_if (tEq C (.inl rfl) (eIx (.inr rfl) (n_varO C 0 "state" rfl (by decide +kernel) dbg_state cld_state) (e_int)) (e_int)) (ss_cons (s_sub (n_pe C 0 "state" rfl (by decide +kernel) dbg_state cld_state) (e_int) (e_callB call_abs vc_abs bAbs_nr (gloB_of C (by decide +kernel)) (mgn C b_abs) rfl (a_cons (.inl rfl) (eIx (.inl rfl) (eIx (.inr rfl) (n_varO C 0 "state" rfl (by decide +kernel) dbg_state cld_state) (e_int)) (eIx (.inr rfl) (n_varO C 0 "state" rfl (by decide +kernel) dbg_state cld_state) (e_int))) (a_nil))))
      (ss_one (s_sub (n_pe C 0 "state" rfl (by decide +kernel) dbg_state cld_state) (e_int) (eAdd (.inl rfl) (eIx (.inr rfl) (n_varO C 0 "state" rfl (by decide +kernel) dbg_state cld_state) (e_int)) (e_int))))) (ss_nil))
      (ss_cons (s_set C 2 rfl (by decide +kernel) (eMod (.inl rfl) (e_callT call_int1 vc_int bInt_nr (gloB_of C (by decide +kernel)) (mgn C b_int) rfl (a_cons (.inl rfl) (eIx (.inr rfl) (n_varO C 0 "state" rfl (by decide +kernel) dbg_state cld_state) (e_int)) (a_nil))) (n_var C 1 "many" rfl (by decide +kernel) dbg_many cld_many)))
      (ss_cons (s_sub (n_pe C 0 "state" rfl (by decide +kernel) dbg_state cld_state) (e_int) (eFdiv (.inl rfl) (eIx (.inr rfl) (n_varO C 0 "state" rfl (by decide +kernel) dbg_state cld_state) (e_int)) (n_var C 1 "many" rfl (by decide +kernel) dbg_many cld_many)))
      (ss_one (s_ret (n_var C 2 "value" rfl (by decide +kernel) dbg_value cld_value))))))
theorem sc__law_pick : FnScope N__law_pick ["state", "some"] (defScope (top 42)) := ⟨rfl, rfl, rfl, by decide +kernel, rfl, by decide +kernel, by decide +kernel⟩
theorem ok__law_pick (nn : Bool) (T : TF K mg g Ca Ci AW) : Fok nn PP w K mg base 2 "_law_pick" (spO (ck K g) 1 m__law_pick) := by
  have b_len := T.b_len
  have F__law_draw := ok__law_draw (w := w) (base := base) nn T
  refine fok_own (k := 1) (N := N__law_pick) (body := b__law_pick) T.f__law_pick sc__law_pick rfl (by decide) (fun _ _ => rfl) fun X W C pa => ?_
  unfold b__law_pick
  exact ss_one (s_ret (eIx (.inl rfl) (n_var C 1 "some" rfl (by decide +kernel) dbg_some cld_some) (e_callO C F__law_draw (by decide) (by decide +kernel) rfl 0 (n_pe C 0 "state" rfl (by decide +kernel) dbg_state cld_state) (a_cons (.inl rfl) (e_callB call_len vc_len bLen_nr (gloB_of C (by decide +kernel)) (mgn C b_len) rfl (a_cons (.inl rfl) (n_var C 1 "some" rfl (by decide +kernel) dbg_some cld_some) (a_nil))) (a_nil)) dbg__law_draw)))
theorem sc__law_within : FnScope N__law_within ["state", "depth", "leaf"] (defScope (top 46)) := ⟨rfl, rfl, rfl, by decide +kernel, rfl, by decide +kernel, by decide +kernel⟩
theorem ok__law_within (nn : Bool) (T : TF K mg g Ca Ci AW) : Fok nn PP w K mg base 3 "_law_within" (spO (ck K g) 2 m__law_within) := by
  have b_range := T.b_range
  have F__law_pick := ok__law_pick (w := w) (base := base) nn T
  refine fok_own (k := 2) (N := N__law_within) (body := b__law_within) T.f__law_within sc__law_within rfl (by decide) (fun _ _ => rfl) fun X W C pa => ?_
  unfold b__law_within
  exact ss_cons (s_set C 3 rfl (by decide +kernel) (n_var C 2 "leaf" rfl (by decide +kernel) dbg_leaf cld_leaf))
      (ss_cons (s_for (vs := [4]) C (i_rng1 (gloB_of C (by decide +kernel)) (mgn C b_range) (a_cons (.inl rfl) (n_var C 1 "depth" rfl (by decide +kernel) dbg_depth cld_depth) (a_nil))) (g_name (n_pg C 4 "k" rfl (by decide +kernel)) (by decide)) (ss_one (s_set C 3 rfl (by decide +kernel) (e_callO C F__law_pick (by decide) (by decide +kernel) rfl 0 (n_pe C 0 "state" rfl (by decide +kernel) dbg_state cld_state) (a_cons (.inl rfl) (DF.val (f_lst rfl (a_cons (.inl rfl) (e_tup rfl (a_cons (.inl rfl) (e_str) (a_cons (.inl rfl) (e_tup rfl (a_cons (.inl rfl) (n_var C 3 "tree" rfl (by decide +kernel) dbg_tree cld_tree) (a_nil))) (a_nil)))) (a_cons (.inl rfl) (e_tup rfl (a_cons (.inl rfl) (e_str) (a_cons (.inl rfl) (e_tup rfl (a_cons (.inl rfl) (n_var C 3 "tree" rfl (by decide +kernel) dbg_tree cld_tree) (a_nil))) (a_nil)))) (a_cons (.inl rfl) (e_tup rfl (a_cons (.inl rfl) (e_str) (a_cons (.inl rfl) (e_tup rfl (a_cons (.inl rfl) (n_var C 3 "tree" rfl (by decide +kernel) dbg_tree cld_tree) (a_nil))) (a_nil)))) (a_cons (.inl rfl) (e_tup rfl (a_cons (.inl rfl) (e_str) (a_cons (.inl rfl) (n_var C 3 "tree" rfl (by decide +kernel) dbg_tree cld_tree) (a_cons (.inl rfl) (e_int) (a_nil))))) (a_nil))))))) (a_nil)) dbg__law_pick))))
      (ss_one (s_ret (n_var C 3 "tree" rfl (by decide +kernel) dbg_tree cld_tree))))
theorem sc_is_name : FnScope N_is_name ["value"] (defScope (top 14)) := ⟨rfl, rfl, rfl, by decide +kernel, rfl, by decide +kernel, by decide +kernel⟩
theorem ok_is_name (nn : Bool) (T : TF K mg g Ca Ci AW) : Fok nn PP w K mg base 1 "is_name" (spP (ck K g) 1 m_is_name) := by
  obtain ⟨t_MAX_NAME, k_MAX_NAME⟩ := T.k_MAX_NAME
  have b_all := T.b_all
  have b_isinstance := T.b_isinstance
  have b_len := T.b_len
  have b_str := T.b_str
  refine fok_pure (k := 0) (N := N_is_name) (body := b_is_name) T.f_is_name sc_is_name rfl (by decide) (fun _ => rfl) fun X W C pa => ?_
  unfold b_is_name
  exact ss_one (s_ret (e_and (e_isi kitT_str (gloB_of C (by decide +kernel)) (mgn C b_isinstance) (gloB_of C (by decide +kernel)) (mgn C b_str) rfl (n_var C 0 "value" rfl (by decide +kernel) dbg_value cld_value)) (e_and (e_chain op_leD op_leD vb_cmpI vb_cmpI dCmpI_nr dCmpI_nr rfl (e_int) (e_callB call_len vc_len bLen_nr (gloB_of C (by decide +kernel)) (mgn C b_len) rfl (a_cons (.inl rfl) (n_var C 0 "value" rfl (by decide +kernel) dbg_value cld_value) (a_nil))) (n_const C (by decide +kernel) k_MAX_NAME dbg_MAX_NAME)) (e_one (e_callB (cr_all C.calm) vc_all bAll_nr (gloB_of C (by decide +kernel)) (mgn C b_all) rfl (a_cons (.inl rfl) (DF.val (f_lc C [("sign", 1)] (by decide +kernel) (i_items (n_var C 0 "value" rfl (by decide +kernel) dbg_value cld_value)) (fun s1 H1 A1 l1 p1 => g_name (n_tg C s1 H1 A1 l1 p1 1 rfl (by decide +kernel)) (by decide)) (fun s1 H1 A1 l1 p1 => c_nil) (fun s1 H1 A1 l1 p1 => e_chain op_leD op_leD vb_cmpI vb_cmpI dCmpI_nr dCmpI_nr rfl (e_str) (n_var (C.blk s1 H1 _ A1 l1 p1) 1 "sign" rfl (by decide +kernel) dbg_sign cld_sign) (e_str)))) (a_nil)))))))
theorem sc_is_integer : FnScope N_is_integer ["value"] (defScope (top 12)) := ⟨rfl, rfl, rfl, by decide +kernel, rfl, by decide +kernel, by decide +kernel⟩
theorem ok_is_integer (nn : Bool) (T : TF K mg g Ca Ci AW) : Fok nn PP w K mg base 1 "is_integer" (spP (ck K g) 1 m_is_integer) := by
  have b_bool := T.b_bool
  have b_int := T.b_int
  have b_isinstance := T.b_isinstance
  refine fok_pure (k := 0) (N := N_is_integer) (body := b_is_integer) T.f_is_integer sc_is_integer rfl (by decide) (fun _ => rfl) fun X W C pa => ?_
  unfold b_is_integer
  exact ss_one (s_ret (e_and (e_isi kitT_int (gloB_of C (by decide +kernel)) (mgn C b_isinstance) (gloB_of C (by decide +kernel)) (mgn C b_int) rfl (n_var C 0 "value" rfl (by decide +kernel) dbg_value cld_value)) (e_one (e_not (e_isi kitT_bool (gloB_of C (by decide +kernel)) (mgn C b_isinstance) (gloB_of C (by decide +kernel)) (mgn C b_bool) rfl (n_var C 0 "value" rfl (by decide +kernel) dbg_value cld_value))))))
theorem sc_is_between : FnScope N_is_between ["value", "low", "high"] (defScope (top 13)) := ⟨rfl, rfl, rfl, by decide +kernel, rfl, by decide +kernel, by decide +kernel⟩
theorem ok_is_between (nn : Bool) (T : TF K mg g Ca Ci AW) : Fok nn PP w K mg base 2 "is_between" (spP (ck K g) 3 m_is_between) := by
  have F_is_integer := ok_is_integer (w := w) (base := base) nn T
  refine fok_pure (k := 1) (N := N_is_between) (body := b_is_between) T.f_is_between sc_is_between rfl (by decide) (fun _ => rfl) fun X W C pa => ?_
  unfold b_is_between
  exact ss_one (s_ret (e_and (e_call C F_is_integer (by decide) (by decide +kernel) rfl (a_cons (.inl rfl) (n_var C 0 "value" rfl (by decide +kernel) dbg_value cld_value) (a_nil)) dbg_is_integer) (e_one (e_chain op_leD op_leD vb_cmpI vb_cmpI dCmpI_nr dCmpI_nr rfl (n_var C 1 "low" rfl (by decide +kernel) dbg_low cld_low) (n_var C 0 "value" rfl (by decide +kernel) dbg_value cld_value) (n_var C 2 "high" rfl (by decide +kernel) dbg_high cld_high)))))
theorem sc_is_tree : FnScope N_is_tree ["value", "deep"] (defScope (top 17)) := ⟨rfl, rfl, rfl, by decide +kernel, rfl, by decide +kernel, by decide +kernel⟩
theorem okr_is_tree (nn : Bool) (T : TF K mg g Ca Ci AW) : ∀ n : Nat, Fok nn PP w K mg base (3 + n) "is_tree" (spP (ck K g) 2 (mr_is_tree n)) := by
  intro n
  induction n with
  | zero => exact fok_pure (k := 2) (N := N_is_tree) (body := sNever) T.f_is_tree sc_is_tree rfl (by decide) (fun _ => rfl) fun X W C pa => ss_never
  | succ n ih =>
    have F_is_tree := ih
    ·
      obtain ⟨t_MAX_AGAIN, k_MAX_AGAIN⟩ := T.k_MAX_AGAIN
      obtain ⟨t_MAX_LEAVES, k_MAX_LEAVES⟩ := T.k_MAX_LEAVES
      obtain ⟨t_GROUPS, k_GROUPS, q_GROUPS⟩ := T.k_GROUPS
      have b_all := T.b_all
      have b_isinstance := T.b_isinstance
      have b_len := T.b_len
      have b_str := T.b_str
      have b_tuple := T.b_tuple
      have F_is_name := ok_is_name (w := w) (base := base) nn T
      have F_is_between := ok_is_between (w := w) (base := base) nn T
      refine fok_pure (k := 3 + n) (N := N_is_tree) (body := b_is_tree (mr_is_tree n)) T.f_is_tree sc_is_tree rfl (by decide) (fun _ => rfl) fun X W C pa => ?_
      unfold b_is_tree
      exact ss_cons (s_if (t_w (w_or (tEq C (.inl rfl) (n_var C 1 "deep" rfl (by decide +kernel) dbg_deep cld_deep) (e_int)) (w_or (t_not (tTruth (e_isi kitT_tuple (gloB_of C (by decide +kernel)) (mgn C b_isinstance) (gloB_of C (by decide +kernel)) (mgn C b_tuple) rfl (n_var C 0 "value" rfl (by decide +kernel) dbg_value cld_value)))) (w_or (t_not (tTruth (n_var C 0 "value" rfl (by decide +kernel) dbg_value cld_value))) (w_or1 (t_not (tTruth (e_isi kitT_str (gloB_of C (by decide +kernel)) (mgn C b_isinstance) (gloB_of C (by decide +kernel)) (mgn C b_str) rfl (eIx (.inl rfl) (n_var C 0 "value" rfl (by decide +kernel) dbg_value cld_value) (e_int)))))))))) (ss_one (s_ret (e_bl))) (ss_nil))
          (ss_cons (s_if (tEq C (.inl rfl) (eIx (.inl rfl) (n_var C 0 "value" rfl (by decide +kernel) dbg_value cld_value) (e_int)) (e_str)) (ss_one (s_ret (e_and (eEq C (.inl rfl) (e_callB call_len vc_len bLen_nr (gloB_of C (by decide +kernel)) (mgn C b_len) rfl (a_cons (.inl rfl) (n_var C 0 "value" rfl (by decide +kernel) dbg_value cld_value) (a_nil))) (e_int)) (e_one (e_call C F_is_name (by omega) (by decide +kernel) rfl (a_cons (.inl rfl) (eIx (.inl rfl) (n_var C 0 "value" rfl (by decide +kernel) dbg_value cld_value) (e_int)) (a_nil)) dbg_is_name))))) (ss_nil))
          (ss_cons (s_if (tEq C (.inl rfl) (eIx (.inl rfl) (n_var C 0 "value" rfl (by decide +kernel) dbg_value cld_value) (e_int)) (e_str)) (ss_one (s_ret (e_and (eEq C (.inl rfl) (e_callB call_len vc_len bLen_nr (gloB_of C (by decide +kernel)) (mgn C b_len) rfl (a_cons (.inl rfl) (n_var C 0 "value" rfl (by decide +kernel) dbg_value cld_value) (a_nil))) (e_int)) (e_and (e_call C F_is_between (by omega) (by decide +kernel) rfl (a_cons (.inl rfl) (eIx (.inl rfl) (n_var C 0 "value" rfl (by decide +kernel) dbg_value cld_value) (e_int)) (a_cons (.inl rfl) (e_int) (a_cons (.inl rfl) (n_const C (by decide +kernel) k_MAX_AGAIN dbg_MAX_AGAIN) (a_nil)))) dbg_is_between) (e_one (e_call C F_is_tree (by omega) (by decide +kernel) rfl (a_cons (.inl rfl) (eIx (.inl rfl) (n_var C 0 "value" rfl (by decide +kernel) dbg_value cld_value) (e_int)) (a_cons (.inl rfl) (eSub (.inl rfl) (n_var C 1 "deep" rfl (by decide +kernel) dbg_deep cld_deep) (e_int)) (a_nil))) dbg_is_tree)))))) (ss_nil))
          (ss_cons (s_if (t_w (w_or (tNotIn C (.inl rfl) (eIx (.inl rfl) (n_var C 0 "value" rfl (by decide +kernel) dbg_value cld_value) (e_int)) (n_ctup C (by decide +kernel) k_GROUPS q_GROUPS dbg_GROUPS)) (w_or (tNe C (.inl rfl) (e_callB call_len vc_len bLen_nr (gloB_of C (by decide +kernel)) (mgn C b_len) rfl (a_cons (.inl rfl) (n_var C 0 "value" rfl (by decide +kernel) dbg_value cld_value) (a_nil))) (e_int)) (w_or1 (t_not (tTruth (e_isi kitT_tuple (gloB_of C (by decide +kernel)) (mgn C b_isinstance) (gloB_of C (by decide +kernel)) (mgn C b_tuple) rfl (eIx (.inl rfl) (n_var C 0 "value" rfl (by decide +kernel) dbg_value cld_value) (e_int))))))))) (ss_one (s_ret (e_bl))) (ss_nil))
          (ss_one (s_ret (e_and (e_chain op_leD op_leD vb_cmpI vb_cmpI dCmpI_nr dCmpI_nr rfl (e_int) (e_callB call_len vc_len bLen_nr (gloB_of C (by decide +kernel)) (mgn C b_len) rfl (a_cons (.inl rfl) (eIx (.inl rfl) (n_var C 0 "value" rfl (by decide +kernel) dbg_value cld_value) (e_int)) (a_nil))) (n_const C (by decide +kernel) k_MAX_LEAVES dbg_MAX_LEAVES)) (e_one (e_callB (cr_all C.calm) vc_all bAll_nr (gloB_of C (by decide +kernel)) (mgn C b_all) rfl (a_cons (.inl rfl) (DF.val (f_lc C [("part", 2)] (by decide +kernel) (i_items (eIx (.inl rfl) (n_var C 0 "value" rfl (by decide +kernel) dbg_value cld_value) (e_int))) (fun s1 H1 A1 l1 p1 => g_name (n_tg C s1 H1 A1 l1 p1 2 rfl (by decide +kernel)) (by decide)) (fun s1 H1 A1 l1 p1 => c_nil) (fun s1 H1 A1 l1 p1 => e_call (C.blk s1 H1 _ A1 l1 p1) F_is_tree (by omega) (by decide +kernel) rfl (a_cons (.inl rfl) (n_var (C.blk s1 H1 _ A1 l1 p1) 2 "part" rfl (by decide +kernel) dbg_part cld_part) (a_cons (.inl rfl) (eSub (.inl rfl) (n_var (C.blk s1 H1 _ A1 l1 p1) 1 "deep" rfl (by decide +kernel) dbg_deep cld_deep) (e_int)) (a_nil))) dbg_is_tree))) (a_nil))))))))))
theorem ok_is_tree (nn : Bool) (T : TF K mg g Ca Ci AW) : Fok nn PP w K mg base 19 "is_tree" (spP (ck K g) 2 m_is_tree) := (okr_is_tree nn T 16)
theorem sc_names_in : FnScope N_names_in ["tree"] (defScope (top 19)) := ⟨rfl, rfl, rfl, by decide +kernel, rfl, by decide +kernel, by decide +kernel⟩
theorem okr_names_in (nn : Bool) (T : TF K mg g Ca Ci AW) : ∀ n : Nat, Fok nn PP w K mg base (1 + n) "names_in" (spP (ck K g) 1 (mr_names_in n)) := by
  intro n
  induction n with
  | zero => exact fok_pure (k := 0) (N := N_names_in) (body := sNever) T.f_names_in sc_names_in rfl (by decide) (fun _ => rfl) fun X W C pa => ss_never
  | succ n ih =>
    have F_names_in := ih
    ·
      refine fok_pure (k := 1 + n) (N := N_names_in) (body := b_names_in (mr_names_in n)) T.f_names_in sc_names_in rfl (by decide) (fun _ => rfl) fun X W C pa => ?_
      unfold b_names_in
      exact ss_cons (s_if (tEq C (.inl rfl) (eIx (.inl rfl) (n_var C 0 "tree" rfl (by decide +kernel) dbg_tree cld_tree) (e_int)) (e_str)) (ss_one (s_ret (DF.val (f_lst rfl (a_cons (.inl rfl) (eIx (.inl rfl) (n_var C 0 "tree" rfl (by decide +kernel) dbg_tree cld_tree) (e_int)) (a_nil)))))) (ss_nil))
          (ss_cons (s_if (tEq C (.inl rfl) (eIx (.inl rfl) (n_var C 0 "tree" rfl (by decide +kernel) dbg_tree cld_tree) (e_int)) (e_str)) (ss_one (s_ret (e_call C F_names_in (by omega) (by decide +kernel) rfl (a_cons (.inl rfl) (eIx (.inl rfl) (n_var C 0 "tree" rfl (by decide +kernel) dbg_tree cld_tree) (e_int)) (a_nil)) dbg_names_in))) (ss_nil))
          (ss_cons (s_setO C 1 rfl (by decide +kernel) (f_lst rfl (a_nil)))
          (ss_cons (s_for (vs := [2]) C (i_items (eIx (.inl rfl) (n_var C 0 "tree" rfl (by decide +kernel) dbg_tree cld_tree) (e_int))) (g_name (n_pg C 2 "part" rfl (by decide +kernel)) (by decide)) (ss_one (s_drop (e_meth PySem.F.plainAttrs_list PySem.F.slot_list_extend PySem.F.type_list_extend mt_extend vm_ext fExt_nr rfl (n_pe C 1 "found" rfl (by decide +kernel) dbg_found cld_found) (a_cons (.inl rfl) (e_call C F_names_in (by omega) (by decide +kernel) rfl (a_cons (.inl rfl) (n_var C 2 "part" rfl (by decide +kernel) dbg_part cld_part) (a_nil)) dbg_names_in) (a_nil))))))
          (ss_one (s_retO 1 (n_pe C 1 "found" rfl (by decide +kernel) dbg_found cld_found))))))
theorem ok_names_in (nn : Bool) (T : TF K mg g Ca Ci AW) : Fok nn PP w K mg base 17 "names_in" (spP (ck K g) 1 m_names_in) := (okr_names_in nn T 16)
theorem sc_length_of : FnScope N_length_of ["tree", "most"] (defScope (top 20)) := ⟨rfl, rfl, rfl, by decide +kernel, rfl, by decide +kernel, by decide +kernel⟩
theorem okr_length_of (nn : Bool) (T : TF K mg g Ca Ci AW) : ∀ n : Nat, Fok nn PP w K mg base (1 + n) "length_of" (spP (ck K g) 2 (mr_length_of n)) := by
  intro n
  induction n with
  | zero => exact fok_pure (k := 0) (N := N_length_of) (body := sNever) T.f_length_of sc_length_of rfl (by decide) (fun _ => rfl) fun X W C pa => ss_never
  | succ n ih =>
    have F_length_of := ih
    ·
      have b_max := T.b_max
      have b_min := T.b_min
      have b_sum := T.b_sum
      refine fok_pure (k := 1 + n) (N := N_length_of) (body := b_length_of (mr_length_of n)) T.f_length_of sc_length_of rfl (by decide) (fun _ => rfl) fun X W C pa => ?_
      unfold b_length_of
      exact ss_cons (s_if (tEq C (.inl rfl) (eIx (.inl rfl) (n_var C 0 "tree" rfl (by decide +kernel) dbg_tree cld_tree) (e_int)) (e_str)) (ss_one (s_ret (e_int))) (ss_nil))
          (ss_cons (s_if (tEq C (.inl rfl) (eIx (.inl rfl) (n_var C 0 "tree" rfl (by decide +kernel) dbg_tree cld_tree) (e_int)) (e_str)) (ss_one (s_ret (eMul (.inl rfl) (e_call C F_length_of (by omega) (by decide +kernel) rfl (a_cons (.inl rfl) (eIx (.inl rfl) (n_var C 0 "tree" rfl (by decide +kernel) dbg_tree cld_tree) (e_int)) (a_cons (.inl rfl) (n_var C 1 "most" rfl (by decide +kernel) dbg_most cld_most) (a_nil))) dbg_length_of) (e_if (tTruth (n_var C 1 "most" rfl (by decide +kernel) dbg_most cld_most)) (eIx (.inl rfl) (n_var C 0 "tree" rfl (by decide +kernel) dbg_tree cld_tree) (e_int)) (e_int))))) (ss_nil))
          (ss_cons (s_setLc C [("part", 3)] (by decide +kernel) rfl 2 rfl (by decide +kernel) (i_items (eIx (.inl rfl) (n_var C 0 "tree" rfl (by decide +kernel) dbg_tree cld_tree) (e_int))) (fun s1 H1 A1 l1 p1 => g_name (n_tg C s1 H1 A1 l1 p1 3 rfl (by decide +kernel)) (by decide)) (fun s1 H1 A1 l1 p1 => c_nil) (fun s1 H1 A1 l1 p1 => e_call (C.blk s1 H1 _ A1 l1 p1) F_length_of (by omega) (by decide +kernel) rfl (a_cons (.inl rfl) (n_var (C.blk s1 H1 _ A1 l1 p1) 3 "part" rfl (by decide +kernel) dbg_part cld_part) (a_cons (.inl rfl) (n_var (C.blk s1 H1 _ A1 l1 p1) 1 "most" rfl (by decide +kernel) dbg_most cld_most) (a_nil))) dbg_length_of))
          (ss_cons (s_if (tEq C (.inl rfl) (eIx (.inl rfl) (n_var C 0 "tree" rfl (by decide +kernel) dbg_tree cld_tree) (e_int)) (e_str)) (ss_one (s_ret (e_if (tTruth (n_var C 1 "most" rfl (by decide +kernel) dbg_most cld_most)) (e_callB (cr_maxA C.calm) vc_max bMax_nr (gloB_of C (by decide +kernel)) (mgn C b_max) rfl (a_cons (.inl rfl) (n_var C 2 "sizes" rfl (by decide +kernel) dbg_sizes cld_sizes) (a_nil))) (e_callB (cr_minA C.calm) vc_min bMin_nr (gloB_of C (by decide +kernel)) (mgn C b_min) rfl (a_cons (.inl rfl) (n_var C 2 "sizes" rfl (by decide +kernel) dbg_sizes cld_sizes) (a_nil)))))) (ss_nil))
          (ss_one (s_ret (e_callB (cr_sumA C.calm) vc_sum bSum_nr (gloB_of C (by decide +kernel)) (mgn C b_sum) rfl (a_cons (.inl rfl) (n_var C 2 "sizes" rfl (by decide +kernel) dbg_sizes cld_sizes) (a_nil))))))))
theorem ok_length_of (nn : Bool) (T : TF K mg g Ca Ci AW) : Fok nn PP w K mg base 17 "length_of" (spP (ck K g) 2 m_length_of) := (okr_length_of nn T 16)
theorem sc_check_tree : FnScope N_check_tree ["tree"] (defScope (top 18)) := ⟨rfl, rfl, rfl, by decide +kernel, rfl, by decide +kernel, by decide +kernel⟩
theorem ok_check_tree (nn : Bool) (T : TF K mg g Ca Ci AW) : Fok nn PP w K mg base 20 "check_tree" (spP (ck K g) 1 m_check_tree) := by
  obtain ⟨t_MAX_DEPTH, k_MAX_DEPTH⟩ := T.k_MAX_DEPTH
  obtain ⟨t_MAX_LEAVES, k_MAX_LEAVES⟩ := T.k_MAX_LEAVES
  obtain ⟨t_MAX_RUN, k_MAX_RUN⟩ := T.k_MAX_RUN
  have b_len := T.b_len
  have F_is_tree := ok_is_tree (w := w) (base := base) nn T
  have F_names_in := ok_names_in (w := w) (base := base) nn T
  have F_length_of := ok_length_of (w := w) (base := base) nn T
  refine fok_pure (k := 19) (N := N_check_tree) (body := b_check_tree) T.f_check_tree sc_check_tree rfl (by decide) (fun _ => rfl) fun X W C pa => ?_
  unfold b_check_tree
  exact ss_cons (s_if (t_not (tTruth (e_call C F_is_tree (by decide) (by decide +kernel) rfl (a_cons (.inl rfl) (n_var C 0 "tree" rfl (by decide +kernel) dbg_tree cld_tree) (a_cons (.inl rfl) (n_const C (by decide +kernel) k_MAX_DEPTH dbg_MAX_DEPTH) (a_nil))) dbg_is_tree))) (ss_one (s_raise C (j := 0) T.x0 (by decide) (by decide +kernel) T.w.m0 (T.w.ec 0 (by decide)) (T.en 0) (e_str))) (ss_nil))
      (ss_cons (s_set C 1 rfl (by decide +kernel) (e_call C F_names_in (by decide) (by decide +kernel) rfl (a_cons (.inl rfl) (n_var C 0 "tree" rfl (by decide +kernel) dbg_tree cld_tree) (a_nil)) dbg_names_in))
      (ss_cons (s_if (t_w (w_or (tGt (.inl rfl) (e_callB call_len vc_len bLen_nr (gloB_of C (by decide +kernel)) (mgn C b_len) rfl (a_cons (.inl rfl) (n_var C 1 "names" rfl (by decide +kernel) dbg_names cld_names) (a_nil))) (n_const C (by decide +kernel) k_MAX_LEAVES dbg_MAX_LEAVES)) (w_or1 (tNe C (.inl rfl) (e_callB call_lenK vc_lenK bLenK_nr (gloB_of C (by decide +kernel)) (mgn C b_len) rfl (a_cons (.inl rfl) (DF.val (f_dc C [("own", 2)] (by decide +kernel) (i_items (n_var C 1 "names" rfl (by decide +kernel) dbg_names cld_names)) (fun s1 H1 A1 l1 p1 => g_name (n_tg C s1 H1 A1 l1 p1 2 rfl (by decide +kernel)) (by decide)) (fun s1 H1 A1 l1 p1 => c_nil) (fun s1 H1 A1 l1 p1 => n_var (C.blk s1 H1 _ A1 l1 p1) 2 "own" rfl (by decide +kernel) dbg_own cld_own) (fun s1 H1 A1 l1 p1 => e_bl))) (a_nil))) (e_callB call_len vc_len bLen_nr (gloB_of C (by decide +kernel)) (mgn C b_len) rfl (a_cons (.inl rfl) (n_var C 1 "names" rfl (by decide +kernel) dbg_names cld_names) (a_nil))))))) (ss_one (s_raise C (j := 0) T.x0 (by decide) (by decide +kernel) T.w.m0 (T.w.ec 0 (by decide)) (T.en 0) (e_str))) (ss_nil))
      (ss_one (s_if (tGt (.inl rfl) (e_call C F_length_of (by decide) (by decide +kernel) rfl (a_cons (.inl rfl) (n_var C 0 "tree" rfl (by decide +kernel) dbg_tree cld_tree) (a_cons (.inl rfl) (e_bl) (a_nil))) dbg_length_of) (n_const C (by decide +kernel) k_MAX_RUN dbg_MAX_RUN)) (ss_one (s_raise C (j := 0) T.x0 (by decide) (by decide +kernel) T.w.m0 (T.w.ec 0 (by decide)) (T.en 0) (e_str))) (ss_nil)))))
theorem sc_lengths : FnScope N_lengths ["tree"] (defScope (top 21)) := ⟨rfl, rfl, rfl, by decide +kernel, rfl, by decide +kernel, by decide +kernel⟩
theorem ok_lengths (nn : Bool) (T : TF K mg g Ca Ci AW) : Fok nn PP w K mg base 21 "lengths" (spP (ck K g) 1 m_lengths) := by
  have F_check_tree := ok_check_tree (w := w) (base := base) nn T
  have F_length_of := ok_length_of (w := w) (base := base) nn T
  refine fok_pure (k := 20) (N := N_lengths) (body := b_lengths) T.f_lengths sc_lengths rfl (by decide) (fun _ => rfl) fun X W C pa => ?_
  unfold b_lengths
  exact ss_cons (s_drop (e_call C F_check_tree (by decide) (by decide +kernel) rfl (a_cons (.inl rfl) (n_var C 0 "tree" rfl (by decide +kernel) dbg_tree cld_tree) (a_nil)) dbg_check_tree))
      (ss_one (s_ret (e_tup rfl (a_cons (.inl rfl) (e_call C F_length_of (by decide) (by decide +kernel) rfl (a_cons (.inl rfl) (n_var C 0 "tree" rfl (by decide +kernel) dbg_tree cld_tree) (a_cons (.inl rfl) (e_bl) (a_nil))) dbg_length_of) (a_cons (.inl rfl) (e_call C F_length_of (by decide) (by decide +kernel) rfl (a_cons (.inl rfl) (n_var C 0 "tree" rfl (by decide +kernel) dbg_tree cld_tree) (a_cons (.inl rfl) (e_bl) (a_nil))) dbg_length_of) (a_nil))))))
theorem sc_choose : FnScope N_choose ["many", "few"] (defScope (top 22)) := ⟨rfl, rfl, rfl, by decide +kernel, rfl, by decide +kernel, by decide +kernel⟩
theorem ok_choose (nn : Bool) (T : TF K mg g Ca Ci AW) : Fok nn PP w K mg base 1 "choose" (spP (ck K g) 2 m_choose) := by
  have b_range := T.b_range
  refine fok_pure (k := 0) (N := N_choose) (body := b_choose) T.f_choose sc_choose rfl (by decide) (fun _ => rfl) fun X W C pa => ?_
  unfold b_choose
  exact ss_cons (s_set C 2 rfl (by decide +kernel) (e_int))
      (ss_cons (s_for (vs := [3]) C (i_rng1 (gloB_of C (by decide +kernel)) (mgn C b_range) (a_cons (.inl rfl) (n_var C 1 "few" rfl (by decide +kernel) dbg_few cld_few) (a_nil))) (g_name (n_pg C 3 "at" rfl (by decide +kernel)) (by decide)) (ss_one (s_set C 2 rfl (by decide +kernel) (eFdiv (.inl rfl) (eMul (.inl rfl) (n_var C 2 "found" rfl (by decide +kernel) dbg_found cld_found) (eSub (.inl rfl) (n_var C 0 "many" rfl (by decide +kernel) dbg_many cld_many) (n_var C 3 "at" rfl (by decide +kernel) dbg_at cld_at))) (eAdd (.inl rfl) (n_var C 3 "at" rfl (by decide +kernel) dbg_at cld_at) (e_int))))))
      (ss_one (s_ret (n_var C 2 "found" rfl (by decide +kernel) dbg_found cld_found))))
theorem sc_joined : FnScope N_joined ["first", "second", "mixed"] (defScope (top 23)) := ⟨rfl, rfl, rfl, by decide +kernel, rfl, by decide +kernel, by decide +kernel⟩
theorem ok_joined (nn : Bool) (T : TF K mg g Ca Ci AW) : Fok nn PP w K mg base 2 "joined" (spP (ck K g) 3 m_joined) := by
  have F_choose := ok_choose (w := w) (base := base) nn T
  refine fok_pure (k := 1) (N := N_joined) (body := b_joined) T.f_joined sc_joined rfl (by decide) (fun _ => rfl) fun X W C pa => ?_
  unfold b_joined
  exact ss_cons (s_setO C 3 rfl (by decide +kernel) (f_dNew))
      (ss_cons (s_forK (vs := [4]) C (n_pe C 0 "first" rfl (by decide +kernel) dbg_first cld_first) (g_name (n_pg C 4 "one" rfl (by decide +kernel)) (by decide)) (ss_one (s_forK (vs := [5]) C (n_pe C 1 "second" rfl (by decide +kernel) dbg_second cld_second) (g_name (n_pg C 5 "other" rfl (by decide +kernel)) (by decide)) (ss_cons (s_set C 6 rfl (by decide +kernel) (eMul (.inl rfl) (eMul (.inl rfl) (eIxK C (.inl rfl) (n_var C 0 "first" rfl (by decide +kernel) dbg_first cld_first) (n_var C 4 "one" rfl (by decide +kernel) dbg_one cld_one)) (eIxK C (.inl rfl) (n_var C 1 "second" rfl (by decide +kernel) dbg_second cld_second) (n_var C 5 "other" rfl (by decide +kernel) dbg_other cld_other))) (e_if (tTruth (n_var C 2 "mixed" rfl (by decide +kernel) dbg_mixed cld_mixed)) (e_call C F_choose (by decide) (by decide +kernel) rfl (a_cons (.inl rfl) (eAdd (.inl rfl) (n_var C 4 "one" rfl (by decide +kernel) dbg_one cld_one) (n_var C 5 "other" rfl (by decide +kernel) dbg_other cld_other)) (a_cons (.inl rfl) (n_var C 5 "other" rfl (by decide +kernel) dbg_other cld_other) (a_nil))) dbg_choose) (e_int))))
      (ss_one (s_subK C (n_pe C 3 "found" rfl (by decide +kernel) dbg_found cld_found) (eAdd (.inl rfl) (n_var C 4 "one" rfl (by decide +kernel) dbg_one cld_one) (n_var C 5 "other" rfl (by decide +kernel) dbg_other cld_other)) (eAdd (.inl rfl) (e_getO C (n_pe C 3 "found" rfl (by decide +kernel) dbg_found cld_found) (eAdd (.inl rfl) (n_var C 4 "one" rfl (by decide +kernel) dbg_one cld_one) (n_var C 5 "other" rfl (by decide +kernel) dbg_other cld_other)) (e_int) ⟨rfl, rfl, rfl, rfl⟩) (n_var C 6 "many" rfl (by decide +kernel) dbg_many cld_many))))))))
      (ss_one (s_retO 3 (n_pe C 3 "found" rfl (by decide +kernel) dbg_found cld_found))))
theorem sc_ways_in : FnScope N_ways_in ["tree"] (defScope (top 24)) := ⟨rfl, rfl, rfl, by decide +kernel, rfl, by decide +kernel, by decide +kernel⟩
theorem okr_ways_in (nn : Bool) (T : TF K mg g Ca Ci AW) : ∀ n : Nat, Fok nn PP w K mg base (3 + n) "ways_in" (spP (ck K g) 1 (mr_ways_in n)) := by
  intro n
  induction n with
  | zero => exact fok_pure (k := 2) (N := N_ways_in) (body := sNever) T.f_ways_in sc_ways_in rfl (by decide) (fun _ => rfl) fun X W C pa => ss_never
  | succ n ih =>
    have F_ways_in := ih
    ·
      have F_joined := ok_joined (w := w) (base := base) nn T
      refine fok_pure (k := 3 + n) (N := N_ways_in) (body := b_ways_in (mr_ways_in n)) T.f_ways_in sc_ways_in rfl (by decide) (fun _ => rfl) fun X W C pa => ?_
      unfold b_ways_in
      exact ss_cons (s_if (tEq C (.inl rfl) (eIx (.inl rfl) (n_var C 0 "tree" rfl (by decide +kernel) dbg_tree cld_tree) (e_int)) (e_str)) (ss_one (s_ret (DF.val (f_dOne (kk := .inl 1) pe_int pe_int (fun _ _ => isInt))))) (ss_nil))
          (ss_cons (s_if (tIn C (.inl rfl) (eIx (.inl rfl) (n_var C 0 "tree" rfl (by decide +kernel) dbg_tree cld_tree) (e_int)) (e_tup rfl (a_cons (.inl rfl) (e_str) (a_cons (.inl rfl) (e_str) (a_nil))))) (ss_cons (s_set C 2 rfl (by decide +kernel) (DF.val (f_dOne (kk := .inl 0) pe_int pe_int (fun _ _ => isInt))))
          (ss_cons (s_for (vs := [5]) C (i_items (eIx (.inl rfl) (n_var C 0 "tree" rfl (by decide +kernel) dbg_tree cld_tree) (e_int))) (g_name (n_pg C 5 "part" rfl (by decide +kernel)) (by decide)) (ss_one (s_set C 2 rfl (by decide +kernel) (e_call C F_joined (by omega) (by decide +kernel) rfl (a_cons (.inl rfl) (n_var C 2 "made" rfl (by decide +kernel) dbg_made cld_made) (a_cons (.inl rfl) (e_call C F_ways_in (by omega) (by decide +kernel) rfl (a_cons (.inl rfl) (n_var C 5 "part" rfl (by decide +kernel) dbg_part cld_part) (a_nil)) dbg_ways_in) (a_cons (.inl rfl) (eEq C (.inl rfl) (eIx (.inl rfl) (n_var C 0 "tree" rfl (by decide +kernel) dbg_tree cld_tree) (e_int)) (e_str)) (a_nil)))) dbg_joined))))
          (ss_one (s_ret (n_var C 2 "made" rfl (by decide +kernel) dbg_made cld_made))))) (ss_nil))
          (ss_cons (s_setO C 1 rfl (by decide +kernel) (f_dNew))
          (ss_cons (s_set C 2 rfl (by decide +kernel) (DF.val (f_dOne (kk := .inl 0) pe_int pe_int (fun _ _ => isInt))))
          (ss_cons (s_set C 3 rfl (by decide +kernel) (e_if (tEq C (.inl rfl) (eIx (.inl rfl) (n_var C 0 "tree" rfl (by decide +kernel) dbg_tree cld_tree) (e_int)) (e_str)) (DF.val (f_lc C [("part", 5)] (by decide +kernel) (i_items (eIx (.inl rfl) (n_var C 0 "tree" rfl (by decide +kernel) dbg_tree cld_tree) (e_int))) (fun s1 H1 A1 l1 p1 => g_name (n_tg C s1 H1 A1 l1 p1 5 rfl (by decide +kernel)) (by decide)) (fun s1 H1 A1 l1 p1 => c_nil) (fun s1 H1 A1 l1 p1 => e_call (C.blk s1 H1 _ A1 l1 p1) F_ways_in (by omega) (by decide +kernel) rfl (a_cons (.inl rfl) (n_var (C.blk s1 H1 _ A1 l1 p1) 5 "part" rfl (by decide +kernel) dbg_part cld_part) (a_nil)) dbg_ways_in))) (eMul (.inl rfl) (DF.val (f_lst rfl (a_cons (.inl rfl) (e_call C F_ways_in (by omega) (by decide +kernel) rfl (a_cons (.inl rfl) (eIx (.inl rfl) (n_var C 0 "tree" rfl (by decide +kernel) dbg_tree cld_tree) (e_int)) (a_nil)) dbg_ways_in) (a_nil)))) (eIx (.inl rfl) (n_var C 0 "tree" rfl (by decide +kernel) dbg_tree cld_tree) (e_int)))))
          (ss_cons (s_for (vs := [4]) C (i_items (n_var C 3 "rows" rfl (by decide +kernel) dbg_rows cld_rows)) (g_name (n_pg C 4 "own" rfl (by decide +kernel)) (by decide)) (ss_cons (s_set C 2 rfl (by decide +kernel) (e_if (tEq C (.inl rfl) (eIx (.inl rfl) (n_var C 0 "tree" rfl (by decide +kernel) dbg_tree cld_tree) (e_int)) (e_str)) (n_var C 4 "own" rfl (by decide +kernel) dbg_own cld_own) (e_call C F_joined (by omega) (by decide +kernel) rfl (a_cons (.inl rfl) (n_var C 2 "made" rfl (by decide +kernel) dbg_made cld_made) (a_cons (.inl rfl) (n_var C 4 "own" rfl (by decide +kernel) dbg_own cld_own) (a_cons (.inl rfl) (e_bl) (a_nil)))) dbg_joined)))
          (ss_one (s_forK (vs := [6]) C (n_pe C 2 "made" rfl (by decide +kernel) dbg_made cld_made) (g_name (n_pg C 6 "size" rfl (by decide +kernel)) (by decide)) (ss_one (s_subK C (n_pe C 1 "found" rfl (by decide +kernel) dbg_found cld_found) (n_var C 6 "size" rfl (by decide +kernel) dbg_size cld_size) (eAdd (.inl rfl) (e_getO C (n_pe C 1 "found" rfl (by decide +kernel) dbg_found cld_found) (n_var C 6 "size" rfl (by decide +kernel) dbg_size cld_size) (e_int) ⟨rfl, rfl, rfl, rfl⟩) (eIxK C (.inl rfl) (n_var C 2 "made" rfl (by decide +kernel) dbg_made cld_made) (n_var C 6 "size" rfl (by decide +kernel) dbg_size cld_size)))))))))
          (ss_one (s_retO 1 (n_pe C 1 "found" rfl (by decide +kernel) dbg_found cld_found))))))))
theorem ok_ways_in (nn : Bool) (T : TF K mg g Ca Ci AW) : Fok nn PP w K mg base 19 "ways_in" (spP (ck K g) 1 m_ways_in) := (okr_ways_in nn T 16)
theorem sc_count_ways : FnScope N_count_ways ["tree"] (defScope (top 25)) := ⟨rfl, rfl, rfl, by decide +kernel, rfl, by decide +kernel, by decide +kernel⟩
theorem ok_count_ways (nn : Bool) (T : TF K mg g Ca Ci AW) : Fok nn PP w K mg base 21 "count_ways" (spP (ck K g) 1 m_count_ways) := by
  have b_sorted := T.b_sorted
  have b_tuple := T.b_tuple
  have F_check_tree := ok_check_tree (w := w) (base := base) nn T
  have F_ways_in := ok_ways_in (w := w) (base := base) nn T
  refine fok_pure (k := 20) (N := N_count_ways) (body := b_count_ways) T.f_count_ways sc_count_ways rfl (by decide) (fun _ => rfl) fun X W C pa => ?_
  unfold b_count_ways
  exact ss_cons (s_drop (e_call C F_check_tree (by decide) (by decide +kernel) rfl (a_cons (.inl rfl) (n_var C 0 "tree" rfl (by decide +kernel) dbg_tree cld_tree) (a_nil)) dbg_check_tree))
      (ss_cons (s_set C 1 rfl (by decide +kernel) (e_call C F_ways_in (by decide) (by decide +kernel) rfl (a_cons (.inl rfl) (n_var C 0 "tree" rfl (by decide +kernel) dbg_tree cld_tree) (a_nil)) dbg_ways_in))
      (ss_one (s_ret (e_callT call_tuple_of vc_tuple bTuple_nr (gloB_of C (by decide +kernel)) (mgn C b_tuple) rfl (a_cons (.inl rfl) (DF.val (f_lc C [("size", 2)] (by decide +kernel) (i_items (DF.val (f_callB (cr_sort2 C.calm) vcf_sort2 bSort2_nr (gloB_of C (by decide +kernel)) (mgn C b_sorted) rfl (a_cons (.inl rfl) (n_var C 1 "found" rfl (by decide +kernel) dbg_found cld_found) (a_nil))))) (fun s1 H1 A1 l1 p1 => g_name (n_tg C s1 H1 A1 l1 p1 2 rfl (by decide +kernel)) (by decide)) (fun s1 H1 A1 l1 p1 => c_nil) (fun s1 H1 A1 l1 p1 => e_tup rfl (a_cons (.inl rfl) (n_var (C.blk s1 H1 _ A1 l1 p1) 2 "size" rfl (by decide +kernel) dbg_size cld_size) (a_cons (.inl rfl) (eIxK (C.blk s1 H1 _ A1 l1 p1) (.inl rfl) (n_var (C.blk s1 H1 _ A1 l1 p1) 1 "found" rfl (by decide +kernel) dbg_found cld_found) (n_var (C.blk s1 H1 _ A1 l1 p1) 2 "size" rfl (by decide +kernel) dbg_size cld_size)) (a_nil)))))) (a_nil))))))
theorem sc_needed_in : FnScope N_needed_in ["tree"] (defScope (top 36)) := ⟨rfl, rfl, rfl, by decide +kernel, rfl, by decide +kernel, by decide +kernel⟩
theorem okr_needed_in (nn : Bool) (T : TF K mg g Ca Ci AW) : ∀ n : Nat, Fok nn PP w K mg base (1 + n) "needed_in" (spP (ck K g) 1 (mr_needed_in n)) := by
  intro n
  induction n with
  | zero => exact fok_pure (k := 0) (N := N_needed_in) (body := sNever) T.f_needed_in sc_needed_in rfl (by decide) (fun _ => rfl) fun X W C pa => ss_never
  | succ n ih =>
    have F_needed_in := ih
    ·
      have b_len := T.b_len
      refine fok_pure (k := 1 + n) (N := N_needed_in) (body := b_needed_in (mr_needed_in n)) T.f_needed_in sc_needed_in rfl (by decide) (fun _ => rfl) fun X W C pa => ?_
      unfold b_needed_in
      exact ss_cons (s_if (tEq C (.inl rfl) (eIx (.inl rfl) (n_var C 0 "tree" rfl (by decide +kernel) dbg_tree cld_tree) (e_int)) (e_str)) (ss_one (s_ret (DF.val (f_lst rfl (a_cons (.inl rfl) (eIx (.inl rfl) (n_var C 0 "tree" rfl (by decide +kernel) dbg_tree cld_tree) (e_int)) (a_nil)))))) (ss_nil))
          (ss_cons (s_if (tEq C (.inl rfl) (eIx (.inl rfl) (n_var C 0 "tree" rfl (by decide +kernel) dbg_tree cld_tree) (e_int)) (e_str)) (ss_one (s_ret (e_call C F_needed_in (by omega) (by decide +kernel) rfl (a_cons (.inl rfl) (eIx (.inl rfl) (n_var C 0 "tree" rfl (by decide +kernel) dbg_tree cld_tree) (e_int)) (a_nil)) dbg_needed_in))) (ss_nil))
          (ss_cons (s_setLc C [("part", 4)] (by decide +kernel) rfl 1 rfl (by decide +kernel) (i_items (eIx (.inl rfl) (n_var C 0 "tree" rfl (by decide +kernel) dbg_tree cld_tree) (e_int))) (fun s1 H1 A1 l1 p1 => g_name (n_tg C s1 H1 A1 l1 p1 4 rfl (by decide +kernel)) (by decide)) (fun s1 H1 A1 l1 p1 => c_nil) (fun s1 H1 A1 l1 p1 => e_call (C.blk s1 H1 _ A1 l1 p1) F_needed_in (by omega) (by decide +kernel) rfl (a_cons (.inl rfl) (n_var (C.blk s1 H1 _ A1 l1 p1) 4 "part" rfl (by decide +kernel) dbg_part cld_part) (a_nil)) dbg_needed_in))
          (ss_cons (s_if (tEq C (.inl rfl) (eIx (.inl rfl) (n_var C 0 "tree" rfl (by decide +kernel) dbg_tree cld_tree) (e_int)) (e_str)) (ss_one (s_ret (e_if (tEq C (.inl rfl) (e_callB call_len vc_len bLen_nr (gloB_of C (by decide +kernel)) (mgn C b_len) rfl (a_cons (.inl rfl) (n_var C 1 "rows" rfl (by decide +kernel) dbg_rows cld_rows) (a_nil))) (e_int)) (eIx (.inl rfl) (n_var C 1 "rows" rfl (by decide +kernel) dbg_rows cld_rows) (e_int)) (DF.val (f_lst rfl (a_nil)))))) (ss_nil))
          (ss_cons (s_setO C 2 rfl (by decide +kernel) (f_lst rfl (a_nil)))
          (ss_cons (s_for (vs := [3]) C (i_items (n_var C 1 "rows" rfl (by decide +kernel) dbg_rows cld_rows)) (g_name (n_pg C 3 "row" rfl (by decide +kernel)) (by decide)) (ss_one (s_drop (e_meth PySem.F.plainAttrs_list PySem.F.slot_list_extend PySem.F.type_list_extend mt_extend vm_ext fExt_nr rfl (n_pe C 2 "found" rfl (by decide +kernel) dbg_found cld_found) (a_cons (.inl rfl) (n_var C 3 "row" rfl (by decide +kernel) dbg_row cld_row) (a_nil))))))
          (ss_one (s_retO 2 (n_pe C 2 "found" rfl (by decide +kernel) dbg_found cld_found))))))))
theorem ok_needed_in (nn : Bool) (T : TF K mg g Ca Ci AW) : Fok nn PP w K mg base 17 "needed_in" (spP (ck K g) 1 m_needed_in) := (okr_needed_in nn T 16)
theorem sc_must_have : FnScope N_must_have ["tree"] (defScope (top 35)) := ⟨rfl, rfl, rfl, by decide +kernel, rfl, by decide +kernel, by decide +kernel⟩
theorem ok_must_have (nn : Bool) (T : TF K mg g Ca Ci AW) : Fok nn PP w K mg base 21 "must_have" (spP (ck K g) 1 m_must_have) := by
  have b_sorted := T.b_sorted
  have b_tuple := T.b_tuple
  have F_check_tree := ok_check_tree (w := w) (base := base) nn T
  have F_needed_in := ok_needed_in (w := w) (base := base) nn T
  refine fok_pure (k := 20) (N := N_must_have) (body := b_must_have) T.f_must_have sc_must_have rfl (by decide) (fun _ => rfl) fun X W C pa => ?_
  unfold b_must_have
  exact ss_cons (s_drop (e_call C F_check_tree (by decide) (by decide +kernel) rfl (a_cons (.inl rfl) (n_var C 0 "tree" rfl (by decide +kernel) dbg_tree cld_tree) (a_nil)) dbg_check_tree))
      (ss_one (s_ret (e_callT call_tuple_of vc_tuple bTuple_nr (gloB_of C (by decide +kernel)) (mgn C b_tuple) rfl (a_cons (.inl rfl) (DF.val (f_callB (cr_sort2 C.calm) vcf_sort2 bSort2_nr (gloB_of C (by decide +kernel)) (mgn C b_sorted) rfl (a_cons (.inl rfl) (e_call C F_needed_in (by decide) (by decide +kernel) rfl (a_cons (.inl rfl) (n_var C 0 "tree" rfl (by decide +kernel) dbg_tree cld_tree) (a_nil)) dbg_needed_in) (a_nil)))) (a_nil)))))
theorem sc_turned_of : FnScope N_turned_of ["tree"] (defScope (top 32)) := ⟨rfl, rfl, rfl, by decide +kernel, rfl, by decide +kernel, by decide +kernel⟩
theorem okr_turned_of (nn : Bool) (T : TF K mg g Ca Ci AW) : ∀ n : Nat, Fok nn PP w K mg base (1 + n) "turned_of" (spP (ck K g) 1 (mr_turned_of n)) := by
  intro n
  induction n with
  | zero => exact fok_pure (k := 0) (N := N_turned_of) (body := sNever) T.f_turned_of sc_turned_of rfl (by decide) (fun _ => rfl) fun X W C pa => ss_never
  | succ n ih =>
    have F_turned_of := ih
    ·
      have b_tuple := T.b_tuple
      refine fok_pure (k := 1 + n) (N := N_turned_of) (body := b_turned_of (mr_turned_of n)) T.f_turned_of sc_turned_of rfl (by decide) (fun _ => rfl) fun X W C pa => ?_
      unfold b_turned_of
      exact ss_cons (s_if (tEq C (.inl rfl) (eIx (.inl rfl) (n_var C 0 "tree" rfl (by decide +kernel) dbg_tree cld_tree) (e_int)) (e_str)) (ss_one (s_ret (n_var C 0 "tree" rfl (by decide +kernel) dbg_tree cld_tree))) (ss_nil))
          (ss_cons (s_if (tEq C (.inl rfl) (eIx (.inl rfl) (n_var C 0 "tree" rfl (by decide +kernel) dbg_tree cld_tree) (e_int)) (e_str)) (ss_one (s_ret (e_tup rfl (a_cons (.inl rfl) (e_str) (a_cons (.inl rfl) (e_call C F_turned_of (by omega) (by decide +kernel) rfl (a_cons (.inl rfl) (eIx (.inl rfl) (n_var C 0 "tree" rfl (by decide +kernel) dbg_tree cld_tree) (e_int)) (a_nil)) dbg_turned_of) (a_cons (.inl rfl) (eIx (.inl rfl) (n_var C 0 "tree" rfl (by decide +kernel) dbg_tree cld_tree) (e_int)) (a_nil))))))) (ss_nil))
          (ss_cons (s_set C 1 rfl (by decide +kernel) (e_callT call_tuple_of vc_tuple bTuple_nr (gloB_of C (by decide +kernel)) (mgn C b_tuple) rfl (a_cons (.inl rfl) (DF.val (f_lc C [("part", 2)] (by decide +kernel) (i_items (eIx (.inl rfl) (n_var C 0 "tree" rfl (by decide +kernel) dbg_tree cld_tree) (e_int))) (fun s1 H1 A1 l1 p1 => g_name (n_tg C s1 H1 A1 l1 p1 2 rfl (by decide +kernel)) (by decide)) (fun s1 H1 A1 l1 p1 => c_nil) (fun s1 H1 A1 l1 p1 => e_call (C.blk s1 H1 _ A1 l1 p1) F_turned_of (by omega) (by decide +kernel) rfl (a_cons (.inl rfl) (n_var (C.blk s1 H1 _ A1 l1 p1) 2 "part" rfl (by decide +kernel) dbg_part cld_part) (a_nil)) dbg_turned_of))) (a_nil))))
          (ss_one (s_ret (e_tup rfl (a_cons (.inl rfl) (eIx (.inl rfl) (n_var C 0 "tree" rfl (by decide +kernel) dbg_tree cld_tree) (e_int)) (a_cons (.inl rfl) (e_if (tEq C (.inl rfl) (eIx (.inl rfl) (n_var C 0 "tree" rfl (by decide +kernel) dbg_tree cld_tree) (e_int)) (e_str)) (e_rev (n_var C 1 "parts" rfl (by decide +kernel) dbg_parts cld_parts)) (n_var C 1 "parts" rfl (by decide +kernel) dbg_parts cld_parts)) (a_nil))))))))
theorem ok_turned_of (nn : Bool) (T : TF K mg g Ca Ci AW) : Fok nn PP w K mg base 17 "turned_of" (spP (ck K g) 1 m_turned_of) := (okr_turned_of nn T 16)
theorem sc_turned : FnScope N_turned ["tree"] (defScope (top 31)) := ⟨rfl, rfl, rfl, by decide +kernel, rfl, by decide +kernel, by decide +kernel⟩
theorem ok_turned (nn : Bool) (T : TF K mg g Ca Ci AW) : Fok nn PP w K mg base 21 "turned" (spP (ck K g) 1 m_turned) := by
  have F_check_tree := ok_check_tree (w := w) (base := base) nn T
  have F_turned_of := ok_turned_of (w := w) (base := base) nn T
  refine fok_pure (k := 20) (N := N_turned) (body := b_turned) T.f_turned sc_turned rfl (by decide) (fun _ => rfl) fun X W C pa => ?_
  unfold b_turned
  exact ss_cons (s_drop (e_call C F_check_tree (by decide) (by decide +kernel) rfl (a_cons (.inl rfl) (n_var C 0 "tree" rfl (by decide +kernel) dbg_tree cld_tree) (a_nil)) dbg_check_tree))
      (ss_one (s_ret (e_call C F_turned_of (by decide) (by decide +kernel) rfl (a_cons (.inl rfl) (n_var C 0 "tree" rfl (by decide +kernel) dbg_tree cld_tree) (a_nil)) dbg_turned_of)))
theorem sc_normal_of : FnScope N_normal_of ["tree"] (defScope (top 34)) := ⟨rfl, rfl, rfl, by decide +kernel, rfl, by decide +kernel, by decide +kernel⟩
theorem okr_normal_of (nn : Bool) (T : TF K mg g Ca Ci AW) : ∀ n : Nat, Fok nn PP w K mg base (1 + n) "normal_of" (spP (ck K g) 1 (mr_normal_of n)) := by
  intro n
  induction n with
  | zero => exact fok_pure (k := 0) (N := N_normal_of) (body := sNever) T.f_normal_of sc_normal_of rfl (by decide) (fun _ => rfl) fun X W C pa => ss_never
  | succ n ih =>
    have F_normal_of := ih
    ·
      have b_len := T.b_len
      have b_list := T.b_list
      refine fok_pure (k := 1 + n) (N := N_normal_of) (body := b_normal_of (mr_normal_of n)) T.f_normal_of sc_normal_of rfl (by decide) (fun _ => rfl) fun X W C pa => ?_
      unfold b_normal_of
      exact ss_cons (s_if (tEq C (.inl rfl) (eIx (.inl rfl) (n_var C 0 "tree" rfl (by decide +kernel) dbg_tree cld_tree) (e_int)) (e_str)) (ss_one (s_ret (n_var C 0 "tree" rfl (by decide +kernel) dbg_tree cld_tree))) (ss_nil))
          (ss_cons (s_if (tEq C (.inl rfl) (eIx (.inl rfl) (n_var C 0 "tree" rfl (by decide +kernel) dbg_tree cld_tree) (e_int)) (e_str)) (ss_cons (s_set C 2 rfl (by decide +kernel) (e_call C F_normal_of (by omega) (by decide +kernel) rfl (a_cons (.inl rfl) (eIx (.inl rfl) (n_var C 0 "tree" rfl (by decide +kernel) dbg_tree cld_tree) (e_int)) (a_nil)) dbg_normal_of))
          (ss_cons (s_if (tEq C (.inl rfl) (eIx (.inl rfl) (n_var C 0 "tree" rfl (by decide +kernel) dbg_tree cld_tree) (e_int)) (e_int)) (ss_one (s_ret (n_var C 2 "part" rfl (by decide +kernel) dbg_part cld_part))) (ss_nil))
          (ss_never))) (ss_nil))
          (ss_cons (s_setO C 1 rfl (by decide +kernel) (f_lst rfl (a_nil)))
          (ss_cons (s_for (vs := [2]) C (i_items (eIx (.inl rfl) (n_var C 0 "tree" rfl (by decide +kernel) dbg_tree cld_tree) (e_int))) (g_name (n_pg C 2 "part" rfl (by decide +kernel)) (by decide)) (ss_cons (s_set C 3 rfl (by decide +kernel) (e_call C F_normal_of (by omega) (by decide +kernel) rfl (a_cons (.inl rfl) (n_var C 2 "part" rfl (by decide +kernel) dbg_part cld_part) (a_nil)) dbg_normal_of))
          (ss_one (s_drop (e_meth PySem.F.plainAttrs_list PySem.F.slot_list_extend PySem.F.type_list_extend mt_extend vm_ext fExt_nr rfl (n_pe C 1 "parts" rfl (by decide +kernel) dbg_parts cld_parts) (a_cons (.inl rfl) (e_if (tEq C (.inl rfl) (eIx (.inl rfl) (n_var C 3 "own" rfl (by decide +kernel) dbg_own cld_own) (e_int)) (eIx (.inl rfl) (n_var C 0 "tree" rfl (by decide +kernel) dbg_tree cld_tree) (e_int))) (DF.val (f_callT call_list_of vcf_list bList_nr (gloB_of C (by decide +kernel)) (mgn C b_list) rfl (a_cons (.inl rfl) (eIx (.inl rfl) (n_var C 3 "own" rfl (by decide +kernel) dbg_own cld_own) (e_int)) (a_nil)))) (DF.val (f_lst rfl (a_cons (.inl rfl) (n_var C 3 "own" rfl (by decide +kernel) dbg_own cld_own) (a_nil))))) (a_nil)))))))
          (ss_cons (s_if (tEq C (.inl rfl) (e_callB call_len vc_len bLen_nr (gloB_of C (by decide +kernel)) (mgn C b_len) rfl (a_cons (.inr rfl) (n_varO C 1 "parts" rfl (by decide +kernel) dbg_parts cld_parts) (a_nil))) (e_int)) (ss_one (s_ret (eIx (.inr rfl) (n_varO C 1 "parts" rfl (by decide +kernel) dbg_parts cld_parts) (e_int)))) (ss_nil))
          (ss_never)))))
theorem ok_normal_of (nn : Bool) (T : TF K mg g Ca Ci AW) : Fok nn PP w K mg base 17 "normal_of" (spP (ck K g) 1 m_normal_of) := (okr_normal_of nn T 16)
theorem sc_normal : FnScope N_normal ["tree"] (defScope (top 33)) := ⟨rfl, rfl, rfl, by decide +kernel, rfl, by decide +kernel, by decide +kernel⟩
theorem ok_normal (nn : Bool) (T : TF K mg g Ca Ci AW) : Fok nn PP w K mg base 21 "normal" (spP (ck K g) 1 m_normal) := by
  have F_check_tree := ok_check_tree (w := w) (base := base) nn T
  have F_normal_of := ok_normal_of (w := w) (base := base) nn T
  refine fok_pure (k := 20) (N := N_normal) (body := b_normal) T.f_normal sc_normal rfl (by decide) (fun _ => rfl) fun X W C pa => ?_
  unfold b_normal
  exact ss_cons (s_drop (e_call C F_check_tree (by decide) (by decide +kernel) rfl (a_cons (.inl rfl) (n_var C 0 "tree" rfl (by decide +kernel) dbg_tree cld_tree) (a_nil)) dbg_check_tree))
      (ss_one (s_ret (e_call C F_normal_of (by decide) (by decide +kernel) rfl (a_cons (.inl rfl) (n_var C 0 "tree" rfl (by decide +kernel) dbg_tree cld_tree) (a_nil)) dbg_normal_of)))
theorem sc_ended : FnScope N_ended ["tree", "state"] (defScope (top 26)) := ⟨rfl, rfl, rfl, by decide +kernel, rfl, by decide +kernel, by decide +kernel⟩
theorem okr_ended (nn : Bool) (T : TF K mg g Ca Ci AW) : ∀ n : Nat, Fok nn PP w K mg base (1 + n) "ended" (spP (ck K g) 2 (mr_ended n)) := by
  intro n
  induction n with
  | zero => exact fok_pure (k := 0) (N := N_ended) (body := sNever) T.f_ended sc_ended rfl (by decide) (fun _ => rfl) fun X W C pa => ss_never
  | succ n ih =>
    have F_ended := ih
    ·
      have b_len := T.b_len
      refine fok_pure (k := 1 + n) (N := N_ended) (body := b_ended (mr_ended n)) T.f_ended sc_ended rfl (by decide) (fun _ => rfl) fun X W C pa => ?_
      unfold b_ended
      exact ss_cons (s_if (t_w (w_or (tNoneIs (.inl rfl) (n_var C 1 "state" rfl (by decide +kernel) dbg_state cld_state) (e_non)) (w_or1 (tEq C (.inl rfl) (eIx (.inl rfl) (n_var C 0 "tree" rfl (by decide +kernel) dbg_tree cld_tree) (e_int)) (e_str))))) (ss_one (s_ret (eNoneNot (.inl rfl) (n_var C 1 "state" rfl (by decide +kernel) dbg_state cld_state) (e_non)))) (ss_nil))
          (ss_cons (s_if (tEq C (.inl rfl) (eIx (.inl rfl) (n_var C 0 "tree" rfl (by decide +kernel) dbg_tree cld_tree) (e_int)) (e_str)) (ss_never) (ss_nil))
          (ss_cons (s_if (tEq C (.inl rfl) (eIx (.inl rfl) (n_var C 0 "tree" rfl (by decide +kernel) dbg_tree cld_tree) (e_int)) (e_str)) (ss_one (s_ret (e_and (eEq C (.inl rfl) (eIx (.inl rfl) (n_var C 1 "state" rfl (by decide +kernel) dbg_state cld_state) (e_int)) (eSub (.inl rfl) (e_callB call_len vc_len bLen_nr (gloB_of C (by decide +kernel)) (mgn C b_len) rfl (a_cons (.inl rfl) (eIx (.inl rfl) (n_var C 0 "tree" rfl (by decide +kernel) dbg_tree cld_tree) (e_int)) (a_nil))) (e_int))) (e_one (e_call C F_ended (by omega) (by decide +kernel) rfl (a_cons (.inl rfl) (eIx (.inl rfl) (eIx (.inl rfl) (n_var C 0 "tree" rfl (by decide +kernel) dbg_tree cld_tree) (e_int)) (eIx (.inl rfl) (n_var C 1 "state" rfl (by decide +kernel) dbg_state cld_state) (e_int))) (a_cons (.inl rfl) (eIx (.inl rfl) (n_var C 1 "state" rfl (by decide +kernel) dbg_state cld_state) (e_int)) (a_nil))) dbg_ended))))) (ss_nil))
          (ss_one (s_ret (e_call C F_ended (by omega) (by decide +kernel) rfl (a_cons (.inl rfl) (e_if (tEq C (.inl rfl) (eIx (.inl rfl) (n_var C 0 "tree" rfl (by decide +kernel) dbg_tree cld_tree) (e_int)) (e_str)) (eIx (.inl rfl) (n_var C 0 "tree" rfl (by decide +kernel) dbg_tree cld_tree) (e_int)) (eIx (.inl rfl) (eIx (.inl rfl) (n_var C 0 "tree" rfl (by decide +kernel) dbg_tree cld_tree) (e_int)) (eIx (.inl rfl) (n_var C 1 "state" rfl (by decide +kernel) dbg_state cld_state) (e_int)))) (a_cons (.inl rfl) (eIx (.inl rfl) (n_var C 1 "state" rfl (by decide +kernel) dbg_state cld_state) (e_int)) (a_nil))) dbg_ended)))))
theorem ok_ended (nn : Bool) (T : TF K mg g Ca Ci AW) : Fok nn PP w K mg base 17 "ended" (spP (ck K g) 2 m_ended) := (okr_ended nn T 16)
theorem sc_moved : FnScope N_moved ["tree", "state", "name"] (defScope (top 29)) := ⟨rfl, rfl, rfl, by decide +kernel, rfl, by decide +kernel, by decide +kernel⟩
theorem okr_moved (nn : Bool) (T : TF K mg g Ca Ci AW) : ∀ n : Nat, Fok nn PP w K mg base (18 + n) "moved" (spP (ck K g) 3 (mr_moved n)) := by
  intro n
  induction n with
  | zero => exact fok_pure (k := 17) (N := N_moved) (body := sNever) T.f_moved sc_moved rfl (by decide) (fun _ => rfl) fun X W C pa => ss_never
  | succ n ih =>
    have F_moved := ih
    ·
      have b_len := T.b_len
      have F_ended := ok_ended (w := w) (base := base) nn T
      refine fok_pure (k := 18 + n) (N := N_moved) (body := b_moved (mr_moved n)) T.f_moved sc_moved rfl (by decide) (fun _ => rfl) fun X W C pa => ?_
      unfold b_moved
      exact ss_cons (s_par C 5 6 rfl rfl (by decide) (by decide +kernel) (by decide +kernel) rfl (a_cons (.inl rfl) (eIx (.inl rfl) (n_var C 0 "tree" rfl (by decide +kernel) dbg_tree cld_tree) (e_int)) (a_cons (.inl rfl) (eIx (.inl rfl) (n_var C 0 "tree" rfl (by decide +kernel) dbg_tree cld_tree) (e_int)) (a_nil))) (by rfl))
          (ss_cons (s_if (tEq C (.inl rfl) (n_var C 5 "kind" rfl (by decide +kernel) dbg_kind cld_kind) (e_str)) (ss_one (s_ret (e_if (t_w (w_and (tNoneIs (.inl rfl) (n_var C 1 "state" rfl (by decide +kernel) dbg_state cld_state) (e_non)) (w_and1 (tEq C (.inl rfl) (n_var C 6 "parts" rfl (by decide +kernel) dbg_parts cld_parts) (n_var C 2 "name" rfl (by decide +kernel) dbg_name cld_name))))) (DF.val (f_lst rfl (a_cons (.inl rfl) (e_bl) (a_nil)))) (DF.val (f_lst rfl (a_nil)))))) (ss_nil))
          (ss_cons (s_if (tEq C (.inl rfl) (n_var C 5 "kind" rfl (by decide +kernel) dbg_kind cld_kind) (e_str)) (ss_never) (ss_nil))
          (ss_cons (s_if (t_w (w_and (tEq C (.inl rfl) (n_var C 5 "kind" rfl (by decide +kernel) dbg_kind cld_kind) (e_str)) (w_and1 (tNoneIs (.inl rfl) (n_var C 1 "state" rfl (by decide +kernel) dbg_state cld_state) (e_non))))) (ss_never) (ss_nil))
          (ss_cons (s_asg (vs := [9, 10]) (e_if (tNoneIs (.inl rfl) (n_var C 1 "state" rfl (by decide +kernel) dbg_state cld_state) (e_non)) (e_tup rfl (a_cons (.inl rfl) (e_int) (a_cons (.inl rfl) (e_non) (a_nil)))) (n_var C 1 "state" rfl (by decide +kernel) dbg_state cld_state)) (g_tup C.calm (g_cons (g_name (n_pg C 9 "at" rfl (by decide +kernel)) (by decide)) (g_cons (g_name (n_pg C 10 "own" rfl (by decide +kernel)) (by decide)) (g_nil)))) rfl ((sws_eq C.es _ _).trans (by rfl)))
          (ss_cons (s_set C 3 rfl (by decide +kernel) (e_if (tEq C (.inl rfl) (n_var C 5 "kind" rfl (by decide +kernel) dbg_kind cld_kind) (e_str)) (n_var C 6 "parts" rfl (by decide +kernel) dbg_parts cld_parts) (eIx (.inl rfl) (n_var C 6 "parts" rfl (by decide +kernel) dbg_parts cld_parts) (n_var C 9 "at" rfl (by decide +kernel) dbg_at cld_at))))
          (ss_cons (s_setLc C [("row", 11)] (by decide +kernel) rfl 4 rfl (by decide +kernel) (i_items (e_call C F_moved (by omega) (by decide +kernel) rfl (a_cons (.inl rfl) (n_var C 3 "part" rfl (by decide +kernel) dbg_part cld_part) (a_cons (.inl rfl) (n_var C 10 "own" rfl (by decide +kernel) dbg_own cld_own) (a_cons (.inl rfl) (n_var C 2 "name" rfl (by decide +kernel) dbg_name cld_name) (a_nil)))) dbg_moved)) (fun s1 H1 A1 l1 p1 => g_name (n_tg C s1 H1 A1 l1 p1 11 rfl (by decide +kernel)) (by decide)) (fun s1 H1 A1 l1 p1 => c_nil) (fun s1 H1 A1 l1 p1 => e_tup rfl (a_cons (.inl rfl) (n_var (C.blk s1 H1 _ A1 l1 p1) 9 "at" rfl (by decide +kernel) dbg_at cld_at) (a_cons (.inl rfl) (n_var (C.blk s1 H1 _ A1 l1 p1) 11 "row" rfl (by decide +kernel) dbg_row cld_row) (a_nil)))))
          (ss_cons (s_if (t_w (w_or (tEq C (.inl rfl) (n_var C 5 "kind" rfl (by decide +kernel) dbg_kind cld_kind) (e_str)) (w_or1 (t_not (tTruth (e_call C F_ended (by omega) (by decide +kernel) rfl (a_cons (.inl rfl) (n_var C 3 "part" rfl (by decide +kernel) dbg_part cld_part) (a_cons (.inl rfl) (n_var C 10 "own" rfl (by decide +kernel) dbg_own cld_own) (a_nil))) dbg_ended)))))) (ss_one (s_ret (n_var C 4 "found" rfl (by decide +kernel) dbg_found cld_found))) (ss_nil))
          (ss_cons (s_if (t_w (w_and (tEq C (.inl rfl) (n_var C 5 "kind" rfl (by decide +kernel) dbg_kind cld_kind) (e_str)) (w_and1 (tLt (.inl rfl) (eAdd (.inl rfl) (n_var C 9 "at" rfl (by decide +kernel) dbg_at cld_at) (e_int)) (eIx (.inl rfl) (n_var C 0 "tree" rfl (by decide +kernel) dbg_tree cld_tree) (e_int)))))) (ss_one (s_ret (eAdd (.inl rfl) (n_var C 4 "found" rfl (by decide +kernel) dbg_found cld_found) (DF.val (f_lc C [("row", 11)] (by decide +kernel) (i_items (e_call C F_moved (by omega) (by decide +kernel) rfl (a_cons (.inl rfl) (n_var C 3 "part" rfl (by decide +kernel) dbg_part cld_part) (a_cons (.inl rfl) (e_non) (a_cons (.inl rfl) (n_var C 2 "name" rfl (by decide +kernel) dbg_name cld_name) (a_nil)))) dbg_moved)) (fun s2 H2 A2 l2 p2 => g_name (n_tg C s2 H2 A2 l2 p2 11 rfl (by decide +kernel)) (by decide)) (fun s2 H2 A2 l2 p2 => c_nil) (fun s2 H2 A2 l2 p2 => e_tup rfl (a_cons (.inl rfl) (eAdd (.inl rfl) (n_var (C.blk s2 H2 _ A2 l2 p2) 9 "at" rfl (by decide +kernel) dbg_at cld_at) (e_int)) (a_cons (.inl rfl) (n_var (C.blk s2 H2 _ A2 l2 p2) 11 "row" rfl (by decide +kernel) dbg_row cld_row) (a_nil))))))))) (ss_nil))
          (ss_cons (s_if (t_w (w_and (tEq C (.inl rfl) (n_var C 5 "kind" rfl (by decide +kernel) dbg_kind cld_kind) (e_str)) (w_and1 (tLt (.inl rfl) (eAdd (.inl rfl) (n_var C 9 "at" rfl (by decide +kernel) dbg_at cld_at) (e_int)) (e_callB call_len vc_len bLen_nr (gloB_of C (by decide +kernel)) (mgn C b_len) rfl (a_cons (.inl rfl) (n_var C 6 "parts" rfl (by decide +kernel) dbg_parts cld_parts) (a_nil))))))) (ss_one (s_ret (eAdd (.inl rfl) (n_var C 4 "found" rfl (by decide +kernel) dbg_found cld_found) (DF.val (f_lc C [("row", 11)] (by decide +kernel) (i_items (e_call C F_moved (by omega) (by decide +kernel) rfl (a_cons (.inl rfl) (eIx (.inl rfl) (n_var C 6 "parts" rfl (by decide +kernel) dbg_parts cld_parts) (eAdd (.inl rfl) (n_var C 9 "at" rfl (by decide +kernel) dbg_at cld_at) (e_int))) (a_cons (.inl rfl) (e_non) (a_cons (.inl rfl) (n_var C 2 "name" rfl (by decide +kernel) dbg_name cld_name) (a_nil)))) dbg_moved)) (fun s3 H3 A3 l3 p3 => g_name (n_tg C s3 H3 A3 l3 p3 11 rfl (by decide +kernel)) (by decide)) (fun s3 H3 A3 l3 p3 => c_nil) (fun s3 H3 A3 l3 p3 => e_tup rfl (a_cons (.inl rfl) (eAdd (.inl rfl) (n_var (C.blk s3 H3 _ A3 l3 p3) 9 "at" rfl (by decide +kernel) dbg_at cld_at) (e_int)) (a_cons (.inl rfl) (n_var (C.blk s3 H3 _ A3 l3 p3) 11 "row" rfl (by decide +kernel) dbg_row cld_row) (a_nil))))))))) (ss_nil))
          (ss_one (s_ret (n_var C 4 "found" rfl (by decide +kernel) dbg_found cld_found))))))))))))
theorem ok_moved (nn : Bool) (T : TF K mg g Ca Ci AW) : Fok nn PP w K mg base 34 "moved" (spP (ck K g) 3 m_moved) := (okr_moved nn T 16)
theorem sc_further : FnScope N_further ["tree", "states", "name"] (defScope (top 28)) := ⟨rfl, rfl, rfl, by decide +kernel, rfl, by decide +kernel, by decide +kernel⟩
theorem ok_further (nn : Bool) (T : TF K mg g Ca Ci AW) : Fok nn PP w K mg base 35 "further" (spP (ck K g) 3 m_further) := by
  have F_moved := ok_moved (w := w) (base := base) nn T
  refine fok_pure (k := 34) (N := N_further) (body := b_further) T.f_further sc_further rfl (by decide) (fun _ => rfl) fun X W C pa => ?_
  unfold b_further
  exact ss_cons (s_setO C 3 rfl (by decide +kernel) (f_lst rfl (a_nil)))
      (ss_cons (s_for (vs := [4]) C (i_items (n_var C 1 "states" rfl (by decide +kernel) dbg_states cld_states)) (g_name (n_pg C 4 "state" rfl (by decide +kernel)) (by decide)) (ss_one (s_drop (e_meth PySem.F.plainAttrs_list PySem.F.slot_list_extend PySem.F.type_list_extend mt_extend vm_ext fExt_nr rfl (n_pe C 3 "found" rfl (by decide +kernel) dbg_found cld_found) (a_cons (.inl rfl) (DF.val (f_lc C [("own", 5)] (by decide +kernel) (i_items (e_call C F_moved (by decide) (by decide +kernel) rfl (a_cons (.inl rfl) (n_var C 0 "tree" rfl (by decide +kernel) dbg_tree cld_tree) (a_cons (.inl rfl) (n_var C 4 "state" rfl (by decide +kernel) dbg_state cld_state) (a_cons (.inl rfl) (n_var C 2 "name" rfl (by decide +kernel) dbg_name cld_name) (a_nil)))) dbg_moved)) (fun s1 H1 A1 l1 p1 => g_name (n_tg C s1 H1 A1 l1 p1 5 rfl (by decide +kernel)) (by decide)) (fun s1 H1 A1 l1 p1 => c_one (tNotIn (C.blk s1 H1 _ A1 l1 p1) (.inl rfl) (n_var (C.blk s1 H1 _ A1 l1 p1) 5 "own" rfl (by decide +kernel) dbg_own cld_own) (n_varO (C.blk s1 H1 _ A1 l1 p1) 3 "found" rfl (by decide +kernel) dbg_found cld_found))) (fun s1 H1 A1 l1 p1 => n_var (C.blk s1 H1 _ A1 l1 p1) 5 "own" rfl (by decide +kernel) dbg_own cld_own))) (a_nil))))))
      (ss_one (s_retO 3 (n_pe C 3 "found" rfl (by decide +kernel) dbg_found cld_found))))
theorem sc_any_ended : FnScope N_any_ended ["tree", "states"] (defScope (top 27)) := ⟨rfl, rfl, rfl, by decide +kernel, rfl, by decide +kernel, by decide +kernel⟩
theorem ok_any_ended (nn : Bool) (T : TF K mg g Ca Ci AW) : Fok nn PP w K mg base 18 "any_ended" (spP (ck K g) 2 m_any_ended) := by
  have b_len := T.b_len
  have F_ended := ok_ended (w := w) (base := base) nn T
  refine fok_pure (k := 17) (N := N_any_ended) (body := b_any_ended) T.f_any_ended sc_any_ended rfl (by decide) (fun _ => rfl) fun X W C pa => ?_
  unfold b_any_ended
  exact ss_one (s_ret (eGt (.inl rfl) (e_callB call_len vc_len bLen_nr (gloB_of C (by decide +kernel)) (mgn C b_len) rfl (a_cons (.inl rfl) (DF.val (f_lc C [("state", 2)] (by decide +kernel) (i_items (n_var C 1 "states" rfl (by decide +kernel) dbg_states cld_states)) (fun s1 H1 A1 l1 p1 => g_name (n_tg C s1 H1 A1 l1 p1 2 rfl (by decide +kernel)) (by decide)) (fun s1 H1 A1 l1 p1 => c_one (tTruth (e_call (C.blk s1 H1 _ A1 l1 p1) F_ended (by decide) (by decide +kernel) rfl (a_cons (.inl rfl) (n_var (C.blk s1 H1 _ A1 l1 p1) 0 "tree" rfl (by decide +kernel) dbg_tree cld_tree) (a_cons (.inl rfl) (n_var (C.blk s1 H1 _ A1 l1 p1) 2 "state" rfl (by decide +kernel) dbg_state cld_state) (a_nil))) dbg_ended))) (fun s1 H1 A1 l1 p1 => e_int))) (a_nil))) (e_int)))
theorem sc_judge_run : FnScope N_judge_run ["tree", "names"] (defScope (top 30)) := ⟨rfl, rfl, rfl, by decide +kernel, rfl, by decide +kernel, by decide +kernel⟩
theorem ok_judge_run (nn : Bool) (T : TF K mg g Ca Ci AW) : Fok nn PP w K mg base 36 "judge_run" (spP (ck K g) 2 m_judge_run) := by
  obtain ⟨t_MAX_RUN, k_MAX_RUN⟩ := T.k_MAX_RUN
  have b_all := T.b_all
  have b_enumerate := T.b_enumerate
  have b_isinstance := T.b_isinstance
  have b_len := T.b_len
  have b_sorted := T.b_sorted
  have b_tuple := T.b_tuple
  have F_check_tree := ok_check_tree (w := w) (base := base) nn T
  have F_is_name := ok_is_name (w := w) (base := base) nn T
  have F_further := ok_further (w := w) (base := base) nn T
  have F_names_in := ok_names_in (w := w) (base := base) nn T
  have F_any_ended := ok_any_ended (w := w) (base := base) nn T
  refine fok_pure (k := 35) (N := N_judge_run) (body := b_judge_run) T.f_judge_run sc_judge_run rfl (by decide) (fun _ => rfl) fun X W C pa => ?_
  unfold b_judge_run
  exact ss_cons (s_drop (e_call C F_check_tree (by decide) (by decide +kernel) rfl (a_cons (.inl rfl) (n_var C 0 "tree" rfl (by decide +kernel) dbg_tree cld_tree) (a_nil)) dbg_check_tree))
      (ss_cons (s_if (t_w (w_or (t_not (tTruth (e_isi kitT_tuple (gloB_of C (by decide +kernel)) (mgn C b_isinstance) (gloB_of C (by decide +kernel)) (mgn C b_tuple) rfl (n_var C 1 "names" rfl (by decide +kernel) dbg_names cld_names)))) (w_or (tGt (.inl rfl) (e_callB call_len vc_len bLen_nr (gloB_of C (by decide +kernel)) (mgn C b_len) rfl (a_cons (.inl rfl) (n_var C 1 "names" rfl (by decide +kernel) dbg_names cld_names) (a_nil))) (n_const C (by decide +kernel) k_MAX_RUN dbg_MAX_RUN)) (w_or1 (t_not (tTruth (e_callB (cr_all C.calm) vc_all bAll_nr (gloB_of C (by decide +kernel)) (mgn C b_all) rfl (a_cons (.inl rfl) (DF.val (f_lc C [("own", 6)] (by decide +kernel) (i_items (n_var C 1 "names" rfl (by decide +kernel) dbg_names cld_names)) (fun s1 H1 A1 l1 p1 => g_name (n_tg C s1 H1 A1 l1 p1 6 rfl (by decide +kernel)) (by decide)) (fun s1 H1 A1 l1 p1 => c_nil) (fun s1 H1 A1 l1 p1 => e_call (C.blk s1 H1 _ A1 l1 p1) F_is_name (by decide) (by decide +kernel) rfl (a_cons (.inl rfl) (n_var (C.blk s1 H1 _ A1 l1 p1) 6 "own" rfl (by decide +kernel) dbg_own cld_own) (a_nil)) dbg_is_name))) (a_nil))))))))) (ss_one (s_raise C (j := 0) T.x1 (by decide) (by decide +kernel) T.w.m1 (T.w.ec 1 (by decide)) (T.en 1) (e_str))) (ss_nil))
      (ss_cons (s_set C 2 rfl (by decide +kernel) (DF.val (f_lst rfl (a_cons (.inl rfl) (e_non) (a_nil)))))
      (ss_cons (s_for (vs := [4, 5]) C (i_enum (gloB_of C (by decide +kernel)) (mgn C b_enumerate) (n_var C 1 "names" rfl (by decide +kernel) dbg_names cld_names)) (g_tup C.calm (g_cons (g_name (n_pg C 4 "at" rfl (by decide +kernel)) (by decide)) (g_cons (g_name (n_pg C 5 "name" rfl (by decide +kernel)) (by decide)) (g_nil)))) (ss_cons (s_set C 2 rfl (by decide +kernel) (e_call C F_further (by decide) (by decide +kernel) rfl (a_cons (.inl rfl) (n_var C 0 "tree" rfl (by decide +kernel) dbg_tree cld_tree) (a_cons (.inl rfl) (n_var C 2 "states" rfl (by decide +kernel) dbg_states cld_states) (a_cons (.inl rfl) (n_var C 5 "name" rfl (by decide +kernel) dbg_name cld_name) (a_nil)))) dbg_further))
      (ss_one (s_if (t_not (tTruth (n_var C 2 "states" rfl (by decide +kernel) dbg_states cld_states))) (ss_one (s_ret (e_tup rfl (a_cons (.inl rfl) (e_str) (a_cons (.inl rfl) (n_var C 4 "at" rfl (by decide +kernel) dbg_at cld_at) (a_nil)))))) (ss_nil)))))
      (ss_cons (s_set C 3 rfl (by decide +kernel) (e_callT call_tuple_of vc_tuple bTuple_nr (gloB_of C (by decide +kernel)) (mgn C b_tuple) rfl (a_cons (.inl rfl) (DF.val (f_lc C [("name", 5)] (by decide +kernel) (i_items (DF.val (f_callB (cr_sort2 C.calm) vcf_sort2 bSort2_nr (gloB_of C (by decide +kernel)) (mgn C b_sorted) rfl (a_cons (.inl rfl) (e_call C F_names_in (by decide) (by decide +kernel) rfl (a_cons (.inl rfl) (n_var C 0 "tree" rfl (by decide +kernel) dbg_tree cld_tree) (a_nil)) dbg_names_in) (a_nil))))) (fun s2 H2 A2 l2 p2 => g_name (n_tg C s2 H2 A2 l2 p2 5 rfl (by decide +kernel)) (by decide)) (fun s2 H2 A2 l2 p2 => c_one (tTruth (e_call (C.blk s2 H2 _ A2 l2 p2) F_further (by decide) (by decide +kernel) rfl (a_cons (.inl rfl) (n_var (C.blk s2 H2 _ A2 l2 p2) 0 "tree" rfl (by decide +kernel) dbg_tree cld_tree) (a_cons (.inl rfl) (n_var (C.blk s2 H2 _ A2 l2 p2) 2 "states" rfl (by decide +kernel) dbg_states cld_states) (a_cons (.inl rfl) (n_var (C.blk s2 H2 _ A2 l2 p2) 5 "name" rfl (by decide +kernel) dbg_name cld_name) (a_nil)))) dbg_further))) (fun s2 H2 A2 l2 p2 => n_var (C.blk s2 H2 _ A2 l2 p2) 5 "name" rfl (by decide +kernel) dbg_name cld_name))) (a_nil))))
      (ss_one (s_ret (e_tup rfl (a_cons (.inl rfl) (e_if (tTruth (e_call C F_any_ended (by decide) (by decide +kernel) rfl (a_cons (.inl rfl) (n_var C 0 "tree" rfl (by decide +kernel) dbg_tree cld_tree) (a_cons (.inl rfl) (n_var C 2 "states" rfl (by decide +kernel) dbg_states cld_states) (a_nil))) dbg_any_ended)) (e_str) (e_str)) (a_cons (.inl rfl) (n_var C 3 "follow" rfl (by decide +kernel) dbg_follow cld_follow) (a_nil))))))))))
theorem sc_relation : FnScope N_relation ["tree", "one", "other"] (defScope (top 38)) := ⟨rfl, rfl, rfl, by decide +kernel, rfl, by decide +kernel, by decide +kernel⟩
theorem ok_relation (nn : Bool) (T : TF K mg g Ca Ci AW) : Fok nn PP w K mg base 21 "relation" (spP (ck K g) 3 m_relation) := by
  have b_isinstance := T.b_isinstance
  have b_str := T.b_str
  have F_check_tree := ok_check_tree (w := w) (base := base) nn T
  have F_names_in := ok_names_in (w := w) (base := base) nn T
  refine fok_pure (k := 20) (N := N_relation) (body := b_relation) T.f_relation sc_relation rfl (by decide) (fun _ => rfl) fun X W C pa => ?_
  unfold b_relation
  exact ss_cons (s_drop (e_call C F_check_tree (by decide) (by decide +kernel) rfl (a_cons (.inl rfl) (n_var C 0 "tree" rfl (by decide +kernel) dbg_tree cld_tree) (a_nil)) dbg_check_tree))
      (ss_cons (s_set C 3 rfl (by decide +kernel) (e_call C F_names_in (by decide) (by decide +kernel) rfl (a_cons (.inl rfl) (n_var C 0 "tree" rfl (by decide +kernel) dbg_tree cld_tree) (a_nil)) dbg_names_in))
      (ss_cons (s_for (vs := [5, 6]) C (i_items (e_tup rfl (a_cons (.inl rfl) (e_tup rfl (a_cons (.inl rfl) (e_str) (a_cons (.inl rfl) (n_var C 1 "one" rfl (by decide +kernel) dbg_one cld_one) (a_nil)))) (a_cons (.inl rfl) (e_tup rfl (a_cons (.inl rfl) (e_str) (a_cons (.inl rfl) (n_var C 2 "other" rfl (by decide +kernel) dbg_other cld_other) (a_nil)))) (a_nil))))) (g_tup C.calm (g_cons (g_name (n_pg C 5 "reason" rfl (by decide +kernel)) (by decide)) (g_cons (g_name (n_pg C 6 "name" rfl (by decide +kernel)) (by decide)) (g_nil)))) (ss_one (s_if (t_w (w_or (t_not (tTruth (e_isi kitT_str (gloB_of C (by decide +kernel)) (mgn C b_isinstance) (gloB_of C (by decide +kernel)) (mgn C b_str) rfl (n_var C 6 "name" rfl (by decide +kernel) dbg_name cld_name)))) (w_or1 (tNotIn C (.inl rfl) (n_var C 6 "name" rfl (by decide +kernel) dbg_name cld_name) (n_var C 3 "names" rfl (by decide +kernel) dbg_names cld_names))))) (ss_one (s_raise C (j := 0) T.x1 (by decide) (by decide +kernel) T.w.m1 (T.w.ec 1 (by decide)) (T.en 1) (n_var C 5 "reason" rfl (by decide +kernel) dbg_reason cld_reason))) (ss_nil))))
      (ss_cons (s_if (tEq C (.inl rfl) (n_var C 1 "one" rfl (by decide +kernel) dbg_one cld_one) (n_var C 2 "other" rfl (by decide +kernel) dbg_other cld_other)) (ss_one (s_raise C (j := 0) T.x1 (by decide) (by decide +kernel) T.w.m1 (T.w.ec 1 (by decide)) (T.en 1) (e_str))) (ss_nil))
      (ss_never))))
theorem tblOk (T : TF K mg g Ca Ci AW) : TblOk false PP w K mg base 36 g tbl := fun i n mf h => by
  match i, h with
  | 0, h => cases h; obtain ⟨f, h1, h2⟩ := T.v_lengths; exact tbl_of ((ok_lengths false T).mono (by decide)) h1 h2
  | 1, h => cases h; obtain ⟨f, h1, h2⟩ := T.v_count_ways; exact tbl_of ((ok_count_ways false T).mono (by decide)) h1 h2
  | 2, h => cases h; obtain ⟨f, h1, h2⟩ := T.v_must_have; exact tbl_of ((ok_must_have false T).mono (by decide)) h1 h2
  | 3, h => cases h; obtain ⟨f, h1, h2⟩ := T.v_turned; exact tbl_of ((ok_turned false T).mono (by decide)) h1 h2
  | 4, h => cases h; obtain ⟨f, h1, h2⟩ := T.v_normal; exact tbl_of ((ok_normal false T).mono (by decide)) h1 h2
  | 5, h => cases h; obtain ⟨f, h1, h2⟩ := T.v_judge_run; exact tbl_of ((ok_judge_run false T).mono (by decide)) h1 h2
  | 6, h => cases h; obtain ⟨f, h1, h2⟩ := T.v_relation; exact tbl_of ((ok_relation false T).mono (by decide)) h1 h2
theorem sc__law_called : FnScope N__law_called ["call", "some"] (defScope (top 44)) := ⟨rfl, rfl, rfl, by decide +kernel, rfl, by decide +kernel, by decide +kernel⟩
theorem ok__law_called  (T : TF K mg g Ca Ci AW) : Fok false PP w K mg base 37 "_law_called" (spP (ck K g) 2 m__law_called) := by
  have b_len := T.b_len
  have TB : TblOk false PP w K mg base 36 g tbl := tblOk T
  refine fok_pure (k := 36) (N := N__law_called) (body := b__law_called) T.f__law_called sc__law_called rfl (by decide) (fun _ => rfl) fun X W C pa => ?_
  unfold b__law_called
  exact ss_cons (s_if (tLt (.inl rfl) (e_callB call_len vc_len bLen_nr (gloB_of C (by decide +kernel)) (mgn C b_len) rfl (a_cons (.inl rfl) (n_var C 1 "some" rfl (by decide +kernel) dbg_some cld_some) (a_nil))) (e_int)) (ss_one (s_ret (e_if (tEq C (.inl rfl) (e_callB call_len vc_len bLen_nr (gloB_of C (by decide +kernel)) (mgn C b_len) rfl (a_cons (.inl rfl) (n_var C 1 "some" rfl (by decide +kernel) dbg_some cld_some) (a_nil))) (e_int)) (e_callV C TB (by decide) rfl (by decide +kernel) rfl (a_cons (.inl rfl) (eIx (.inl rfl) (n_var C 1 "some" rfl (by decide +kernel) dbg_some cld_some) (e_int)) (a_nil)) dbg_call cld_call) (e_callV C TB (by decide) rfl (by decide +kernel) rfl (a_cons (.inl rfl) (eIx (.inl rfl) (n_var C 1 "some" rfl (by decide +kernel) dbg_some cld_some) (e_int)) (a_cons (.inl rfl) (eIx (.inl rfl) (n_var C 1 "some" rfl (by decide +kernel) dbg_some cld_some) (e_int)) (a_nil))) dbg_call cld_call)))) (ss_nil))
      (ss_cons (s_if (tLt (.inl rfl) (e_callB call_len vc_len bLen_nr (gloB_of C (by decide +kernel)) (mgn C b_len) rfl (a_cons (.inl rfl) (n_var C 1 "some" rfl (by decide +kernel) dbg_some cld_some) (a_nil))) (e_int)) (ss_one (s_ret (e_if (tEq C (.inl rfl) (e_callB call_len vc_len bLen_nr (gloB_of C (by decide +kernel)) (mgn C b_len) rfl (a_cons (.inl rfl) (n_var C 1 "some" rfl (by decide +kernel) dbg_some cld_some) (a_nil))) (e_int)) (e_callV C TB (by decide) rfl (by decide +kernel) rfl (a_cons (.inl rfl) (eIx (.inl rfl) (n_var C 1 "some" rfl (by decide +kernel) dbg_some cld_some) (e_int)) (a_cons (.inl rfl) (eIx (.inl rfl) (n_var C 1 "some" rfl (by decide +kernel) dbg_some cld_some) (e_int)) (a_cons (.inl rfl) (eIx (.inl rfl) (n_var C 1 "some" rfl (by decide +kernel) dbg_some cld_some) (e_int)) (a_nil)))) dbg_call cld_call) (e_callV C TB (by decide) rfl (by decide +kernel) rfl (a_cons (.inl rfl) (eIx (.inl rfl) (n_var C 1 "some" rfl (by decide +kernel) dbg_some cld_some) (e_int)) (a_cons (.inl rfl) (eIx (.inl rfl) (n_var C 1 "some" rfl (by decide +kernel) dbg_some cld_some) (e_int)) (a_cons (.inl rfl) (eIx (.inl rfl) (n_var C 1 "some" rfl (by decide +kernel) dbg_some cld_some) (e_int)) (a_cons (.inl rfl) (eIx (.inl rfl) (n_var C 1 "some" rfl (by decide +kernel) dbg_some cld_some) (e_int)) (a_nil))))) dbg_call cld_call)))) (ss_nil))
      (ss_never))
theorem sc__law_word : FnScope N__law_word ["error"] (defScope (top 43)) := ⟨rfl, rfl, rfl, by decide +kernel, rfl, by decide +kernel, by decide +kernel⟩
theorem ok__law_word (T : TF K mg g Ca Ci AW) : WordOk PP w K mg base 1 Ca "_law_word" := by
  obtain ⟨f, fd, h1, h2, h3, h4⟩ := T.f__law_word
  refine ⟨f, fd, h1, ?_, h3, h4⟩
  exact word_ok (k := 0) (j0 := 0) (j1 := 0) (j2 := 0) (j3 := 0) (j4 := 0) (j5 := 0) (j6 := 0) (j7 := 0) (p := wpos) T.w h2 (by rfl) (by rfl) rfl rfl sc__law_word
theorem sc__law_heard : FnScope N__law_heard ["call", "some"] (defScope (top 45)) := ⟨rfl, rfl, rfl, by decide +kernel, rfl, by decide +kernel, by decide +kernel⟩
theorem ok__law_heard  (T : TF K mg g Ca Ci AW) : Fok false PP w K mg base 38 "_law_heard" (spP (ck K g) 2 m__law_heard) := by
  have F__law_called := ok__law_called (w := w) (base := base) T
  have F__law_word : WordOk PP w K mg base 1 Ca "_law_word" := ok__law_word T
  refine fok_pure (k := 37) (N := N__law_heard) (body := b__law_heard) T.f__law_heard sc__law_heard rfl (by decide) (fun _ => rfl) fun X W C pa => ?_
  unfold b__law_heard
  exact ss_one (s_heard C T.w (fun i _ => T.en i) F__law_word (by decide) rfl (by decide +kernel) (by decide +kernel) T.wk T.hx (by decide +kernel) (fun X1 W1 Y1 => ss_one (s_ret (DF.val (f_lst rfl (a_cons (.inl rfl) (e_call Y1 F__law_called (by decide) (by decide +kernel) rfl (a_cons (.inl rfl) (n_var Y1 0 "call" rfl (by decide +kernel) dbg_call cld_call) (a_cons (.inl rfl) (n_var Y1 1 "some" rfl (by decide +kernel) dbg_some cld_some) (a_nil))) dbg__law_called) (a_nil)))))))
theorem sc__law_every : FnScope N__law_every ["tree"] (defScope (top 47)) := ⟨rfl, rfl, rfl, by decide +kernel, rfl, by decide +kernel, by decide +kernel⟩
theorem ok__law_every  (T : TF K mg g Ca Ci AW) : Fok false PP w K mg base 39 "_law_every" (spP (ck K g) 1 m__law_every) := by
  obtain ⟨a_lengths, v_lengths⟩ := T.v_lengths
  obtain ⟨a_count_ways, v_count_ways⟩ := T.v_count_ways
  obtain ⟨a_must_have, v_must_have⟩ := T.v_must_have
  obtain ⟨a_turned, v_turned⟩ := T.v_turned
  obtain ⟨a_normal, v_normal⟩ := T.v_normal
  obtain ⟨a_judge_run, v_judge_run⟩ := T.v_judge_run
  obtain ⟨a_relation, v_relation⟩ := T.v_relation
  have F__law_heard := ok__law_heard (w := w) (base := base) T
  refine fok_pure (k := 38) (N := N__law_every) (body := b__law_every) T.f__law_every sc__law_every rfl (by decide) (fun _ => rfl) fun X W C pa => ?_
  unfold b__law_every
  exact ss_cons (s_setLc C [("way", 2)] (by decide +kernel) rfl 1 rfl (by decide +kernel) (i_items (DF.val (f_lst rfl (a_cons (.inl rfl) (n_fn C (by decide +kernel) v_lengths.1 v_lengths.2 dbg_lengths) (a_cons (.inl rfl) (n_fn C (by decide +kernel) v_count_ways.1 v_count_ways.2 dbg_count_ways) (a_cons (.inl rfl) (n_fn C (by decide +kernel) v_must_have.1 v_must_have.2 dbg_must_have) (a_cons (.inl rfl) (n_fn C (by decide +kernel) v_turned.1 v_turned.2 dbg_turned) (a_cons (.inl rfl) (n_fn C (by decide +kernel) v_normal.1 v_normal.2 dbg_normal) (a_nil))))))))) (fun s1 H1 A1 l1 p1 => g_name (n_tg C s1 H1 A1 l1 p1 2 rfl (by decide +kernel)) (by decide)) (fun s1 H1 A1 l1 p1 => c_nil) (fun s1 H1 A1 l1 p1 => e_call (C.blk s1 H1 _ A1 l1 p1) F__law_heard (by decide) (by decide +kernel) rfl (a_cons (.inl rfl) (n_var (C.blk s1 H1 _ A1 l1 p1) 2 "way" rfl (by decide +kernel) dbg_way cld_way) (a_cons (.inl rfl) (DF.val (f_lst rfl (a_cons (.inl rfl) (n_var (C.blk s1 H1 _ A1 l1 p1) 0 "tree" rfl (by decide +kernel) dbg_tree cld_tree) (a_nil)))) (a_nil))) dbg__law_heard))
      (ss_one (s_ret (eAdd (.inl rfl) (n_var C 1 "told" rfl (by decide +kernel) dbg_told cld_told) (DF.val (f_lst rfl (a_cons (.inl rfl) (e_call C F__law_heard (by decide) (by decide +kernel) rfl (a_cons (.inl rfl) (n_fn C (by decide +kernel) v_judge_run.1 v_judge_run.2 dbg_judge_run) (a_cons (.inl rfl) (DF.val (f_lst rfl (a_cons (.inl rfl) (n_var C 0 "tree" rfl (by decide +kernel) dbg_tree cld_tree) (a_cons (.inl rfl) (e_non) (a_nil))))) (a_nil))) dbg__law_heard) (a_cons (.inl rfl) (e_call C F__law_heard (by decide) (by decide +kernel) rfl (a_cons (.inl rfl) (n_fn C (by decide +kernel) v_relation.1 v_relation.2 dbg_relation) (a_cons (.inl rfl) (DF.val (f_lst rfl (a_cons (.inl rfl) (n_var C 0 "tree" rfl (by decide +kernel) dbg_tree cld_tree) (a_cons (.inl rfl) (e_non) (a_cons (.inl rfl) (e_non) (a_nil)))))) (a_nil))) dbg__law_heard) (a_nil))))))))
theorem sc__law_names : FnScope N__law_names ["many"] (defScope (top 48)) := ⟨rfl, rfl, rfl, by decide +kernel, rfl, by decide +kernel, by decide +kernel⟩
theorem ok__law_names (nn : Bool) (T : TF K mg g Ca Ci AW) : Fok nn PP w K mg base 1 "_law_names" (spP (ck K g) 1 m__law_names) := by
  have b_range := T.b_range
  refine fok_pure (k := 0) (N := N__law_names) (body := b__law_names) T.f__law_names sc__law_names rfl (by decide) (fun _ => rfl) fun X W C pa => ?_
  unfold b__law_names
  exact ss_cons (s_set C 1 rfl (by decide +kernel) (e_str))
      (ss_one (s_ret (eAdd (.inl rfl) (e_slice ⟨.inl rfl, .inl rfl⟩ (DF.val (f_lc C [("k", 2)] (by decide +kernel) (i_rng1 (gloB_of C (by decide +kernel)) (mgn C b_range) (a_cons (.inl rfl) (e_int) (a_nil))) (fun s1 H1 A1 l1 p1 => g_name (n_tg C s1 H1 A1 l1 p1 2 rfl (by decide +kernel)) (by decide)) (fun s1 H1 A1 l1 p1 => c_nil) (fun s1 H1 A1 l1 p1 => eAdd (.inl rfl) (eIx (.inl rfl) (n_var (C.blk s1 H1 _ A1 l1 p1) 1 "letters" rfl (by decide +kernel) dbg_letters cld_letters) (n_var (C.blk s1 H1 _ A1 l1 p1) 2 "k" rfl (by decide +kernel) dbg_k cld_k)) (eIx (.inl rfl) (n_var (C.blk s1 H1 _ A1 l1 p1) 1 "letters" rfl (by decide +kernel) dbg_letters cld_letters) (eFdiv (.inl rfl) (n_var (C.blk s1 H1 _ A1 l1 p1) 2 "k" rfl (by decide +kernel) dbg_k cld_k) (e_int)))))) (o_none) (o_some (n_var C 0 "many" rfl (by decide +kernel) dbg_many cld_many))) (DF.val (f_lc C [("k", 2)] (by decide +kernel) (i_rng1 (gloB_of C (by decide +kernel)) (mgn C b_range) (a_cons (.inl rfl) (eSub (.inl rfl) (n_var C 0 "many" rfl (by decide +kernel) dbg_many cld_many) (e_int)) (a_nil))) (fun s2 H2 A2 l2 p2 => g_name (n_tg C s2 H2 A2 l2 p2 2 rfl (by decide +kernel)) (by decide)) (fun s2 H2 A2 l2 p2 => c_nil) (fun s2 H2 A2 l2 p2 => eMul (.inl rfl) (eIx (.inl rfl) (n_var (C.blk s2 H2 _ A2 l2 p2) 1 "letters" rfl (by decide +kernel) dbg_letters cld_letters) (n_var (C.blk s2 H2 _ A2 l2 p2) 2 "k" rfl (by decide +kernel) dbg_k cld_k)) (e_int)))))))
theorem sc_law : FnScope N_law ["script"] (defScope (top 49)) := ⟨rfl, rfl, rfl, by decide +kernel, rfl, by decide +kernel, by decide +kernel⟩
theorem fn_law (T : TF K mg g Ca Ci AW) {f : Addr} {fd : FuncData} (h2 : Fun K "law" "law" (top 49) f fd) : FnOk PP w K mg base (CXn false PP w) 40 f fd ["script"] (spP (ck K g) 1 m_law) := by
  have b_range := T.b_range
  have b_tuple := T.b_tuple
  obtain ⟨a_lengths, v_lengths⟩ := T.v_lengths
  obtain ⟨a_normal, v_normal⟩ := T.v_normal
  obtain ⟨a_judge_run, v_judge_run⟩ := T.v_judge_run
  obtain ⟨a_relation, v_relation⟩ := T.v_relation
  have F__law_start := ok__law_start (w := w) (base := base) false T
  have F__law_within := ok__law_within (w := w) (base := base) false T
  have F__law_draw := ok__law_draw (w := w) (base := base) false T
  have F__law_pick := ok__law_pick (w := w) (base := base) false T
  have F__law_every := ok__law_every (w := w) (base := base) T
  have F__law_heard := ok__law_heard (w := w) (base := base) T
  have F__law_names := ok__law_names (w := w) (base := base) false T
  refine def_pure (k := 39) (N := N_law) (body := b_law) h2 sc_law (by decide) (fun _ => rfl) fun X W C pa => ?_
  unfold b_law
  exact ss_cons (s_setO C 1 rfl (by decide +kernel) (f_call C F__law_start (by decide) (by decide +kernel) rfl (a_cons (.inl rfl) (n_var C 0 "script" rfl (by decide +kernel) dbg_script cld_script) (a_nil)) dbg__law_start))
      (ss_cons (s_for (vs := [2]) C (i_rng1 (gloB_of C (by decide +kernel)) (mgn C b_range) (a_cons (.inl rfl) (e_int) (a_nil))) (g_name (n_pg C 2 "turn" rfl (by decide +kernel)) (by decide)) (ss_cons (s_set C 14 rfl (by decide +kernel) (DF.val (f_lst rfl (a_cons (.inl rfl) (e_non) (a_cons (.inl rfl) (e_tup rfl (a_nil)) (a_cons (.inl rfl) (e_tup rfl (a_cons (.inl rfl) (e_str) (a_nil))) (a_cons (.inl rfl) (e_tup rfl (a_cons (.inl rfl) (e_str) (a_cons (.inl rfl) (e_str) (a_nil)))) (a_cons (.inl rfl) (e_tup rfl (a_cons (.inl rfl) (e_str) (a_cons (.inl rfl) (e_str) (a_nil)))) (a_cons (.inl rfl) (e_tup rfl (a_cons (.inl rfl) (e_str) (a_cons (.inl rfl) (eMul (.inl rfl) (e_str) (e_int)) (a_nil)))) (a_cons (.inl rfl) (e_tup rfl (a_cons (.inl rfl) (e_str) (a_cons (.inl rfl) (e_int) (a_nil)))) (a_cons (.inl rfl) (e_tup rfl (a_cons (.inl rfl) (e_str) (a_cons (.inl rfl) (e_str) (a_cons (.inl rfl) (e_str) (a_nil))))) (a_cons (.inl rfl) (e_tup rfl (a_cons (.inl rfl) (e_str) (a_cons (.inl rfl) (e_tup rfl (a_nil)) (a_nil)))) (a_cons (.inl rfl) (e_tup rfl (a_cons (.inl rfl) (e_str) (a_cons (.inl rfl) (e_tup rfl (a_cons (.inl rfl) (e_str) (a_cons (.inl rfl) (e_str) (a_nil)))) (a_nil)))) (a_cons (.inl rfl) (e_tup rfl (a_cons (.inl rfl) (e_str) (a_cons (.inl rfl) (e_tup rfl (a_cons (.inl rfl) (e_tup rfl (a_cons (.inl rfl) (e_str) (a_cons (.inl rfl) (e_str) (a_nil)))) (a_nil))) (a_nil)))) (a_nil)))))))))))))))
      (ss_cons (s_set C 14 rfl (by decide +kernel) (eAdd (.inl rfl) (n_var C 14 "wrong" rfl (by decide +kernel) dbg_wrong cld_wrong) (DF.val (f_lst rfl (a_cons (.inl rfl) (e_tup rfl (a_cons (.inl rfl) (e_str) (a_cons (.inl rfl) (e_tup rfl (a_cons (.inl rfl) (e_str) (a_cons (.inl rfl) (e_str) (a_nil)))) (a_cons (.inl rfl) (e_int) (a_nil))))) (a_cons (.inl rfl) (e_tup rfl (a_cons (.inl rfl) (e_str) (a_cons (.inl rfl) (e_tup rfl (a_cons (.inl rfl) (e_str) (a_cons (.inl rfl) (e_str) (a_nil)))) (a_cons (.inl rfl) (e_int) (a_nil))))) (a_cons (.inl rfl) (e_tup rfl (a_cons (.inl rfl) (e_str) (a_cons (.inl rfl) (e_tup rfl (a_cons (.inl rfl) (e_str) (a_cons (.inl rfl) (e_str) (a_nil)))) (a_cons (.inl rfl) (e_bl) (a_nil))))) (a_cons (.inl rfl) (e_tup rfl (a_cons (.inl rfl) (e_str) (a_cons (.inl rfl) (e_tup rfl (a_cons (.inl rfl) (e_str) (a_cons (.inl rfl) (e_str) (a_nil)))) (a_nil)))) (a_cons (.inl rfl) (e_tup rfl (a_cons (.inl rfl) (e_str) (a_cons (.inl rfl) (DF.val (f_lst rfl (a_cons (.inl rfl) (e_tup rfl (a_cons (.inl rfl) (e_str) (a_cons (.inl rfl) (e_str) (a_nil)))) (a_nil)))) (a_nil)))) (a_cons (.inl rfl) (DF.val (f_lst rfl (a_cons (.inl rfl) (e_str) (a_cons (.inl rfl) (e_str) (a_nil))))) (a_cons (.inl rfl) (e_tup rfl (a_cons (.inl rfl) (e_int) (a_cons (.inl rfl) (e_str) (a_nil)))) (a_cons (.inl rfl) (e_int) (a_cons (.inl rfl) (e_str) (a_nil))))))))))))))
      (ss_cons (s_set C 14 rfl (by decide +kernel) (eAdd (.inl rfl) (n_var C 14 "wrong" rfl (by decide +kernel) dbg_wrong cld_wrong) (DF.val (f_lst rfl (a_cons (.inl rfl) (e_tup rfl (a_cons (.inl rfl) (e_str) (a_cons (.inl rfl) (eMul (.inl rfl) (e_tup rfl (a_cons (.inl rfl) (e_tup rfl (a_cons (.inl rfl) (e_str) (a_cons (.inl rfl) (e_str) (a_nil)))) (a_nil))) (e_int)) (a_nil)))) (a_cons (.inl rfl) (e_tup rfl (a_cons (.inl rfl) (e_str) (a_cons (.inl rfl) (e_tup rfl (a_cons (.inl rfl) (e_tup rfl (a_cons (.inl rfl) (e_str) (a_cons (.inl rfl) (e_str) (a_nil)))) (a_cons (.inl rfl) (e_non) (a_nil)))) (a_nil)))) (a_cons (.inl rfl) (e_tup rfl (a_cons (.inl rfl) (e_str) (a_cons (.inl rfl) (e_tup rfl (a_cons (.inl rfl) (e_tup rfl (a_cons (.inl rfl) (e_str) (a_cons (.inl rfl) (e_str) (a_nil)))) (a_cons (.inl rfl) (e_tup rfl (a_cons (.inl rfl) (e_str) (a_cons (.inl rfl) (e_str) (a_nil)))) (a_nil)))) (a_nil)))) (a_cons (.inl rfl) (e_tup rfl (a_cons (.inl rfl) (e_str) (a_cons (.inl rfl) (e_tup rfl (a_cons (.inl rfl) (e_tup rfl (a_cons (.inl rfl) (e_str) (a_cons (.inl rfl) (e_str) (a_nil)))) (a_nil))) (a_cons (.inl rfl) (e_int) (a_nil))))) (a_cons (.inl rfl) (e_tup rfl (a_cons (.inl rfl) (e_str) (a_cons (.inl rfl) (e_tup rfl (a_cons (.inl rfl) (e_str) (a_cons (.inl rfl) (e_str) (a_nil)))) (a_cons (.inl rfl) (e_int) (a_cons (.inl rfl) (e_int) (a_nil)))))) (a_nil))))))))))
      (ss_cons (s_set C 10 rfl (by decide +kernel) (e_callO C F__law_within (by decide) (by decide +kernel) rfl 1 (n_pe C 1 "state" rfl (by decide +kernel) dbg_state cld_state) (a_cons (.inl rfl) (e_callO C F__law_draw (by decide) (by decide +kernel) rfl 1 (n_pe C 1 "state" rfl (by decide +kernel) dbg_state cld_state) (a_cons (.inl rfl) (e_int) (a_nil)) dbg__law_draw) (a_cons (.inl rfl) (e_callO C F__law_pick (by decide) (by decide +kernel) rfl 1 (n_pe C 1 "state" rfl (by decide +kernel) dbg_state cld_state) (a_cons (.inl rfl) (n_var C 14 "wrong" rfl (by decide +kernel) dbg_wrong cld_wrong) (a_nil)) dbg__law_pick) (a_nil))) dbg__law_within))
      (ss_one (s_if (tNe C (.inl rfl) (e_call C F__law_every (by decide) (by decide +kernel) rfl (a_cons (.inl rfl) (n_var C 10 "tree" rfl (by decide +kernel) dbg_tree cld_tree) (a_nil)) dbg__law_every) (eMul (.inl rfl) (DF.val (f_lst rfl (a_cons (.inl rfl) (e_str) (a_nil)))) (e_int))) (ss_never) (ss_nil))))))))
      (ss_cons (s_set C 3 rfl (by decide +kernel) (e_callO C F__law_within (by decide) (by decide +kernel) rfl 1 (n_pe C 1 "state" rfl (by decide +kernel) dbg_state cld_state) (a_cons (.inl rfl) (e_int) (a_cons (.inl rfl) (e_tup rfl (a_cons (.inl rfl) (e_str) (a_cons (.inl rfl) (e_str) (a_nil)))) (a_nil))) dbg__law_within))
      (ss_cons (s_if (t_w (w_or (tNe C (.inl rfl) (e_call C F__law_every (by decide) (by decide +kernel) rfl (a_cons (.inl rfl) (e_callO C F__law_within (by decide) (by decide +kernel) rfl 1 (n_pe C 1 "state" rfl (by decide +kernel) dbg_state cld_state) (a_cons (.inl rfl) (e_int) (a_cons (.inl rfl) (e_tup rfl (a_cons (.inl rfl) (e_str) (a_cons (.inl rfl) (e_str) (a_nil)))) (a_nil))) dbg__law_within) (a_nil)) dbg__law_every) (eMul (.inl rfl) (DF.val (f_lst rfl (a_cons (.inl rfl) (e_str) (a_nil)))) (e_int))) (w_or1 (tNe C (.inl rfl) (e_slice ⟨.inl rfl, .inl rfl⟩ (e_call C F__law_every (by decide) (by decide +kernel) rfl (a_cons (.inl rfl) (n_var C 3 "deep" rfl (by decide +kernel) dbg_deep cld_deep) (a_nil)) dbg__law_every) (o_some (e_int)) (o_none)) (DF.val (f_lst rfl (a_cons (.inl rfl) (e_str) (a_cons (.inl rfl) (e_str) (a_nil))))))))) (ss_never) (ss_nil))
      (ss_cons (s_if (t_w (w_or (tNe C (.inl rfl) (e_slice ⟨.inl rfl, .inl rfl⟩ (e_call C F__law_every (by decide) (by decide +kernel) rfl (a_cons (.inl rfl) (n_var C 3 "deep" rfl (by decide +kernel) dbg_deep cld_deep) (a_nil)) dbg__law_every) (o_none) (o_some (e_int))) (DF.val (f_lst rfl (a_cons (.inl rfl) (DF.val (f_lst rfl (a_cons (.inl rfl) (e_tup rfl (a_cons (.inl rfl) (e_int) (a_cons (.inl rfl) (e_int) (a_nil)))) (a_nil)))) (a_cons (.inl rfl) (DF.val (f_lst rfl (a_cons (.inl rfl) (e_tup rfl (a_cons (.inl rfl) (e_tup rfl (a_cons (.inl rfl) (e_int) (a_cons (.inl rfl) (e_int) (a_nil)))) (a_nil))) (a_nil)))) (a_cons (.inl rfl) (DF.val (f_lst rfl (a_cons (.inl rfl) (e_tup rfl (a_cons (.inl rfl) (e_str) (a_nil))) (a_nil)))) (a_nil))))))) (w_or1 (tNe C (.inl rfl) (e_call C F__law_heard (by decide) (by decide +kernel) rfl (a_cons (.inl rfl) (n_fn C (by decide +kernel) v_normal.1 v_normal.2 dbg_normal) (a_cons (.inl rfl) (DF.val (f_lst rfl (a_cons (.inl rfl) (n_var C 3 "deep" rfl (by decide +kernel) dbg_deep cld_deep) (a_nil)))) (a_nil))) dbg__law_heard) (DF.val (f_lst rfl (a_cons (.inl rfl) (e_tup rfl (a_cons (.inl rfl) (e_str) (a_cons (.inl rfl) (e_str) (a_nil)))) (a_nil)))))))) (ss_never) (ss_nil))
      (ss_cons (s_set C 4 rfl (by decide +kernel) (e_callT call_tuple_of vc_tuple bTuple_nr (gloB_of C (by decide +kernel)) (mgn C b_tuple) rfl (a_cons (.inl rfl) (DF.val (f_lc C [("name", 15)] (by decide +kernel) (i_items (e_call C F__law_names (by decide) (by decide +kernel) rfl (a_cons (.inl rfl) (e_int) (a_nil)) dbg__law_names)) (fun s1 H1 A1 l1 p1 => g_name (n_tg C s1 H1 A1 l1 p1 15 rfl (by decide +kernel)) (by decide)) (fun s1 H1 A1 l1 p1 => c_nil) (fun s1 H1 A1 l1 p1 => e_tup rfl (a_cons (.inl rfl) (e_str) (a_cons (.inl rfl) (n_var (C.blk s1 H1 _ A1 l1 p1) 15 "name" rfl (by decide +kernel) dbg_name cld_name) (a_nil)))))) (a_nil))))
      (ss_cons (s_set C 5 rfl (by decide +kernel) (e_callO C F__law_pick (by decide) (by decide +kernel) rfl 1 (n_pe C 1 "state" rfl (by decide +kernel) dbg_state cld_state) (a_cons (.inl rfl) (DF.val (f_lst rfl (a_cons (.inl rfl) (e_str) (a_cons (.inl rfl) (e_str) (a_cons (.inl rfl) (e_str) (a_nil)))))) (a_nil)) dbg__law_pick))
      (ss_cons (s_set C 6 rfl (by decide +kernel) (e_tup rfl (a_cons (.inl rfl) (e_str) (a_cons (.inl rfl) (e_tup rfl (a_cons (.inl rfl) (e_tup rfl (a_cons (.inl rfl) (e_str) (a_cons (.inl rfl) (e_str) (a_nil)))) (a_cons (.inl rfl) (e_callO C F__law_within (by decide) (by decide +kernel) rfl 1 (n_pe C 1 "state" rfl (by decide +kernel) dbg_state cld_state) (a_cons (.inl rfl) (e_callO C F__law_draw (by decide) (by decide +kernel) rfl 1 (n_pe C 1 "state" rfl (by decide +kernel) dbg_state cld_state) (a_cons (.inl rfl) (e_int) (a_nil)) dbg__law_draw) (a_cons (.inl rfl) (e_tup rfl (a_cons (.inl rfl) (e_str) (a_cons (.inl rfl) (e_str) (a_nil)))) (a_nil))) dbg__law_within) (a_nil)))) (a_nil)))))
      (ss_cons (s_set C 7 rfl (by decide +kernel) (e_tup rfl (a_cons (.inl rfl) (n_var C 5 "kind" rfl (by decide +kernel) dbg_kind cld_kind) (a_cons (.inl rfl) (e_tup rfl (a_cons (.inl rfl) (e_tup rfl (a_cons (.inl rfl) (e_str) (a_cons (.inl rfl) (n_var C 4 "steps" rfl (by decide +kernel) dbg_steps cld_steps) (a_nil)))) (a_cons (.inl rfl) (e_tup rfl (a_cons (.inl rfl) (e_str) (a_cons (.inl rfl) (e_str) (a_nil)))) (a_nil)))) (a_nil)))))
      (ss_cons (s_if (t_w (w_or (tNe C (.inl rfl) (e_call C F__law_every (by decide) (by decide +kernel) rfl (a_cons (.inl rfl) (n_var C 6 "twice" rfl (by decide +kernel) dbg_twice cld_twice) (a_nil)) dbg__law_every) (eMul (.inl rfl) (DF.val (f_lst rfl (a_cons (.inl rfl) (e_str) (a_nil)))) (e_int))) (w_or1 (tNe C (.inl rfl) (e_call C F__law_every (by decide) (by decide +kernel) rfl (a_cons (.inl rfl) (n_var C 7 "many" rfl (by decide +kernel) dbg_many cld_many) (a_nil)) dbg__law_every) (eMul (.inl rfl) (DF.val (f_lst rfl (a_cons (.inl rfl) (e_str) (a_nil)))) (e_int)))))) (ss_never) (ss_nil))
      (ss_cons (s_if (tNe C (.inl rfl) (e_call C F__law_heard (by decide) (by decide +kernel) rfl (a_cons (.inl rfl) (n_fn C (by decide +kernel) v_lengths.1 v_lengths.2 dbg_lengths) (a_cons (.inl rfl) (DF.val (f_lst rfl (a_cons (.inl rfl) (e_tup rfl (a_cons (.inl rfl) (n_var C 5 "kind" rfl (by decide +kernel) dbg_kind cld_kind) (a_cons (.inl rfl) (n_var C 4 "steps" rfl (by decide +kernel) dbg_steps cld_steps) (a_nil)))) (a_nil)))) (a_nil))) dbg__law_heard) (DF.val (f_lst rfl (a_cons (.inl rfl) (e_if (tEq C (.inl rfl) (n_var C 5 "kind" rfl (by decide +kernel) dbg_kind cld_kind) (e_str)) (e_tup rfl (a_cons (.inl rfl) (e_int) (a_cons (.inl rfl) (e_int) (a_nil)))) (e_tup rfl (a_cons (.inl rfl) (e_int) (a_cons (.inl rfl) (e_int) (a_nil))))) (a_nil))))) (ss_never) (ss_nil))
      (ss_cons (s_set C 8 rfl (by decide +kernel) (e_tup rfl (a_cons (.inl rfl) (e_str) (a_cons (.inl rfl) (e_slice ⟨.inl rfl, .inl rfl⟩ (n_var C 4 "steps" rfl (by decide +kernel) dbg_steps cld_steps) (o_none) (o_some (e_int))) (a_nil)))))
      (ss_cons (s_set C 9 rfl (by decide +kernel) (e_tup rfl (a_cons (.inl rfl) (e_str) (a_cons (.inl rfl) (e_tup rfl (a_cons (.inl rfl) (e_str) (a_cons (.inl rfl) (n_var C 8 "part" rfl (by decide +kernel) dbg_part cld_part) (a_cons (.inl rfl) (e_int) (a_nil))))) (a_cons (.inl rfl) (e_int) (a_nil))))))
      (ss_cons (s_if (t_w (w_or (tNe C (.inl rfl) (e_call C F__law_heard (by decide) (by decide +kernel) rfl (a_cons (.inl rfl) (n_fn C (by decide +kernel) v_lengths.1 v_lengths.2 dbg_lengths) (a_cons (.inl rfl) (DF.val (f_lst rfl (a_cons (.inl rfl) (n_var C 9 "long" rfl (by decide +kernel) dbg_long cld_long) (a_nil)))) (a_nil))) dbg__law_heard) (DF.val (f_lst rfl (a_cons (.inl rfl) (e_tup rfl (a_cons (.inl rfl) (e_int) (a_cons (.inl rfl) (e_int) (a_nil)))) (a_nil))))) (w_or1 (tNe C (.inl rfl) (e_call C F__law_every (by decide) (by decide +kernel) rfl (a_cons (.inl rfl) (e_tup rfl (a_cons (.inl rfl) (e_str) (a_cons (.inl rfl) (e_tup rfl (a_cons (.inl rfl) (n_var C 9 "long" rfl (by decide +kernel) dbg_long cld_long) (a_cons (.inl rfl) (e_tup rfl (a_cons (.inl rfl) (e_str) (a_cons (.inl rfl) (e_str) (a_nil)))) (a_nil)))) (a_nil)))) (a_nil)) dbg__law_every) (eMul (.inl rfl) (DF.val (f_lst rfl (a_cons (.inl rfl) (e_str) (a_nil)))) (e_int)))))) (ss_never) (ss_nil))
      (ss_cons (s_if (t_w (w_or (tNe C (.inl rfl) (e_call C F__law_every (by decide) (by decide +kernel) rfl (a_cons (.inl rfl) (e_tup rfl (a_cons (.inl rfl) (e_str) (a_cons (.inl rfl) (e_tup rfl (a_cons (.inl rfl) (e_tup rfl (a_cons (.inl rfl) (e_str) (a_cons (.inl rfl) (e_tup rfl (a_cons (.inl rfl) (e_str) (a_cons (.inl rfl) (e_tup rfl (a_cons (.inl rfl) (e_str) (a_cons (.inl rfl) (e_slice ⟨.inl rfl, .inl rfl⟩ (n_var C 4 "steps" rfl (by decide +kernel) dbg_steps cld_steps) (o_none) (o_some (e_int))) (a_nil)))) (a_cons (.inl rfl) (e_int) (a_nil))))) (a_cons (.inl rfl) (e_int) (a_nil))))) (a_cons (.inl rfl) (e_tup rfl (a_cons (.inl rfl) (e_str) (a_cons (.inl rfl) (eMul (.inl rfl) (e_str) (e_int)) (a_nil)))) (a_nil)))) (a_nil)))) (a_nil)) dbg__law_every) (eMul (.inl rfl) (DF.val (f_lst rfl (a_cons (.inl rfl) (e_str) (a_nil)))) (e_int))) (w_or1 (tNe C (.inl rfl) (e_call C F__law_heard (by decide) (by decide +kernel) rfl (a_cons (.inl rfl) (n_fn C (by decide +kernel) v_lengths.1 v_lengths.2 dbg_lengths) (a_cons (.inl rfl) (DF.val (f_lst rfl (a_cons (.inl rfl) (e_tup rfl (a_cons (.inl rfl) (e_str) (a_cons (.inl rfl) (e_tup rfl (a_cons (.inl rfl) (n_var C 9 "long" rfl (by decide +kernel) dbg_long cld_long) (a_cons (.inl rfl) (e_tup rfl (a_cons (.inl rfl) (e_str) (a_cons (.inl rfl) (e_str) (a_nil)))) (a_nil)))) (a_nil)))) (a_nil)))) (a_nil))) dbg__law_heard) (DF.val (f_lst rfl (a_cons (.inl rfl) (e_tup rfl (a_cons (.inl rfl) (e_int) (a_cons (.inl rfl) (e_int) (a_nil)))) (a_nil)))))))) (ss_never) (ss_nil))
      (ss_cons (s_if (tNe C (.inl rfl) (e_call C F__law_heard (by decide) (by decide +kernel) rfl (a_cons (.inl rfl) (n_fn C (by decide +kernel) v_judge_run.1 v_judge_run.2 dbg_judge_run) (a_cons (.inl rfl) (DF.val (f_lst rfl (a_cons (.inl rfl) (n_var C 9 "long" rfl (by decide +kernel) dbg_long cld_long) (a_cons (.inl rfl) (eMul (.inl rfl) (e_callT call_tuple_of vc_tuple bTuple_nr (gloB_of C (by decide +kernel)) (mgn C b_tuple) rfl (a_cons (.inl rfl) (DF.val (f_lc C [("name", 15)] (by decide +kernel) (i_items (e_slice ⟨.inl rfl, .inl rfl⟩ (n_var C 4 "steps" rfl (by decide +kernel) dbg_steps cld_steps) (o_none) (o_some (e_int)))) (fun s2 H2 A2 l2 p2 => g_name (n_tg C s2 H2 A2 l2 p2 15 rfl (by decide +kernel)) (by decide)) (fun s2 H2 A2 l2 p2 => c_nil) (fun s2 H2 A2 l2 p2 => eIx (.inl rfl) (n_var (C.blk s2 H2 _ A2 l2 p2) 15 "name" rfl (by decide +kernel) dbg_name cld_name) (e_int)))) (a_nil))) (e_int)) (a_nil))))) (a_nil))) dbg__law_heard) (DF.val (f_lst rfl (a_cons (.inl rfl) (e_tup rfl (a_cons (.inl rfl) (e_str) (a_cons (.inl rfl) (e_tup rfl (a_nil)) (a_nil)))) (a_nil))))) (ss_never) (ss_nil))
      (ss_cons (s_set C 10 rfl (by decide +kernel) (e_tup rfl (a_cons (.inl rfl) (e_str) (a_cons (.inl rfl) (e_tup rfl (a_cons (.inl rfl) (e_tup rfl (a_cons (.inl rfl) (e_str) (a_cons (.inl rfl) (e_str) (a_nil)))) (a_cons (.inl rfl) (e_tup rfl (a_cons (.inl rfl) (e_str) (a_cons (.inl rfl) (e_str) (a_nil)))) (a_nil)))) (a_nil)))))
      (ss_cons (s_set C 11 rfl (by decide +kernel) (e_callO C F__law_pick (by decide) (by decide +kernel) rfl 1 (n_pe C 1 "state" rfl (by decide +kernel) dbg_state cld_state) (a_cons (.inl rfl) (DF.val (f_lst rfl (a_cons (.inl rfl) (e_non) (a_cons (.inl rfl) (e_tup rfl (a_cons (.inl rfl) (e_str) (a_cons (.inl rfl) (e_int) (a_nil)))) (a_cons (.inl rfl) (e_tup rfl (a_cons (.inl rfl) (e_str) (a_cons (.inl rfl) (e_str) (a_nil)))) (a_cons (.inl rfl) (e_tup rfl (a_cons (.inl rfl) (e_str) (a_cons (.inl rfl) (e_str) (a_nil)))) (a_cons (.inl rfl) (DF.val (f_lst rfl (a_cons (.inl rfl) (e_str) (a_nil)))) (a_cons (.inl rfl) (e_str) (a_cons (.inl rfl) (eMul (.inl rfl) (e_tup rfl (a_cons (.inl rfl) (e_str) (a_nil))) (e_int)) (a_cons (.inl rfl) (e_tup rfl (a_cons (.inl rfl) (e_tup rfl (a_cons (.inl rfl) (e_str) (a_nil))) (a_nil))) (a_cons (.inl rfl) (e_tup rfl (a_cons (.inl rfl) (e_str) (a_cons (.inl rfl) (eMul (.inl rfl) (e_str) (e_int)) (a_nil)))) (a_cons (.inl rfl) (e_tup rfl (a_cons (.inl rfl) (e_str) (a_cons (.inl rfl) (e_non) (a_nil)))) (a_nil))))))))))))) (a_nil)) dbg__law_pick))
      (ss_cons (s_set C 12 rfl (by decide +kernel) (e_callO C F__law_pick (by decide) (by decide +kernel) rfl 1 (n_pe C 1 "state" rfl (by decide +kernel) dbg_state cld_state) (a_cons (.inl rfl) (DF.val (f_lst rfl (a_cons (.inl rfl) (e_non) (a_cons (.inl rfl) (e_str) (a_cons (.inl rfl) (e_str) (a_cons (.inl rfl) (e_int) (a_cons (.inl rfl) (e_tup rfl (a_cons (.inl rfl) (e_str) (a_nil))) (a_cons (.inl rfl) (e_bl) (a_cons (.inl rfl) (e_str) (a_nil)))))))))) (a_nil)) dbg__law_pick))
      (ss_cons (s_set C 13 rfl (by decide +kernel) (DF.val (f_lst rfl (a_cons (.inl rfl) (e_call C F__law_heard (by decide) (by decide +kernel) rfl (a_cons (.inl rfl) (n_fn C (by decide +kernel) v_judge_run.1 v_judge_run.2 dbg_judge_run) (a_cons (.inl rfl) (DF.val (f_lst rfl (a_cons (.inl rfl) (n_var C 10 "tree" rfl (by decide +kernel) dbg_tree cld_tree) (a_cons (.inl rfl) (n_var C 11 "names" rfl (by decide +kernel) dbg_names cld_names) (a_nil))))) (a_nil))) dbg__law_heard) (a_cons (.inl rfl) (e_call C F__law_heard (by decide) (by decide +kernel) rfl (a_cons (.inl rfl) (n_fn C (by decide +kernel) v_relation.1 v_relation.2 dbg_relation) (a_cons (.inl rfl) (DF.val (f_lst rfl (a_cons (.inl rfl) (n_var C 10 "tree" rfl (by decide +kernel) dbg_tree cld_tree) (a_cons (.inl rfl) (n_var C 12 "odd" rfl (by decide +kernel) dbg_odd cld_odd) (a_cons (.inl rfl) (n_var C 12 "odd" rfl (by decide +kernel) dbg_odd cld_odd) (a_nil)))))) (a_nil))) dbg__law_heard) (a_cons (.inl rfl) (e_call C F__law_heard (by decide) (by decide +kernel) rfl (a_cons (.inl rfl) (n_fn C (by decide +kernel) v_relation.1 v_relation.2 dbg_relation) (a_cons (.inl rfl) (DF.val (f_lst rfl (a_cons (.inl rfl) (n_var C 10 "tree" rfl (by decide +kernel) dbg_tree cld_tree) (a_cons (.inl rfl) (e_str) (a_cons (.inl rfl) (n_var C 12 "odd" rfl (by decide +kernel) dbg_odd cld_odd) (a_nil)))))) (a_nil))) dbg__law_heard) (a_cons (.inl rfl) (e_call C F__law_heard (by decide) (by decide +kernel) rfl (a_cons (.inl rfl) (n_fn C (by decide +kernel) v_relation.1 v_relation.2 dbg_relation) (a_cons (.inl rfl) (DF.val (f_lst rfl (a_cons (.inl rfl) (n_var C 10 "tree" rfl (by decide +kernel) dbg_tree cld_tree) (a_cons (.inl rfl) (e_str) (a_cons (.inl rfl) (e_str) (a_nil)))))) (a_nil))) dbg__law_heard) (a_nil))))))))
      (ss_cons (s_if (tNe C (.inl rfl) (n_var C 13 "told" rfl (by decide +kernel) dbg_told cld_told) (DF.val (f_lst rfl (a_cons (.inl rfl) (e_str) (a_cons (.inl rfl) (e_str) (a_cons (.inl rfl) (e_str) (a_cons (.inl rfl) (e_str) (a_nil)))))))) (ss_never) (ss_nil))
      (ss_one (s_ret (e_and (eEq C (.inl rfl) (e_call C F__law_heard (by decide) (by decide +kernel) rfl (a_cons (.inl rfl) (n_fn C (by decide +kernel) v_judge_run.1 v_judge_run.2 dbg_judge_run) (a_cons (.inl rfl) (DF.val (f_lst rfl (a_cons (.inl rfl) (n_var C 10 "tree" rfl (by decide +kernel) dbg_tree cld_tree) (a_cons (.inl rfl) (eAdd (.inl rfl) (e_tup rfl (a_cons (.inl rfl) (e_str) (a_nil))) (eMul (.inl rfl) (e_tup rfl (a_cons (.inl rfl) (eMul (.inl rfl) (e_str) (e_int)) (a_nil))) (e_int))) (a_nil))))) (a_nil))) dbg__law_heard) (DF.val (f_lst rfl (a_cons (.inl rfl) (e_tup rfl (a_cons (.inl rfl) (e_str) (a_cons (.inl rfl) (e_int) (a_nil)))) (a_nil))))) (e_one (eEq C (.inl rfl) (e_call C F__law_heard (by decide) (by decide +kernel) rfl (a_cons (.inl rfl) (n_fn C (by decide +kernel) v_judge_run.1 v_judge_run.2 dbg_judge_run) (a_cons (.inl rfl) (DF.val (f_lst rfl (a_cons (.inl rfl) (n_var C 10 "tree" rfl (by decide +kernel) dbg_tree cld_tree) (a_cons (.inl rfl) (e_tup rfl (a_nil)) (a_nil))))) (a_nil))) dbg__law_heard) (DF.val (f_lst rfl (a_cons (.inl rfl) (e_tup rfl (a_cons (.inl rfl) (e_str) (a_cons (.inl rfl) (e_tup rfl (a_cons (.inl rfl) (e_str) (a_nil))) (a_nil)))) (a_nil)))))))))))))))))))))))))))))
end
end LW
end Dn

/-! PG5 -/
set_option Elab.async false
set_option linter.all false
set_option maxRecDepth 100000
set_option maxHeartbeats 2000000
namespace Dn
namespace LW
open PySem
/-! ### the drawing -/
/-- a state of the drawing that may come -/
def Good (s : D) : Prop := ∃ (ns : List Int) (v p c : Int), s = .lst [.lst (ns.map D.int), .int v, .int p, .int c] ∧ 0 ≤ v ∧ 0 ≤ p ∧ 0 ≤ c ∧ c < 4294967296
theorem start_ok (ns : List Int) : ∃ s, m__law_start [.scr ns] = .ok s ∧ Good s := by
  have key : ∀ (ms : List Int) (c : Int), 0 ≤ c → c < 4294967296 → ∃ c', 0 ≤ c' ∧ c' < 4294967296 ∧ ∀ o, ∃ o', forL (gSet 2) (sSet 1 (dBin dAdd (dBin dMod (dCall bInt (dCons (dBin dAdd (dBin dMul (dVar 1) (dC (.int 48271))) (dVar 2)) (dNil))) (dC (.int 2147483629))) (dC (.int 1)))) (ms.map D.int) [.va (.scr ns), .va (.int c), o] = .ok (.nx, [.va (.scr ns), .va (.int c'), o']) := by
    intro ms
    induction ms with
    | nil => exact fun c h1 h2 => ⟨c, h1, h2, fun o => ⟨o, rfl⟩⟩
    | cons m ms ih =>
      intro c h1 h2
      have hm : mulOk c 48271 = true := mulOk_of (m := 32) (n := 16) (by omega) (by decide) (by decide)
      have h3 : 0 ≤ (c * 48271 + m) % 2147483629 + 1 := by omega
      have h4 : (c * 48271 + m) % 2147483629 + 1 < 4294967296 := by omega
      obtain ⟨c', q1, q2, q3⟩ := ih _ h3 h4
      refine ⟨c', q1, q2, fun o => ?_⟩
      obtain ⟨o', q4⟩ := q3 (.va (.int m))
      refine ⟨o', ?_⟩
      rw [← q4, List.map_cons, forL]
      simp [gSet, put, Dn.ns, sSet, dBin, dVar, dC, dCall, dCons, dNil, dMul, hm, dAdd, bInt, dIntOp, isOw]
  obtain ⟨c, h1, h2, h3⟩ := key ns 7 (by decide) (by decide)
  obtain ⟨o, h3⟩ := h3 .un
  refine ⟨.lst [.lst (ns.map D.int), .int 0, .int 0, .int c], ?_, ns, 0, 0, c, rfl, by decide, by decide, h1, h2⟩
  unfold m__law_start b__law_start
  simp [enter, bSeq, sSet, dC, put, isOw, sFor, dItems, dVar, h3, sRetF, dLst, dCons, dCall, bList, dNil, maxSeq, finF]
theorem draw_ok {s : D} {n : Int} (h : Good s) (hn : 0 < n) (hn2 : n < 1099511627776) : wm (m__law_draw s [.int n]) fun q => ∃ k, q.1 = .int k ∧ 0 ≤ k ∧ k < n ∧ Good q.2 := by
  obtain ⟨cs, v, p, c, rfl, hv, hp, hc, hc2⟩ := h
  have hm : mulOk c 48271 = true := mulOk_of (m := 32) (n := 16) (by omega) (by decide) (by decide)
  have hd : ∀ i, divOk i n = true := fun i => divOk_of (n := 40) hn (by omega) (by decide)
  have hd13 : ∀ i, divOk i 13 = true := fun i => divOk_of (n := 40) (by decide) (by decide) (by decide)
  have nn0 := Int.emod_nonneg
  unfold m__law_draw b__law_draw
  by_cases h0 : v = 0
  · subst h0
    by_cases hl : (cs.length : Int) ≤ p
    · simp [bSeq, bNil, sIf, dTAnd, dTb, dBin, dIx, dVarO, dVar, dC, enterO, enter, dEq, D.eqv, D.ok, D.lay, D.dep, L2.atI, L2.ixN, dCall, dCons, dNil, bLen, hl, sSub, dMul, hm, dAdd, bInt, dIntOp, hd13, hn, sRet, finO, dCmpI]
      refine ⟨Int.emod_nonneg _ (by omega), Int.emod_lt_of_pos _ hn, cs, 0, p, _, rfl, by decide, hp, by omega, by omega⟩
    · have hp2 : p.toNat < cs.length := by omega
      have hp3 : p < (cs.length : Int) := by omega
      simp [bSeq, bNil, sIf, dTAnd, dTb, dBin, dIx, dVarO, dVar, dC, enterO, enter, dEq, D.eqv, D.ok, D.lay, D.dep, L2.atI, L2.ixN, dCall, dCons, dNil, bLen, hl, hp, hp2, hp3, sSub, dMul, hm, dAdd, bInt, bAbs, dIntOp, hd13, hd, hn, sRet, finO, dCmpI, sSet]
      refine ⟨Int.emod_nonneg _ (by omega), Int.emod_lt_of_pos _ hn, cs, _, p + 1, c, rfl, ?_, by omega, hc, hc2⟩
      refine Int.ediv_nonneg ?_ (by omega)
      split <;> omega
  · simp [bSeq, bNil, sIf, dTAnd, dTb, dBin, dIx, dVarO, dVar, dC, enterO, enter, dEq, D.eqv, D.ok, D.lay, D.dep, L2.atI, L2.ixN, dCall, dCons, dNil, bLen, h0, sSub, dMul, hm, dAdd, bInt, bAbs, dIntOp, hd13, hd, hn, sRet, finO, dCmpI, sSet]
    refine ⟨Int.emod_nonneg _ (by omega), Int.emod_lt_of_pos _ hn, cs, _, p, c, rfl, Int.ediv_nonneg hv (by omega), hp, hc, hc2⟩
theorem pick_ok {s : D} {xs : List D} (h : Good s) (h0 : xs ≠ []) (h1 : xs.length < 1000000) : wm (m__law_pick s [.lst xs]) fun q => q.1 ∈ xs ∧ Good q.2 := by
  have hl : 0 < (xs.length : Int) := by
    cases xs with
    | nil => exact absurd rfl h0
    | cons x r => exact Int.ofNat_lt.mpr (Nat.succ_pos _)
  have hd := draw_ok (n := xs.length) h hl (by omega)
  obtain ⟨⟨q1, q2⟩, hq, k, e1, k0, k1, hg⟩ := wm_out hd
  cases e1
  have hk : k.toNat < xs.length := by omega
  unfold m__law_pick b__law_pick
  simp [enterO, enter, sRet, dBin, dVar, dCallO, dCons, dCall, dNil, bLen, hq, dIx, L2.atI, L2.ixN, k0, k1, hk, finO, hg]

theorem is_integer_ok (d : D) (h : d.ty ≠ none) : m_is_integer [d] = .ok (.bl (isI d)) := by
  cases d <;> first | rfl | exact absurd rfl h
@[simp] theorem is_integer_int (i : Int) : m_is_integer [.int i] = .ok (.bl true) := rfl
theorem between_int (i lo hi : Int) : m_is_between [.int i, .int lo, .int hi] = .ok (.bl (decide (lo ≤ i) && decide (i ≤ hi))) := by
  unfold m_is_between b_is_between
  by_cases h : lo ≤ i
  · simp [enter, sRet, dAndV, dCall, dCons, dNil, dVar, dChain, dLe, dCmpI, h, fin]
  · simp [enter, sRet, dAndV, dCall, dCons, dNil, dVar, dChain, dLe, dCmpI, h, fin]
theorem between_no (d : D) (a b : D) (h : d.ty ≠ none) (h2 : isI d = false) : m_is_between [d, a, b] = .ok (.bl false) := by
  unfold m_is_between b_is_between
  simp only [enter, sRet, dAndV, dCall, dCons, dNil, dVar, List.map_cons, List.map_nil, List.length_cons, List.length_nil, List.cons_append, List.nil_append, List.getElem?_cons_zero, bnd_ok, is_integer_ok d h]
  rw [h2]
  rfl
theorem bw_non (a b : D) : m_is_between [.non, a, b] = .ok (.bl false) := between_no _ _ _ (fun e => by cases e) rfl
theorem bw_bl (x : Bool) (a b : D) : m_is_between [.bl x, a, b] = .ok (.bl false) := between_no _ _ _ (fun e => by cases e) rfl
theorem bw_str (x : Str) (a b : D) : m_is_between [.str x, a, b] = .ok (.bl false) := between_no _ _ _ (fun e => by cases e) rfl
theorem bw_tup (x : List D) (a b : D) : m_is_between [.tup x, a, b] = .ok (.bl false) := between_no _ _ _ (fun e => by cases e) rfl
theorem bw_lst (x : List D) (a b : D) : m_is_between [.lst x, a, b] = .ok (.bl false) := between_no _ _ _ (fun e => by cases e) rfl
theorem heard1 (f : Nat) (mf : List D → M D) (a : D) (ht : tbl f = some (1, mf)) : m__law_heard [.fn f, .lst [a]] = match mf [a] with
    | .ok r => .ok (.lst [r])
    | .error (.raise k p) => wordOf k p
    | .error .stuck => stuck := by
  unfold m__law_heard b__law_heard m__law_called b__law_called
  simp [enter, sHeard, noOwE, sRet, dLst, dCons, dCall, dNil, dVar, bSeq, bNil, sIf, dTb, dBin, bLen, dC, dLt, dCmpI, dIf, dEq_int, dCallV, ht, dIx, L2.atI, L2.ixN]
  cases h : mf [a] with
  | ok r => simp [fin, maxSeq]
  | error x => cases x with
    | stuck => rfl
    | raise k p =>
      simp [fin]
      cases wordOf k p <;> rfl
theorem h1e {f : Nat} {mf : List D → M D} {a p r : D} {k : Nat} (ht : tbl f = some (1, mf)) (h : mf [a] = .error (.raise k p)) (hw : wordOf k p = .ok r) : m__law_heard [.fn f, .lst [a]] = .ok r := by rw [heard1 f mf a ht, h]; exact hw
theorem h1o {f : Nat} {mf : List D → M D} {a r : D} (ht : tbl f = some (1, mf)) (h : mf [a] = .ok r) : m__law_heard [.fn f, .lst [a]] = .ok (.lst [r]) := by rw [heard1 f mf a ht, h]
theorem heard2 (f : Nat) (mf : List D → M D) (a b : D) (ht : tbl f = some (2, mf)) : m__law_heard [.fn f, .lst [a, b]] = match mf [a, b] with
    | .ok r => .ok (.lst [r])
    | .error (.raise k p) => wordOf k p
    | .error .stuck => stuck := by
  unfold m__law_heard b__law_heard m__law_called b__law_called
  simp [enter, sHeard, noOwE, sRet, dLst, dCons, dCall, dNil, dVar, bSeq, bNil, sIf, dTb, dBin, bLen, dC, dLt, dCmpI, dIf, dEq_int, dCallV, ht, dIx, L2.atI, L2.ixN]
  cases h : mf [a, b] with
  | ok r => simp [fin, maxSeq]
  | error x => cases x with
    | stuck => rfl
    | raise k p =>
      simp [fin]
      cases wordOf k p <;> rfl
theorem h2e {f : Nat} {mf : List D → M D} {a b p r : D} {k : Nat} (ht : tbl f = some (2, mf)) (h : mf [a, b] = .error (.raise k p)) (hw : wordOf k p = .ok r) : m__law_heard [.fn f, .lst [a, b]] = .ok r := by rw [heard2 f mf a b ht, h]; exact hw
theorem h2o {f : Nat} {mf : List D → M D} {a b r : D} (ht : tbl f = some (2, mf)) (h : mf [a, b] = .ok r) : m__law_heard [.fn f, .lst [a, b]] = .ok (.lst [r]) := by rw [heard2 f mf a b ht, h]
theorem heard3 (f : Nat) (mf : List D → M D) (a b c : D) (ht : tbl f = some (3, mf)) : m__law_heard [.fn f, .lst [a, b, c]] = match mf [a, b, c] with
    | .ok r => .ok (.lst [r])
    | .error (.raise k p) => wordOf k p
    | .error .stuck => stuck := by
  unfold m__law_heard b__law_heard m__law_called b__law_called
  simp [enter, sHeard, noOwE, sRet, dLst, dCons, dCall, dNil, dVar, bSeq, bNil, sIf, dTb, dBin, bLen, dC, dLt, dCmpI, dIf, dEq_int, dCallV, ht, dIx, L2.atI, L2.ixN]
  cases h : mf [a, b, c] with
  | ok r => simp [fin, maxSeq]
  | error x => cases x with
    | stuck => rfl
    | raise k p =>
      simp [fin]
      cases wordOf k p <;> rfl
theorem h3e {f : Nat} {mf : List D → M D} {a b c p r : D} {k : Nat} (ht : tbl f = some (3, mf)) (h : mf [a, b, c] = .error (.raise k p)) (hw : wordOf k p = .ok r) : m__law_heard [.fn f, .lst [a, b, c]] = .ok r := by rw [heard3 f mf a b c ht, h]; exact hw
theorem h3o {f : Nat} {mf : List D → M D} {a b c r : D} (ht : tbl f = some (3, mf)) (h : mf [a, b, c] = .ok r) : m__law_heard [.fn f, .lst [a, b, c]] = .ok (.lst [r]) := by rw [heard3 f mf a b c ht, h]
end LW
end Dn

/-! PG6 -/
set_option Elab.async false
set_option linter.all false
set_option maxRecDepth 100000
set_option maxHeartbeats 2000000
namespace Dn
namespace LW
open PySem
theorem dTOr_t {t1 t2 : Tv} {env e1 : En} (h : t1 env = .ok (true, e1)) : dTOr t1 t2 env = .ok (true, e1) := by unfold dTOr; rw [h]; rfl
theorem dTOr_f {t1 t2 : Tv} {env e1 : En} (h : t1 env = .ok (false, e1)) : dTOr t1 t2 env = t2 e1 := by unfold dTOr; rw [h]; rfl
theorem dTAnd_t {t1 t2 : Tv} {env e1 : En} (h : t1 env = .ok (true, e1)) : dTAnd t1 t2 env = t2 e1 := by unfold dTAnd; rw [h]; rfl
theorem dTAnd_f {t1 t2 : Tv} {env e1 : En} (h : t1 env = .ok (false, e1)) : dTAnd t1 t2 env = .ok (false, e1) := by unfold dTAnd; rw [h]; rfl
theorem sDrop_ok {m : Ev} {env e1 : En} {d : D} (h : m env = .ok (d, e1)) : sDrop m env = .ok (.nx, e1) := by unfold sDrop; rw [h]; rfl
theorem bSeq_err {s r : Sv} {env : En} {x : Exn} (h : s env = .error x) : bSeq s r env = .error x := by unfold bSeq; rw [h]; rfl
theorem bSeq_rt {s r : Sv} {env e' : En} {d : D} (h : s env = .ok (.rt d, e')) : bSeq s r env = .ok (.rt d, e') := by unfold bSeq; rw [h]; rfl
theorem dCall3 {f : List D → M D} {m1 m2 m3 : Ev} {env e1 e2 e3 : En} {a b c r : D} (h1 : m1 env = .ok (a, e1)) (h2 : m2 e1 = .ok (b, e2)) (h3 : m3 e2 = .ok (c, e3)) (hf : f [a, b, c] = .ok r) : dCall f (dCons m1 (dCons m2 (dCons m3 dNil))) env = .ok (r, e3) :=
  dCallN (dCons_ok h1 (dCons_ok h2 (dCons_ok h3 rfl))) hf
theorem dGt_int (i j : Int) : dGt (.int i) (.int j) = .ok (.bl (decide (j < i))) := rfl
theorem dGe_int (i j : Int) : dGe (.int i) (.int j) = .ok (.bl (decide (j ≤ i))) := rfl
theorem dLt_int (i j : Int) : dLt (.int i) (.int j) = .ok (.bl (decide (i < j))) := rfl
theorem dCallO_ok {f : D → List D → M (D × D)} {i : Nat} {ms : Av} {env e1 : En} {as : List D} {s0 s d s' : D} (h0 : env[i]? = some (.ow s0)) (h1 : ms env = .ok (as, e1)) (h2 : e1[i]? = some (.ow s)) (hf : f s as = .ok (d, s')) : dCallO f i ms env = .ok (d, e1.set i (.ow s')) := by
  unfold dCallO
  rw [h0]
  simp only []
  rw [h1, bnd_ok]
  simp only []
  rw [h2]
  simp only []
  rw [hf, bnd_ok]
theorem dCallO0 {f : D → List D → M (D × D)} {ms : Av} {st s s' d : D} {R : List Sl} {as : List D} (h1 : ms (.ow st :: R) = .ok (as, .ow s :: R)) (hf : f s as = .ok (d, s')) : dCallO f 0 ms (.ow st :: R) = .ok (d, .ow s' :: R) := by
  rw [dCallO_ok (s0 := st) rfl h1 rfl hf]
  rfl
theorem add_lst {xs ys : List D} (h : xs.length + ys.length ≤ 1000) : dAdd (.lst xs) (.lst ys) = .ok (.lst (xs ++ ys)) := by
  simp only [dAdd, le_maxSeq h, if_true]
theorem dTup_ok {ms : Av} {env env' : En} {ds : List D} (h : ms env = .ok (ds, env')) (hl : ds.length ≤ 1000) : dTup ms env = .ok (.tup ds, env') := by
  unfold dTup
  rw [h, bnd_ok]
  simp only [le_maxSeq hl, if_true]
theorem sSet_to {i : Nat} {m : Ev} {env e' e2 : En} {d : D} (h : m env = .ok (d, e')) (k : e'.set (i + 1) (.va d) = e2) : sSet (i + 1) m env = .ok (.nx, e2) := by rw [sSet_ok h, k]
theorem forL_nxi {mt : Gv} {mb : Sv} (I : Nat → En → Prop) : ∀ (ds : List D) (j : Nat) (env : En), (∀ (i : Nat) (d : D), ds[i]? = some d → ∀ e, I (j + i) e → ∃ e1 e2, mt d e = .ok e1 ∧ mb e1 = .ok (.nx, e2) ∧ I (j + i + 1) e2) → I j env → ∃ e', forL mt mb ds env = .ok (.nx, e') ∧ I (j + ds.length) e'
  | [], j, env, _, h => ⟨env, rfl, h⟩
  | d :: r, j, env, hs, h => by
    obtain ⟨e1, e2, q1, q2, q3⟩ := hs 0 d rfl env h
    obtain ⟨e', q4, q5⟩ := forL_nxi I r (j + 1) e2 (fun i d' hd e he => by
      have := hs (i + 1) d' (by simpa using hd) e (by rw [← Nat.add_assoc, Nat.add_right_comm]; exact he)
      rw [← Nat.add_assoc, Nat.add_right_comm j i 1] at this
      exact this) q3
    refine ⟨e', ?_, by rw [List.length_cons, ← Nat.add_assoc, Nat.add_right_comm]; exact q5⟩
    unfold forL
    rw [q1, ns_ok, bnd_ok, q2, bnd_ok]
    exact q4
theorem mulT_rep (x : D) {n : Nat} (h : 2 ≤ n) (h2 : n ≤ 1000) : dMul (.tup [x]) (.int n) = .ok (.tup (List.replicate n x)) := by
  have e : repD n [x] = List.replicate n x := by
    unfold repD
    rw [Int.toNat_natCast]
    clear h h2
    induction n with
    | zero => rfl
    | succ n ih => rw [List.replicate_succ, List.flatten_cons, ih]; rfl
  have h1 : (2 : Int) ≤ n := by omega
  have h3 : (n : Int) ≤ 1000 := by omega
  simp [dMul, e, h1, h3]
theorem rngc {n : Nat} (h : n ≤ 1000) {env : En} : dRng (dCons (dC (.int n)) (dNil)) env = .ok (rngD 0 1 n, env) := dRng_ok (n := n) (dCons_ok rfl rfl) (smallI_of_le (by omega) (by omega))
theorem sDrop_err {m : Ev} {env : En} {x : Exn} (h : m env = .error x) : sDrop m env = .error x := by unfold sDrop; rw [h]; rfl
theorem dCall_err {f : List D → M D} {ms : Av} {env e1 : En} {as : List D} {x : Exn} (h1 : ms env = .ok (as, e1)) (hf : f as = .error x) : dCall f ms env = .error x := by unfold dCall; rw [h1, bnd_ok, hf]; rfl
theorem pick1 {sc st : D} {R : List Sl} {m : Ev} {xs : List D} (g : Good st) (hm : m (.va sc :: .ow st :: R) = .ok (.lst xs, .va sc :: .ow st :: R)) (h0 : xs ≠ []) (h1 : xs.length < 1000000) : ∃ d st', dCallO m__law_pick 1 (dCons m (dNil)) (.va sc :: .ow st :: R) = .ok (d, .va sc :: .ow st' :: R) ∧ d ∈ xs ∧ Good st' := by
  obtain ⟨⟨d, st'⟩, e, hd, g'⟩ := wm_out (pick_ok g h0 h1)
  exact ⟨d, st', dCallO_ok (i := 1) (s0 := st) (e1 := .va sc :: .ow st :: R) rfl (dCons_ok hm rfl) rfl e, hd, g'⟩
theorem call1 {f : D → List D → M (D × D)} {sc st st' d : D} {R : List Sl} (h : f st [] = .ok (d, st')) : dCallO f 1 (dNil) (.va sc :: .ow st :: R) = .ok (d, .va sc :: .ow st' :: R) :=
  dCallO_ok (i := 1) (s0 := st) (e1 := .va sc :: .ow st :: R) rfl rfl rfl h
theorem sSetO_to {i : Nat} {m : Ev} {env e' e2 : En} {d : D} (h : m env = .ok (d, e')) (k : e'.set (i + 1) (.ow d) = e2) : sSetO (i + 1) m env = .ok (.nx, e2) := by
  unfold sSetO
  rw [h, bnd_ok]
  show bnd (put (i + 1) (.ow d) e') _ = _
  rw [put_succ, bnd_ok, k]
theorem meth_app {env : En} {i : Nat} {ms : Av} {ds : List D} {a : D} (h0 : env[i]? = some (.ow (.lst ds))) (h : ms env = .ok ([a], env)) (hl : ds.length < 1000) : sDrop (dMeth fApp i ms) env = .ok (.nx, env.set i (.ow (.lst (ds ++ [a])))) := by
  refine sDrop_ok (d := .non) ?_
  unfold dMeth
  rw [h0]
  simp only []
  rw [h, bnd_ok]
  simp only [h0]
  have : ds.length < maxSeq := Nat.lt_of_lt_of_le hl (le_maxSeq (Nat.le_refl _))
  simp only [fApp, this, if_true, bnd_ok]
theorem ne_non : dNe (.lst [.non]) (.lst [.non]) = .ok (.bl false) := by simp [dNe, D.ok, D.lay, D.lays, D.dep, D.deps, D.eqv, D.eqvs]
theorem w_form : wordOf 2 (.str "form") = .ok (.str "paper form") := rfl
theorem dLe_int (i j : Int) : dLe (.int i) (.int j) = .ok (.bl (decide (i ≤ j))) := rfl
theorem draw1 {sc st : D} {R : List Sl} {m : Ev} {n : Int} (g : Good st) (hm : m (.va sc :: .ow st :: R) = .ok (.int n, .va sc :: .ow st :: R)) (h0 : 0 < n) (h1 : n < 1099511627776) : ∃ k st', dCallO m__law_draw 1 (dCons m (dNil)) (.va sc :: .ow st :: R) = .ok (.int k, .va sc :: .ow st' :: R) ∧ 0 ≤ k ∧ k < n ∧ Good st' := by
  obtain ⟨⟨d, st'⟩, e, k, hd, k0, k1, g'⟩ := wm_out (draw_ok g h0 h1)
  simp only at hd g'
  subst hd
  exact ⟨k, st', dCallO_ok (i := 1) (s0 := st) (e1 := .va sc :: .ow st :: R) rfl (dCons_ok hm rfl) rfl e, k0, k1, g'⟩
theorem btw {i lo hi : Int} (h : lo ≤ i) (h2 : i ≤ hi) : m_is_between [.int i, .int lo, .int hi] = .ok (.bl true) := by
  rw [between_int, decide_eq_true h, decide_eq_true h2]; rfl
theorem sFor_ok {mi : Iv} {mt : Gv} {mb : Sv} {env e1 : En} {ds : List D} {r : M (Fl × En)} (h : mi env = .ok (ds, e1)) (h2 : forL mt mb ds e1 = r) : sFor mi mt mb env = r := by
  unfold sFor
  rw [h, bnd_ok]
  exact h2
theorem forL_cons {mt : Gv} {mb : Sv} {d : D} {ds : List D} {env e1 e2 : En} {r : M (Fl × En)} (h1 : mt d env = .ok e1) (h2 : mb e1 = .ok (.nx, e2)) (h3 : forL mt mb ds e2 = r) : forL mt mb (d :: ds) env = r := by
  unfold forL
  rw [h1, ns_ok, bnd_ok, h2, bnd_ok]
  exact h3
theorem fin_ok {s : Sv} {env e' : En} {d : D} (h : s env = .ok (.rt d, e')) : fin (s env) = .ok d := by rw [h]; rfl
theorem fin_nx {s : Sv} {env e' : En} (h : s env = .ok (.nx, e')) : fin (s env) = .ok .non := by rw [h]; rfl
theorem fin_err {s : Sv} {env : En} {x : Exn} (h : s env = .error x) : fin (s env) = .error x := by rw [h]; rfl
theorem mulOk60 {i j : Int} (h1 : i.natAbs < 2 ^ 600) (h2 : j.natAbs < 2 ^ 600) : mulOk i j = true := mulOk_of h1 h2 (by decide)
end LW
end Dn

/-! P04a -/
set_option Elab.async false
set_option linter.all false
set_option maxRecDepth 100000
set_option maxHeartbeats 2000000
namespace Dn
namespace LW
open PySem
/-! ### k04: trees within others -/
def wr : Nat → D → D
  | 0, t => .tup [.str "row", .tup [t]]
  | 1, t => .tup [.str "all", .tup [t]]
  | 2, t => .tup [.str "one", .tup [t]]
  | _, t => .tup [.str "again", t, .int 1]
theorem q_row_do : dEq (.str "row") (.str "do") = .ok (.bl false) := by kernel_rfl
theorem q_row_again : dEq (.str "row") (.str "again") = .ok (.bl false) := by kernel_rfl
theorem q_row_row : dEq (.str "row") (.str "row") = .ok (.bl true) := by kernel_rfl
theorem q_row_all : dEq (.str "row") (.str "all") = .ok (.bl false) := by kernel_rfl
theorem q_row_one : dEq (.str "row") (.str "one") = .ok (.bl false) := by kernel_rfl
theorem q_all_do : dEq (.str "all") (.str "do") = .ok (.bl false) := by kernel_rfl
theorem q_all_again : dEq (.str "all") (.str "again") = .ok (.bl false) := by kernel_rfl
theorem q_all_row : dEq (.str "all") (.str "row") = .ok (.bl false) := by kernel_rfl
theorem q_all_all : dEq (.str "all") (.str "all") = .ok (.bl true) := by kernel_rfl
theorem q_all_one : dEq (.str "all") (.str "one") = .ok (.bl false) := by kernel_rfl
theorem q_one_do : dEq (.str "one") (.str "do") = .ok (.bl false) := by kernel_rfl
theorem q_one_again : dEq (.str "one") (.str "again") = .ok (.bl false) := by kernel_rfl
theorem q_one_row : dEq (.str "one") (.str "row") = .ok (.bl false) := by kernel_rfl
theorem q_one_all : dEq (.str "one") (.str "all") = .ok (.bl false) := by kernel_rfl
theorem q_one_one : dEq (.str "one") (.str "one") = .ok (.bl true) := by kernel_rfl
theorem q_again_do : dEq (.str "again") (.str "do") = .ok (.bl false) := by kernel_rfl
theorem q_again_again : dEq (.str "again") (.str "again") = .ok (.bl true) := by kernel_rfl
theorem q_again_row : dEq (.str "again") (.str "row") = .ok (.bl false) := by kernel_rfl
theorem q_again_all : dEq (.str "again") (.str "all") = .ok (.bl false) := by kernel_rfl
theorem q_again_one : dEq (.str "again") (.str "one") = .ok (.bl false) := by kernel_rfl
theorem q_do_do : dEq (.str "do") (.str "do") = .ok (.bl true) := by kernel_rfl
theorem q_do_again : dEq (.str "do") (.str "again") = .ok (.bl false) := by kernel_rfl
theorem q_do_row : dEq (.str "do") (.str "row") = .ok (.bl false) := by kernel_rfl
theorem q_do_all : dEq (.str "do") (.str "all") = .ok (.bl false) := by kernel_rfl
theorem q_do_one : dEq (.str "do") (.str "one") = .ok (.bl false) := by kernel_rfl
theorem n_row : dNotIn (.str "row") (.tup [.str "row", .str "all", .str "one"]) = .ok (.bl false) := by kernel_rfl
theorem i_row : dIn (.str "row") (.tup [.str "row", .str "all"]) = .ok (.bl true) := by kernel_rfl
theorem n_all : dNotIn (.str "all") (.tup [.str "row", .str "all", .str "one"]) = .ok (.bl false) := by kernel_rfl
theorem i_all : dIn (.str "all") (.tup [.str "row", .str "all"]) = .ok (.bl true) := by kernel_rfl
theorem n_one : dNotIn (.str "one") (.tup [.str "row", .str "all", .str "one"]) = .ok (.bl false) := by kernel_rfl
theorem i_one : dIn (.str "one") (.tup [.str "row", .str "all"]) = .ok (.bl false) := by kernel_rfl
theorem n_again : dNotIn (.str "again") (.tup [.str "row", .str "all", .str "one"]) = .ok (.bl true) := by kernel_rfl
theorem i_again : dIn (.str "again") (.tup [.str "row", .str "all"]) = .ok (.bl false) := by kernel_rfl
theorem it_row (R : List D → M D) (t : D) (b : Bool) (k : Nat) (h : R [t, .int k] = .ok (.bl b)) : fin (b_is_tree R (enter 3 [wr 0 t, .int ((k + 1 : Nat) : Int)])) = .ok (.bl b) := by
  have e : ¬ ((k : Int) + 1 = 0) := by omega
  have e2 : ((k : Int) + 1) - 1 = k := by omega
  unfold b_is_tree wr
  simp [enter, bSeq, bNil, sIf, dTOr, dTNot, dTr, dTb, dIsi, dVar, D.ty, isTy, truth, dBin, dNe_int, dEq_int, dCall, dCons, dNil, bLen, dC, dIx, L2.atI, L2.ixN, sRaise, fin, sDrop, between_int, dAndV, dLc, dItems, lcL, gSet, put, noOw, wipeE, resE, bAll, bools, dChain, dLe, dCmpI, sRet, dYes, Dn.ns, isOw, dSub, dIntOp, mxs, e, e2, h, q_row_do, q_row_again, q_row_row, q_row_all, q_row_one, q_all_do, q_all_again, q_all_row, q_all_all, q_all_one, q_one_do, q_one_again, q_one_row, q_one_all, q_one_one, q_again_do, q_again_again, q_again_row, q_again_all, q_again_one, q_do_do, q_do_again, q_do_row, q_do_all, q_do_one, n_row, i_row, n_all, i_all, n_one, i_one, n_again, i_again]
theorem it_all (R : List D → M D) (t : D) (b : Bool) (k : Nat) (h : R [t, .int k] = .ok (.bl b)) : fin (b_is_tree R (enter 3 [wr 1 t, .int ((k + 1 : Nat) : Int)])) = .ok (.bl b) := by
  have e : ¬ ((k : Int) + 1 = 0) := by omega
  have e2 : ((k : Int) + 1) - 1 = k := by omega
  unfold b_is_tree wr
  simp [enter, bSeq, bNil, sIf, dTOr, dTNot, dTr, dTb, dIsi, dVar, D.ty, isTy, truth, dBin, dNe_int, dEq_int, dCall, dCons, dNil, bLen, dC, dIx, L2.atI, L2.ixN, sRaise, fin, sDrop, between_int, dAndV, dLc, dItems, lcL, gSet, put, noOw, wipeE, resE, bAll, bools, dChain, dLe, dCmpI, sRet, dYes, Dn.ns, isOw, dSub, dIntOp, mxs, e, e2, h, q_row_do, q_row_again, q_row_row, q_row_all, q_row_one, q_all_do, q_all_again, q_all_row, q_all_all, q_all_one, q_one_do, q_one_again, q_one_row, q_one_all, q_one_one, q_again_do, q_again_again, q_again_row, q_again_all, q_again_one, q_do_do, q_do_again, q_do_row, q_do_all, q_do_one, n_row, i_row, n_all, i_all, n_one, i_one, n_again, i_again]
theorem it_one (R : List D → M D) (t : D) (b : Bool) (k : Nat) (h : R [t, .int k] = .ok (.bl b)) : fin (b_is_tree R (enter 3 [wr 2 t, .int ((k + 1 : Nat) : Int)])) = .ok (.bl b) := by
  have e : ¬ ((k : Int) + 1 = 0) := by omega
  have e2 : ((k : Int) + 1) - 1 = k := by omega
  unfold b_is_tree wr
  simp [enter, bSeq, bNil, sIf, dTOr, dTNot, dTr, dTb, dIsi, dVar, D.ty, isTy, truth, dBin, dNe_int, dEq_int, dCall, dCons, dNil, bLen, dC, dIx, L2.atI, L2.ixN, sRaise, fin, sDrop, between_int, dAndV, dLc, dItems, lcL, gSet, put, noOw, wipeE, resE, bAll, bools, dChain, dLe, dCmpI, sRet, dYes, Dn.ns, isOw, dSub, dIntOp, mxs, e, e2, h, q_row_do, q_row_again, q_row_row, q_row_all, q_row_one, q_all_do, q_all_again, q_all_row, q_all_all, q_all_one, q_one_do, q_one_again, q_one_row, q_one_all, q_one_one, q_again_do, q_again_again, q_again_row, q_again_all, q_again_one, q_do_do, q_do_again, q_do_row, q_do_all, q_do_one, n_row, i_row, n_all, i_all, n_one, i_one, n_again, i_again]
theorem it_again (R : List D → M D) (t : D) (b : Bool) (k : Nat) (h : R [t, .int k] = .ok (.bl b)) : fin (b_is_tree R (enter 3 [wr 3 t, .int ((k + 1 : Nat) : Int)])) = .ok (.bl b) := by
  have e : ¬ ((k : Int) + 1 = 0) := by omega
  have e2 : ((k : Int) + 1) - 1 = k := by omega
  unfold b_is_tree wr
  simp [enter, bSeq, bNil, sIf, dTOr, dTNot, dTr, dTb, dIsi, dVar, D.ty, isTy, truth, dBin, dNe_int, dEq_int, dCall, dCons, dNil, bLen, dC, dIx, L2.atI, L2.ixN, sRaise, fin, sDrop, between_int, dAndV, dLc, dItems, lcL, gSet, put, noOw, wipeE, resE, bAll, bools, dChain, dLe, dCmpI, sRet, dYes, Dn.ns, isOw, dSub, dIntOp, mxs, e, e2, h, q_row_do, q_row_again, q_row_row, q_row_all, q_row_one, q_all_do, q_all_again, q_all_row, q_all_all, q_all_one, q_one_do, q_one_again, q_one_row, q_one_all, q_one_one, q_again_do, q_again_again, q_again_row, q_again_all, q_again_one, q_do_do, q_do_again, q_do_row, q_do_all, q_do_one, n_row, i_row, n_all, i_all, n_one, i_one, n_again, i_again]
theorem ad_one {x : Str} : D.eqv (.str x) (.str x) = true := beq_self_eq_true x
theorem names_in_row (R : List D → M D) (t x : D) (h : R [t] = .ok (.lst [x])) : fin (b_names_in R (enter 3 [wr 0 t])) = .ok (.lst [x]) := by
  unfold b_names_in wr
  simp [enter, bSeq, bNil, sIf, dTOr, dTNot, dTr, dTb, dIsi, dVar, D.ty, isTy, truth, dBin, dNe_int, dEq_int, dCall, dCons, dNil, bLen, dC, dIx, L2.atI, L2.ixN, sRaise, fin, sDrop, between_int, dAndV, dLc, dItems, lcL, gSet, put, noOw, wipeE, resE, bAll, bools, dChain, dLe, dCmpI, sRet, dYes, Dn.ns, isOw, dSub, dIntOp, mxs, sSet, sSetO, sFor, forL, dLst, dMeth, fExt, sRetO, dVarO, dIf, bList, dTup, bTuple, dRev, bMax, bMin, bSum, leastOf, mostOf, intsOf, dMul, dIn, putD, repD, maxSeq, sForK, dGetO, dIxK, sSubK, h, q_row_do, q_row_again, q_row_row, q_row_all, q_row_one, q_all_do, q_all_again, q_all_row, q_all_all, q_all_one, q_one_do, q_one_again, q_one_row, q_one_all, q_one_one, q_again_do, q_again_again, q_again_row, q_again_all, q_again_one, q_do_do, q_do_again, q_do_row, q_do_all, q_do_one, n_row, i_row, n_all, i_all, n_one, i_one, n_again, i_again]
theorem names_in_all (R : List D → M D) (t x : D) (h : R [t] = .ok (.lst [x])) : fin (b_names_in R (enter 3 [wr 1 t])) = .ok (.lst [x]) := by
  unfold b_names_in wr
  simp [enter, bSeq, bNil, sIf, dTOr, dTNot, dTr, dTb, dIsi, dVar, D.ty, isTy, truth, dBin, dNe_int, dEq_int, dCall, dCons, dNil, bLen, dC, dIx, L2.atI, L2.ixN, sRaise, fin, sDrop, between_int, dAndV, dLc, dItems, lcL, gSet, put, noOw, wipeE, resE, bAll, bools, dChain, dLe, dCmpI, sRet, dYes, Dn.ns, isOw, dSub, dIntOp, mxs, sSet, sSetO, sFor, forL, dLst, dMeth, fExt, sRetO, dVarO, dIf, bList, dTup, bTuple, dRev, bMax, bMin, bSum, leastOf, mostOf, intsOf, dMul, dIn, putD, repD, maxSeq, sForK, dGetO, dIxK, sSubK, h, q_row_do, q_row_again, q_row_row, q_row_all, q_row_one, q_all_do, q_all_again, q_all_row, q_all_all, q_all_one, q_one_do, q_one_again, q_one_row, q_one_all, q_one_one, q_again_do, q_again_again, q_again_row, q_again_all, q_again_one, q_do_do, q_do_again, q_do_row, q_do_all, q_do_one, n_row, i_row, n_all, i_all, n_one, i_one, n_again, i_again]
theorem names_in_one (R : List D → M D) (t x : D) (h : R [t] = .ok (.lst [x])) : fin (b_names_in R (enter 3 [wr 2 t])) = .ok (.lst [x]) := by
  unfold b_names_in wr
  simp [enter, bSeq, bNil, sIf, dTOr, dTNot, dTr, dTb, dIsi, dVar, D.ty, isTy, truth, dBin, dNe_int, dEq_int, dCall, dCons, dNil, bLen, dC, dIx, L2.atI, L2.ixN, sRaise, fin, sDrop, between_int, dAndV, dLc, dItems, lcL, gSet, put, noOw, wipeE, resE, bAll, bools, dChain, dLe, dCmpI, sRet, dYes, Dn.ns, isOw, dSub, dIntOp, mxs, sSet, sSetO, sFor, forL, dLst, dMeth, fExt, sRetO, dVarO, dIf, bList, dTup, bTuple, dRev, bMax, bMin, bSum, leastOf, mostOf, intsOf, dMul, dIn, putD, repD, maxSeq, sForK, dGetO, dIxK, sSubK, h, q_row_do, q_row_again, q_row_row, q_row_all, q_row_one, q_all_do, q_all_again, q_all_row, q_all_all, q_all_one, q_one_do, q_one_again, q_one_row, q_one_all, q_one_one, q_again_do, q_again_again, q_again_row, q_again_all, q_again_one, q_do_do, q_do_again, q_do_row, q_do_all, q_do_one, n_row, i_row, n_all, i_all, n_one, i_one, n_again, i_again]
theorem names_in_again (R : List D → M D) (t x : D) (h : R [t] = .ok (.lst [x])) : fin (b_names_in R (enter 3 [wr 3 t])) = .ok (.lst [x]) := by
  unfold b_names_in wr
  simp [enter, bSeq, bNil, sIf, dTOr, dTNot, dTr, dTb, dIsi, dVar, D.ty, isTy, truth, dBin, dNe_int, dEq_int, dCall, dCons, dNil, bLen, dC, dIx, L2.atI, L2.ixN, sRaise, fin, sDrop, between_int, dAndV, dLc, dItems, lcL, gSet, put, noOw, wipeE, resE, bAll, bools, dChain, dLe, dCmpI, sRet, dYes, Dn.ns, isOw, dSub, dIntOp, mxs, sSet, sSetO, sFor, forL, dLst, dMeth, fExt, sRetO, dVarO, dIf, bList, dTup, bTuple, dRev, bMax, bMin, bSum, leastOf, mostOf, intsOf, dMul, dIn, putD, repD, maxSeq, sForK, dGetO, dIxK, sSubK, h, q_row_do, q_row_again, q_row_row, q_row_all, q_row_one, q_all_do, q_all_again, q_all_row, q_all_all, q_all_one, q_one_do, q_one_again, q_one_row, q_one_all, q_one_one, q_again_do, q_again_again, q_again_row, q_again_all, q_again_one, q_do_do, q_do_again, q_do_row, q_do_all, q_do_one, n_row, i_row, n_all, i_all, n_one, i_one, n_again, i_again]
theorem mu1 : mulOk 1 1 = true := by decide +kernel
theorem length_of_row_true (R : List D → M D) (t : D) (h : R [t, .bl true] = .ok (.int 1)) : fin (b_length_of R (enter 4 [wr 0 t, .bl true])) = .ok (.int 1) := by
  unfold b_length_of wr
  simp [enter, bSeq, bNil, sIf, dTOr, dTNot, dTr, dTb, dIsi, dVar, D.ty, isTy, truth, dBin, dNe_int, dEq_int, dCall, dCons, dNil, bLen, dC, dIx, L2.atI, L2.ixN, sRaise, fin, sDrop, between_int, dAndV, dLc, dItems, lcL, gSet, put, noOw, wipeE, resE, bAll, bools, dChain, dLe, dCmpI, sRet, dYes, Dn.ns, isOw, dSub, dIntOp, mxs, sSet, sSetO, sFor, forL, dLst, dMeth, fExt, sRetO, dVarO, dIf, bList, dTup, bTuple, dRev, bMax, bMin, bSum, leastOf, mostOf, intsOf, dMul, dIn, putD, repD, maxSeq, sForK, dGetO, dIxK, sSubK, h, mu1, q_row_do, q_row_again, q_row_row, q_row_all, q_row_one, q_all_do, q_all_again, q_all_row, q_all_all, q_all_one, q_one_do, q_one_again, q_one_row, q_one_all, q_one_one, q_again_do, q_again_again, q_again_row, q_again_all, q_again_one, q_do_do, q_do_again, q_do_row, q_do_all, q_do_one, n_row, i_row, n_all, i_all, n_one, i_one, n_again, i_again]
theorem length_of_all_true (R : List D → M D) (t : D) (h : R [t, .bl true] = .ok (.int 1)) : fin (b_length_of R (enter 4 [wr 1 t, .bl true])) = .ok (.int 1) := by
  unfold b_length_of wr
  simp [enter, bSeq, bNil, sIf, dTOr, dTNot, dTr, dTb, dIsi, dVar, D.ty, isTy, truth, dBin, dNe_int, dEq_int, dCall, dCons, dNil, bLen, dC, dIx, L2.atI, L2.ixN, sRaise, fin, sDrop, between_int, dAndV, dLc, dItems, lcL, gSet, put, noOw, wipeE, resE, bAll, bools, dChain, dLe, dCmpI, sRet, dYes, Dn.ns, isOw, dSub, dIntOp, mxs, sSet, sSetO, sFor, forL, dLst, dMeth, fExt, sRetO, dVarO, dIf, bList, dTup, bTuple, dRev, bMax, bMin, bSum, leastOf, mostOf, intsOf, dMul, dIn, putD, repD, maxSeq, sForK, dGetO, dIxK, sSubK, h, mu1, q_row_do, q_row_again, q_row_row, q_row_all, q_row_one, q_all_do, q_all_again, q_all_row, q_all_all, q_all_one, q_one_do, q_one_again, q_one_row, q_one_all, q_one_one, q_again_do, q_again_again, q_again_row, q_again_all, q_again_one, q_do_do, q_do_again, q_do_row, q_do_all, q_do_one, n_row, i_row, n_all, i_all, n_one, i_one, n_again, i_again]
theorem length_of_one_true (R : List D → M D) (t : D) (h : R [t, .bl true] = .ok (.int 1)) : fin (b_length_of R (enter 4 [wr 2 t, .bl true])) = .ok (.int 1) := by
  unfold b_length_of wr
  simp [enter, bSeq, bNil, sIf, dTOr, dTNot, dTr, dTb, dIsi, dVar, D.ty, isTy, truth, dBin, dNe_int, dEq_int, dCall, dCons, dNil, bLen, dC, dIx, L2.atI, L2.ixN, sRaise, fin, sDrop, between_int, dAndV, dLc, dItems, lcL, gSet, put, noOw, wipeE, resE, bAll, bools, dChain, dLe, dCmpI, sRet, dYes, Dn.ns, isOw, dSub, dIntOp, mxs, sSet, sSetO, sFor, forL, dLst, dMeth, fExt, sRetO, dVarO, dIf, bList, dTup, bTuple, dRev, bMax, bMin, bSum, leastOf, mostOf, intsOf, dMul, dIn, putD, repD, maxSeq, sForK, dGetO, dIxK, sSubK, h, mu1, q_row_do, q_row_again, q_row_row, q_row_all, q_row_one, q_all_do, q_all_again, q_all_row, q_all_all, q_all_one, q_one_do, q_one_again, q_one_row, q_one_all, q_one_one, q_again_do, q_again_again, q_again_row, q_again_all, q_again_one, q_do_do, q_do_again, q_do_row, q_do_all, q_do_one, n_row, i_row, n_all, i_all, n_one, i_one, n_again, i_again]
theorem length_of_again_true (R : List D → M D) (t : D) (h : R [t, .bl true] = .ok (.int 1)) : fin (b_length_of R (enter 4 [wr 3 t, .bl true])) = .ok (.int 1) := by
  unfold b_length_of wr
  simp [enter, bSeq, bNil, sIf, dTOr, dTNot, dTr, dTb, dIsi, dVar, D.ty, isTy, truth, dBin, dNe_int, dEq_int, dCall, dCons, dNil, bLen, dC, dIx, L2.atI, L2.ixN, sRaise, fin, sDrop, between_int, dAndV, dLc, dItems, lcL, gSet, put, noOw, wipeE, resE, bAll, bools, dChain, dLe, dCmpI, sRet, dYes, Dn.ns, isOw, dSub, dIntOp, mxs, sSet, sSetO, sFor, forL, dLst, dMeth, fExt, sRetO, dVarO, dIf, bList, dTup, bTuple, dRev, bMax, bMin, bSum, leastOf, mostOf, intsOf, dMul, dIn, putD, repD, maxSeq, sForK, dGetO, dIxK, sSubK, h, mu1, q_row_do, q_row_again, q_row_row, q_row_all, q_row_one, q_all_do, q_all_again, q_all_row, q_all_all, q_all_one, q_one_do, q_one_again, q_one_row, q_one_all, q_one_one, q_again_do, q_again_again, q_again_row, q_again_all, q_again_one, q_do_do, q_do_again, q_do_row, q_do_all, q_do_one, n_row, i_row, n_all, i_all, n_one, i_one, n_again, i_again]
theorem length_of_row_false (R : List D → M D) (t : D) (h : R [t, .bl false] = .ok (.int 1)) : fin (b_length_of R (enter 4 [wr 0 t, .bl false])) = .ok (.int 1) := by
  unfold b_length_of wr
  simp [enter, bSeq, bNil, sIf, dTOr, dTNot, dTr, dTb, dIsi, dVar, D.ty, isTy, truth, dBin, dNe_int, dEq_int, dCall, dCons, dNil, bLen, dC, dIx, L2.atI, L2.ixN, sRaise, fin, sDrop, between_int, dAndV, dLc, dItems, lcL, gSet, put, noOw, wipeE, resE, bAll, bools, dChain, dLe, dCmpI, sRet, dYes, Dn.ns, isOw, dSub, dIntOp, mxs, sSet, sSetO, sFor, forL, dLst, dMeth, fExt, sRetO, dVarO, dIf, bList, dTup, bTuple, dRev, bMax, bMin, bSum, leastOf, mostOf, intsOf, dMul, dIn, putD, repD, maxSeq, sForK, dGetO, dIxK, sSubK, h, mu1, q_row_do, q_row_again, q_row_row, q_row_all, q_row_one, q_all_do, q_all_again, q_all_row, q_all_all, q_all_one, q_one_do, q_one_again, q_one_row, q_one_all, q_one_one, q_again_do, q_again_again, q_again_row, q_again_all, q_again_one, q_do_do, q_do_again, q_do_row, q_do_all, q_do_one, n_row, i_row, n_all, i_all, n_one, i_one, n_again, i_again]
theorem length_of_all_false (R : List D → M D) (t : D) (h : R [t, .bl false] = .ok (.int 1)) : fin (b_length_of R (enter 4 [wr 1 t, .bl false])) = .ok (.int 1) := by
  unfold b_length_of wr
  simp [enter, bSeq, bNil, sIf, dTOr, dTNot, dTr, dTb, dIsi, dVar, D.ty, isTy, truth, dBin, dNe_int, dEq_int, dCall, dCons, dNil, bLen, dC, dIx, L2.atI, L2.ixN, sRaise, fin, sDrop, between_int, dAndV, dLc, dItems, lcL, gSet, put, noOw, wipeE, resE, bAll, bools, dChain, dLe, dCmpI, sRet, dYes, Dn.ns, isOw, dSub, dIntOp, mxs, sSet, sSetO, sFor, forL, dLst, dMeth, fExt, sRetO, dVarO, dIf, bList, dTup, bTuple, dRev, bMax, bMin, bSum, leastOf, mostOf, intsOf, dMul, dIn, putD, repD, maxSeq, sForK, dGetO, dIxK, sSubK, h, mu1, q_row_do, q_row_again, q_row_row, q_row_all, q_row_one, q_all_do, q_all_again, q_all_row, q_all_all, q_all_one, q_one_do, q_one_again, q_one_row, q_one_all, q_one_one, q_again_do, q_again_again, q_again_row, q_again_all, q_again_one, q_do_do, q_do_again, q_do_row, q_do_all, q_do_one, n_row, i_row, n_all, i_all, n_one, i_one, n_again, i_again]
theorem length_of_one_false (R : List D → M D) (t : D) (h : R [t, .bl false] = .ok (.int 1)) : fin (b_length_of R (enter 4 [wr 2 t, .bl false])) = .ok (.int 1) := by
  unfold b_length_of wr
  simp [enter, bSeq, bNil, sIf, dTOr, dTNot, dTr, dTb, dIsi, dVar, D.ty, isTy, truth, dBin, dNe_int, dEq_int, dCall, dCons, dNil, bLen, dC, dIx, L2.atI, L2.ixN, sRaise, fin, sDrop, between_int, dAndV, dLc, dItems, lcL, gSet, put, noOw, wipeE, resE, bAll, bools, dChain, dLe, dCmpI, sRet, dYes, Dn.ns, isOw, dSub, dIntOp, mxs, sSet, sSetO, sFor, forL, dLst, dMeth, fExt, sRetO, dVarO, dIf, bList, dTup, bTuple, dRev, bMax, bMin, bSum, leastOf, mostOf, intsOf, dMul, dIn, putD, repD, maxSeq, sForK, dGetO, dIxK, sSubK, h, mu1, q_row_do, q_row_again, q_row_row, q_row_all, q_row_one, q_all_do, q_all_again, q_all_row, q_all_all, q_all_one, q_one_do, q_one_again, q_one_row, q_one_all, q_one_one, q_again_do, q_again_again, q_again_row, q_again_all, q_again_one, q_do_do, q_do_again, q_do_row, q_do_all, q_do_one, n_row, i_row, n_all, i_all, n_one, i_one, n_again, i_again]
theorem length_of_again_false (R : List D → M D) (t : D) (h : R [t, .bl false] = .ok (.int 1)) : fin (b_length_of R (enter 4 [wr 3 t, .bl false])) = .ok (.int 1) := by
  unfold b_length_of wr
  simp [enter, bSeq, bNil, sIf, dTOr, dTNot, dTr, dTb, dIsi, dVar, D.ty, isTy, truth, dBin, dNe_int, dEq_int, dCall, dCons, dNil, bLen, dC, dIx, L2.atI, L2.ixN, sRaise, fin, sDrop, between_int, dAndV, dLc, dItems, lcL, gSet, put, noOw, wipeE, resE, bAll, bools, dChain, dLe, dCmpI, sRet, dYes, Dn.ns, isOw, dSub, dIntOp, mxs, sSet, sSetO, sFor, forL, dLst, dMeth, fExt, sRetO, dVarO, dIf, bList, dTup, bTuple, dRev, bMax, bMin, bSum, leastOf, mostOf, intsOf, dMul, dIn, putD, repD, maxSeq, sForK, dGetO, dIxK, sSubK, h, mu1, q_row_do, q_row_again, q_row_row, q_row_all, q_row_one, q_all_do, q_all_again, q_all_row, q_all_all, q_all_one, q_one_do, q_one_again, q_one_row, q_one_all, q_one_one, q_again_do, q_again_again, q_again_row, q_again_all, q_again_one, q_do_do, q_do_again, q_do_row, q_do_all, q_do_one, n_row, i_row, n_all, i_all, n_one, i_one, n_again, i_again]
theorem needed_in_row (R : List D → M D) (t x : D) (h : R [t] = .ok (.lst [x])) : fin (b_needed_in R (enter 5 [wr 0 t])) = .ok (.lst [x]) := by
  unfold b_needed_in wr
  simp [enter, bSeq, bNil, sIf, dTOr, dTNot, dTr, dTb, dIsi, dVar, D.ty, isTy, truth, dBin, dNe_int, dEq_int, dCall, dCons, dNil, bLen, dC, dIx, L2.atI, L2.ixN, sRaise, fin, sDrop, between_int, dAndV, dLc, dItems, lcL, gSet, put, noOw, wipeE, resE, bAll, bools, dChain, dLe, dCmpI, sRet, dYes, Dn.ns, isOw, dSub, dIntOp, mxs, sSet, sSetO, sFor, forL, dLst, dMeth, fExt, sRetO, dVarO, dIf, bList, dTup, bTuple, dRev, bMax, bMin, bSum, leastOf, mostOf, intsOf, dMul, dIn, putD, repD, maxSeq, sForK, dGetO, dIxK, sSubK, h, q_row_do, q_row_again, q_row_row, q_row_all, q_row_one, q_all_do, q_all_again, q_all_row, q_all_all, q_all_one, q_one_do, q_one_again, q_one_row, q_one_all, q_one_one, q_again_do, q_again_again, q_again_row, q_again_all, q_again_one, q_do_do, q_do_again, q_do_row, q_do_all, q_do_one, n_row, i_row, n_all, i_all, n_one, i_one, n_again, i_again]
theorem needed_in_all (R : List D → M D) (t x : D) (h : R [t] = .ok (.lst [x])) : fin (b_needed_in R (enter 5 [wr 1 t])) = .ok (.lst [x]) := by
  unfold b_needed_in wr
  simp [enter, bSeq, bNil, sIf, dTOr, dTNot, dTr, dTb, dIsi, dVar, D.ty, isTy, truth, dBin, dNe_int, dEq_int, dCall, dCons, dNil, bLen, dC, dIx, L2.atI, L2.ixN, sRaise, fin, sDrop, between_int, dAndV, dLc, dItems, lcL, gSet, put, noOw, wipeE, resE, bAll, bools, dChain, dLe, dCmpI, sRet, dYes, Dn.ns, isOw, dSub, dIntOp, mxs, sSet, sSetO, sFor, forL, dLst, dMeth, fExt, sRetO, dVarO, dIf, bList, dTup, bTuple, dRev, bMax, bMin, bSum, leastOf, mostOf, intsOf, dMul, dIn, putD, repD, maxSeq, sForK, dGetO, dIxK, sSubK, h, q_row_do, q_row_again, q_row_row, q_row_all, q_row_one, q_all_do, q_all_again, q_all_row, q_all_all, q_all_one, q_one_do, q_one_again, q_one_row, q_one_all, q_one_one, q_again_do, q_again_again, q_again_row, q_again_all, q_again_one, q_do_do, q_do_again, q_do_row, q_do_all, q_do_one, n_row, i_row, n_all, i_all, n_one, i_one, n_again, i_again]
theorem needed_in_one (R : List D → M D) (t x : D) (h : R [t] = .ok (.lst [x])) : fin (b_needed_in R (enter 5 [wr 2 t])) = .ok (.lst [x]) := by
  unfold b_needed_in wr
  simp [enter, bSeq, bNil, sIf, dTOr, dTNot, dTr, dTb, dIsi, dVar, D.ty, isTy, truth, dBin, dNe_int, dEq_int, dCall, dCons, dNil, bLen, dC, dIx, L2.atI, L2.ixN, sRaise, fin, sDrop, between_int, dAndV, dLc, dItems, lcL, gSet, put, noOw, wipeE, resE, bAll, bools, dChain, dLe, dCmpI, sRet, dYes, Dn.ns, isOw, dSub, dIntOp, mxs, sSet, sSetO, sFor, forL, dLst, dMeth, fExt, sRetO, dVarO, dIf, bList, dTup, bTuple, dRev, bMax, bMin, bSum, leastOf, mostOf, intsOf, dMul, dIn, putD, repD, maxSeq, sForK, dGetO, dIxK, sSubK, h, q_row_do, q_row_again, q_row_row, q_row_all, q_row_one, q_all_do, q_all_again, q_all_row, q_all_all, q_all_one, q_one_do, q_one_again, q_one_row, q_one_all, q_one_one, q_again_do, q_again_again, q_again_row, q_again_all, q_again_one, q_do_do, q_do_again, q_do_row, q_do_all, q_do_one, n_row, i_row, n_all, i_all, n_one, i_one, n_again, i_again]
theorem needed_in_again (R : List D → M D) (t x : D) (h : R [t] = .ok (.lst [x])) : fin (b_needed_in R (enter 5 [wr 3 t])) = .ok (.lst [x]) := by
  unfold b_needed_in wr
  simp [enter, bSeq, bNil, sIf, dTOr, dTNot, dTr, dTb, dIsi, dVar, D.ty, isTy, truth, dBin, dNe_int, dEq_int, dCall, dCons, dNil, bLen, dC, dIx, L2.atI, L2.ixN, sRaise, fin, sDrop, between_int, dAndV, dLc, dItems, lcL, gSet, put, noOw, wipeE, resE, bAll, bools, dChain, dLe, dCmpI, sRet, dYes, Dn.ns, isOw, dSub, dIntOp, mxs, sSet, sSetO, sFor, forL, dLst, dMeth, fExt, sRetO, dVarO, dIf, bList, dTup, bTuple, dRev, bMax, bMin, bSum, leastOf, mostOf, intsOf, dMul, dIn, putD, repD, maxSeq, sForK, dGetO, dIxK, sSubK, h, q_row_do, q_row_again, q_row_row, q_row_all, q_row_one, q_all_do, q_all_again, q_all_row, q_all_all, q_all_one, q_one_do, q_one_again, q_one_row, q_one_all, q_one_one, q_again_do, q_again_again, q_again_row, q_again_all, q_again_one, q_do_do, q_do_again, q_do_row, q_do_all, q_do_one, n_row, i_row, n_all, i_all, n_one, i_one, n_again, i_again]
theorem turned_of_row (R : List D → M D) (t t2 x : D) (h : R [t] = .ok t2) : fin (b_turned_of R (enter 3 [wr 0 t])) = .ok (wr 0 t2) := by
  unfold b_turned_of wr
  simp [enter, bSeq, bNil, sIf, dTOr, dTNot, dTr, dTb, dIsi, dVar, D.ty, isTy, truth, dBin, dNe_int, dEq_int, dCall, dCons, dNil, bLen, dC, dIx, L2.atI, L2.ixN, sRaise, fin, sDrop, between_int, dAndV, dLc, dItems, lcL, gSet, put, noOw, wipeE, resE, bAll, bools, dChain, dLe, dCmpI, sRet, dYes, Dn.ns, isOw, dSub, dIntOp, mxs, sSet, sSetO, sFor, forL, dLst, dMeth, fExt, sRetO, dVarO, dIf, bList, dTup, bTuple, dRev, bMax, bMin, bSum, leastOf, mostOf, intsOf, dMul, dIn, putD, repD, maxSeq, sForK, dGetO, dIxK, sSubK, h, q_row_do, q_row_again, q_row_row, q_row_all, q_row_one, q_all_do, q_all_again, q_all_row, q_all_all, q_all_one, q_one_do, q_one_again, q_one_row, q_one_all, q_one_one, q_again_do, q_again_again, q_again_row, q_again_all, q_again_one, q_do_do, q_do_again, q_do_row, q_do_all, q_do_one, n_row, i_row, n_all, i_all, n_one, i_one, n_again, i_again]
theorem turned_of_all (R : List D → M D) (t t2 x : D) (h : R [t] = .ok t2) : fin (b_turned_of R (enter 3 [wr 1 t])) = .ok (wr 1 t2) := by
  unfold b_turned_of wr
  simp [enter, bSeq, bNil, sIf, dTOr, dTNot, dTr, dTb, dIsi, dVar, D.ty, isTy, truth, dBin, dNe_int, dEq_int, dCall, dCons, dNil, bLen, dC, dIx, L2.atI, L2.ixN, sRaise, fin, sDrop, between_int, dAndV, dLc, dItems, lcL, gSet, put, noOw, wipeE, resE, bAll, bools, dChain, dLe, dCmpI, sRet, dYes, Dn.ns, isOw, dSub, dIntOp, mxs, sSet, sSetO, sFor, forL, dLst, dMeth, fExt, sRetO, dVarO, dIf, bList, dTup, bTuple, dRev, bMax, bMin, bSum, leastOf, mostOf, intsOf, dMul, dIn, putD, repD, maxSeq, sForK, dGetO, dIxK, sSubK, h, q_row_do, q_row_again, q_row_row, q_row_all, q_row_one, q_all_do, q_all_again, q_all_row, q_all_all, q_all_one, q_one_do, q_one_again, q_one_row, q_one_all, q_one_one, q_again_do, q_again_again, q_again_row, q_again_all, q_again_one, q_do_do, q_do_again, q_do_row, q_do_all, q_do_one, n_row, i_row, n_all, i_all, n_one, i_one, n_again, i_again]
theorem turned_of_one (R : List D → M D) (t t2 x : D) (h : R [t] = .ok t2) : fin (b_turned_of R (enter 3 [wr 2 t])) = .ok (wr 2 t2) := by
  unfold b_turned_of wr
  simp [enter, bSeq, bNil, sIf, dTOr, dTNot, dTr, dTb, dIsi, dVar, D.ty, isTy, truth, dBin, dNe_int, dEq_int, dCall, dCons, dNil, bLen, dC, dIx, L2.atI, L2.ixN, sRaise, fin, sDrop, between_int, dAndV, dLc, dItems, lcL, gSet, put, noOw, wipeE, resE, bAll, bools, dChain, dLe, dCmpI, sRet, dYes, Dn.ns, isOw, dSub, dIntOp, mxs, sSet, sSetO, sFor, forL, dLst, dMeth, fExt, sRetO, dVarO, dIf, bList, dTup, bTuple, dRev, bMax, bMin, bSum, leastOf, mostOf, intsOf, dMul, dIn, putD, repD, maxSeq, sForK, dGetO, dIxK, sSubK, h, q_row_do, q_row_again, q_row_row, q_row_all, q_row_one, q_all_do, q_all_again, q_all_row, q_all_all, q_all_one, q_one_do, q_one_again, q_one_row, q_one_all, q_one_one, q_again_do, q_again_again, q_again_row, q_again_all, q_again_one, q_do_do, q_do_again, q_do_row, q_do_all, q_do_one, n_row, i_row, n_all, i_all, n_one, i_one, n_again, i_again]
theorem turned_of_again (R : List D → M D) (t t2 x : D) (h : R [t] = .ok t2) : fin (b_turned_of R (enter 3 [wr 3 t])) = .ok (wr 3 t2) := by
  unfold b_turned_of wr
  simp [enter, bSeq, bNil, sIf, dTOr, dTNot, dTr, dTb, dIsi, dVar, D.ty, isTy, truth, dBin, dNe_int, dEq_int, dCall, dCons, dNil, bLen, dC, dIx, L2.atI, L2.ixN, sRaise, fin, sDrop, between_int, dAndV, dLc, dItems, lcL, gSet, put, noOw, wipeE, resE, bAll, bools, dChain, dLe, dCmpI, sRet, dYes, Dn.ns, isOw, dSub, dIntOp, mxs, sSet, sSetO, sFor, forL, dLst, dMeth, fExt, sRetO, dVarO, dIf, bList, dTup, bTuple, dRev, bMax, bMin, bSum, leastOf, mostOf, intsOf, dMul, dIn, putD, repD, maxSeq, sForK, dGetO, dIxK, sSubK, h, q_row_do, q_row_again, q_row_row, q_row_all, q_row_one, q_all_do, q_all_again, q_all_row, q_all_all, q_all_one, q_one_do, q_one_again, q_one_row, q_one_all, q_one_one, q_again_do, q_again_again, q_again_row, q_again_all, q_again_one, q_do_do, q_do_again, q_do_row, q_do_all, q_do_one, n_row, i_row, n_all, i_all, n_one, i_one, n_again, i_again]
def dA : D := .tup [.str "do", .str "ann"]
def d11 : D := .dct [.int 1] [.int 1]
def d01 : D := .dct [.int 0] [.int 1]
theorem normal_of_row (R : List D → M D) (t : D) (h : R [t] = .ok dA) : fin (b_normal_of R (enter 4 [wr 0 t])) = .ok dA := by
  unfold b_normal_of wr
  unfold dA at h ⊢
  simp [enter, bSeq, bNil, sIf, dTOr, dTNot, dTr, dTb, dIsi, dVar, D.ty, isTy, truth, dBin, dNe_int, dEq_int, dCall, dCons, dNil, bLen, dC, dIx, L2.atI, L2.ixN, sRaise, fin, sDrop, between_int, dAndV, dLc, dItems, lcL, gSet, put, noOw, wipeE, resE, bAll, bools, dChain, dLe, dCmpI, sRet, dYes, Dn.ns, isOw, dSub, dIntOp, mxs, sSet, sSetO, sFor, forL, dLst, dMeth, fExt, sRetO, dVarO, dIf, bList, dTup, bTuple, dRev, bMax, bMin, bSum, leastOf, mostOf, intsOf, dMul, dIn, putD, repD, maxSeq, sForK, dGetO, dIxK, sSubK, h, q_row_do, q_row_again, q_row_row, q_row_all, q_row_one, q_all_do, q_all_again, q_all_row, q_all_all, q_all_one, q_one_do, q_one_again, q_one_row, q_one_all, q_one_one, q_again_do, q_again_again, q_again_row, q_again_all, q_again_one, q_do_do, q_do_again, q_do_row, q_do_all, q_do_one, n_row, i_row, n_all, i_all, n_one, i_one, n_again, i_again]
theorem normal_of_all (R : List D → M D) (t : D) (h : R [t] = .ok dA) : fin (b_normal_of R (enter 4 [wr 1 t])) = .ok dA := by
  unfold b_normal_of wr
  unfold dA at h ⊢
  simp [enter, bSeq, bNil, sIf, dTOr, dTNot, dTr, dTb, dIsi, dVar, D.ty, isTy, truth, dBin, dNe_int, dEq_int, dCall, dCons, dNil, bLen, dC, dIx, L2.atI, L2.ixN, sRaise, fin, sDrop, between_int, dAndV, dLc, dItems, lcL, gSet, put, noOw, wipeE, resE, bAll, bools, dChain, dLe, dCmpI, sRet, dYes, Dn.ns, isOw, dSub, dIntOp, mxs, sSet, sSetO, sFor, forL, dLst, dMeth, fExt, sRetO, dVarO, dIf, bList, dTup, bTuple, dRev, bMax, bMin, bSum, leastOf, mostOf, intsOf, dMul, dIn, putD, repD, maxSeq, sForK, dGetO, dIxK, sSubK, h, q_row_do, q_row_again, q_row_row, q_row_all, q_row_one, q_all_do, q_all_again, q_all_row, q_all_all, q_all_one, q_one_do, q_one_again, q_one_row, q_one_all, q_one_one, q_again_do, q_again_again, q_again_row, q_again_all, q_again_one, q_do_do, q_do_again, q_do_row, q_do_all, q_do_one, n_row, i_row, n_all, i_all, n_one, i_one, n_again, i_again]
theorem normal_of_one (R : List D → M D) (t : D) (h : R [t] = .ok dA) : fin (b_normal_of R (enter 4 [wr 2 t])) = .ok dA := by
  unfold b_normal_of wr
  unfold dA at h ⊢
  simp [enter, bSeq, bNil, sIf, dTOr, dTNot, dTr, dTb, dIsi, dVar, D.ty, isTy, truth, dBin, dNe_int, dEq_int, dCall, dCons, dNil, bLen, dC, dIx, L2.atI, L2.ixN, sRaise, fin, sDrop, between_int, dAndV, dLc, dItems, lcL, gSet, put, noOw, wipeE, resE, bAll, bools, dChain, dLe, dCmpI, sRet, dYes, Dn.ns, isOw, dSub, dIntOp, mxs, sSet, sSetO, sFor, forL, dLst, dMeth, fExt, sRetO, dVarO, dIf, bList, dTup, bTuple, dRev, bMax, bMin, bSum, leastOf, mostOf, intsOf, dMul, dIn, putD, repD, maxSeq, sForK, dGetO, dIxK, sSubK, h, q_row_do, q_row_again, q_row_row, q_row_all, q_row_one, q_all_do, q_all_again, q_all_row, q_all_all, q_all_one, q_one_do, q_one_again, q_one_row, q_one_all, q_one_one, q_again_do, q_again_again, q_again_row, q_again_all, q_again_one, q_do_do, q_do_again, q_do_row, q_do_all, q_do_one, n_row, i_row, n_all, i_all, n_one, i_one, n_again, i_again]
theorem normal_of_again (R : List D → M D) (t : D) (h : R [t] = .ok dA) : fin (b_normal_of R (enter 4 [wr 3 t])) = .ok dA := by
  unfold b_normal_of wr
  unfold dA at h ⊢
  simp [enter, bSeq, bNil, sIf, dTOr, dTNot, dTr, dTb, dIsi, dVar, D.ty, isTy, truth, dBin, dNe_int, dEq_int, dCall, dCons, dNil, bLen, dC, dIx, L2.atI, L2.ixN, sRaise, fin, sDrop, between_int, dAndV, dLc, dItems, lcL, gSet, put, noOw, wipeE, resE, bAll, bools, dChain, dLe, dCmpI, sRet, dYes, Dn.ns, isOw, dSub, dIntOp, mxs, sSet, sSetO, sFor, forL, dLst, dMeth, fExt, sRetO, dVarO, dIf, bList, dTup, bTuple, dRev, bMax, bMin, bSum, leastOf, mostOf, intsOf, dMul, dIn, putD, repD, maxSeq, sForK, dGetO, dIxK, sSubK, h, q_row_do, q_row_again, q_row_row, q_row_all, q_row_one, q_all_do, q_all_again, q_all_row, q_all_all, q_all_one, q_one_do, q_one_again, q_one_row, q_one_all, q_one_one, q_again_do, q_again_again, q_again_row, q_again_all, q_again_one, q_do_do, q_do_again, q_do_row, q_do_all, q_do_one, n_row, i_row, n_all, i_all, n_one, i_one, n_again, i_again]
theorem j_t : m_joined [d01, d11, .bl true] = .ok d11 := by kernel_rfl
theorem j_f : m_joined [d01, d11, .bl false] = .ok d11 := by kernel_rfl
theorem d01_eq : D.dct [dk (.inl 0)] [.int 1] = d01 := rfl
theorem r11 : dMul (.lst [d11]) (.int 1) = .ok (.lst [d11]) := by kernel_rfl
abbrev WB : Sv := sForK 2 (gSet 6) (sSubK 1 (dVar 6) (dBin dAdd (dGetO 1 (dVar 6) (dC (.int 0))) (dBin dIxK (dVar 2) (dVar 6))))
theorem wb_ok (t rw ow : D) : WB [.va t, .ow (.dct [] []), .va d11, .va rw, .va ow, .un, .un] = .ok (.nx, [.va t, .ow d11, .va d11, .va rw, .va ow, .un, .va (.int 1)]) := by kernel_rfl
theorem ways_in_row (R : List D → M D) (t : D) (h : R [t] = .ok d11) : fin (b_ways_in R (enter 7 [wr 0 t])) = .ok d11 := by
  unfold b_ways_in wr
  simp [enter, bSeq, bNil, sIf, dTOr, dTNot, dTr, dTb, dIsi, dVar, D.ty, isTy, truth, dBin, dNe_int, dEq_int, dCall, dCons, dNil, bLen, dC, dIx, L2.atI, L2.ixN, sRaise, fin, sDrop, between_int, dAndV, dLc, dItems, lcL, gSet, put, noOw, wipeE, resE, bAll, bools, dChain, dLe, dCmpI, sRet, dYes, Dn.ns, isOw, dSub, dIntOp, mxs, sSet, sSetO, sFor, forL, dLst, dMeth, fExt, sRetO, dVarO, dIf, bList, dTup, bTuple, dRev, bMax, bMin, bSum, leastOf, mostOf, intsOf, putD, repD, maxSeq, d01_eq, j_t, j_f, r11, h, wb_ok, q_row_do, q_row_again, q_row_row, q_row_all, q_row_one, q_all_do, q_all_again, q_all_row, q_all_all, q_all_one, q_one_do, q_one_again, q_one_row, q_one_all, q_one_one, q_again_do, q_again_again, q_again_row, q_again_all, q_again_one, q_do_do, q_do_again, q_do_row, q_do_all, q_do_one, n_row, i_row, n_all, i_all, n_one, i_one, n_again, i_again]
theorem ways_in_all (R : List D → M D) (t : D) (h : R [t] = .ok d11) : fin (b_ways_in R (enter 7 [wr 1 t])) = .ok d11 := by
  unfold b_ways_in wr
  simp [enter, bSeq, bNil, sIf, dTOr, dTNot, dTr, dTb, dIsi, dVar, D.ty, isTy, truth, dBin, dNe_int, dEq_int, dCall, dCons, dNil, bLen, dC, dIx, L2.atI, L2.ixN, sRaise, fin, sDrop, between_int, dAndV, dLc, dItems, lcL, gSet, put, noOw, wipeE, resE, bAll, bools, dChain, dLe, dCmpI, sRet, dYes, Dn.ns, isOw, dSub, dIntOp, mxs, sSet, sSetO, sFor, forL, dLst, dMeth, fExt, sRetO, dVarO, dIf, bList, dTup, bTuple, dRev, bMax, bMin, bSum, leastOf, mostOf, intsOf, putD, repD, maxSeq, d01_eq, j_t, j_f, r11, h, wb_ok, q_row_do, q_row_again, q_row_row, q_row_all, q_row_one, q_all_do, q_all_again, q_all_row, q_all_all, q_all_one, q_one_do, q_one_again, q_one_row, q_one_all, q_one_one, q_again_do, q_again_again, q_again_row, q_again_all, q_again_one, q_do_do, q_do_again, q_do_row, q_do_all, q_do_one, n_row, i_row, n_all, i_all, n_one, i_one, n_again, i_again]
theorem ways_in_one (R : List D → M D) (t : D) (h : R [t] = .ok d11) : fin (b_ways_in R (enter 7 [wr 2 t])) = .ok d11 := by
  unfold b_ways_in wr
  simp [enter, bSeq, bNil, sIf, dTOr, dTNot, dTr, dTb, dIsi, dVar, D.ty, isTy, truth, dBin, dNe_int, dEq_int, dCall, dCons, dNil, bLen, dC, dIx, L2.atI, L2.ixN, sRaise, fin, sDrop, between_int, dAndV, dLc, dItems, lcL, gSet, put, noOw, wipeE, resE, bAll, bools, dChain, dLe, dCmpI, sRet, dYes, Dn.ns, isOw, dSub, dIntOp, mxs, sSet, sSetO, sFor, forL, dLst, dMeth, fExt, sRetO, dVarO, dIf, bList, dTup, bTuple, dRev, bMax, bMin, bSum, leastOf, mostOf, intsOf, putD, repD, maxSeq, d01_eq, j_t, j_f, r11, h, wb_ok, q_row_do, q_row_again, q_row_row, q_row_all, q_row_one, q_all_do, q_all_again, q_all_row, q_all_all, q_all_one, q_one_do, q_one_again, q_one_row, q_one_all, q_one_one, q_again_do, q_again_again, q_again_row, q_again_all, q_again_one, q_do_do, q_do_again, q_do_row, q_do_all, q_do_one, n_row, i_row, n_all, i_all, n_one, i_one, n_again, i_again]
theorem ways_in_again (R : List D → M D) (t : D) (h : R [t] = .ok d11) : fin (b_ways_in R (enter 7 [wr 3 t])) = .ok d11 := by
  unfold b_ways_in wr
  simp [enter, bSeq, bNil, sIf, dTOr, dTNot, dTr, dTb, dIsi, dVar, D.ty, isTy, truth, dBin, dNe_int, dEq_int, dCall, dCons, dNil, bLen, dC, dIx, L2.atI, L2.ixN, sRaise, fin, sDrop, between_int, dAndV, dLc, dItems, lcL, gSet, put, noOw, wipeE, resE, bAll, bools, dChain, dLe, dCmpI, sRet, dYes, Dn.ns, isOw, dSub, dIntOp, mxs, sSet, sSetO, sFor, forL, dLst, dMeth, fExt, sRetO, dVarO, dIf, bList, dTup, bTuple, dRev, bMax, bMin, bSum, leastOf, mostOf, intsOf, putD, repD, maxSeq, d01_eq, j_t, j_f, r11, h, wb_ok, q_row_do, q_row_again, q_row_row, q_row_all, q_row_one, q_all_do, q_all_again, q_all_row, q_all_all, q_all_one, q_one_do, q_one_again, q_one_row, q_one_all, q_one_one, q_again_do, q_again_again, q_again_row, q_again_all, q_again_one, q_do_do, q_do_again, q_do_row, q_do_all, q_do_one, n_row, i_row, n_all, i_all, n_one, i_one, n_again, i_again]
end LW
end Dn

/-! P04b -/
set_option Elab.async false
set_option linter.all false
set_option maxRecDepth 100000
set_option maxHeartbeats 4000000
namespace Dn
namespace LW
open PySem
/-! ### k04: trees within n others -/
inductive Wr (leaf : D) : Nat → D → Prop
  | z : Wr leaf 0 leaf
  | s (i : Nat) {n : Nat} {t : D} : Wr leaf n t → Wr leaf (n + 1) (wr i t)
theorem is_tree_wr {leaf : D} {f k : Nat} {b : Bool} (h : mr_is_tree f [leaf, .int (k : Nat)] = .ok (.bl b)) : ∀ {n : Nat} {t : D}, Wr leaf n t → mr_is_tree (f + n) [t, .int ((k + n : Nat) : Int)] = .ok (.bl b)
  | _, _, .z => h
  | _, _, .s i (n := n) (t := t) w => by
    have ih := is_tree_wr h w
    show fin (b_is_tree (mr_is_tree (f + n)) (enter 3 [wr i t, .int ((k + n + 1 : Nat) : Int)])) = _
    match i with
    | 0 => exact it_row _ _ _ _ ih
    | 1 => exact it_all _ _ _ _ ih
    | 2 => exact it_one _ _ _ _ ih
    | i + 3 => exact it_again _ _ _ _ ih
theorem names_wr {leaf x : D} {f : Nat} (h : mr_names_in f [leaf] = .ok (.lst [x])) : ∀ {n : Nat} {t : D}, Wr leaf n t → mr_names_in (f + n) [t] = .ok (.lst [x])
  | _, _, .z => h
  | _, _, .s i (n := n) (t := t) w => by
    have ih := names_wr h w
    show fin (b_names_in (mr_names_in (f + n)) (enter 3 [wr i t])) = _
    match i with
    | 0 => exact names_in_row _ _ _ ih
    | 1 => exact names_in_all _ _ _ ih
    | 2 => exact names_in_one _ _ _ ih
    | i + 3 => exact names_in_again _ _ _ ih
theorem needed_wr {leaf x : D} {f : Nat} (h : mr_needed_in f [leaf] = .ok (.lst [x])) : ∀ {n : Nat} {t : D}, Wr leaf n t → mr_needed_in (f + n) [t] = .ok (.lst [x])
  | _, _, .z => h
  | _, _, .s i (n := n) (t := t) w => by
    have ih := needed_wr h w
    show fin (b_needed_in (mr_needed_in (f + n)) (enter 5 [wr i t])) = _
    match i with
    | 0 => exact needed_in_row _ _ _ ih
    | 1 => exact needed_in_all _ _ _ ih
    | 2 => exact needed_in_one _ _ _ ih
    | i + 3 => exact needed_in_again _ _ _ ih
theorem length_t_wr {leaf : D} {f : Nat} (h : mr_length_of f [leaf, .bl true] = .ok (.int 1)) : ∀ {n : Nat} {t : D}, Wr leaf n t → mr_length_of (f + n) [t, .bl true] = .ok (.int 1)
  | _, _, .z => h
  | _, _, .s i (n := n) (t := t) w => by
    have ih := length_t_wr h w
    show fin (b_length_of (mr_length_of (f + n)) (enter 4 [wr i t, .bl true])) = _
    match i with
    | 0 => exact length_of_row_true _ _ ih
    | 1 => exact length_of_all_true _ _ ih
    | 2 => exact length_of_one_true _ _ ih
    | i + 3 => exact length_of_again_true _ _ ih
theorem length_f_wr {leaf : D} {f : Nat} (h : mr_length_of f [leaf, .bl false] = .ok (.int 1)) : ∀ {n : Nat} {t : D}, Wr leaf n t → mr_length_of (f + n) [t, .bl false] = .ok (.int 1)
  | _, _, .z => h
  | _, _, .s i (n := n) (t := t) w => by
    have ih := length_f_wr h w
    show fin (b_length_of (mr_length_of (f + n)) (enter 4 [wr i t, .bl false])) = _
    match i with
    | 0 => exact length_of_row_false _ _ ih
    | 1 => exact length_of_all_false _ _ ih
    | 2 => exact length_of_one_false _ _ ih
    | i + 3 => exact length_of_again_false _ _ ih
theorem ways_wr {leaf : D} {f : Nat} (h : mr_ways_in f [leaf] = .ok d11) : ∀ {n : Nat} {t : D}, Wr leaf n t → mr_ways_in (f + n) [t] = .ok d11
  | _, _, .z => h
  | _, _, .s i (n := n) (t := t) w => by
    have ih := ways_wr h w
    show fin (b_ways_in (mr_ways_in (f + n)) (enter 7 [wr i t])) = _
    match i with
    | 0 => exact ways_in_row _ _ ih
    | 1 => exact ways_in_all _ _ ih
    | 2 => exact ways_in_one _ _ ih
    | i + 3 => exact ways_in_again _ _ ih
theorem normal_wr {leaf : D} {f : Nat} (h : mr_normal_of f [leaf] = .ok dA) : ∀ {n : Nat} {t : D}, Wr leaf n t → mr_normal_of (f + n) [t] = .ok dA
  | _, _, .z => h
  | _, _, .s i (n := n) (t := t) w => by
    have ih := normal_wr h w
    show fin (b_normal_of (mr_normal_of (f + n)) (enter 4 [wr i t])) = _
    match i with
    | 0 => exact normal_of_row _ _ ih
    | 1 => exact normal_of_all _ _ ih
    | 2 => exact normal_of_one _ _ ih
    | i + 3 => exact normal_of_again _ _ ih
theorem turned_wr {leaf l2 : D} {f : Nat} (h : mr_turned_of f [leaf] = .ok l2) : ∀ {n : Nat} {t : D}, Wr leaf n t → ∃ t2, mr_turned_of (f + n) [t] = .ok t2
  | _, _, .z => ⟨_, h⟩
  | _, _, .s i (n := n) (t := t) w => by
    obtain ⟨t2, ih⟩ := turned_wr h w
    refine ⟨wr i t2, ?_⟩
    show fin (b_turned_of (mr_turned_of (f + n)) (enter 3 [wr i t])) = _
    match i with
    | 0 => exact turned_of_row _ _ _ .non ih
    | 1 => exact turned_of_all _ _ _ .non ih
    | 2 => exact turned_of_one _ _ _ .non ih
    | i + 3 => exact turned_of_again _ _ _ .non ih
/-- the fuel is 16 at the top -/
theorem fuel16 {n k : Nat} (h : k + n = 12) : (k + 4) + n = 16 := by omega

/-! ### what all say of a tree that is none -/
theorem chk_fin {rest : Sv} {env : En} {t : D} {x : Exn} (h0 : dVar 0 env = .ok (t, env)) (h : m_check_tree [t] = .error x) : fin (bSeq (sDrop (dCall m_check_tree (dCons (dVar 0) (dNil)))) rest env) = .error x := by
  rw [bSeq_err (sDrop_err (dCall_err (dCons_ok h0 rfl) h))]
  rfl
theorem chk_tree {t : D} (h : m_is_tree [t, .int 12] = .ok (.bl false)) : m_check_tree [t] = .error (.raise 0 (.str "tree")) :=
  fin_err (bSeq_err (by rw [sIf_t (dTNot_ok (dTr_bl (dCall2 rfl rfl h)))]; exact sRaise_ok rfl))
theorem lcL_cons {mt : Gv} {te : Ev} {vs : List Nat} {d x : D} {r rs : List D} {env e1 e2 eF : En} (h1 : mt d env = .ok e1) (h2 : te e1 = .ok (x, e2)) (h3 : lcL mt dYes te vs r (wipeE e2 vs) = .ok (rs, eF)) : lcL mt dYes te vs (d :: r) env = .ok (x :: rs, eF) := by
  unfold lcL
  rw [h1, bnd_ok]
  simp only [dYes, bnd_ok, if_true, h2, h3]
abbrev EV : Ev := dCall m__law_heard (dCons (dVar 2) (dCons (dLst (dCons (dVar 0) (dNil))) (dNil)))
theorem ev_ok {t a : D} {f : Nat} (h : m__law_heard [.fn f, .lst [t]] = .ok a) : EV [.va t, .un, .va (.fn f)] = .ok (a, [.va t, .un, .va (.fn f)]) :=
  dCall2 (e1 := [.va t, .un, .va (.fn f)]) (a := .fn f) (b := .lst [t]) rfl (dLst_ok (ds := [t]) (dCons_ok (a := t) (as := []) (e1 := [.va t, .un, .va (.fn f)]) rfl rfl) (by simp)) h
theorem ev_cons {t a : D} {f : Nat} {r rs : List D} (h : m__law_heard [.fn f, .lst [t]] = .ok a) (h2 : lcL (gSet 2) dYes EV [2] r [.va t, .un, .un] = .ok (rs, [.va t, .un, .un])) : lcL (gSet 2) dYes EV [2] (.fn f :: r) [.va t, .un, .un] = .ok (a :: rs, [.va t, .un, .un]) :=
  lcL_cons (e1 := [.va t, .un, .va (.fn f)]) (e2 := [.va t, .un, .va (.fn f)]) rfl (ev_ok h) h2
theorem ev_lc {t a0 a1 a2 a3 a4 : D} (h0 : m__law_heard [.fn 0, .lst [t]] = .ok a0) (h1 : m__law_heard [.fn 1, .lst [t]] = .ok a1) (h2 : m__law_heard [.fn 2, .lst [t]] = .ok a2) (h3 : m__law_heard [.fn 3, .lst [t]] = .ok a3)
    (h4 : m__law_heard [.fn 4, .lst [t]] = .ok a4) : lcL (gSet 2) dYes EV [2] [.fn 0, .fn 1, .fn 2, .fn 3, .fn 4] [.va t, .un, .un] = .ok ([a0, a1, a2, a3, a4], [.va t, .un, .un]) :=
  ev_cons h0 (ev_cons h1 (ev_cons h2 (ev_cons h3 (ev_cons h4 rfl))))
theorem ev_it {env : En} : dItems (dLst (dCons (dC (.fn 0)) (dCons (dC (.fn 1)) (dCons (dC (.fn 2)) (dCons (dC (.fn 3)) (dCons (dC (.fn 4)) (dNil))))))) env = .ok ([.fn 0, .fn 1, .fn 2, .fn 3, .fn 4], env) := dItems_lst (dLst_ok rfl (by simp))
theorem ev_set {t : D} {rs : List D} (hl : rs.length ≤ 1000) (h : lcL (gSet 2) dYes EV [2] [.fn 0, .fn 1, .fn 2, .fn 3, .fn 4] [.va t, .un, .un] = .ok (rs, [.va t, .un, .un])) :
    sSet 1 (dLc (dItems (dLst (dCons (dC (.fn 0)) (dCons (dC (.fn 1)) (dCons (dC (.fn 2)) (dCons (dC (.fn 3)) (dCons (dC (.fn 4)) (dNil)))))))) (gSet 2) (dYes) EV [2]) [.va t, .un, .un] = .ok (.nx, [.va t, .va (.lst rs), .un]) :=
  sSet_to (i := 0) (dLc_ok2 (v := 2) (env := [.va t, .un, .un]) (ds := [.fn 0, .fn 1, .fn 2, .fn 3, .fn 4]) (rs := rs) (s := .un) ev_it rfl rfl h hl) rfl
theorem every_ok {t a0 a1 a2 a3 a4 a5 a6 : D} (h0 : m__law_heard [.fn 0, .lst [t]] = .ok a0) (h1 : m__law_heard [.fn 1, .lst [t]] = .ok a1) (h2 : m__law_heard [.fn 2, .lst [t]] = .ok a2) (h3 : m__law_heard [.fn 3, .lst [t]] = .ok a3)
    (h4 : m__law_heard [.fn 4, .lst [t]] = .ok a4) (h5 : m__law_heard [.fn 5, .lst [t, .non]] = .ok a5) (h6 : m__law_heard [.fn 6, .lst [t, .non, .non]] = .ok a6) : m__law_every [t] = .ok (.lst [a0, a1, a2, a3, a4, a5, a6]) := by
  unfold m__law_every b__law_every
  show fin (bSeq _ _ [.va t, .un, .un]) = _
  rw [stp (ev_set (by simp) (ev_lc h0 h1 h2 h3 h4))]
  generalize hE : ([.va t, .va (.lst [a0, a1, a2, a3, a4]), .un] : En) = E
  have e0 : dVar 0 E = .ok (t, E) := by rw [← hE]; rfl
  have e1 : dVar 1 E = .ok (.lst [a0, a1, a2, a3, a4], E) := by rw [← hE]; rfl
  have q5 := dCall2 (f := m__law_heard) (m1 := dC (.fn 5)) (m2 := dLst (dCons (dVar 0) (dCons (dC .non) (dNil)))) (env := E) rfl (dLst_ok (ds := [t, .non]) (dCons_ok e0 rfl) (by simp)) h5
  have q6 := dCall2 (f := m__law_heard) (m1 := dC (.fn 6)) (m2 := dLst (dCons (dVar 0) (dCons (dC .non) (dCons (dC .non) (dNil))))) (env := E) rfl (dLst_ok (ds := [t, .non, .non]) (dCons_ok e0 rfl) (by simp)) h6
  exact fin_ok (sRet_ok (dBin_ok e1 (dLst_ok (dCons_ok q5 (dCons_ok q6 rfl)) (by simp)) (add_lst (by simp))))
theorem t0 : tbl 0 = some (1, m_lengths) := rfl
theorem t1 : tbl 1 = some (1, m_count_ways) := rfl
theorem t2 : tbl 2 = some (1, m_must_have) := rfl
theorem t3 : tbl 3 = some (1, m_turned) := rfl
theorem t4 : tbl 4 = some (1, m_normal) := rfl
theorem t5 : tbl 5 = some (2, m_judge_run) := rfl
theorem t6 : tbl 6 = some (3, m_relation) := rfl
theorem every_err {t p r : D} {k : Nat} (h : m_check_tree [t] = .error (.raise k p)) (hw : wordOf k p = .ok r) : m__law_every [t] = .ok (.lst [r, r, r, r, r, r, r]) :=
  every_ok (h1e t0 (chk_fin rfl h) hw) (h1e t1 (chk_fin rfl h) hw) (h1e t2 (chk_fin rfl h) hw) (h1e t3 (chk_fin rfl h) hw) (h1e t4 (chk_fin rfl h) hw) (h2e t5 (chk_fin rfl h) hw) (h3e t6 (chk_fin rfl h) hw)

/-! ### eleven deep -/
theorem la1 (f : Nat) : mr_names_in (f + 1) [dA] = .ok (.lst [.str "ann"]) := by kernel_rfl
theorem la2 (f : Nat) : mr_needed_in (f + 1) [dA] = .ok (.lst [.str "ann"]) := by kernel_rfl
theorem la3 (f : Nat) : mr_length_of (f + 1) [dA, .bl true] = .ok (.int 1) := by kernel_rfl
theorem la4 (f : Nat) : mr_length_of (f + 1) [dA, .bl false] = .ok (.int 1) := by kernel_rfl
theorem la5 (f : Nat) : mr_ways_in (f + 1) [dA] = .ok d11 := by kernel_rfl
theorem la6 (f : Nat) : mr_normal_of (f + 1) [dA] = .ok dA := by kernel_rfl
theorem la7 (f : Nat) : mr_turned_of (f + 1) [dA] = .ok dA := by kernel_rfl
theorem leafA {n : Nat} {t : D} (w : Wr dA n t) (hn : n ≤ 12) : m_names_in [t] = .ok (.lst [.str "ann"]) ∧ m_needed_in [t] = .ok (.lst [.str "ann"]) ∧ m_length_of [t, .bl true] = .ok (.int 1) ∧ m_length_of [t, .bl false] = .ok (.int 1) ∧ m_ways_in [t] = .ok d11 ∧ m_normal_of [t] = .ok dA ∧ ∃ t2, m_turned_of [t] = .ok t2 := by
  obtain ⟨f, hf⟩ : ∃ f, f + 1 + n = 16 := ⟨15 - n, by omega⟩
  have r1 := names_wr (la1 f) w
  have r2 := needed_wr (la2 f) w
  have r3 := length_t_wr (la3 f) w
  have r4 := length_f_wr (la4 f) w
  have r5 := ways_wr (la5 f) w
  have r6 := normal_wr (la6 f) w
  have r7 := turned_wr (la7 f) w
  rw [hf] at r1 r2 r3 r4 r5 r6 r7
  exact ⟨r1, r2, r3, r4, r5, r6, r7⟩
def lA : D := .lst [.str "ann"]
theorem cg1 {t : D} : dTOr (dTb (dBin dGt (dCall bLen (dCons (dVar 1) (dNil))) (dC (.int 30)))) (dTb (dBin dNe (dCall bLenK (dCons (dDc (dItems (dVar 1)) (gSet 2) (dYes) (dVar 2) (dC (.bl true)) [2]) (dNil))) (dCall bLen (dCons (dVar 1) (dNil))))) [.va t, .va lA, .un] = .ok (false, [.va t, .va lA, .un]) := by kernel_rfl
theorem chk_good {t : D} (h1 : m_is_tree [t, .int 12] = .ok (.bl true)) (h2 : m_names_in [t] = .ok lA) (h3 : m_length_of [t, .bl true] = .ok (.int 1)) : m_check_tree [t] = .ok .non := by
  unfold m_check_tree b_check_tree
  show fin (bSeq _ _ [.va t, .un, .un]) = _
  have e0 : ∀ {R : List Sl}, dVar 0 (.va t :: R) = .ok (t, .va t :: R) := rfl
  rw [stp ((sIf_f (dTNot_ok (dTr_bl (dCall2 e0 rfl h1)))).trans rfl)]
  rw [stp (sSet_to (i := 0) (e2 := [.va t, .va lA, .un]) (dCall1 e0 h2) rfl)]
  rw [stp ((sIf_f cg1).trans rfl)]
  rw [sIf_f (dTb_ok (dBin_ok (dCall2 e0 rfl h3) rfl (dGt_int 1 200)))]
  rfl
theorem cw1 {t : D} : sRet (dCall bTuple (dCons (dLc (dItems (dCall bSort2 (dCons (dVar 1) (dNil)))) (gSet 2) (dYes) (dTup (dCons (dVar 2) (dCons (dBin dIxK (dVar 1) (dVar 2)) (dNil)))) [2]) (dNil))) [.va t, .va d11, .un] = .ok (.rt (.tup [.tup [.int 1, .int 1]]), [.va t, .va d11, .un]) := by kernel_rfl
theorem so1 : bSort2 [lA] = .ok lA := by kernel_rfl
theorem jr1 {t : D} : (sIf (dTOr (dTNot (dTr (dIsi "tuple" (dVar 1)))) (dTOr (dTb (dBin dGt (dCall bLen (dCons (dVar 1) (dNil))) (dC (.int 200)))) (dTNot (dTr (dCall bAll (dCons (dLc (dItems (dVar 1)) (gSet 6) (dYes) (dCall m_is_name (dCons (dVar 6) (dNil))) [6]) (dNil))))))) (sRaise 1 (dC (.str "run"))) (bNil)) [.va t, .va .non, .un, .un, .un, .un, .un] = .error (.raise 1 (.str "run")) := by kernel_rfl
theorem re1 {t : D} : sFor (dItems (dTup (dCons (dTup (dCons (dC (.str "one")) (dCons (dVar 1) (dNil)))) (dCons (dTup (dCons (dC (.str "other")) (dCons (dVar 2) (dNil)))) (dNil))))) (gTupD (lenOf 2 (gsCons (gSet 5) (gsCons (gSet 6) (gsNil))))) (sIf (dTOr (dTNot (dTr (dIsi "str" (dVar 6)))) (dTb (dBin dNotIn (dVar 6) (dVar 3)))) (sRaise 1 (dVar 5)) (bNil)) [.va t, .va .non, .va .non, .va lA, .un, .un, .un, .un, .un] = .error (.raise 1 (.str "one")) := by kernel_rfl
theorem every_deep {t : D} (h1 : m_is_tree [t, .int 12] = .ok (.bl true)) {n : Nat} (w : Wr dA n t) (hn : n ≤ 12) : ∃ u, m__law_every [t] = .ok (.lst [.lst [.tup [.int 1, .int 1]], .lst [.tup [.tup [.int 1, .int 1]]], .lst [.tup [.str "ann"]], u, .lst [dA], .str "argument run", .str "argument one"]) ∧ m__law_heard [.fn 4, .lst [t]] = .ok (.lst [dA]) := by
  obtain ⟨r1, r2, r3, r4, r5, r6, u, r7⟩ := leafA w hn
  have c := chk_good h1 r1 r3
  have e0 : ∀ {R : List Sl}, dVar 0 (.va t :: R) = .ok (t, .va t :: R) := rfl
  have c1 : ∀ {R : List Sl}, sDrop (dCall m_check_tree (dCons (dVar 0) (dNil))) (.va t :: R) = .ok (.nx, .va t :: R) := sDrop_ok (dCall1 e0 c)
  have a0 : m_lengths [t] = .ok (.tup [.int 1, .int 1]) := by
    unfold m_lengths b_lengths
    show fin (bSeq _ _ [.va t]) = _
    rw [stp c1]
    exact fin_ok (sRet_ok (dTup_ok (dCons_ok (dCall2 e0 rfl r4) (dCons_ok (dCall2 e0 rfl r3) rfl)) (by simp)))
  have a1 : m_count_ways [t] = .ok (.tup [.tup [.int 1, .int 1]]) := by
    unfold m_count_ways b_count_ways
    show fin (bSeq _ _ [.va t, .un, .un]) = _
    rw [stp c1, stp (sSet_to (i := 0) (e2 := [.va t, .va d11, .un]) (dCall1 e0 r5) rfl)]
    exact fin_ok cw1
  have a2 : m_must_have [t] = .ok (.tup [.str "ann"]) := by
    unfold m_must_have b_must_have
    show fin (bSeq _ _ [.va t]) = _
    rw [stp c1]
    exact fin_ok (sRet_ok (dCall1 (dCall1 (dCall1 e0 r2) so1) rfl))
  have a3 : m_turned [t] = .ok u := by
    unfold m_turned b_turned
    show fin (bSeq _ _ [.va t]) = _
    rw [stp c1]
    exact fin_ok (sRet_ok (dCall1 e0 r7))
  have a4 : m_normal [t] = .ok dA := by
    unfold m_normal b_normal
    show fin (bSeq _ _ [.va t]) = _
    rw [stp c1]
    exact fin_ok (sRet_ok (dCall1 e0 r6))
  have a5 : m_judge_run [t, .non] = .error (.raise 1 (.str "run")) := by
    unfold m_judge_run b_judge_run
    show fin (bSeq _ _ [.va t, .va .non, .un, .un, .un, .un, .un]) = _
    rw [stp c1, bSeq_err jr1]
    rfl
  have a6 : m_relation [t, .non, .non] = .error (.raise 1 (.str "one")) := by
    unfold m_relation b_relation
    show fin (bSeq _ _ [.va t, .va .non, .va .non, .un, .un, .un, .un, .un, .un]) = _
    rw [stp c1, stp (sSet_to (i := 2) (e2 := [.va t, .va .non, .va .non, .va lA, .un, .un, .un, .un, .un]) (dCall1 e0 r1) rfl)]
    exact fin_err (bSeq_err re1)
  exact ⟨.lst [u], every_ok (h1o t0 a0) (h1o t1 a1) (h1o t2 a2) (h1o t3 a3) (h1o t4 a4) (h2e t5 a5 rfl) (h3e t6 a6 rfl), h1o t4 a4⟩
end LW
end Dn

/-! P04c -/
set_option Elab.async false
set_option linter.all false
set_option maxRecDepth 100000
set_option maxHeartbeats 4000000
namespace Dn
namespace LW
open PySem

def W1 : List D := [D.non, D.tup [], D.tup [D.str "do"], D.tup [D.str "do", D.str ""], D.tup [D.str "do", D.str "Ann"], D.tup [D.str "do", D.str "aaaaaaaaaaa"], D.tup [D.str "do", D.int 5], D.tup [D.str "do", D.str "a", D.str "b"], D.tup [D.str "row", D.tup []], D.tup [D.str "row", D.tup [D.str "do", D.str "a"]], D.tup [D.str "go", D.tup [D.tup [D.str "do", D.str "a"]]]]
def W2 : List D := [D.non, D.tup [], D.tup [D.str "do"], D.tup [D.str "do", D.str ""], D.tup [D.str "do", D.str "Ann"], D.tup [D.str "do", D.str "aaaaaaaaaaa"], D.tup [D.str "do", D.int 5], D.tup [D.str "do", D.str "a", D.str "b"], D.tup [D.str "row", D.tup []], D.tup [D.str "row", D.tup [D.str "do", D.str "a"]], D.tup [D.str "go", D.tup [D.tup [D.str "do", D.str "a"]]], D.tup [D.str "again", D.tup [D.str "do", D.str "a"], D.int 0], D.tup [D.str "again", D.tup [D.str "do", D.str "a"], D.int 6], D.tup [D.str "again", D.tup [D.str "do", D.str "a"], D.bl true], D.tup [D.str "again", D.tup [D.str "do", D.str "a"]], D.tup [D.str "row", D.lst [D.tup [D.str "do", D.str "a"]]], D.lst [D.str "do", D.str "a"], D.tup [D.int 5, D.str "a"], D.int 5, D.str "do"]
def WR : List D := [D.non, D.tup [], D.tup [D.str "do"], D.tup [D.str "do", D.str ""], D.tup [D.str "do", D.str "Ann"], D.tup [D.str "do", D.str "aaaaaaaaaaa"], D.tup [D.str "do", D.int 5], D.tup [D.str "do", D.str "a", D.str "b"], D.tup [D.str "row", D.tup []], D.tup [D.str "row", D.tup [D.str "do", D.str "a"]], D.tup [D.str "go", D.tup [D.tup [D.str "do", D.str "a"]]], D.tup [D.str "again", D.tup [D.str "do", D.str "a"], D.int 0], D.tup [D.str "again", D.tup [D.str "do", D.str "a"], D.int 6], D.tup [D.str "again", D.tup [D.str "do", D.str "a"], D.bl true], D.tup [D.str "again", D.tup [D.str "do", D.str "a"]], D.tup [D.str "row", D.lst [D.tup [D.str "do", D.str "a"]]], D.lst [D.str "do", D.str "a"], D.tup [D.int 5, D.str "a"], D.int 5, D.str "do", D.tup [D.str "row", D.tup [D.tup [D.str "do", D.str "a"], D.tup [D.str "do", D.str "a"], D.tup [D.str "do", D.str "a"], D.tup [D.str "do", D.str "a"], D.tup [D.str "do", D.str "a"], D.tup [D.str "do", D.str "a"], D.tup [D.str "do", D.str "a"], D.tup [D.str "do", D.str "a"], D.tup [D.str "do", D.str "a"], D.tup [D.str "do", D.str "a"], D.tup [D.str "do", D.str "a"], D.tup [D.str "do", D.str "a"], D.tup [D.str "do", D.str "a"], D.tup [D.str "do", D.str "a"], D.tup [D.str "do", D.str "a"], D.tup [D.str "do", D.str "a"], D.tup [D.str "do", D.str "a"], D.tup [D.str "do", D.str "a"], D.tup [D.str "do", D.str "a"], D.tup [D.str "do", D.str "a"], D.tup [D.str "do", D.str "a"], D.tup [D.str "do", D.str "a"], D.tup [D.str "do", D.str "a"], D.tup [D.str "do", D.str "a"], D.tup [D.str "do", D.str "a"], D.tup [D.str "do", D.str "a"], D.tup [D.str "do", D.str "a"], D.tup [D.str "do", D.str "a"], D.tup [D.str "do", D.str "a"], D.tup [D.str "do", D.str "a"], D.tup [D.str "do", D.str "a"]]], D.tup [D.str "one", D.tup [D.tup [D.str "do", D.str "b"], D.non]], D.tup [D.str "all", D.tup [D.tup [D.str "do", D.str "b"], D.tup [D.str "do", D.str "z1"]]], D.tup [D.str "row", D.tup [D.tup [D.str "do", D.str "a"]], D.int 1], D.tup [D.str "again", D.tup [D.str "do", D.str "a"], D.int 2, D.int 3]]
theorem wk_1 : (WR.map fun w => mr_is_tree 5 [w, .int 1]) = WR.map fun _ => .ok (.bl false) := by kernel_rfl
theorem wk_2 : (WR.map fun w => mr_is_tree 6 [w, .int 2]) = WR.map fun _ => .ok (.bl false) := by kernel_rfl
theorem wk_3 : (WR.map fun w => mr_is_tree 7 [w, .int 3]) = WR.map fun _ => .ok (.bl false) := by kernel_rfl
theorem wk_4 : (WR.map fun w => mr_is_tree 8 [w, .int 4]) = WR.map fun _ => .ok (.bl false) := by kernel_rfl
theorem wk_5 : (WR.map fun w => mr_is_tree 9 [w, .int 5]) = WR.map fun _ => .ok (.bl false) := by kernel_rfl
theorem wk_6 : (WR.map fun w => mr_is_tree 10 [w, .int 6]) = WR.map fun _ => .ok (.bl false) := by kernel_rfl
theorem wk_7 : (WR.map fun w => mr_is_tree 11 [w, .int 7]) = WR.map fun _ => .ok (.bl false) := by kernel_rfl
theorem wk_8 : (WR.map fun w => mr_is_tree 12 [w, .int 8]) = WR.map fun _ => .ok (.bl false) := by kernel_rfl
theorem wk_9 : (WR.map fun w => mr_is_tree 13 [w, .int 9]) = WR.map fun _ => .ok (.bl false) := by kernel_rfl
theorem wk_10 : (WR.map fun w => mr_is_tree 14 [w, .int 10]) = WR.map fun _ => .ok (.bl false) := by kernel_rfl
theorem wk_11 : (WR.map fun w => mr_is_tree 15 [w, .int 11]) = WR.map fun _ => .ok (.bl false) := by kernel_rfl
theorem wk_12 : (WR.map fun w => mr_is_tree 16 [w, .int 12]) = WR.map fun _ => .ok (.bl false) := by kernel_rfl
theorem wrong_tree {w : D} (hw : w ∈ WR) (k : Nat) (h1 : 1 ≤ k) (h2 : k ≤ 12) : mr_is_tree (k + 4) [w, .int (k : Nat)] = .ok (.bl false) := match k, h1, h2 with
  | 0, h1, _ => absurd h1 (by decide)
  | 1, _, _ => List.map_inj_left.mp wk_1 w hw
  | 2, _, _ => List.map_inj_left.mp wk_2 w hw
  | 3, _, _ => List.map_inj_left.mp wk_3 w hw
  | 4, _, _ => List.map_inj_left.mp wk_4 w hw
  | 5, _, _ => List.map_inj_left.mp wk_5 w hw
  | 6, _, _ => List.map_inj_left.mp wk_6 w hw
  | 7, _, _ => List.map_inj_left.mp wk_7 w hw
  | 8, _, _ => List.map_inj_left.mp wk_8 w hw
  | 9, _, _ => List.map_inj_left.mp wk_9 w hw
  | 10, _, _ => List.map_inj_left.mp wk_10 w hw
  | 11, _, _ => List.map_inj_left.mp wk_11 w hw
  | 12, _, _ => List.map_inj_left.mp wk_12 w hw
  | k + 13, _, h2 => absurd h2 (by omega)
theorem pick_ev {st : D} {R : List Sl} {m : Ev} {xs : List D} {st1 : D} (g : Good st1) (hm : m (.ow st :: R) = .ok (.lst xs, .ow st1 :: R)) (h0 : xs ≠ []) (h1 : xs.length < 1000000) : ∃ d st', dCallO m__law_pick 0 (dCons m (dNil)) (.ow st :: R) = .ok (d, .ow st' :: R) ∧ d ∈ xs ∧ Good st' := by
  obtain ⟨⟨d, st'⟩, e, hd, g'⟩ := wm_out (pick_ok g h0 h1)
  exact ⟨d, st', dCallO0 (dCons_ok hm rfl) e, hd, g'⟩
abbrev WL : Ev := (dLst (dCons (dTup (dCons (dC (.str "row")) (dCons (dTup (dCons (dVar 3) (dNil))) (dNil)))) (dCons (dTup (dCons (dC (.str "all")) (dCons (dTup (dCons (dVar 3) (dNil))) (dNil)))) (dCons (dTup (dCons (dC (.str "one")) (dCons (dTup (dCons (dVar 3) (dNil))) (dNil)))) (dCons (dTup (dCons (dC (.str "again")) (dCons (dVar 3) (dCons (dC (.int 1)) (dNil))))) (dNil))))))
theorem wl_ok {t : D} {R : List Sl} {a b c : Sl} : WL (a :: b :: c :: .va t :: R) = .ok (.lst [wr 0 t, wr 1 t, wr 2 t, wr 3 t], a :: b :: c :: .va t :: R) := by kernel_rfl
theorem within_ok {st leaf : D} {n : Nat} (g : Good st) (hn : n ≤ 12) : ∃ t st', m__law_within st [.int n, leaf] = .ok (t, st') ∧ Wr leaf n t ∧ Good st' := by
  have hs : smallI (n : Nat) = true := smallI_of_le (by omega) (by omega)
  obtain ⟨e', q, t, st', x4, rfl, w, g'⟩ := forL_nxi (mt := gSet 4) (mb := sSet 3 (dCallO m__law_pick 0 (dCons WL (dNil)))) (fun j e => ∃ (t st : D) (x4 : Sl), e = [.ow st, .va (.int n), .va leaf, .va t, x4] ∧ Wr leaf j t ∧ Good st) (rngD 0 1 n) 0 [.ow st, .va (.int n), .va leaf, .va leaf, .un]
    (by
      rintro i d hd e ⟨t, st, x4, rfl, w, g⟩
      obtain ⟨d', st', q, hm, g'⟩ := pick_ev (st := st) (R := [.va (.int n), .va leaf, .va t, .va d]) (m := WL) g wl_ok (by simp) (by simp)
      refine ⟨[.ow st, .va (.int n), .va leaf, .va t, .va d], [.ow st', .va (.int n), .va leaf, .va d', .va d], rfl, sSet_to (i := 2) q rfl, d', st', .va d, rfl, ?_, g'⟩
      simp only [List.mem_cons, List.not_mem_nil, or_false] at hm
      rcases hm with rfl | rfl | rfl | rfl <;> exact .s _ w)
    ⟨leaf, st, .un, rfl, .z, g⟩
  have hl : (rngD 0 1 n).length = n := by unfold rngD; rw [List.length_map, List.length_range]
  rw [hl, Nat.zero_add] at w
  refine ⟨t, st', ?_, w, g'⟩
  unfold m__law_within b__law_within
  show finO (bSeq _ _ [.ow st, .va (.int n), .va leaf, .un, .un]) = _
  rw [stp (sSet_to (i := 2) (e2 := [.ow st, .va (.int n), .va leaf, .va leaf, .un]) (d := leaf) rfl rfl)]
  have hr : dRng (dCons (dVar 1) (dNil)) [.ow st, .va (.int n), .va leaf, .va leaf, .un] = .ok (rngD 0 1 n, [.ow st, .va (.int n), .va leaf, .va leaf, .un]) := dRng_ok (n := n) (dCons_ok rfl rfl) hs
  rw [stp (sFor_ok hr q)]
  rfl
theorem within1 {sc st leaf : D} {R : List Sl} {n : Nat} {ms : Av} {st1 : D} (hm : ms (.va sc :: .ow st :: R) = .ok ([.int n, leaf], .va sc :: .ow st1 :: R)) (g : Good st1) (hn : n ≤ 12) : ∃ t st', dCallO m__law_within 1 ms (.va sc :: .ow st :: R) = .ok (t, .va sc :: .ow st' :: R) ∧ Wr leaf n t ∧ Good st' := by
  obtain ⟨t, st', q, w, g'⟩ := within_ok (leaf := leaf) g hn
  exact ⟨t, st', dCallO_ok (i := 1) (s0 := st) (s := st1) (e1 := .va sc :: .ow st1 :: R) rfl hm rfl q, w, g'⟩
theorem ne7 (r : Str) : True := trivial
abbrev TB : Sv := bSeq (sSet 14 (dLst (dCons (dC .non) (dCons (dTup (dNil)) (dCons (dTup (dCons (dC (.str "do")) (dNil))) (dCons (dTup (dCons (dC (.str "do")) (dCons (dC (.str "")) (dNil)))) (dCons (dTup (dCons (dC (.str "do")) (dCons (dC (.str "Ann")) (dNil)))) (dCons (dTup (dCons (dC (.str "do")) (dCons (dBin dMul (dC (.str "a")) (dC (.int 11))) (dNil)))) (dCons (dTup (dCons (dC (.str "do")) (dCons (dC (.int 5)) (dNil)))) (dCons (dTup (dCons (dC (.str "do")) (dCons (dC (.str "a")) (dCons (dC (.str "b")) (dNil))))) (dCons (dTup (dCons (dC (.str "row")) (dCons (dTup (dNil)) (dNil)))) (dCons (dTup (dCons (dC (.str "row")) (dCons (dTup (dCons (dC (.str "do")) (dCons (dC (.str "a")) (dNil)))) (dNil)))) (dCons (dTup (dCons (dC (.str "go")) (dCons (dTup (dCons (dTup (dCons (dC (.str "do")) (dCons (dC (.str "a")) (dNil)))) (dNil))) (dNil)))) (dNil))))))))))))))
  (bSeq (sSet 14 (dBin dAdd (dVar 14) (dLst (dCons (dTup (dCons (dC (.str "again")) (dCons (dTup (dCons (dC (.str "do")) (dCons (dC (.str "a")) (dNil)))) (dCons (dC (.int 0)) (dNil))))) (dCons (dTup (dCons (dC (.str "again")) (dCons (dTup (dCons (dC (.str "do")) (dCons (dC (.str "a")) (dNil)))) (dCons (dC (.int 6)) (dNil))))) (dCons (dTup (dCons (dC (.str "again")) (dCons (dTup (dCons (dC (.str "do")) (dCons (dC (.str "a")) (dNil)))) (dCons (dC (.bl true)) (dNil))))) (dCons (dTup (dCons (dC (.str "again")) (dCons (dTup (dCons (dC (.str "do")) (dCons (dC (.str "a")) (dNil)))) (dNil)))) (dCons (dTup (dCons (dC (.str "row")) (dCons (dLst (dCons (dTup (dCons (dC (.str "do")) (dCons (dC (.str "a")) (dNil)))) (dNil))) (dNil)))) (dCons (dLst (dCons (dC (.str "do")) (dCons (dC (.str "a")) (dNil)))) (dCons (dTup (dCons (dC (.int 5)) (dCons (dC (.str "a")) (dNil)))) (dCons (dC (.int 5)) (dCons (dC (.str "do")) (dNil)))))))))))))
  (bSeq (sSet 14 (dBin dAdd (dVar 14) (dLst (dCons (dTup (dCons (dC (.str "row")) (dCons (dBin dMul (dTup (dCons (dTup (dCons (dC (.str "do")) (dCons (dC (.str "a")) (dNil)))) (dNil))) (dC (.int 31))) (dNil)))) (dCons (dTup (dCons (dC (.str "one")) (dCons (dTup (dCons (dTup (dCons (dC (.str "do")) (dCons (dC (.str "b")) (dNil)))) (dCons (dC .non) (dNil)))) (dNil)))) (dCons (dTup (dCons (dC (.str "all")) (dCons (dTup (dCons (dTup (dCons (dC (.str "do")) (dCons (dC (.str "b")) (dNil)))) (dCons (dTup (dCons (dC (.str "do")) (dCons (dC (.str "z1")) (dNil)))) (dNil)))) (dNil)))) (dCons (dTup (dCons (dC (.str "row")) (dCons (dTup (dCons (dTup (dCons (dC (.str "do")) (dCons (dC (.str "a")) (dNil)))) (dNil))) (dCons (dC (.int 1)) (dNil))))) (dCons (dTup (dCons (dC (.str "again")) (dCons (dTup (dCons (dC (.str "do")) (dCons (dC (.str "a")) (dNil)))) (dCons (dC (.int 2)) (dCons (dC (.int 3)) (dNil)))))) (dNil)))))))))
  (bSeq (sSet 10 (dCallO m__law_within 1 (dCons (dCallO m__law_draw 1 (dCons (dC (.int 12)) (dNil))) (dCons (dCallO m__law_pick 1 (dCons (dVar 14) (dNil))) (dNil)))))
  (sIf (dTb (dBin dNe (dCall m__law_every (dCons (dVar 10) (dNil))) (dBin dMul (dLst (dCons (dC (.str "flow tree")) (dNil))) (dC (.int 7))))) (sNever) (bNil)))))
theorem b0_ok {sc st : D} {x2 x10 x14 : Sl} : sSet 14 (dLst (dCons (dC .non) (dCons (dTup (dNil)) (dCons (dTup (dCons (dC (.str "do")) (dNil))) (dCons (dTup (dCons (dC (.str "do")) (dCons (dC (.str "")) (dNil)))) (dCons (dTup (dCons (dC (.str "do")) (dCons (dC (.str "Ann")) (dNil)))) (dCons (dTup (dCons (dC (.str "do")) (dCons (dBin dMul (dC (.str "a")) (dC (.int 11))) (dNil)))) (dCons (dTup (dCons (dC (.str "do")) (dCons (dC (.int 5)) (dNil)))) (dCons (dTup (dCons (dC (.str "do")) (dCons (dC (.str "a")) (dCons (dC (.str "b")) (dNil))))) (dCons (dTup (dCons (dC (.str "row")) (dCons (dTup (dNil)) (dNil)))) (dCons (dTup (dCons (dC (.str "row")) (dCons (dTup (dCons (dC (.str "do")) (dCons (dC (.str "a")) (dNil)))) (dNil)))) (dCons (dTup (dCons (dC (.str "go")) (dCons (dTup (dCons (dTup (dCons (dC (.str "do")) (dCons (dC (.str "a")) (dNil)))) (dNil))) (dNil)))) (dNil))))))))))))) [.va sc, .ow st, x2, .un, .un, .un, .un, .un, .un, .un, x10, .un, .un, .un, x14, .un] = .ok (.nx, [.va sc, .ow st, x2, .un, .un, .un, .un, .un, .un, .un, x10, .un, .un, .un, .va (.lst W1), .un]) := by kernel_rfl
theorem b1_ok {sc st : D} {x2 x10 x14 : Sl} : sSet 14 (dBin dAdd (dVar 14) (dLst (dCons (dTup (dCons (dC (.str "again")) (dCons (dTup (dCons (dC (.str "do")) (dCons (dC (.str "a")) (dNil)))) (dCons (dC (.int 0)) (dNil))))) (dCons (dTup (dCons (dC (.str "again")) (dCons (dTup (dCons (dC (.str "do")) (dCons (dC (.str "a")) (dNil)))) (dCons (dC (.int 6)) (dNil))))) (dCons (dTup (dCons (dC (.str "again")) (dCons (dTup (dCons (dC (.str "do")) (dCons (dC (.str "a")) (dNil)))) (dCons (dC (.bl true)) (dNil))))) (dCons (dTup (dCons (dC (.str "again")) (dCons (dTup (dCons (dC (.str "do")) (dCons (dC (.str "a")) (dNil)))) (dNil)))) (dCons (dTup (dCons (dC (.str "row")) (dCons (dLst (dCons (dTup (dCons (dC (.str "do")) (dCons (dC (.str "a")) (dNil)))) (dNil))) (dNil)))) (dCons (dLst (dCons (dC (.str "do")) (dCons (dC (.str "a")) (dNil)))) (dCons (dTup (dCons (dC (.int 5)) (dCons (dC (.str "a")) (dNil)))) (dCons (dC (.int 5)) (dCons (dC (.str "do")) (dNil)))))))))))) [.va sc, .ow st, x2, .un, .un, .un, .un, .un, .un, .un, x10, .un, .un, .un, .va (.lst W1), .un] = .ok (.nx, [.va sc, .ow st, x2, .un, .un, .un, .un, .un, .un, .un, x10, .un, .un, .un, .va (.lst W2), .un]) := by kernel_rfl
theorem b2_ok {sc st : D} {x2 x10 x14 : Sl} : sSet 14 (dBin dAdd (dVar 14) (dLst (dCons (dTup (dCons (dC (.str "row")) (dCons (dBin dMul (dTup (dCons (dTup (dCons (dC (.str "do")) (dCons (dC (.str "a")) (dNil)))) (dNil))) (dC (.int 31))) (dNil)))) (dCons (dTup (dCons (dC (.str "one")) (dCons (dTup (dCons (dTup (dCons (dC (.str "do")) (dCons (dC (.str "b")) (dNil)))) (dCons (dC .non) (dNil)))) (dNil)))) (dCons (dTup (dCons (dC (.str "all")) (dCons (dTup (dCons (dTup (dCons (dC (.str "do")) (dCons (dC (.str "b")) (dNil)))) (dCons (dTup (dCons (dC (.str "do")) (dCons (dC (.str "z1")) (dNil)))) (dNil)))) (dNil)))) (dCons (dTup (dCons (dC (.str "row")) (dCons (dTup (dCons (dTup (dCons (dC (.str "do")) (dCons (dC (.str "a")) (dNil)))) (dNil))) (dCons (dC (.int 1)) (dNil))))) (dCons (dTup (dCons (dC (.str "again")) (dCons (dTup (dCons (dC (.str "do")) (dCons (dC (.str "a")) (dNil)))) (dCons (dC (.int 2)) (dCons (dC (.int 3)) (dNil)))))) (dNil)))))))) [.va sc, .ow st, x2, .un, .un, .un, .un, .un, .un, .un, x10, .un, .un, .un, .va (.lst W2), .un] = .ok (.nx, [.va sc, .ow st, x2, .un, .un, .un, .un, .un, .un, .un, x10, .un, .un, .un, .va (.lst WR), .un]) := by kernel_rfl
def F7 (r : Str) : D := .lst [.str r, .str r, .str r, .str r, .str r, .str r, .str r]
theorem f7t : dNe (F7 "flow tree") (F7 "flow tree") = .ok (.bl false) := by kernel_rfl
theorem m7t {env : En} : dBin dMul (dLst (dCons (dC (.str "flow tree")) (dNil))) (dC (.int 7)) env = .ok (F7 "flow tree", env) := by kernel_rfl
theorem every_tree {t : D} (h : m_is_tree [t, .int 12] = .ok (.bl false)) : m__law_every [t] = .ok (F7 "flow tree") := every_err (chk_tree h) rfl
theorem tb_ok {sc st : D} {x2 x10 x14 : Sl} (g : Good st) : ∃ (st' : D) (x10' x14' : Sl), TB [.va sc, .ow st, x2, .un, .un, .un, .un, .un, .un, .un, x10, .un, .un, .un, x14, .un] = .ok (.nx, [.va sc, .ow st', x2, .un, .un, .un, .un, .un, .un, .un, x10', .un, .un, .un, x14', .un]) ∧ Good st' := by
  rw [show TB = bSeq _ _ from rfl, stp b0_ok, stp (b1_ok (x14 := .un)), stp (b2_ok (x14 := .un))]
  obtain ⟨k, st1, q1, k0, k1, g1⟩ := draw1 (sc := sc) (R := [x2, .un, .un, .un, .un, .un, .un, .un, x10, .un, .un, .un, .va (.lst WR), .un]) (m := dC (.int 12)) (n := 12) g rfl (by decide) (by decide)
  obtain ⟨leaf, st2, q2, hw, g2⟩ := pick1 (sc := sc) (R := [x2, .un, .un, .un, .un, .un, .un, .un, x10, .un, .un, .un, .va (.lst WR), .un]) (m := dVar 14) (xs := WR) g1 rfl (by decide) (by decide)
  obtain ⟨n, rfl⟩ : ∃ n : Nat, k = n := ⟨k.toNat, by omega⟩
  obtain ⟨t, st3, q3, w, g3⟩ := within1 (sc := sc) (st := st) (R := [x2, .un, .un, .un, .un, .un, .un, .un, x10, .un, .un, .un, .va (.lst WR), .un]) (ms := dCons (dCallO m__law_draw 1 (dCons (dC (.int 12)) (dNil))) (dCons (dCallO m__law_pick 1 (dCons (dVar 14) (dNil))) (dNil))) (n := n) (leaf := leaf) (dCons_ok q1 (dCons_ok q2 rfl)) g2 (by omega)
  have hk : (12 - n) + n = 12 := by omega
  have ht := is_tree_wr (wrong_tree hw (12 - n) (by omega) (by omega)) w
  rw [fuel16 hk, hk] at ht
  have he := every_tree ht
  rw [stp (sSet_to (i := 9) (env := [.va sc, .ow st, x2, .un, .un, .un, .un, .un, .un, .un, x10, .un, .un, .un, .va (.lst WR), .un]) (e2 := [.va sc, .ow st3, x2, .un, .un, .un, .un, .un, .un, .un, .va t, .un, .un, .un, .va (.lst WR), .un]) q3 rfl)]
  refine ⟨st3, .va t, .va (.lst WR), ?_, g3⟩
  rw [sIf_f (dTb_ok (dBin_ok (dCall1 (a := t) (env' := [.va sc, .ow st3, x2, .un, .un, .un, .un, .un, .un, .un, .va t, .un, .un, .un, .va (.lst WR), .un]) rfl he) m7t f7t))]
  rfl
theorem loop_ok {sc st : D} (g : Good st) : ∃ (st' : D) (x2 x10 x14 : Sl), sFor (dRng (dCons (dC (.int 4)) (dNil))) (gSet 2) (bSeq (sSet 14 (dLst (dCons (dC .non) (dCons (dTup (dNil)) (dCons (dTup (dCons (dC (.str "do")) (dNil))) (dCons (dTup (dCons (dC (.str "do")) (dCons (dC (.str "")) (dNil)))) (dCons (dTup (dCons (dC (.str "do")) (dCons (dC (.str "Ann")) (dNil)))) (dCons (dTup (dCons (dC (.str "do")) (dCons (dBin dMul (dC (.str "a")) (dC (.int 11))) (dNil)))) (dCons (dTup (dCons (dC (.str "do")) (dCons (dC (.int 5)) (dNil)))) (dCons (dTup (dCons (dC (.str "do")) (dCons (dC (.str "a")) (dCons (dC (.str "b")) (dNil))))) (dCons (dTup (dCons (dC (.str "row")) (dCons (dTup (dNil)) (dNil)))) (dCons (dTup (dCons (dC (.str "row")) (dCons (dTup (dCons (dC (.str "do")) (dCons (dC (.str "a")) (dNil)))) (dNil)))) (dCons (dTup (dCons (dC (.str "go")) (dCons (dTup (dCons (dTup (dCons (dC (.str "do")) (dCons (dC (.str "a")) (dNil)))) (dNil))) (dNil)))) (dNil))))))))))))))
  (bSeq (sSet 14 (dBin dAdd (dVar 14) (dLst (dCons (dTup (dCons (dC (.str "again")) (dCons (dTup (dCons (dC (.str "do")) (dCons (dC (.str "a")) (dNil)))) (dCons (dC (.int 0)) (dNil))))) (dCons (dTup (dCons (dC (.str "again")) (dCons (dTup (dCons (dC (.str "do")) (dCons (dC (.str "a")) (dNil)))) (dCons (dC (.int 6)) (dNil))))) (dCons (dTup (dCons (dC (.str "again")) (dCons (dTup (dCons (dC (.str "do")) (dCons (dC (.str "a")) (dNil)))) (dCons (dC (.bl true)) (dNil))))) (dCons (dTup (dCons (dC (.str "again")) (dCons (dTup (dCons (dC (.str "do")) (dCons (dC (.str "a")) (dNil)))) (dNil)))) (dCons (dTup (dCons (dC (.str "row")) (dCons (dLst (dCons (dTup (dCons (dC (.str "do")) (dCons (dC (.str "a")) (dNil)))) (dNil))) (dNil)))) (dCons (dLst (dCons (dC (.str "do")) (dCons (dC (.str "a")) (dNil)))) (dCons (dTup (dCons (dC (.int 5)) (dCons (dC (.str "a")) (dNil)))) (dCons (dC (.int 5)) (dCons (dC (.str "do")) (dNil)))))))))))))
  (bSeq (sSet 14 (dBin dAdd (dVar 14) (dLst (dCons (dTup (dCons (dC (.str "row")) (dCons (dBin dMul (dTup (dCons (dTup (dCons (dC (.str "do")) (dCons (dC (.str "a")) (dNil)))) (dNil))) (dC (.int 31))) (dNil)))) (dCons (dTup (dCons (dC (.str "one")) (dCons (dTup (dCons (dTup (dCons (dC (.str "do")) (dCons (dC (.str "b")) (dNil)))) (dCons (dC .non) (dNil)))) (dNil)))) (dCons (dTup (dCons (dC (.str "all")) (dCons (dTup (dCons (dTup (dCons (dC (.str "do")) (dCons (dC (.str "b")) (dNil)))) (dCons (dTup (dCons (dC (.str "do")) (dCons (dC (.str "z1")) (dNil)))) (dNil)))) (dNil)))) (dCons (dTup (dCons (dC (.str "row")) (dCons (dTup (dCons (dTup (dCons (dC (.str "do")) (dCons (dC (.str "a")) (dNil)))) (dNil))) (dCons (dC (.int 1)) (dNil))))) (dCons (dTup (dCons (dC (.str "again")) (dCons (dTup (dCons (dC (.str "do")) (dCons (dC (.str "a")) (dNil)))) (dCons (dC (.int 2)) (dCons (dC (.int 3)) (dNil)))))) (dNil)))))))))
  (bSeq (sSet 10 (dCallO m__law_within 1 (dCons (dCallO m__law_draw 1 (dCons (dC (.int 12)) (dNil))) (dCons (dCallO m__law_pick 1 (dCons (dVar 14) (dNil))) (dNil)))))
  (sIf (dTb (dBin dNe (dCall m__law_every (dCons (dVar 10) (dNil))) (dBin dMul (dLst (dCons (dC (.str "flow tree")) (dNil))) (dC (.int 7))))) (sNever) (bNil)))))) [.va sc, .ow st, .un, .un, .un, .un, .un, .un, .un, .un, .un, .un, .un, .un, .un, .un] = .ok (.nx, [.va sc, .ow st', x2, .un, .un, .un, .un, .un, .un, .un, x10, .un, .un, .un, x14, .un]) ∧ Good st' := by
  obtain ⟨e', k1, st', x2, x10, x14, rfl, g'⟩ := forL_nx (mt := gSet 2) (mb := TB) (fun e => ∃ (st : D) (x2 x10 x14 : Sl), e = [.va sc, .ow st, x2, .un, .un, .un, .un, .un, .un, .un, x10, .un, .un, .un, x14, .un] ∧ Good st) (rngD 0 1 4) [.va sc, .ow st, .un, .un, .un, .un, .un, .un, .un, .un, .un, .un, .un, .un, .un, .un] (by
    rintro d hd e ⟨st, x2, x10, x14, rfl, g⟩
    obtain ⟨st', y10, y14, q, g'⟩ := tb_ok (sc := sc) (x2 := .va d) (x10 := x10) (x14 := x14) g
    exact ⟨[.va sc, .ow st, .va d, .un, .un, .un, .un, .un, .un, .un, x10, .un, .un, .un, x14, .un], _, rfl, q, st', .va d, y10, y14, rfl, g'⟩) ⟨st, .un, .un, .un, rfl, g⟩
  exact ⟨st', x2, x10, x14, sFor_ok (rngc (n := 4) (by decide)) k1, g'⟩
end LW
end Dn

/-! P04s -/
set_option Elab.async false
set_option linter.all false
set_option maxRecDepth 100000
set_option maxHeartbeats 4000000
namespace Dn
namespace LW
open PySem

def STP : D := D.tup [D.tup [D.str "do", D.str "aa"], D.tup [D.str "do", D.str "ba"], D.tup [D.str "do", D.str "ca"], D.tup [D.str "do", D.str "da"], D.tup [D.str "do", D.str "ea"], D.tup [D.str "do", D.str "fa"], D.tup [D.str "do", D.str "ga"], D.tup [D.str "do", D.str "ha"], D.tup [D.str "do", D.str "ia"], D.tup [D.str "do", D.str "ja"], D.tup [D.str "do", D.str "ka"], D.tup [D.str "do", D.str "la"], D.tup [D.str "do", D.str "ma"], D.tup [D.str "do", D.str "na"], D.tup [D.str "do", D.str "oa"], D.tup [D.str "do", D.str "pa"], D.tup [D.str "do", D.str "qa"], D.tup [D.str "do", D.str "ra"], D.tup [D.str "do", D.str "sa"], D.tup [D.str "do", D.str "ta"], D.tup [D.str "do", D.str "ua"], D.tup [D.str "do", D.str "va"], D.tup [D.str "do", D.str "wa"], D.tup [D.str "do", D.str "xa"], D.tup [D.str "do", D.str "ya"], D.tup [D.str "do", D.str "za"], D.tup [D.str "do", D.str "aaa"], D.tup [D.str "do", D.str "bbb"], D.tup [D.str "do", D.str "ccc"], D.tup [D.str "do", D.str "ddd"]]
def ST8 : D := D.tup [D.tup [D.str "do", D.str "aa"], D.tup [D.str "do", D.str "ba"], D.tup [D.str "do", D.str "ca"], D.tup [D.str "do", D.str "da"], D.tup [D.str "do", D.str "ea"], D.tup [D.str "do", D.str "fa"], D.tup [D.str "do", D.str "ga"], D.tup [D.str "do", D.str "ha"]]
def LNG : D := .tup [.str "again", .tup [.str "again", .tup [.str "row", ST8], .int 5], .int 5]
def q3 (a b c : Int) : D := .tup [.int a, .tup [.int b, .tup [.int c, .bl true]]]
def N200 : D := D.tup [D.str "aa", D.str "ba", D.str "ca", D.str "da", D.str "ea", D.str "fa", D.str "ga", D.str "ha", D.str "aa", D.str "ba", D.str "ca", D.str "da", D.str "ea", D.str "fa", D.str "ga", D.str "ha", D.str "aa", D.str "ba", D.str "ca", D.str "da", D.str "ea", D.str "fa", D.str "ga", D.str "ha", D.str "aa", D.str "ba", D.str "ca", D.str "da", D.str "ea", D.str "fa", D.str "ga", D.str "ha", D.str "aa", D.str "ba", D.str "ca", D.str "da", D.str "ea", D.str "fa", D.str "ga", D.str "ha", D.str "aa", D.str "ba", D.str "ca", D.str "da", D.str "ea", D.str "fa", D.str "ga", D.str "ha", D.str "aa", D.str "ba", D.str "ca", D.str "da", D.str "ea", D.str "fa", D.str "ga", D.str "ha", D.str "aa", D.str "ba", D.str "ca", D.str "da", D.str "ea", D.str "fa", D.str "ga", D.str "ha", D.str "aa", D.str "ba", D.str "ca", D.str "da", D.str "ea", D.str "fa", D.str "ga", D.str "ha", D.str "aa", D.str "ba", D.str "ca", D.str "da", D.str "ea", D.str "fa", D.str "ga", D.str "ha", D.str "aa", D.str "ba", D.str "ca", D.str "da", D.str "ea", D.str "fa", D.str "ga", D.str "ha", D.str "aa", D.str "ba", D.str "ca", D.str "da", D.str "ea", D.str "fa", D.str "ga", D.str "ha", D.str "aa", D.str "ba", D.str "ca", D.str "da", D.str "ea", D.str "fa", D.str "ga", D.str "ha", D.str "aa", D.str "ba", D.str "ca", D.str "da", D.str "ea", D.str "fa", D.str "ga", D.str "ha", D.str "aa", D.str "ba", D.str "ca", D.str "da", D.str "ea", D.str "fa", D.str "ga", D.str "ha", D.str "aa", D.str "ba", D.str "ca", D.str "da", D.str "ea", D.str "fa", D.str "ga", D.str "ha", D.str "aa", D.str "ba", D.str "ca", D.str "da", D.str "ea", D.str "fa", D.str "ga", D.str "ha", D.str "aa", D.str "ba", D.str "ca", D.str "da", D.str "ea", D.str "fa", D.str "ga", D.str "ha", D.str "aa", D.str "ba", D.str "ca", D.str "da", D.str "ea", D.str "fa", D.str "ga", D.str "ha", D.str "aa", D.str "ba", D.str "ca", D.str "da", D.str "ea", D.str "fa", D.str "ga", D.str "ha", D.str "aa", D.str "ba", D.str "ca", D.str "da", D.str "ea", D.str "fa", D.str "ga", D.str "ha", D.str "aa", D.str "ba", D.str "ca", D.str "da", D.str "ea", D.str "fa", D.str "ga", D.str "ha", D.str "aa", D.str "ba", D.str "ca", D.str "da", D.str "ea", D.str "fa", D.str "ga", D.str "ha", D.str "aa", D.str "ba", D.str "ca", D.str "da", D.str "ea", D.str "fa", D.str "ga", D.str "ha", D.str "aa", D.str "ba", D.str "ca", D.str "da", D.str "ea", D.str "fa", D.str "ga", D.str "ha"]
def PR : List D := [D.tup [D.int 0, D.str "aa"], D.tup [D.int 1, D.str "ba"], D.tup [D.int 2, D.str "ca"], D.tup [D.int 3, D.str "da"], D.tup [D.int 4, D.str "ea"], D.tup [D.int 5, D.str "fa"], D.tup [D.int 6, D.str "ga"], D.tup [D.int 7, D.str "ha"], D.tup [D.int 8, D.str "aa"], D.tup [D.int 9, D.str "ba"], D.tup [D.int 10, D.str "ca"], D.tup [D.int 11, D.str "da"], D.tup [D.int 12, D.str "ea"], D.tup [D.int 13, D.str "fa"], D.tup [D.int 14, D.str "ga"], D.tup [D.int 15, D.str "ha"], D.tup [D.int 16, D.str "aa"], D.tup [D.int 17, D.str "ba"], D.tup [D.int 18, D.str "ca"], D.tup [D.int 19, D.str "da"], D.tup [D.int 20, D.str "ea"], D.tup [D.int 21, D.str "fa"], D.tup [D.int 22, D.str "ga"], D.tup [D.int 23, D.str "ha"], D.tup [D.int 24, D.str "aa"], D.tup [D.int 25, D.str "ba"], D.tup [D.int 26, D.str "ca"], D.tup [D.int 27, D.str "da"], D.tup [D.int 28, D.str "ea"], D.tup [D.int 29, D.str "fa"], D.tup [D.int 30, D.str "ga"], D.tup [D.int 31, D.str "ha"], D.tup [D.int 32, D.str "aa"], D.tup [D.int 33, D.str "ba"], D.tup [D.int 34, D.str "ca"], D.tup [D.int 35, D.str "da"], D.tup [D.int 36, D.str "ea"], D.tup [D.int 37, D.str "fa"], D.tup [D.int 38, D.str "ga"], D.tup [D.int 39, D.str "ha"], D.tup [D.int 40, D.str "aa"], D.tup [D.int 41, D.str "ba"], D.tup [D.int 42, D.str "ca"], D.tup [D.int 43, D.str "da"], D.tup [D.int 44, D.str "ea"], D.tup [D.int 45, D.str "fa"], D.tup [D.int 46, D.str "ga"], D.tup [D.int 47, D.str "ha"], D.tup [D.int 48, D.str "aa"], D.tup [D.int 49, D.str "ba"], D.tup [D.int 50, D.str "ca"], D.tup [D.int 51, D.str "da"], D.tup [D.int 52, D.str "ea"], D.tup [D.int 53, D.str "fa"], D.tup [D.int 54, D.str "ga"], D.tup [D.int 55, D.str "ha"], D.tup [D.int 56, D.str "aa"], D.tup [D.int 57, D.str "ba"], D.tup [D.int 58, D.str "ca"], D.tup [D.int 59, D.str "da"], D.tup [D.int 60, D.str "ea"], D.tup [D.int 61, D.str "fa"], D.tup [D.int 62, D.str "ga"], D.tup [D.int 63, D.str "ha"], D.tup [D.int 64, D.str "aa"], D.tup [D.int 65, D.str "ba"], D.tup [D.int 66, D.str "ca"], D.tup [D.int 67, D.str "da"], D.tup [D.int 68, D.str "ea"], D.tup [D.int 69, D.str "fa"], D.tup [D.int 70, D.str "ga"], D.tup [D.int 71, D.str "ha"], D.tup [D.int 72, D.str "aa"], D.tup [D.int 73, D.str "ba"], D.tup [D.int 74, D.str "ca"], D.tup [D.int 75, D.str "da"], D.tup [D.int 76, D.str "ea"], D.tup [D.int 77, D.str "fa"], D.tup [D.int 78, D.str "ga"], D.tup [D.int 79, D.str "ha"], D.tup [D.int 80, D.str "aa"], D.tup [D.int 81, D.str "ba"], D.tup [D.int 82, D.str "ca"], D.tup [D.int 83, D.str "da"], D.tup [D.int 84, D.str "ea"], D.tup [D.int 85, D.str "fa"], D.tup [D.int 86, D.str "ga"], D.tup [D.int 87, D.str "ha"], D.tup [D.int 88, D.str "aa"], D.tup [D.int 89, D.str "ba"], D.tup [D.int 90, D.str "ca"], D.tup [D.int 91, D.str "da"], D.tup [D.int 92, D.str "ea"], D.tup [D.int 93, D.str "fa"], D.tup [D.int 94, D.str "ga"], D.tup [D.int 95, D.str "ha"], D.tup [D.int 96, D.str "aa"], D.tup [D.int 97, D.str "ba"], D.tup [D.int 98, D.str "ca"], D.tup [D.int 99, D.str "da"], D.tup [D.int 100, D.str "ea"], D.tup [D.int 101, D.str "fa"], D.tup [D.int 102, D.str "ga"], D.tup [D.int 103, D.str "ha"], D.tup [D.int 104, D.str "aa"], D.tup [D.int 105, D.str "ba"], D.tup [D.int 106, D.str "ca"], D.tup [D.int 107, D.str "da"], D.tup [D.int 108, D.str "ea"], D.tup [D.int 109, D.str "fa"], D.tup [D.int 110, D.str "ga"], D.tup [D.int 111, D.str "ha"], D.tup [D.int 112, D.str "aa"], D.tup [D.int 113, D.str "ba"], D.tup [D.int 114, D.str "ca"], D.tup [D.int 115, D.str "da"], D.tup [D.int 116, D.str "ea"], D.tup [D.int 117, D.str "fa"], D.tup [D.int 118, D.str "ga"], D.tup [D.int 119, D.str "ha"], D.tup [D.int 120, D.str "aa"], D.tup [D.int 121, D.str "ba"], D.tup [D.int 122, D.str "ca"], D.tup [D.int 123, D.str "da"], D.tup [D.int 124, D.str "ea"], D.tup [D.int 125, D.str "fa"], D.tup [D.int 126, D.str "ga"], D.tup [D.int 127, D.str "ha"], D.tup [D.int 128, D.str "aa"], D.tup [D.int 129, D.str "ba"], D.tup [D.int 130, D.str "ca"], D.tup [D.int 131, D.str "da"], D.tup [D.int 132, D.str "ea"], D.tup [D.int 133, D.str "fa"], D.tup [D.int 134, D.str "ga"], D.tup [D.int 135, D.str "ha"], D.tup [D.int 136, D.str "aa"], D.tup [D.int 137, D.str "ba"], D.tup [D.int 138, D.str "ca"], D.tup [D.int 139, D.str "da"], D.tup [D.int 140, D.str "ea"], D.tup [D.int 141, D.str "fa"], D.tup [D.int 142, D.str "ga"], D.tup [D.int 143, D.str "ha"], D.tup [D.int 144, D.str "aa"], D.tup [D.int 145, D.str "ba"], D.tup [D.int 146, D.str "ca"], D.tup [D.int 147, D.str "da"], D.tup [D.int 148, D.str "ea"], D.tup [D.int 149, D.str "fa"], D.tup [D.int 150, D.str "ga"], D.tup [D.int 151, D.str "ha"], D.tup [D.int 152, D.str "aa"], D.tup [D.int 153, D.str "ba"], D.tup [D.int 154, D.str "ca"], D.tup [D.int 155, D.str "da"], D.tup [D.int 156, D.str "ea"], D.tup [D.int 157, D.str "fa"], D.tup [D.int 158, D.str "ga"], D.tup [D.int 159, D.str "ha"], D.tup [D.int 160, D.str "aa"], D.tup [D.int 161, D.str "ba"], D.tup [D.int 162, D.str "ca"], D.tup [D.int 163, D.str "da"], D.tup [D.int 164, D.str "ea"], D.tup [D.int 165, D.str "fa"], D.tup [D.int 166, D.str "ga"], D.tup [D.int 167, D.str "ha"], D.tup [D.int 168, D.str "aa"], D.tup [D.int 169, D.str "ba"], D.tup [D.int 170, D.str "ca"], D.tup [D.int 171, D.str "da"], D.tup [D.int 172, D.str "ea"], D.tup [D.int 173, D.str "fa"], D.tup [D.int 174, D.str "ga"], D.tup [D.int 175, D.str "ha"], D.tup [D.int 176, D.str "aa"], D.tup [D.int 177, D.str "ba"], D.tup [D.int 178, D.str "ca"], D.tup [D.int 179, D.str "da"], D.tup [D.int 180, D.str "ea"], D.tup [D.int 181, D.str "fa"], D.tup [D.int 182, D.str "ga"], D.tup [D.int 183, D.str "ha"], D.tup [D.int 184, D.str "aa"], D.tup [D.int 185, D.str "ba"], D.tup [D.int 186, D.str "ca"], D.tup [D.int 187, D.str "da"], D.tup [D.int 188, D.str "ea"], D.tup [D.int 189, D.str "fa"], D.tup [D.int 190, D.str "ga"], D.tup [D.int 191, D.str "ha"], D.tup [D.int 192, D.str "aa"], D.tup [D.int 193, D.str "ba"], D.tup [D.int 194, D.str "ca"], D.tup [D.int 195, D.str "da"], D.tup [D.int 196, D.str "ea"], D.tup [D.int 197, D.str "fa"], D.tup [D.int 198, D.str "ga"], D.tup [D.int 199, D.str "ha"]]
def S_0 : D := .lst [.non]
def S_1 : D := .lst [q3 0 0 0]
def S_2 : D := .lst [q3 0 0 1]
def S_3 : D := .lst [q3 0 0 2]
def S_4 : D := .lst [q3 0 0 3]
def S_5 : D := .lst [q3 0 0 4]
def S_6 : D := .lst [q3 0 0 5]
def S_7 : D := .lst [q3 0 0 6]
def S_8 : D := .lst [q3 0 0 7]
def S_9 : D := .lst [q3 0 1 0, q3 1 0 0]
def S_10 : D := .lst [q3 0 1 1, q3 1 0 1]
def S_11 : D := .lst [q3 0 1 2, q3 1 0 2]
def S_12 : D := .lst [q3 0 1 3, q3 1 0 3]
def S_13 : D := .lst [q3 0 1 4, q3 1 0 4]
def S_14 : D := .lst [q3 0 1 5, q3 1 0 5]
def S_15 : D := .lst [q3 0 1 6, q3 1 0 6]
def S_16 : D := .lst [q3 0 1 7, q3 1 0 7]
def S_17 : D := .lst [q3 0 2 0, q3 1 0 0, q3 1 1 0, q3 2 0 0]
def S_18 : D := .lst [q3 0 2 1, q3 1 0 1, q3 1 1 1, q3 2 0 1]
def S_19 : D := .lst [q3 0 2 2, q3 1 0 2, q3 1 1 2, q3 2 0 2]
def S_20 : D := .lst [q3 0 2 3, q3 1 0 3, q3 1 1 3, q3 2 0 3]
def S_21 : D := .lst [q3 0 2 4, q3 1 0 4, q3 1 1 4, q3 2 0 4]
def S_22 : D := .lst [q3 0 2 5, q3 1 0 5, q3 1 1 5, q3 2 0 5]
def S_23 : D := .lst [q3 0 2 6, q3 1 0 6, q3 1 1 6, q3 2 0 6]
def S_24 : D := .lst [q3 0 2 7, q3 1 0 7, q3 1 1 7, q3 2 0 7]
def S_25 : D := .lst [q3 0 3 0, q3 1 0 0, q3 1 1 0, q3 2 0 0, q3 1 2 0, q3 2 1 0, q3 3 0 0]
def S_26 : D := .lst [q3 0 3 1, q3 1 0 1, q3 1 1 1, q3 2 0 1, q3 1 2 1, q3 2 1 1, q3 3 0 1]
def S_27 : D := .lst [q3 0 3 2, q3 1 0 2, q3 1 1 2, q3 2 0 2, q3 1 2 2, q3 2 1 2, q3 3 0 2]
def S_28 : D := .lst [q3 0 3 3, q3 1 0 3, q3 1 1 3, q3 2 0 3, q3 1 2 3, q3 2 1 3, q3 3 0 3]
def S_29 : D := .lst [q3 0 3 4, q3 1 0 4, q3 1 1 4, q3 2 0 4, q3 1 2 4, q3 2 1 4, q3 3 0 4]
def S_30 : D := .lst [q3 0 3 5, q3 1 0 5, q3 1 1 5, q3 2 0 5, q3 1 2 5, q3 2 1 5, q3 3 0 5]
def S_31 : D := .lst [q3 0 3 6, q3 1 0 6, q3 1 1 6, q3 2 0 6, q3 1 2 6, q3 2 1 6, q3 3 0 6]
def S_32 : D := .lst [q3 0 3 7, q3 1 0 7, q3 1 1 7, q3 2 0 7, q3 1 2 7, q3 2 1 7, q3 3 0 7]
def S_33 : D := .lst [q3 0 4 0, q3 1 0 0, q3 1 1 0, q3 2 0 0, q3 1 2 0, q3 2 1 0, q3 3 0 0, q3 1 3 0, q3 2 2 0, q3 3 1 0, q3 4 0 0]
def S_34 : D := .lst [q3 0 4 1, q3 1 0 1, q3 1 1 1, q3 2 0 1, q3 1 2 1, q3 2 1 1, q3 3 0 1, q3 1 3 1, q3 2 2 1, q3 3 1 1, q3 4 0 1]
def S_35 : D := .lst [q3 0 4 2, q3 1 0 2, q3 1 1 2, q3 2 0 2, q3 1 2 2, q3 2 1 2, q3 3 0 2, q3 1 3 2, q3 2 2 2, q3 3 1 2, q3 4 0 2]
def S_36 : D := .lst [q3 0 4 3, q3 1 0 3, q3 1 1 3, q3 2 0 3, q3 1 2 3, q3 2 1 3, q3 3 0 3, q3 1 3 3, q3 2 2 3, q3 3 1 3, q3 4 0 3]
def S_37 : D := .lst [q3 0 4 4, q3 1 0 4, q3 1 1 4, q3 2 0 4, q3 1 2 4, q3 2 1 4, q3 3 0 4, q3 1 3 4, q3 2 2 4, q3 3 1 4, q3 4 0 4]
def S_38 : D := .lst [q3 0 4 5, q3 1 0 5, q3 1 1 5, q3 2 0 5, q3 1 2 5, q3 2 1 5, q3 3 0 5, q3 1 3 5, q3 2 2 5, q3 3 1 5, q3 4 0 5]
def S_39 : D := .lst [q3 0 4 6, q3 1 0 6, q3 1 1 6, q3 2 0 6, q3 1 2 6, q3 2 1 6, q3 3 0 6, q3 1 3 6, q3 2 2 6, q3 3 1 6, q3 4 0 6]
def S_40 : D := .lst [q3 0 4 7, q3 1 0 7, q3 1 1 7, q3 2 0 7, q3 1 2 7, q3 2 1 7, q3 3 0 7, q3 1 3 7, q3 2 2 7, q3 3 1 7, q3 4 0 7]
def S_41 : D := .lst [q3 1 0 0, q3 1 1 0, q3 2 0 0, q3 1 2 0, q3 2 1 0, q3 3 0 0, q3 1 3 0, q3 2 2 0, q3 3 1 0, q3 4 0 0, q3 1 4 0, q3 2 3 0, q3 3 2 0, q3 4 1 0]
def S_42 : D := .lst [q3 1 0 1, q3 1 1 1, q3 2 0 1, q3 1 2 1, q3 2 1 1, q3 3 0 1, q3 1 3 1, q3 2 2 1, q3 3 1 1, q3 4 0 1, q3 1 4 1, q3 2 3 1, q3 3 2 1, q3 4 1 1]
def S_43 : D := .lst [q3 1 0 2, q3 1 1 2, q3 2 0 2, q3 1 2 2, q3 2 1 2, q3 3 0 2, q3 1 3 2, q3 2 2 2, q3 3 1 2, q3 4 0 2, q3 1 4 2, q3 2 3 2, q3 3 2 2, q3 4 1 2]
def S_44 : D := .lst [q3 1 0 3, q3 1 1 3, q3 2 0 3, q3 1 2 3, q3 2 1 3, q3 3 0 3, q3 1 3 3, q3 2 2 3, q3 3 1 3, q3 4 0 3, q3 1 4 3, q3 2 3 3, q3 3 2 3, q3 4 1 3]
def S_45 : D := .lst [q3 1 0 4, q3 1 1 4, q3 2 0 4, q3 1 2 4, q3 2 1 4, q3 3 0 4, q3 1 3 4, q3 2 2 4, q3 3 1 4, q3 4 0 4, q3 1 4 4, q3 2 3 4, q3 3 2 4, q3 4 1 4]
def S_46 : D := .lst [q3 1 0 5, q3 1 1 5, q3 2 0 5, q3 1 2 5, q3 2 1 5, q3 3 0 5, q3 1 3 5, q3 2 2 5, q3 3 1 5, q3 4 0 5, q3 1 4 5, q3 2 3 5, q3 3 2 5, q3 4 1 5]
def S_47 : D := .lst [q3 1 0 6, q3 1 1 6, q3 2 0 6, q3 1 2 6, q3 2 1 6, q3 3 0 6, q3 1 3 6, q3 2 2 6, q3 3 1 6, q3 4 0 6, q3 1 4 6, q3 2 3 6, q3 3 2 6, q3 4 1 6]
def S_48 : D := .lst [q3 1 0 7, q3 1 1 7, q3 2 0 7, q3 1 2 7, q3 2 1 7, q3 3 0 7, q3 1 3 7, q3 2 2 7, q3 3 1 7, q3 4 0 7, q3 1 4 7, q3 2 3 7, q3 3 2 7, q3 4 1 7]
def S_49 : D := .lst [q3 1 1 0, q3 2 0 0, q3 1 2 0, q3 2 1 0, q3 3 0 0, q3 1 3 0, q3 2 2 0, q3 3 1 0, q3 4 0 0, q3 1 4 0, q3 2 3 0, q3 3 2 0, q3 4 1 0, q3 2 4 0, q3 3 3 0, q3 4 2 0]
def S_50 : D := .lst [q3 1 1 1, q3 2 0 1, q3 1 2 1, q3 2 1 1, q3 3 0 1, q3 1 3 1, q3 2 2 1, q3 3 1 1, q3 4 0 1, q3 1 4 1, q3 2 3 1, q3 3 2 1, q3 4 1 1, q3 2 4 1, q3 3 3 1, q3 4 2 1]
def S_51 : D := .lst [q3 1 1 2, q3 2 0 2, q3 1 2 2, q3 2 1 2, q3 3 0 2, q3 1 3 2, q3 2 2 2, q3 3 1 2, q3 4 0 2, q3 1 4 2, q3 2 3 2, q3 3 2 2, q3 4 1 2, q3 2 4 2, q3 3 3 2, q3 4 2 2]
def S_52 : D := .lst [q3 1 1 3, q3 2 0 3, q3 1 2 3, q3 2 1 3, q3 3 0 3, q3 1 3 3, q3 2 2 3, q3 3 1 3, q3 4 0 3, q3 1 4 3, q3 2 3 3, q3 3 2 3, q3 4 1 3, q3 2 4 3, q3 3 3 3, q3 4 2 3]
def S_53 : D := .lst [q3 1 1 4, q3 2 0 4, q3 1 2 4, q3 2 1 4, q3 3 0 4, q3 1 3 4, q3 2 2 4, q3 3 1 4, q3 4 0 4, q3 1 4 4, q3 2 3 4, q3 3 2 4, q3 4 1 4, q3 2 4 4, q3 3 3 4, q3 4 2 4]
def S_54 : D := .lst [q3 1 1 5, q3 2 0 5, q3 1 2 5, q3 2 1 5, q3 3 0 5, q3 1 3 5, q3 2 2 5, q3 3 1 5, q3 4 0 5, q3 1 4 5, q3 2 3 5, q3 3 2 5, q3 4 1 5, q3 2 4 5, q3 3 3 5, q3 4 2 5]
def S_55 : D := .lst [q3 1 1 6, q3 2 0 6, q3 1 2 6, q3 2 1 6, q3 3 0 6, q3 1 3 6, q3 2 2 6, q3 3 1 6, q3 4 0 6, q3 1 4 6, q3 2 3 6, q3 3 2 6, q3 4 1 6, q3 2 4 6, q3 3 3 6, q3 4 2 6]
def S_56 : D := .lst [q3 1 1 7, q3 2 0 7, q3 1 2 7, q3 2 1 7, q3 3 0 7, q3 1 3 7, q3 2 2 7, q3 3 1 7, q3 4 0 7, q3 1 4 7, q3 2 3 7, q3 3 2 7, q3 4 1 7, q3 2 4 7, q3 3 3 7, q3 4 2 7]
def S_57 : D := .lst [q3 1 2 0, q3 2 0 0, q3 2 1 0, q3 3 0 0, q3 1 3 0, q3 2 2 0, q3 3 1 0, q3 4 0 0, q3 1 4 0, q3 2 3 0, q3 3 2 0, q3 4 1 0, q3 2 4 0, q3 3 3 0, q3 4 2 0, q3 3 4 0, q3 4 3 0]
def S_58 : D := .lst [q3 1 2 1, q3 2 0 1, q3 2 1 1, q3 3 0 1, q3 1 3 1, q3 2 2 1, q3 3 1 1, q3 4 0 1, q3 1 4 1, q3 2 3 1, q3 3 2 1, q3 4 1 1, q3 2 4 1, q3 3 3 1, q3 4 2 1, q3 3 4 1, q3 4 3 1]
def S_59 : D := .lst [q3 1 2 2, q3 2 0 2, q3 2 1 2, q3 3 0 2, q3 1 3 2, q3 2 2 2, q3 3 1 2, q3 4 0 2, q3 1 4 2, q3 2 3 2, q3 3 2 2, q3 4 1 2, q3 2 4 2, q3 3 3 2, q3 4 2 2, q3 3 4 2, q3 4 3 2]
def S_60 : D := .lst [q3 1 2 3, q3 2 0 3, q3 2 1 3, q3 3 0 3, q3 1 3 3, q3 2 2 3, q3 3 1 3, q3 4 0 3, q3 1 4 3, q3 2 3 3, q3 3 2 3, q3 4 1 3, q3 2 4 3, q3 3 3 3, q3 4 2 3, q3 3 4 3, q3 4 3 3]
def S_61 : D := .lst [q3 1 2 4, q3 2 0 4, q3 2 1 4, q3 3 0 4, q3 1 3 4, q3 2 2 4, q3 3 1 4, q3 4 0 4, q3 1 4 4, q3 2 3 4, q3 3 2 4, q3 4 1 4, q3 2 4 4, q3 3 3 4, q3 4 2 4, q3 3 4 4, q3 4 3 4]
def S_62 : D := .lst [q3 1 2 5, q3 2 0 5, q3 2 1 5, q3 3 0 5, q3 1 3 5, q3 2 2 5, q3 3 1 5, q3 4 0 5, q3 1 4 5, q3 2 3 5, q3 3 2 5, q3 4 1 5, q3 2 4 5, q3 3 3 5, q3 4 2 5, q3 3 4 5, q3 4 3 5]
def S_63 : D := .lst [q3 1 2 6, q3 2 0 6, q3 2 1 6, q3 3 0 6, q3 1 3 6, q3 2 2 6, q3 3 1 6, q3 4 0 6, q3 1 4 6, q3 2 3 6, q3 3 2 6, q3 4 1 6, q3 2 4 6, q3 3 3 6, q3 4 2 6, q3 3 4 6, q3 4 3 6]
def S_64 : D := .lst [q3 1 2 7, q3 2 0 7, q3 2 1 7, q3 3 0 7, q3 1 3 7, q3 2 2 7, q3 3 1 7, q3 4 0 7, q3 1 4 7, q3 2 3 7, q3 3 2 7, q3 4 1 7, q3 2 4 7, q3 3 3 7, q3 4 2 7, q3 3 4 7, q3 4 3 7]
def S_65 : D := .lst [q3 1 3 0, q3 2 0 0, q3 2 1 0, q3 3 0 0, q3 2 2 0, q3 3 1 0, q3 4 0 0, q3 1 4 0, q3 2 3 0, q3 3 2 0, q3 4 1 0, q3 2 4 0, q3 3 3 0, q3 4 2 0, q3 3 4 0, q3 4 3 0, q3 4 4 0]
def S_66 : D := .lst [q3 1 3 1, q3 2 0 1, q3 2 1 1, q3 3 0 1, q3 2 2 1, q3 3 1 1, q3 4 0 1, q3 1 4 1, q3 2 3 1, q3 3 2 1, q3 4 1 1, q3 2 4 1, q3 3 3 1, q3 4 2 1, q3 3 4 1, q3 4 3 1, q3 4 4 1]
def S_67 : D := .lst [q3 1 3 2, q3 2 0 2, q3 2 1 2, q3 3 0 2, q3 2 2 2, q3 3 1 2, q3 4 0 2, q3 1 4 2, q3 2 3 2, q3 3 2 2, q3 4 1 2, q3 2 4 2, q3 3 3 2, q3 4 2 2, q3 3 4 2, q3 4 3 2, q3 4 4 2]
def S_68 : D := .lst [q3 1 3 3, q3 2 0 3, q3 2 1 3, q3 3 0 3, q3 2 2 3, q3 3 1 3, q3 4 0 3, q3 1 4 3, q3 2 3 3, q3 3 2 3, q3 4 1 3, q3 2 4 3, q3 3 3 3, q3 4 2 3, q3 3 4 3, q3 4 3 3, q3 4 4 3]
def S_69 : D := .lst [q3 1 3 4, q3 2 0 4, q3 2 1 4, q3 3 0 4, q3 2 2 4, q3 3 1 4, q3 4 0 4, q3 1 4 4, q3 2 3 4, q3 3 2 4, q3 4 1 4, q3 2 4 4, q3 3 3 4, q3 4 2 4, q3 3 4 4, q3 4 3 4, q3 4 4 4]
def S_70 : D := .lst [q3 1 3 5, q3 2 0 5, q3 2 1 5, q3 3 0 5, q3 2 2 5, q3 3 1 5, q3 4 0 5, q3 1 4 5, q3 2 3 5, q3 3 2 5, q3 4 1 5, q3 2 4 5, q3 3 3 5, q3 4 2 5, q3 3 4 5, q3 4 3 5, q3 4 4 5]
def S_71 : D := .lst [q3 1 3 6, q3 2 0 6, q3 2 1 6, q3 3 0 6, q3 2 2 6, q3 3 1 6, q3 4 0 6, q3 1 4 6, q3 2 3 6, q3 3 2 6, q3 4 1 6, q3 2 4 6, q3 3 3 6, q3 4 2 6, q3 3 4 6, q3 4 3 6, q3 4 4 6]
def S_72 : D := .lst [q3 1 3 7, q3 2 0 7, q3 2 1 7, q3 3 0 7, q3 2 2 7, q3 3 1 7, q3 4 0 7, q3 1 4 7, q3 2 3 7, q3 3 2 7, q3 4 1 7, q3 2 4 7, q3 3 3 7, q3 4 2 7, q3 3 4 7, q3 4 3 7, q3 4 4 7]
def S_73 : D := .lst [q3 1 4 0, q3 2 0 0, q3 2 1 0, q3 3 0 0, q3 2 2 0, q3 3 1 0, q3 4 0 0, q3 2 3 0, q3 3 2 0, q3 4 1 0, q3 2 4 0, q3 3 3 0, q3 4 2 0, q3 3 4 0, q3 4 3 0, q3 4 4 0]
def S_74 : D := .lst [q3 1 4 1, q3 2 0 1, q3 2 1 1, q3 3 0 1, q3 2 2 1, q3 3 1 1, q3 4 0 1, q3 2 3 1, q3 3 2 1, q3 4 1 1, q3 2 4 1, q3 3 3 1, q3 4 2 1, q3 3 4 1, q3 4 3 1, q3 4 4 1]
def S_75 : D := .lst [q3 1 4 2, q3 2 0 2, q3 2 1 2, q3 3 0 2, q3 2 2 2, q3 3 1 2, q3 4 0 2, q3 2 3 2, q3 3 2 2, q3 4 1 2, q3 2 4 2, q3 3 3 2, q3 4 2 2, q3 3 4 2, q3 4 3 2, q3 4 4 2]
def S_76 : D := .lst [q3 1 4 3, q3 2 0 3, q3 2 1 3, q3 3 0 3, q3 2 2 3, q3 3 1 3, q3 4 0 3, q3 2 3 3, q3 3 2 3, q3 4 1 3, q3 2 4 3, q3 3 3 3, q3 4 2 3, q3 3 4 3, q3 4 3 3, q3 4 4 3]
def S_77 : D := .lst [q3 1 4 4, q3 2 0 4, q3 2 1 4, q3 3 0 4, q3 2 2 4, q3 3 1 4, q3 4 0 4, q3 2 3 4, q3 3 2 4, q3 4 1 4, q3 2 4 4, q3 3 3 4, q3 4 2 4, q3 3 4 4, q3 4 3 4, q3 4 4 4]
def S_78 : D := .lst [q3 1 4 5, q3 2 0 5, q3 2 1 5, q3 3 0 5, q3 2 2 5, q3 3 1 5, q3 4 0 5, q3 2 3 5, q3 3 2 5, q3 4 1 5, q3 2 4 5, q3 3 3 5, q3 4 2 5, q3 3 4 5, q3 4 3 5, q3 4 4 5]
def S_79 : D := .lst [q3 1 4 6, q3 2 0 6, q3 2 1 6, q3 3 0 6, q3 2 2 6, q3 3 1 6, q3 4 0 6, q3 2 3 6, q3 3 2 6, q3 4 1 6, q3 2 4 6, q3 3 3 6, q3 4 2 6, q3 3 4 6, q3 4 3 6, q3 4 4 6]
def S_80 : D := .lst [q3 1 4 7, q3 2 0 7, q3 2 1 7, q3 3 0 7, q3 2 2 7, q3 3 1 7, q3 4 0 7, q3 2 3 7, q3 3 2 7, q3 4 1 7, q3 2 4 7, q3 3 3 7, q3 4 2 7, q3 3 4 7, q3 4 3 7, q3 4 4 7]
def S_81 : D := .lst [q3 2 0 0, q3 2 1 0, q3 3 0 0, q3 2 2 0, q3 3 1 0, q3 4 0 0, q3 2 3 0, q3 3 2 0, q3 4 1 0, q3 2 4 0, q3 3 3 0, q3 4 2 0, q3 3 4 0, q3 4 3 0, q3 4 4 0]
def S_82 : D := .lst [q3 2 0 1, q3 2 1 1, q3 3 0 1, q3 2 2 1, q3 3 1 1, q3 4 0 1, q3 2 3 1, q3 3 2 1, q3 4 1 1, q3 2 4 1, q3 3 3 1, q3 4 2 1, q3 3 4 1, q3 4 3 1, q3 4 4 1]
def S_83 : D := .lst [q3 2 0 2, q3 2 1 2, q3 3 0 2, q3 2 2 2, q3 3 1 2, q3 4 0 2, q3 2 3 2, q3 3 2 2, q3 4 1 2, q3 2 4 2, q3 3 3 2, q3 4 2 2, q3 3 4 2, q3 4 3 2, q3 4 4 2]
def S_84 : D := .lst [q3 2 0 3, q3 2 1 3, q3 3 0 3, q3 2 2 3, q3 3 1 3, q3 4 0 3, q3 2 3 3, q3 3 2 3, q3 4 1 3, q3 2 4 3, q3 3 3 3, q3 4 2 3, q3 3 4 3, q3 4 3 3, q3 4 4 3]
def S_85 : D := .lst [q3 2 0 4, q3 2 1 4, q3 3 0 4, q3 2 2 4, q3 3 1 4, q3 4 0 4, q3 2 3 4, q3 3 2 4, q3 4 1 4, q3 2 4 4, q3 3 3 4, q3 4 2 4, q3 3 4 4, q3 4 3 4, q3 4 4 4]
def S_86 : D := .lst [q3 2 0 5, q3 2 1 5, q3 3 0 5, q3 2 2 5, q3 3 1 5, q3 4 0 5, q3 2 3 5, q3 3 2 5, q3 4 1 5, q3 2 4 5, q3 3 3 5, q3 4 2 5, q3 3 4 5, q3 4 3 5, q3 4 4 5]
def S_87 : D := .lst [q3 2 0 6, q3 2 1 6, q3 3 0 6, q3 2 2 6, q3 3 1 6, q3 4 0 6, q3 2 3 6, q3 3 2 6, q3 4 1 6, q3 2 4 6, q3 3 3 6, q3 4 2 6, q3 3 4 6, q3 4 3 6, q3 4 4 6]
def S_88 : D := .lst [q3 2 0 7, q3 2 1 7, q3 3 0 7, q3 2 2 7, q3 3 1 7, q3 4 0 7, q3 2 3 7, q3 3 2 7, q3 4 1 7, q3 2 4 7, q3 3 3 7, q3 4 2 7, q3 3 4 7, q3 4 3 7, q3 4 4 7]
def S_89 : D := .lst [q3 2 1 0, q3 3 0 0, q3 2 2 0, q3 3 1 0, q3 4 0 0, q3 2 3 0, q3 3 2 0, q3 4 1 0, q3 2 4 0, q3 3 3 0, q3 4 2 0, q3 3 4 0, q3 4 3 0, q3 4 4 0]
def S_90 : D := .lst [q3 2 1 1, q3 3 0 1, q3 2 2 1, q3 3 1 1, q3 4 0 1, q3 2 3 1, q3 3 2 1, q3 4 1 1, q3 2 4 1, q3 3 3 1, q3 4 2 1, q3 3 4 1, q3 4 3 1, q3 4 4 1]
def S_91 : D := .lst [q3 2 1 2, q3 3 0 2, q3 2 2 2, q3 3 1 2, q3 4 0 2, q3 2 3 2, q3 3 2 2, q3 4 1 2, q3 2 4 2, q3 3 3 2, q3 4 2 2, q3 3 4 2, q3 4 3 2, q3 4 4 2]
def S_92 : D := .lst [q3 2 1 3, q3 3 0 3, q3 2 2 3, q3 3 1 3, q3 4 0 3, q3 2 3 3, q3 3 2 3, q3 4 1 3, q3 2 4 3, q3 3 3 3, q3 4 2 3, q3 3 4 3, q3 4 3 3, q3 4 4 3]
def S_93 : D := .lst [q3 2 1 4, q3 3 0 4, q3 2 2 4, q3 3 1 4, q3 4 0 4, q3 2 3 4, q3 3 2 4, q3 4 1 4, q3 2 4 4, q3 3 3 4, q3 4 2 4, q3 3 4 4, q3 4 3 4, q3 4 4 4]
def S_94 : D := .lst [q3 2 1 5, q3 3 0 5, q3 2 2 5, q3 3 1 5, q3 4 0 5, q3 2 3 5, q3 3 2 5, q3 4 1 5, q3 2 4 5, q3 3 3 5, q3 4 2 5, q3 3 4 5, q3 4 3 5, q3 4 4 5]
def S_95 : D := .lst [q3 2 1 6, q3 3 0 6, q3 2 2 6, q3 3 1 6, q3 4 0 6, q3 2 3 6, q3 3 2 6, q3 4 1 6, q3 2 4 6, q3 3 3 6, q3 4 2 6, q3 3 4 6, q3 4 3 6, q3 4 4 6]
def S_96 : D := .lst [q3 2 1 7, q3 3 0 7, q3 2 2 7, q3 3 1 7, q3 4 0 7, q3 2 3 7, q3 3 2 7, q3 4 1 7, q3 2 4 7, q3 3 3 7, q3 4 2 7, q3 3 4 7, q3 4 3 7, q3 4 4 7]
def S_97 : D := .lst [q3 2 2 0, q3 3 0 0, q3 3 1 0, q3 4 0 0, q3 2 3 0, q3 3 2 0, q3 4 1 0, q3 2 4 0, q3 3 3 0, q3 4 2 0, q3 3 4 0, q3 4 3 0, q3 4 4 0]
def S_98 : D := .lst [q3 2 2 1, q3 3 0 1, q3 3 1 1, q3 4 0 1, q3 2 3 1, q3 3 2 1, q3 4 1 1, q3 2 4 1, q3 3 3 1, q3 4 2 1, q3 3 4 1, q3 4 3 1, q3 4 4 1]
def S_99 : D := .lst [q3 2 2 2, q3 3 0 2, q3 3 1 2, q3 4 0 2, q3 2 3 2, q3 3 2 2, q3 4 1 2, q3 2 4 2, q3 3 3 2, q3 4 2 2, q3 3 4 2, q3 4 3 2, q3 4 4 2]
def S_100 : D := .lst [q3 2 2 3, q3 3 0 3, q3 3 1 3, q3 4 0 3, q3 2 3 3, q3 3 2 3, q3 4 1 3, q3 2 4 3, q3 3 3 3, q3 4 2 3, q3 3 4 3, q3 4 3 3, q3 4 4 3]
def S_101 : D := .lst [q3 2 2 4, q3 3 0 4, q3 3 1 4, q3 4 0 4, q3 2 3 4, q3 3 2 4, q3 4 1 4, q3 2 4 4, q3 3 3 4, q3 4 2 4, q3 3 4 4, q3 4 3 4, q3 4 4 4]
def S_102 : D := .lst [q3 2 2 5, q3 3 0 5, q3 3 1 5, q3 4 0 5, q3 2 3 5, q3 3 2 5, q3 4 1 5, q3 2 4 5, q3 3 3 5, q3 4 2 5, q3 3 4 5, q3 4 3 5, q3 4 4 5]
def S_103 : D := .lst [q3 2 2 6, q3 3 0 6, q3 3 1 6, q3 4 0 6, q3 2 3 6, q3 3 2 6, q3 4 1 6, q3 2 4 6, q3 3 3 6, q3 4 2 6, q3 3 4 6, q3 4 3 6, q3 4 4 6]
def S_104 : D := .lst [q3 2 2 7, q3 3 0 7, q3 3 1 7, q3 4 0 7, q3 2 3 7, q3 3 2 7, q3 4 1 7, q3 2 4 7, q3 3 3 7, q3 4 2 7, q3 3 4 7, q3 4 3 7, q3 4 4 7]
def S_105 : D := .lst [q3 2 3 0, q3 3 0 0, q3 3 1 0, q3 4 0 0, q3 3 2 0, q3 4 1 0, q3 2 4 0, q3 3 3 0, q3 4 2 0, q3 3 4 0, q3 4 3 0, q3 4 4 0]
def S_106 : D := .lst [q3 2 3 1, q3 3 0 1, q3 3 1 1, q3 4 0 1, q3 3 2 1, q3 4 1 1, q3 2 4 1, q3 3 3 1, q3 4 2 1, q3 3 4 1, q3 4 3 1, q3 4 4 1]
def S_107 : D := .lst [q3 2 3 2, q3 3 0 2, q3 3 1 2, q3 4 0 2, q3 3 2 2, q3 4 1 2, q3 2 4 2, q3 3 3 2, q3 4 2 2, q3 3 4 2, q3 4 3 2, q3 4 4 2]
def S_108 : D := .lst [q3 2 3 3, q3 3 0 3, q3 3 1 3, q3 4 0 3, q3 3 2 3, q3 4 1 3, q3 2 4 3, q3 3 3 3, q3 4 2 3, q3 3 4 3, q3 4 3 3, q3 4 4 3]
def S_109 : D := .lst [q3 2 3 4, q3 3 0 4, q3 3 1 4, q3 4 0 4, q3 3 2 4, q3 4 1 4, q3 2 4 4, q3 3 3 4, q3 4 2 4, q3 3 4 4, q3 4 3 4, q3 4 4 4]
def S_110 : D := .lst [q3 2 3 5, q3 3 0 5, q3 3 1 5, q3 4 0 5, q3 3 2 5, q3 4 1 5, q3 2 4 5, q3 3 3 5, q3 4 2 5, q3 3 4 5, q3 4 3 5, q3 4 4 5]
def S_111 : D := .lst [q3 2 3 6, q3 3 0 6, q3 3 1 6, q3 4 0 6, q3 3 2 6, q3 4 1 6, q3 2 4 6, q3 3 3 6, q3 4 2 6, q3 3 4 6, q3 4 3 6, q3 4 4 6]
def S_112 : D := .lst [q3 2 3 7, q3 3 0 7, q3 3 1 7, q3 4 0 7, q3 3 2 7, q3 4 1 7, q3 2 4 7, q3 3 3 7, q3 4 2 7, q3 3 4 7, q3 4 3 7, q3 4 4 7]
def S_113 : D := .lst [q3 2 4 0, q3 3 0 0, q3 3 1 0, q3 4 0 0, q3 3 2 0, q3 4 1 0, q3 3 3 0, q3 4 2 0, q3 3 4 0, q3 4 3 0, q3 4 4 0]
def S_114 : D := .lst [q3 2 4 1, q3 3 0 1, q3 3 1 1, q3 4 0 1, q3 3 2 1, q3 4 1 1, q3 3 3 1, q3 4 2 1, q3 3 4 1, q3 4 3 1, q3 4 4 1]
def S_115 : D := .lst [q3 2 4 2, q3 3 0 2, q3 3 1 2, q3 4 0 2, q3 3 2 2, q3 4 1 2, q3 3 3 2, q3 4 2 2, q3 3 4 2, q3 4 3 2, q3 4 4 2]
def S_116 : D := .lst [q3 2 4 3, q3 3 0 3, q3 3 1 3, q3 4 0 3, q3 3 2 3, q3 4 1 3, q3 3 3 3, q3 4 2 3, q3 3 4 3, q3 4 3 3, q3 4 4 3]
def S_117 : D := .lst [q3 2 4 4, q3 3 0 4, q3 3 1 4, q3 4 0 4, q3 3 2 4, q3 4 1 4, q3 3 3 4, q3 4 2 4, q3 3 4 4, q3 4 3 4, q3 4 4 4]
def S_118 : D := .lst [q3 2 4 5, q3 3 0 5, q3 3 1 5, q3 4 0 5, q3 3 2 5, q3 4 1 5, q3 3 3 5, q3 4 2 5, q3 3 4 5, q3 4 3 5, q3 4 4 5]
def S_119 : D := .lst [q3 2 4 6, q3 3 0 6, q3 3 1 6, q3 4 0 6, q3 3 2 6, q3 4 1 6, q3 3 3 6, q3 4 2 6, q3 3 4 6, q3 4 3 6, q3 4 4 6]
def S_120 : D := .lst [q3 2 4 7, q3 3 0 7, q3 3 1 7, q3 4 0 7, q3 3 2 7, q3 4 1 7, q3 3 3 7, q3 4 2 7, q3 3 4 7, q3 4 3 7, q3 4 4 7]
def S_121 : D := .lst [q3 3 0 0, q3 3 1 0, q3 4 0 0, q3 3 2 0, q3 4 1 0, q3 3 3 0, q3 4 2 0, q3 3 4 0, q3 4 3 0, q3 4 4 0]
def S_122 : D := .lst [q3 3 0 1, q3 3 1 1, q3 4 0 1, q3 3 2 1, q3 4 1 1, q3 3 3 1, q3 4 2 1, q3 3 4 1, q3 4 3 1, q3 4 4 1]
def S_123 : D := .lst [q3 3 0 2, q3 3 1 2, q3 4 0 2, q3 3 2 2, q3 4 1 2, q3 3 3 2, q3 4 2 2, q3 3 4 2, q3 4 3 2, q3 4 4 2]
def S_124 : D := .lst [q3 3 0 3, q3 3 1 3, q3 4 0 3, q3 3 2 3, q3 4 1 3, q3 3 3 3, q3 4 2 3, q3 3 4 3, q3 4 3 3, q3 4 4 3]
def S_125 : D := .lst [q3 3 0 4, q3 3 1 4, q3 4 0 4, q3 3 2 4, q3 4 1 4, q3 3 3 4, q3 4 2 4, q3 3 4 4, q3 4 3 4, q3 4 4 4]
def S_126 : D := .lst [q3 3 0 5, q3 3 1 5, q3 4 0 5, q3 3 2 5, q3 4 1 5, q3 3 3 5, q3 4 2 5, q3 3 4 5, q3 4 3 5, q3 4 4 5]
def S_127 : D := .lst [q3 3 0 6, q3 3 1 6, q3 4 0 6, q3 3 2 6, q3 4 1 6, q3 3 3 6, q3 4 2 6, q3 3 4 6, q3 4 3 6, q3 4 4 6]
def S_128 : D := .lst [q3 3 0 7, q3 3 1 7, q3 4 0 7, q3 3 2 7, q3 4 1 7, q3 3 3 7, q3 4 2 7, q3 3 4 7, q3 4 3 7, q3 4 4 7]
def S_129 : D := .lst [q3 3 1 0, q3 4 0 0, q3 3 2 0, q3 4 1 0, q3 3 3 0, q3 4 2 0, q3 3 4 0, q3 4 3 0, q3 4 4 0]
def S_130 : D := .lst [q3 3 1 1, q3 4 0 1, q3 3 2 1, q3 4 1 1, q3 3 3 1, q3 4 2 1, q3 3 4 1, q3 4 3 1, q3 4 4 1]
def S_131 : D := .lst [q3 3 1 2, q3 4 0 2, q3 3 2 2, q3 4 1 2, q3 3 3 2, q3 4 2 2, q3 3 4 2, q3 4 3 2, q3 4 4 2]
def S_132 : D := .lst [q3 3 1 3, q3 4 0 3, q3 3 2 3, q3 4 1 3, q3 3 3 3, q3 4 2 3, q3 3 4 3, q3 4 3 3, q3 4 4 3]
def S_133 : D := .lst [q3 3 1 4, q3 4 0 4, q3 3 2 4, q3 4 1 4, q3 3 3 4, q3 4 2 4, q3 3 4 4, q3 4 3 4, q3 4 4 4]
def S_134 : D := .lst [q3 3 1 5, q3 4 0 5, q3 3 2 5, q3 4 1 5, q3 3 3 5, q3 4 2 5, q3 3 4 5, q3 4 3 5, q3 4 4 5]
def S_135 : D := .lst [q3 3 1 6, q3 4 0 6, q3 3 2 6, q3 4 1 6, q3 3 3 6, q3 4 2 6, q3 3 4 6, q3 4 3 6, q3 4 4 6]
def S_136 : D := .lst [q3 3 1 7, q3 4 0 7, q3 3 2 7, q3 4 1 7, q3 3 3 7, q3 4 2 7, q3 3 4 7, q3 4 3 7, q3 4 4 7]
def S_137 : D := .lst [q3 3 2 0, q3 4 0 0, q3 4 1 0, q3 3 3 0, q3 4 2 0, q3 3 4 0, q3 4 3 0, q3 4 4 0]
def S_138 : D := .lst [q3 3 2 1, q3 4 0 1, q3 4 1 1, q3 3 3 1, q3 4 2 1, q3 3 4 1, q3 4 3 1, q3 4 4 1]
def S_139 : D := .lst [q3 3 2 2, q3 4 0 2, q3 4 1 2, q3 3 3 2, q3 4 2 2, q3 3 4 2, q3 4 3 2, q3 4 4 2]
def S_140 : D := .lst [q3 3 2 3, q3 4 0 3, q3 4 1 3, q3 3 3 3, q3 4 2 3, q3 3 4 3, q3 4 3 3, q3 4 4 3]
def S_141 : D := .lst [q3 3 2 4, q3 4 0 4, q3 4 1 4, q3 3 3 4, q3 4 2 4, q3 3 4 4, q3 4 3 4, q3 4 4 4]
def S_142 : D := .lst [q3 3 2 5, q3 4 0 5, q3 4 1 5, q3 3 3 5, q3 4 2 5, q3 3 4 5, q3 4 3 5, q3 4 4 5]
def S_143 : D := .lst [q3 3 2 6, q3 4 0 6, q3 4 1 6, q3 3 3 6, q3 4 2 6, q3 3 4 6, q3 4 3 6, q3 4 4 6]
def S_144 : D := .lst [q3 3 2 7, q3 4 0 7, q3 4 1 7, q3 3 3 7, q3 4 2 7, q3 3 4 7, q3 4 3 7, q3 4 4 7]
def S_145 : D := .lst [q3 3 3 0, q3 4 0 0, q3 4 1 0, q3 4 2 0, q3 3 4 0, q3 4 3 0, q3 4 4 0]
def S_146 : D := .lst [q3 3 3 1, q3 4 0 1, q3 4 1 1, q3 4 2 1, q3 3 4 1, q3 4 3 1, q3 4 4 1]
def S_147 : D := .lst [q3 3 3 2, q3 4 0 2, q3 4 1 2, q3 4 2 2, q3 3 4 2, q3 4 3 2, q3 4 4 2]
def S_148 : D := .lst [q3 3 3 3, q3 4 0 3, q3 4 1 3, q3 4 2 3, q3 3 4 3, q3 4 3 3, q3 4 4 3]
def S_149 : D := .lst [q3 3 3 4, q3 4 0 4, q3 4 1 4, q3 4 2 4, q3 3 4 4, q3 4 3 4, q3 4 4 4]
def S_150 : D := .lst [q3 3 3 5, q3 4 0 5, q3 4 1 5, q3 4 2 5, q3 3 4 5, q3 4 3 5, q3 4 4 5]
def S_151 : D := .lst [q3 3 3 6, q3 4 0 6, q3 4 1 6, q3 4 2 6, q3 3 4 6, q3 4 3 6, q3 4 4 6]
def S_152 : D := .lst [q3 3 3 7, q3 4 0 7, q3 4 1 7, q3 4 2 7, q3 3 4 7, q3 4 3 7, q3 4 4 7]
def S_153 : D := .lst [q3 3 4 0, q3 4 0 0, q3 4 1 0, q3 4 2 0, q3 4 3 0, q3 4 4 0]
def S_154 : D := .lst [q3 3 4 1, q3 4 0 1, q3 4 1 1, q3 4 2 1, q3 4 3 1, q3 4 4 1]
def S_155 : D := .lst [q3 3 4 2, q3 4 0 2, q3 4 1 2, q3 4 2 2, q3 4 3 2, q3 4 4 2]
def S_156 : D := .lst [q3 3 4 3, q3 4 0 3, q3 4 1 3, q3 4 2 3, q3 4 3 3, q3 4 4 3]
def S_157 : D := .lst [q3 3 4 4, q3 4 0 4, q3 4 1 4, q3 4 2 4, q3 4 3 4, q3 4 4 4]
def S_158 : D := .lst [q3 3 4 5, q3 4 0 5, q3 4 1 5, q3 4 2 5, q3 4 3 5, q3 4 4 5]
def S_159 : D := .lst [q3 3 4 6, q3 4 0 6, q3 4 1 6, q3 4 2 6, q3 4 3 6, q3 4 4 6]
def S_160 : D := .lst [q3 3 4 7, q3 4 0 7, q3 4 1 7, q3 4 2 7, q3 4 3 7, q3 4 4 7]
def S_161 : D := .lst [q3 4 0 0, q3 4 1 0, q3 4 2 0, q3 4 3 0, q3 4 4 0]
def S_162 : D := .lst [q3 4 0 1, q3 4 1 1, q3 4 2 1, q3 4 3 1, q3 4 4 1]
def S_163 : D := .lst [q3 4 0 2, q3 4 1 2, q3 4 2 2, q3 4 3 2, q3 4 4 2]
def S_164 : D := .lst [q3 4 0 3, q3 4 1 3, q3 4 2 3, q3 4 3 3, q3 4 4 3]
def S_165 : D := .lst [q3 4 0 4, q3 4 1 4, q3 4 2 4, q3 4 3 4, q3 4 4 4]
def S_166 : D := .lst [q3 4 0 5, q3 4 1 5, q3 4 2 5, q3 4 3 5, q3 4 4 5]
def S_167 : D := .lst [q3 4 0 6, q3 4 1 6, q3 4 2 6, q3 4 3 6, q3 4 4 6]
def S_168 : D := .lst [q3 4 0 7, q3 4 1 7, q3 4 2 7, q3 4 3 7, q3 4 4 7]
def S_169 : D := .lst [q3 4 1 0, q3 4 2 0, q3 4 3 0, q3 4 4 0]
def S_170 : D := .lst [q3 4 1 1, q3 4 2 1, q3 4 3 1, q3 4 4 1]
def S_171 : D := .lst [q3 4 1 2, q3 4 2 2, q3 4 3 2, q3 4 4 2]
def S_172 : D := .lst [q3 4 1 3, q3 4 2 3, q3 4 3 3, q3 4 4 3]
def S_173 : D := .lst [q3 4 1 4, q3 4 2 4, q3 4 3 4, q3 4 4 4]
def S_174 : D := .lst [q3 4 1 5, q3 4 2 5, q3 4 3 5, q3 4 4 5]
def S_175 : D := .lst [q3 4 1 6, q3 4 2 6, q3 4 3 6, q3 4 4 6]
def S_176 : D := .lst [q3 4 1 7, q3 4 2 7, q3 4 3 7, q3 4 4 7]
def S_177 : D := .lst [q3 4 2 0, q3 4 3 0, q3 4 4 0]
def S_178 : D := .lst [q3 4 2 1, q3 4 3 1, q3 4 4 1]
def S_179 : D := .lst [q3 4 2 2, q3 4 3 2, q3 4 4 2]
def S_180 : D := .lst [q3 4 2 3, q3 4 3 3, q3 4 4 3]
def S_181 : D := .lst [q3 4 2 4, q3 4 3 4, q3 4 4 4]
def S_182 : D := .lst [q3 4 2 5, q3 4 3 5, q3 4 4 5]
def S_183 : D := .lst [q3 4 2 6, q3 4 3 6, q3 4 4 6]
def S_184 : D := .lst [q3 4 2 7, q3 4 3 7, q3 4 4 7]
def S_185 : D := .lst [q3 4 3 0, q3 4 4 0]
def S_186 : D := .lst [q3 4 3 1, q3 4 4 1]
def S_187 : D := .lst [q3 4 3 2, q3 4 4 2]
def S_188 : D := .lst [q3 4 3 3, q3 4 4 3]
def S_189 : D := .lst [q3 4 3 4, q3 4 4 4]
def S_190 : D := .lst [q3 4 3 5, q3 4 4 5]
def S_191 : D := .lst [q3 4 3 6, q3 4 4 6]
def S_192 : D := .lst [q3 4 3 7, q3 4 4 7]
def S_193 : D := .lst [q3 4 4 0]
def S_194 : D := .lst [q3 4 4 1]
def S_195 : D := .lst [q3 4 4 2]
def S_196 : D := .lst [q3 4 4 3]
def S_197 : D := .lst [q3 4 4 4]
def S_198 : D := .lst [q3 4 4 5]
def S_199 : D := .lst [q3 4 4 6]
def S_200 : D := .lst [q3 4 4 7]
theorem st_0 : m_further [LNG, S_0, D.str "aa"] = .ok S_1 := by kernel_rfl
theorem st_1 : m_further [LNG, S_1, D.str "ba"] = .ok S_2 := by kernel_rfl
theorem st_2 : m_further [LNG, S_2, D.str "ca"] = .ok S_3 := by kernel_rfl
theorem st_3 : m_further [LNG, S_3, D.str "da"] = .ok S_4 := by kernel_rfl
theorem st_4 : m_further [LNG, S_4, D.str "ea"] = .ok S_5 := by kernel_rfl
theorem st_5 : m_further [LNG, S_5, D.str "fa"] = .ok S_6 := by kernel_rfl
theorem st_6 : m_further [LNG, S_6, D.str "ga"] = .ok S_7 := by kernel_rfl
theorem st_7 : m_further [LNG, S_7, D.str "ha"] = .ok S_8 := by kernel_rfl
theorem st_8 : m_further [LNG, S_8, D.str "aa"] = .ok S_9 := by kernel_rfl
theorem st_9 : m_further [LNG, S_9, D.str "ba"] = .ok S_10 := by kernel_rfl
theorem st_10 : m_further [LNG, S_10, D.str "ca"] = .ok S_11 := by kernel_rfl
theorem st_11 : m_further [LNG, S_11, D.str "da"] = .ok S_12 := by kernel_rfl
theorem st_12 : m_further [LNG, S_12, D.str "ea"] = .ok S_13 := by kernel_rfl
theorem st_13 : m_further [LNG, S_13, D.str "fa"] = .ok S_14 := by kernel_rfl
theorem st_14 : m_further [LNG, S_14, D.str "ga"] = .ok S_15 := by kernel_rfl
theorem st_15 : m_further [LNG, S_15, D.str "ha"] = .ok S_16 := by kernel_rfl
theorem st_16 : m_further [LNG, S_16, D.str "aa"] = .ok S_17 := by kernel_rfl
theorem st_17 : m_further [LNG, S_17, D.str "ba"] = .ok S_18 := by kernel_rfl
theorem st_18 : m_further [LNG, S_18, D.str "ca"] = .ok S_19 := by kernel_rfl
theorem st_19 : m_further [LNG, S_19, D.str "da"] = .ok S_20 := by kernel_rfl
theorem st_20 : m_further [LNG, S_20, D.str "ea"] = .ok S_21 := by kernel_rfl
theorem st_21 : m_further [LNG, S_21, D.str "fa"] = .ok S_22 := by kernel_rfl
theorem st_22 : m_further [LNG, S_22, D.str "ga"] = .ok S_23 := by kernel_rfl
theorem st_23 : m_further [LNG, S_23, D.str "ha"] = .ok S_24 := by kernel_rfl
theorem st_24 : m_further [LNG, S_24, D.str "aa"] = .ok S_25 := by kernel_rfl
theorem st_25 : m_further [LNG, S_25, D.str "ba"] = .ok S_26 := by kernel_rfl
theorem st_26 : m_further [LNG, S_26, D.str "ca"] = .ok S_27 := by kernel_rfl
theorem st_27 : m_further [LNG, S_27, D.str "da"] = .ok S_28 := by kernel_rfl
theorem st_28 : m_further [LNG, S_28, D.str "ea"] = .ok S_29 := by kernel_rfl
theorem st_29 : m_further [LNG, S_29, D.str "fa"] = .ok S_30 := by kernel_rfl
theorem st_30 : m_further [LNG, S_30, D.str "ga"] = .ok S_31 := by kernel_rfl
theorem st_31 : m_further [LNG, S_31, D.str "ha"] = .ok S_32 := by kernel_rfl
theorem st_32 : m_further [LNG, S_32, D.str "aa"] = .ok S_33 := by kernel_rfl
theorem st_33 : m_further [LNG, S_33, D.str "ba"] = .ok S_34 := by kernel_rfl
theorem st_34 : m_further [LNG, S_34, D.str "ca"] = .ok S_35 := by kernel_rfl
theorem st_35 : m_further [LNG, S_35, D.str "da"] = .ok S_36 := by kernel_rfl
theorem st_36 : m_further [LNG, S_36, D.str "ea"] = .ok S_37 := by kernel_rfl
theorem st_37 : m_further [LNG, S_37, D.str "fa"] = .ok S_38 := by kernel_rfl
theorem st_38 : m_further [LNG, S_38, D.str "ga"] = .ok S_39 := by kernel_rfl
theorem st_39 : m_further [LNG, S_39, D.str "ha"] = .ok S_40 := by kernel_rfl
theorem st_40 : m_further [LNG, S_40, D.str "aa"] = .ok S_41 := by kernel_rfl
theorem st_41 : m_further [LNG, S_41, D.str "ba"] = .ok S_42 := by kernel_rfl
theorem st_42 : m_further [LNG, S_42, D.str "ca"] = .ok S_43 := by kernel_rfl
theorem st_43 : m_further [LNG, S_43, D.str "da"] = .ok S_44 := by kernel_rfl
theorem st_44 : m_further [LNG, S_44, D.str "ea"] = .ok S_45 := by kernel_rfl
theorem st_45 : m_further [LNG, S_45, D.str "fa"] = .ok S_46 := by kernel_rfl
theorem st_46 : m_further [LNG, S_46, D.str "ga"] = .ok S_47 := by kernel_rfl
theorem st_47 : m_further [LNG, S_47, D.str "ha"] = .ok S_48 := by kernel_rfl
theorem st_48 : m_further [LNG, S_48, D.str "aa"] = .ok S_49 := by kernel_rfl
theorem st_49 : m_further [LNG, S_49, D.str "ba"] = .ok S_50 := by kernel_rfl
theorem st_50 : m_further [LNG, S_50, D.str "ca"] = .ok S_51 := by kernel_rfl
theorem st_51 : m_further [LNG, S_51, D.str "da"] = .ok S_52 := by kernel_rfl
theorem st_52 : m_further [LNG, S_52, D.str "ea"] = .ok S_53 := by kernel_rfl
theorem st_53 : m_further [LNG, S_53, D.str "fa"] = .ok S_54 := by kernel_rfl
theorem st_54 : m_further [LNG, S_54, D.str "ga"] = .ok S_55 := by kernel_rfl
theorem st_55 : m_further [LNG, S_55, D.str "ha"] = .ok S_56 := by kernel_rfl
theorem st_56 : m_further [LNG, S_56, D.str "aa"] = .ok S_57 := by kernel_rfl
theorem st_57 : m_further [LNG, S_57, D.str "ba"] = .ok S_58 := by kernel_rfl
theorem st_58 : m_further [LNG, S_58, D.str "ca"] = .ok S_59 := by kernel_rfl
theorem st_59 : m_further [LNG, S_59, D.str "da"] = .ok S_60 := by kernel_rfl
theorem st_60 : m_further [LNG, S_60, D.str "ea"] = .ok S_61 := by kernel_rfl
theorem st_61 : m_further [LNG, S_61, D.str "fa"] = .ok S_62 := by kernel_rfl
theorem st_62 : m_further [LNG, S_62, D.str "ga"] = .ok S_63 := by kernel_rfl
theorem st_63 : m_further [LNG, S_63, D.str "ha"] = .ok S_64 := by kernel_rfl
theorem st_64 : m_further [LNG, S_64, D.str "aa"] = .ok S_65 := by kernel_rfl
theorem st_65 : m_further [LNG, S_65, D.str "ba"] = .ok S_66 := by kernel_rfl
theorem st_66 : m_further [LNG, S_66, D.str "ca"] = .ok S_67 := by kernel_rfl
theorem st_67 : m_further [LNG, S_67, D.str "da"] = .ok S_68 := by kernel_rfl
theorem st_68 : m_further [LNG, S_68, D.str "ea"] = .ok S_69 := by kernel_rfl
theorem st_69 : m_further [LNG, S_69, D.str "fa"] = .ok S_70 := by kernel_rfl
theorem st_70 : m_further [LNG, S_70, D.str "ga"] = .ok S_71 := by kernel_rfl
theorem st_71 : m_further [LNG, S_71, D.str "ha"] = .ok S_72 := by kernel_rfl
theorem st_72 : m_further [LNG, S_72, D.str "aa"] = .ok S_73 := by kernel_rfl
theorem st_73 : m_further [LNG, S_73, D.str "ba"] = .ok S_74 := by kernel_rfl
theorem st_74 : m_further [LNG, S_74, D.str "ca"] = .ok S_75 := by kernel_rfl
theorem st_75 : m_further [LNG, S_75, D.str "da"] = .ok S_76 := by kernel_rfl
theorem st_76 : m_further [LNG, S_76, D.str "ea"] = .ok S_77 := by kernel_rfl
theorem st_77 : m_further [LNG, S_77, D.str "fa"] = .ok S_78 := by kernel_rfl
theorem st_78 : m_further [LNG, S_78, D.str "ga"] = .ok S_79 := by kernel_rfl
theorem st_79 : m_further [LNG, S_79, D.str "ha"] = .ok S_80 := by kernel_rfl
theorem st_80 : m_further [LNG, S_80, D.str "aa"] = .ok S_81 := by kernel_rfl
theorem st_81 : m_further [LNG, S_81, D.str "ba"] = .ok S_82 := by kernel_rfl
theorem st_82 : m_further [LNG, S_82, D.str "ca"] = .ok S_83 := by kernel_rfl
theorem st_83 : m_further [LNG, S_83, D.str "da"] = .ok S_84 := by kernel_rfl
theorem st_84 : m_further [LNG, S_84, D.str "ea"] = .ok S_85 := by kernel_rfl
theorem st_85 : m_further [LNG, S_85, D.str "fa"] = .ok S_86 := by kernel_rfl
theorem st_86 : m_further [LNG, S_86, D.str "ga"] = .ok S_87 := by kernel_rfl
theorem st_87 : m_further [LNG, S_87, D.str "ha"] = .ok S_88 := by kernel_rfl
theorem st_88 : m_further [LNG, S_88, D.str "aa"] = .ok S_89 := by kernel_rfl
theorem st_89 : m_further [LNG, S_89, D.str "ba"] = .ok S_90 := by kernel_rfl
theorem st_90 : m_further [LNG, S_90, D.str "ca"] = .ok S_91 := by kernel_rfl
theorem st_91 : m_further [LNG, S_91, D.str "da"] = .ok S_92 := by kernel_rfl
theorem st_92 : m_further [LNG, S_92, D.str "ea"] = .ok S_93 := by kernel_rfl
theorem st_93 : m_further [LNG, S_93, D.str "fa"] = .ok S_94 := by kernel_rfl
theorem st_94 : m_further [LNG, S_94, D.str "ga"] = .ok S_95 := by kernel_rfl
theorem st_95 : m_further [LNG, S_95, D.str "ha"] = .ok S_96 := by kernel_rfl
theorem st_96 : m_further [LNG, S_96, D.str "aa"] = .ok S_97 := by kernel_rfl
theorem st_97 : m_further [LNG, S_97, D.str "ba"] = .ok S_98 := by kernel_rfl
theorem st_98 : m_further [LNG, S_98, D.str "ca"] = .ok S_99 := by kernel_rfl
theorem st_99 : m_further [LNG, S_99, D.str "da"] = .ok S_100 := by kernel_rfl
theorem st_100 : m_further [LNG, S_100, D.str "ea"] = .ok S_101 := by kernel_rfl
theorem st_101 : m_further [LNG, S_101, D.str "fa"] = .ok S_102 := by kernel_rfl
theorem st_102 : m_further [LNG, S_102, D.str "ga"] = .ok S_103 := by kernel_rfl
theorem st_103 : m_further [LNG, S_103, D.str "ha"] = .ok S_104 := by kernel_rfl
theorem st_104 : m_further [LNG, S_104, D.str "aa"] = .ok S_105 := by kernel_rfl
theorem st_105 : m_further [LNG, S_105, D.str "ba"] = .ok S_106 := by kernel_rfl
theorem st_106 : m_further [LNG, S_106, D.str "ca"] = .ok S_107 := by kernel_rfl
theorem st_107 : m_further [LNG, S_107, D.str "da"] = .ok S_108 := by kernel_rfl
theorem st_108 : m_further [LNG, S_108, D.str "ea"] = .ok S_109 := by kernel_rfl
theorem st_109 : m_further [LNG, S_109, D.str "fa"] = .ok S_110 := by kernel_rfl
theorem st_110 : m_further [LNG, S_110, D.str "ga"] = .ok S_111 := by kernel_rfl
theorem st_111 : m_further [LNG, S_111, D.str "ha"] = .ok S_112 := by kernel_rfl
theorem st_112 : m_further [LNG, S_112, D.str "aa"] = .ok S_113 := by kernel_rfl
theorem st_113 : m_further [LNG, S_113, D.str "ba"] = .ok S_114 := by kernel_rfl
theorem st_114 : m_further [LNG, S_114, D.str "ca"] = .ok S_115 := by kernel_rfl
theorem st_115 : m_further [LNG, S_115, D.str "da"] = .ok S_116 := by kernel_rfl
theorem st_116 : m_further [LNG, S_116, D.str "ea"] = .ok S_117 := by kernel_rfl
theorem st_117 : m_further [LNG, S_117, D.str "fa"] = .ok S_118 := by kernel_rfl
theorem st_118 : m_further [LNG, S_118, D.str "ga"] = .ok S_119 := by kernel_rfl
theorem st_119 : m_further [LNG, S_119, D.str "ha"] = .ok S_120 := by kernel_rfl
theorem st_120 : m_further [LNG, S_120, D.str "aa"] = .ok S_121 := by kernel_rfl
theorem st_121 : m_further [LNG, S_121, D.str "ba"] = .ok S_122 := by kernel_rfl
theorem st_122 : m_further [LNG, S_122, D.str "ca"] = .ok S_123 := by kernel_rfl
theorem st_123 : m_further [LNG, S_123, D.str "da"] = .ok S_124 := by kernel_rfl
theorem st_124 : m_further [LNG, S_124, D.str "ea"] = .ok S_125 := by kernel_rfl
theorem st_125 : m_further [LNG, S_125, D.str "fa"] = .ok S_126 := by kernel_rfl
theorem st_126 : m_further [LNG, S_126, D.str "ga"] = .ok S_127 := by kernel_rfl
theorem st_127 : m_further [LNG, S_127, D.str "ha"] = .ok S_128 := by kernel_rfl
theorem st_128 : m_further [LNG, S_128, D.str "aa"] = .ok S_129 := by kernel_rfl
theorem st_129 : m_further [LNG, S_129, D.str "ba"] = .ok S_130 := by kernel_rfl
theorem st_130 : m_further [LNG, S_130, D.str "ca"] = .ok S_131 := by kernel_rfl
theorem st_131 : m_further [LNG, S_131, D.str "da"] = .ok S_132 := by kernel_rfl
theorem st_132 : m_further [LNG, S_132, D.str "ea"] = .ok S_133 := by kernel_rfl
theorem st_133 : m_further [LNG, S_133, D.str "fa"] = .ok S_134 := by kernel_rfl
theorem st_134 : m_further [LNG, S_134, D.str "ga"] = .ok S_135 := by kernel_rfl
theorem st_135 : m_further [LNG, S_135, D.str "ha"] = .ok S_136 := by kernel_rfl
theorem st_136 : m_further [LNG, S_136, D.str "aa"] = .ok S_137 := by kernel_rfl
theorem st_137 : m_further [LNG, S_137, D.str "ba"] = .ok S_138 := by kernel_rfl
theorem st_138 : m_further [LNG, S_138, D.str "ca"] = .ok S_139 := by kernel_rfl
theorem st_139 : m_further [LNG, S_139, D.str "da"] = .ok S_140 := by kernel_rfl
theorem st_140 : m_further [LNG, S_140, D.str "ea"] = .ok S_141 := by kernel_rfl
theorem st_141 : m_further [LNG, S_141, D.str "fa"] = .ok S_142 := by kernel_rfl
theorem st_142 : m_further [LNG, S_142, D.str "ga"] = .ok S_143 := by kernel_rfl
theorem st_143 : m_further [LNG, S_143, D.str "ha"] = .ok S_144 := by kernel_rfl
theorem st_144 : m_further [LNG, S_144, D.str "aa"] = .ok S_145 := by kernel_rfl
theorem st_145 : m_further [LNG, S_145, D.str "ba"] = .ok S_146 := by kernel_rfl
theorem st_146 : m_further [LNG, S_146, D.str "ca"] = .ok S_147 := by kernel_rfl
theorem st_147 : m_further [LNG, S_147, D.str "da"] = .ok S_148 := by kernel_rfl
theorem st_148 : m_further [LNG, S_148, D.str "ea"] = .ok S_149 := by kernel_rfl
theorem st_149 : m_further [LNG, S_149, D.str "fa"] = .ok S_150 := by kernel_rfl
theorem st_150 : m_further [LNG, S_150, D.str "ga"] = .ok S_151 := by kernel_rfl
theorem st_151 : m_further [LNG, S_151, D.str "ha"] = .ok S_152 := by kernel_rfl
theorem st_152 : m_further [LNG, S_152, D.str "aa"] = .ok S_153 := by kernel_rfl
theorem st_153 : m_further [LNG, S_153, D.str "ba"] = .ok S_154 := by kernel_rfl
theorem st_154 : m_further [LNG, S_154, D.str "ca"] = .ok S_155 := by kernel_rfl
theorem st_155 : m_further [LNG, S_155, D.str "da"] = .ok S_156 := by kernel_rfl
theorem st_156 : m_further [LNG, S_156, D.str "ea"] = .ok S_157 := by kernel_rfl
theorem st_157 : m_further [LNG, S_157, D.str "fa"] = .ok S_158 := by kernel_rfl
theorem st_158 : m_further [LNG, S_158, D.str "ga"] = .ok S_159 := by kernel_rfl
theorem st_159 : m_further [LNG, S_159, D.str "ha"] = .ok S_160 := by kernel_rfl
theorem st_160 : m_further [LNG, S_160, D.str "aa"] = .ok S_161 := by kernel_rfl
theorem st_161 : m_further [LNG, S_161, D.str "ba"] = .ok S_162 := by kernel_rfl
theorem st_162 : m_further [LNG, S_162, D.str "ca"] = .ok S_163 := by kernel_rfl
theorem st_163 : m_further [LNG, S_163, D.str "da"] = .ok S_164 := by kernel_rfl
theorem st_164 : m_further [LNG, S_164, D.str "ea"] = .ok S_165 := by kernel_rfl
theorem st_165 : m_further [LNG, S_165, D.str "fa"] = .ok S_166 := by kernel_rfl
theorem st_166 : m_further [LNG, S_166, D.str "ga"] = .ok S_167 := by kernel_rfl
theorem st_167 : m_further [LNG, S_167, D.str "ha"] = .ok S_168 := by kernel_rfl
theorem st_168 : m_further [LNG, S_168, D.str "aa"] = .ok S_169 := by kernel_rfl
theorem st_169 : m_further [LNG, S_169, D.str "ba"] = .ok S_170 := by kernel_rfl
theorem st_170 : m_further [LNG, S_170, D.str "ca"] = .ok S_171 := by kernel_rfl
theorem st_171 : m_further [LNG, S_171, D.str "da"] = .ok S_172 := by kernel_rfl
theorem st_172 : m_further [LNG, S_172, D.str "ea"] = .ok S_173 := by kernel_rfl
theorem st_173 : m_further [LNG, S_173, D.str "fa"] = .ok S_174 := by kernel_rfl
theorem st_174 : m_further [LNG, S_174, D.str "ga"] = .ok S_175 := by kernel_rfl
theorem st_175 : m_further [LNG, S_175, D.str "ha"] = .ok S_176 := by kernel_rfl
theorem st_176 : m_further [LNG, S_176, D.str "aa"] = .ok S_177 := by kernel_rfl
theorem st_177 : m_further [LNG, S_177, D.str "ba"] = .ok S_178 := by kernel_rfl
theorem st_178 : m_further [LNG, S_178, D.str "ca"] = .ok S_179 := by kernel_rfl
theorem st_179 : m_further [LNG, S_179, D.str "da"] = .ok S_180 := by kernel_rfl
theorem st_180 : m_further [LNG, S_180, D.str "ea"] = .ok S_181 := by kernel_rfl
theorem st_181 : m_further [LNG, S_181, D.str "fa"] = .ok S_182 := by kernel_rfl
theorem st_182 : m_further [LNG, S_182, D.str "ga"] = .ok S_183 := by kernel_rfl
theorem st_183 : m_further [LNG, S_183, D.str "ha"] = .ok S_184 := by kernel_rfl
theorem st_184 : m_further [LNG, S_184, D.str "aa"] = .ok S_185 := by kernel_rfl
theorem st_185 : m_further [LNG, S_185, D.str "ba"] = .ok S_186 := by kernel_rfl
theorem st_186 : m_further [LNG, S_186, D.str "ca"] = .ok S_187 := by kernel_rfl
theorem st_187 : m_further [LNG, S_187, D.str "da"] = .ok S_188 := by kernel_rfl
theorem st_188 : m_further [LNG, S_188, D.str "ea"] = .ok S_189 := by kernel_rfl
theorem st_189 : m_further [LNG, S_189, D.str "fa"] = .ok S_190 := by kernel_rfl
theorem st_190 : m_further [LNG, S_190, D.str "ga"] = .ok S_191 := by kernel_rfl
theorem st_191 : m_further [LNG, S_191, D.str "ha"] = .ok S_192 := by kernel_rfl
theorem st_192 : m_further [LNG, S_192, D.str "aa"] = .ok S_193 := by kernel_rfl
theorem st_193 : m_further [LNG, S_193, D.str "ba"] = .ok S_194 := by kernel_rfl
theorem st_194 : m_further [LNG, S_194, D.str "ca"] = .ok S_195 := by kernel_rfl
theorem st_195 : m_further [LNG, S_195, D.str "da"] = .ok S_196 := by kernel_rfl
theorem st_196 : m_further [LNG, S_196, D.str "ea"] = .ok S_197 := by kernel_rfl
theorem st_197 : m_further [LNG, S_197, D.str "fa"] = .ok S_198 := by kernel_rfl
theorem st_198 : m_further [LNG, S_198, D.str "ga"] = .ok S_199 := by kernel_rfl
theorem st_199 : m_further [LNG, S_199, D.str "ha"] = .ok S_200 := by kernel_rfl
abbrev JT : Gv := gTupD (lenOf 2 (gsCons (gSet 4) (gsCons (gSet 5) (gsNil))))
abbrev JB : Sv := bSeq (sSet 2 (dCall m_further (dCons (dVar 0) (dCons (dVar 2) (dCons (dVar 5) (dNil))))))
  (sIf (dTNot (dTr (dVar 2))) (sRet (dTup (dCons (dC (.str "wrong")) (dCons (dVar 4) (dNil))))) (bNil))
theorem jf {k : Nat} {i : Int} {nm s : D} {s' : List D} {x4 x5 : Sl} {r : M (Fl × En)} (hd : PR.drop k = .tup [.int i, nm] :: PR.drop (k + 1)) (hf : m_further [LNG, s, nm] = .ok (.lst s')) (ht : (!s'.isEmpty) = true)
    (h3 : forL JT JB (PR.drop (k + 1)) [.va LNG, .va N200, .va (.lst s'), .un, .va (.int i), .va nm, .un] = r) : forL JT JB (PR.drop k) [.va LNG, .va N200, .va s, .un, x4, x5, .un] = r := by
  rw [hd]
  refine forL_cons (e1 := [.va LNG, .va N200, .va s, .un, .va (.int i), .va nm, .un]) (e2 := [.va LNG, .va N200, .va (.lst s'), .un, .va (.int i), .va nm, .un]) rfl ?_ h3
  rw [show JB = bSeq _ _ from rfl]
  rw [stp (sSet_to (i := 1) (e2 := [.va LNG, .va N200, .va (.lst s'), .un, .va (.int i), .va nm, .un]) (dCall3 (e1 := [.va LNG, .va N200, .va s, .un, .va (.int i), .va nm, .un]) (e2 := [.va LNG, .va N200, .va s, .un, .va (.int i), .va nm, .un]) (e3 := [.va LNG, .va N200, .va s, .un, .va (.int i), .va nm, .un]) rfl rfl rfl hf) rfl)]
  have h : dTr (dVar 2) [.va LNG, .va N200, .va (.lst s'), .un, .va (.int i), .va nm, .un] = .ok (true, [.va LNG, .va N200, .va (.lst s'), .un, .va (.int i), .va nm, .un]) := by
    rw [dTr_lst (rs := s') (env' := [.va LNG, .va N200, .va (.lst s'), .un, .va (.int i), .va nm, .un]) rfl, ht]
  rw [sIf_f (dTNot_ok h)]
  rfl
def EF : En := [.va LNG, .va N200, .va S_200, .un, .va (.int 199), .va (D.str "ha"), .un]
theorem fl_200 : forL JT JB (PR.drop 200) EF = .ok (.nx, EF) := by kernel_rfl
theorem fl_199 {x4 x5 : Sl} : forL JT JB (PR.drop 199) [.va LNG, .va N200, .va S_199, .un, x4, x5, .un] = .ok (.nx, EF) := jf (i := 199) (nm := D.str "ha") (by kernel_rfl) st_199 rfl fl_200
theorem fl_198 {x4 x5 : Sl} : forL JT JB (PR.drop 198) [.va LNG, .va N200, .va S_198, .un, x4, x5, .un] = .ok (.nx, EF) := jf (i := 198) (nm := D.str "ga") (by kernel_rfl) st_198 rfl fl_199
theorem fl_197 {x4 x5 : Sl} : forL JT JB (PR.drop 197) [.va LNG, .va N200, .va S_197, .un, x4, x5, .un] = .ok (.nx, EF) := jf (i := 197) (nm := D.str "fa") (by kernel_rfl) st_197 rfl fl_198
theorem fl_196 {x4 x5 : Sl} : forL JT JB (PR.drop 196) [.va LNG, .va N200, .va S_196, .un, x4, x5, .un] = .ok (.nx, EF) := jf (i := 196) (nm := D.str "ea") (by kernel_rfl) st_196 rfl fl_197
theorem fl_195 {x4 x5 : Sl} : forL JT JB (PR.drop 195) [.va LNG, .va N200, .va S_195, .un, x4, x5, .un] = .ok (.nx, EF) := jf (i := 195) (nm := D.str "da") (by kernel_rfl) st_195 rfl fl_196
theorem fl_194 {x4 x5 : Sl} : forL JT JB (PR.drop 194) [.va LNG, .va N200, .va S_194, .un, x4, x5, .un] = .ok (.nx, EF) := jf (i := 194) (nm := D.str "ca") (by kernel_rfl) st_194 rfl fl_195
theorem fl_193 {x4 x5 : Sl} : forL JT JB (PR.drop 193) [.va LNG, .va N200, .va S_193, .un, x4, x5, .un] = .ok (.nx, EF) := jf (i := 193) (nm := D.str "ba") (by kernel_rfl) st_193 rfl fl_194
theorem fl_192 {x4 x5 : Sl} : forL JT JB (PR.drop 192) [.va LNG, .va N200, .va S_192, .un, x4, x5, .un] = .ok (.nx, EF) := jf (i := 192) (nm := D.str "aa") (by kernel_rfl) st_192 rfl fl_193
theorem fl_191 {x4 x5 : Sl} : forL JT JB (PR.drop 191) [.va LNG, .va N200, .va S_191, .un, x4, x5, .un] = .ok (.nx, EF) := jf (i := 191) (nm := D.str "ha") (by kernel_rfl) st_191 rfl fl_192
theorem fl_190 {x4 x5 : Sl} : forL JT JB (PR.drop 190) [.va LNG, .va N200, .va S_190, .un, x4, x5, .un] = .ok (.nx, EF) := jf (i := 190) (nm := D.str "ga") (by kernel_rfl) st_190 rfl fl_191
theorem fl_189 {x4 x5 : Sl} : forL JT JB (PR.drop 189) [.va LNG, .va N200, .va S_189, .un, x4, x5, .un] = .ok (.nx, EF) := jf (i := 189) (nm := D.str "fa") (by kernel_rfl) st_189 rfl fl_190
theorem fl_188 {x4 x5 : Sl} : forL JT JB (PR.drop 188) [.va LNG, .va N200, .va S_188, .un, x4, x5, .un] = .ok (.nx, EF) := jf (i := 188) (nm := D.str "ea") (by kernel_rfl) st_188 rfl fl_189
theorem fl_187 {x4 x5 : Sl} : forL JT JB (PR.drop 187) [.va LNG, .va N200, .va S_187, .un, x4, x5, .un] = .ok (.nx, EF) := jf (i := 187) (nm := D.str "da") (by kernel_rfl) st_187 rfl fl_188
theorem fl_186 {x4 x5 : Sl} : forL JT JB (PR.drop 186) [.va LNG, .va N200, .va S_186, .un, x4, x5, .un] = .ok (.nx, EF) := jf (i := 186) (nm := D.str "ca") (by kernel_rfl) st_186 rfl fl_187
theorem fl_185 {x4 x5 : Sl} : forL JT JB (PR.drop 185) [.va LNG, .va N200, .va S_185, .un, x4, x5, .un] = .ok (.nx, EF) := jf (i := 185) (nm := D.str "ba") (by kernel_rfl) st_185 rfl fl_186
theorem fl_184 {x4 x5 : Sl} : forL JT JB (PR.drop 184) [.va LNG, .va N200, .va S_184, .un, x4, x5, .un] = .ok (.nx, EF) := jf (i := 184) (nm := D.str "aa") (by kernel_rfl) st_184 rfl fl_185
theorem fl_183 {x4 x5 : Sl} : forL JT JB (PR.drop 183) [.va LNG, .va N200, .va S_183, .un, x4, x5, .un] = .ok (.nx, EF) := jf (i := 183) (nm := D.str "ha") (by kernel_rfl) st_183 rfl fl_184
theorem fl_182 {x4 x5 : Sl} : forL JT JB (PR.drop 182) [.va LNG, .va N200, .va S_182, .un, x4, x5, .un] = .ok (.nx, EF) := jf (i := 182) (nm := D.str "ga") (by kernel_rfl) st_182 rfl fl_183
theorem fl_181 {x4 x5 : Sl} : forL JT JB (PR.drop 181) [.va LNG, .va N200, .va S_181, .un, x4, x5, .un] = .ok (.nx, EF) := jf (i := 181) (nm := D.str "fa") (by kernel_rfl) st_181 rfl fl_182
theorem fl_180 {x4 x5 : Sl} : forL JT JB (PR.drop 180) [.va LNG, .va N200, .va S_180, .un, x4, x5, .un] = .ok (.nx, EF) := jf (i := 180) (nm := D.str "ea") (by kernel_rfl) st_180 rfl fl_181
theorem fl_179 {x4 x5 : Sl} : forL JT JB (PR.drop 179) [.va LNG, .va N200, .va S_179, .un, x4, x5, .un] = .ok (.nx, EF) := jf (i := 179) (nm := D.str "da") (by kernel_rfl) st_179 rfl fl_180
theorem fl_178 {x4 x5 : Sl} : forL JT JB (PR.drop 178) [.va LNG, .va N200, .va S_178, .un, x4, x5, .un] = .ok (.nx, EF) := jf (i := 178) (nm := D.str "ca") (by kernel_rfl) st_178 rfl fl_179
theorem fl_177 {x4 x5 : Sl} : forL JT JB (PR.drop 177) [.va LNG, .va N200, .va S_177, .un, x4, x5, .un] = .ok (.nx, EF) := jf (i := 177) (nm := D.str "ba") (by kernel_rfl) st_177 rfl fl_178
theorem fl_176 {x4 x5 : Sl} : forL JT JB (PR.drop 176) [.va LNG, .va N200, .va S_176, .un, x4, x5, .un] = .ok (.nx, EF) := jf (i := 176) (nm := D.str "aa") (by kernel_rfl) st_176 rfl fl_177
theorem fl_175 {x4 x5 : Sl} : forL JT JB (PR.drop 175) [.va LNG, .va N200, .va S_175, .un, x4, x5, .un] = .ok (.nx, EF) := jf (i := 175) (nm := D.str "ha") (by kernel_rfl) st_175 rfl fl_176
theorem fl_174 {x4 x5 : Sl} : forL JT JB (PR.drop 174) [.va LNG, .va N200, .va S_174, .un, x4, x5, .un] = .ok (.nx, EF) := jf (i := 174) (nm := D.str "ga") (by kernel_rfl) st_174 rfl fl_175
theorem fl_173 {x4 x5 : Sl} : forL JT JB (PR.drop 173) [.va LNG, .va N200, .va S_173, .un, x4, x5, .un] = .ok (.nx, EF) := jf (i := 173) (nm := D.str "fa") (by kernel_rfl) st_173 rfl fl_174
theorem fl_172 {x4 x5 : Sl} : forL JT JB (PR.drop 172) [.va LNG, .va N200, .va S_172, .un, x4, x5, .un] = .ok (.nx, EF) := jf (i := 172) (nm := D.str "ea") (by kernel_rfl) st_172 rfl fl_173
theorem fl_171 {x4 x5 : Sl} : forL JT JB (PR.drop 171) [.va LNG, .va N200, .va S_171, .un, x4, x5, .un] = .ok (.nx, EF) := jf (i := 171) (nm := D.str "da") (by kernel_rfl) st_171 rfl fl_172
theorem fl_170 {x4 x5 : Sl} : forL JT JB (PR.drop 170) [.va LNG, .va N200, .va S_170, .un, x4, x5, .un] = .ok (.nx, EF) := jf (i := 170) (nm := D.str "ca") (by kernel_rfl) st_170 rfl fl_171
theorem fl_169 {x4 x5 : Sl} : forL JT JB (PR.drop 169) [.va LNG, .va N200, .va S_169, .un, x4, x5, .un] = .ok (.nx, EF) := jf (i := 169) (nm := D.str "ba") (by kernel_rfl) st_169 rfl fl_170
theorem fl_168 {x4 x5 : Sl} : forL JT JB (PR.drop 168) [.va LNG, .va N200, .va S_168, .un, x4, x5, .un] = .ok (.nx, EF) := jf (i := 168) (nm := D.str "aa") (by kernel_rfl) st_168 rfl fl_169
theorem fl_167 {x4 x5 : Sl} : forL JT JB (PR.drop 167) [.va LNG, .va N200, .va S_167, .un, x4, x5, .un] = .ok (.nx, EF) := jf (i := 167) (nm := D.str "ha") (by kernel_rfl) st_167 rfl fl_168
theorem fl_166 {x4 x5 : Sl} : forL JT JB (PR.drop 166) [.va LNG, .va N200, .va S_166, .un, x4, x5, .un] = .ok (.nx, EF) := jf (i := 166) (nm := D.str "ga") (by kernel_rfl) st_166 rfl fl_167
theorem fl_165 {x4 x5 : Sl} : forL JT JB (PR.drop 165) [.va LNG, .va N200, .va S_165, .un, x4, x5, .un] = .ok (.nx, EF) := jf (i := 165) (nm := D.str "fa") (by kernel_rfl) st_165 rfl fl_166
theorem fl_164 {x4 x5 : Sl} : forL JT JB (PR.drop 164) [.va LNG, .va N200, .va S_164, .un, x4, x5, .un] = .ok (.nx, EF) := jf (i := 164) (nm := D.str "ea") (by kernel_rfl) st_164 rfl fl_165
theorem fl_163 {x4 x5 : Sl} : forL JT JB (PR.drop 163) [.va LNG, .va N200, .va S_163, .un, x4, x5, .un] = .ok (.nx, EF) := jf (i := 163) (nm := D.str "da") (by kernel_rfl) st_163 rfl fl_164
theorem fl_162 {x4 x5 : Sl} : forL JT JB (PR.drop 162) [.va LNG, .va N200, .va S_162, .un, x4, x5, .un] = .ok (.nx, EF) := jf (i := 162) (nm := D.str "ca") (by kernel_rfl) st_162 rfl fl_163
theorem fl_161 {x4 x5 : Sl} : forL JT JB (PR.drop 161) [.va LNG, .va N200, .va S_161, .un, x4, x5, .un] = .ok (.nx, EF) := jf (i := 161) (nm := D.str "ba") (by kernel_rfl) st_161 rfl fl_162
theorem fl_160 {x4 x5 : Sl} : forL JT JB (PR.drop 160) [.va LNG, .va N200, .va S_160, .un, x4, x5, .un] = .ok (.nx, EF) := jf (i := 160) (nm := D.str "aa") (by kernel_rfl) st_160 rfl fl_161
theorem fl_159 {x4 x5 : Sl} : forL JT JB (PR.drop 159) [.va LNG, .va N200, .va S_159, .un, x4, x5, .un] = .ok (.nx, EF) := jf (i := 159) (nm := D.str "ha") (by kernel_rfl) st_159 rfl fl_160
theorem fl_158 {x4 x5 : Sl} : forL JT JB (PR.drop 158) [.va LNG, .va N200, .va S_158, .un, x4, x5, .un] = .ok (.nx, EF) := jf (i := 158) (nm := D.str "ga") (by kernel_rfl) st_158 rfl fl_159
theorem fl_157 {x4 x5 : Sl} : forL JT JB (PR.drop 157) [.va LNG, .va N200, .va S_157, .un, x4, x5, .un] = .ok (.nx, EF) := jf (i := 157) (nm := D.str "fa") (by kernel_rfl) st_157 rfl fl_158
theorem fl_156 {x4 x5 : Sl} : forL JT JB (PR.drop 156) [.va LNG, .va N200, .va S_156, .un, x4, x5, .un] = .ok (.nx, EF) := jf (i := 156) (nm := D.str "ea") (by kernel_rfl) st_156 rfl fl_157
theorem fl_155 {x4 x5 : Sl} : forL JT JB (PR.drop 155) [.va LNG, .va N200, .va S_155, .un, x4, x5, .un] = .ok (.nx, EF) := jf (i := 155) (nm := D.str "da") (by kernel_rfl) st_155 rfl fl_156
theorem fl_154 {x4 x5 : Sl} : forL JT JB (PR.drop 154) [.va LNG, .va N200, .va S_154, .un, x4, x5, .un] = .ok (.nx, EF) := jf (i := 154) (nm := D.str "ca") (by kernel_rfl) st_154 rfl fl_155
theorem fl_153 {x4 x5 : Sl} : forL JT JB (PR.drop 153) [.va LNG, .va N200, .va S_153, .un, x4, x5, .un] = .ok (.nx, EF) := jf (i := 153) (nm := D.str "ba") (by kernel_rfl) st_153 rfl fl_154
theorem fl_152 {x4 x5 : Sl} : forL JT JB (PR.drop 152) [.va LNG, .va N200, .va S_152, .un, x4, x5, .un] = .ok (.nx, EF) := jf (i := 152) (nm := D.str "aa") (by kernel_rfl) st_152 rfl fl_153
theorem fl_151 {x4 x5 : Sl} : forL JT JB (PR.drop 151) [.va LNG, .va N200, .va S_151, .un, x4, x5, .un] = .ok (.nx, EF) := jf (i := 151) (nm := D.str "ha") (by kernel_rfl) st_151 rfl fl_152
theorem fl_150 {x4 x5 : Sl} : forL JT JB (PR.drop 150) [.va LNG, .va N200, .va S_150, .un, x4, x5, .un] = .ok (.nx, EF) := jf (i := 150) (nm := D.str "ga") (by kernel_rfl) st_150 rfl fl_151
theorem fl_149 {x4 x5 : Sl} : forL JT JB (PR.drop 149) [.va LNG, .va N200, .va S_149, .un, x4, x5, .un] = .ok (.nx, EF) := jf (i := 149) (nm := D.str "fa") (by kernel_rfl) st_149 rfl fl_150
theorem fl_148 {x4 x5 : Sl} : forL JT JB (PR.drop 148) [.va LNG, .va N200, .va S_148, .un, x4, x5, .un] = .ok (.nx, EF) := jf (i := 148) (nm := D.str "ea") (by kernel_rfl) st_148 rfl fl_149
theorem fl_147 {x4 x5 : Sl} : forL JT JB (PR.drop 147) [.va LNG, .va N200, .va S_147, .un, x4, x5, .un] = .ok (.nx, EF) := jf (i := 147) (nm := D.str "da") (by kernel_rfl) st_147 rfl fl_148
theorem fl_146 {x4 x5 : Sl} : forL JT JB (PR.drop 146) [.va LNG, .va N200, .va S_146, .un, x4, x5, .un] = .ok (.nx, EF) := jf (i := 146) (nm := D.str "ca") (by kernel_rfl) st_146 rfl fl_147
theorem fl_145 {x4 x5 : Sl} : forL JT JB (PR.drop 145) [.va LNG, .va N200, .va S_145, .un, x4, x5, .un] = .ok (.nx, EF) := jf (i := 145) (nm := D.str "ba") (by kernel_rfl) st_145 rfl fl_146
theorem fl_144 {x4 x5 : Sl} : forL JT JB (PR.drop 144) [.va LNG, .va N200, .va S_144, .un, x4, x5, .un] = .ok (.nx, EF) := jf (i := 144) (nm := D.str "aa") (by kernel_rfl) st_144 rfl fl_145
theorem fl_143 {x4 x5 : Sl} : forL JT JB (PR.drop 143) [.va LNG, .va N200, .va S_143, .un, x4, x5, .un] = .ok (.nx, EF) := jf (i := 143) (nm := D.str "ha") (by kernel_rfl) st_143 rfl fl_144
theorem fl_142 {x4 x5 : Sl} : forL JT JB (PR.drop 142) [.va LNG, .va N200, .va S_142, .un, x4, x5, .un] = .ok (.nx, EF) := jf (i := 142) (nm := D.str "ga") (by kernel_rfl) st_142 rfl fl_143
theorem fl_141 {x4 x5 : Sl} : forL JT JB (PR.drop 141) [.va LNG, .va N200, .va S_141, .un, x4, x5, .un] = .ok (.nx, EF) := jf (i := 141) (nm := D.str "fa") (by kernel_rfl) st_141 rfl fl_142
theorem fl_140 {x4 x5 : Sl} : forL JT JB (PR.drop 140) [.va LNG, .va N200, .va S_140, .un, x4, x5, .un] = .ok (.nx, EF) := jf (i := 140) (nm := D.str "ea") (by kernel_rfl) st_140 rfl fl_141
theorem fl_139 {x4 x5 : Sl} : forL JT JB (PR.drop 139) [.va LNG, .va N200, .va S_139, .un, x4, x5, .un] = .ok (.nx, EF) := jf (i := 139) (nm := D.str "da") (by kernel_rfl) st_139 rfl fl_140
theorem fl_138 {x4 x5 : Sl} : forL JT JB (PR.drop 138) [.va LNG, .va N200, .va S_138, .un, x4, x5, .un] = .ok (.nx, EF) := jf (i := 138) (nm := D.str "ca") (by kernel_rfl) st_138 rfl fl_139
theorem fl_137 {x4 x5 : Sl} : forL JT JB (PR.drop 137) [.va LNG, .va N200, .va S_137, .un, x4, x5, .un] = .ok (.nx, EF) := jf (i := 137) (nm := D.str "ba") (by kernel_rfl) st_137 rfl fl_138
theorem fl_136 {x4 x5 : Sl} : forL JT JB (PR.drop 136) [.va LNG, .va N200, .va S_136, .un, x4, x5, .un] = .ok (.nx, EF) := jf (i := 136) (nm := D.str "aa") (by kernel_rfl) st_136 rfl fl_137
theorem fl_135 {x4 x5 : Sl} : forL JT JB (PR.drop 135) [.va LNG, .va N200, .va S_135, .un, x4, x5, .un] = .ok (.nx, EF) := jf (i := 135) (nm := D.str "ha") (by kernel_rfl) st_135 rfl fl_136
theorem fl_134 {x4 x5 : Sl} : forL JT JB (PR.drop 134) [.va LNG, .va N200, .va S_134, .un, x4, x5, .un] = .ok (.nx, EF) := jf (i := 134) (nm := D.str "ga") (by kernel_rfl) st_134 rfl fl_135
theorem fl_133 {x4 x5 : Sl} : forL JT JB (PR.drop 133) [.va LNG, .va N200, .va S_133, .un, x4, x5, .un] = .ok (.nx, EF) := jf (i := 133) (nm := D.str "fa") (by kernel_rfl) st_133 rfl fl_134
theorem fl_132 {x4 x5 : Sl} : forL JT JB (PR.drop 132) [.va LNG, .va N200, .va S_132, .un, x4, x5, .un] = .ok (.nx, EF) := jf (i := 132) (nm := D.str "ea") (by kernel_rfl) st_132 rfl fl_133
theorem fl_131 {x4 x5 : Sl} : forL JT JB (PR.drop 131) [.va LNG, .va N200, .va S_131, .un, x4, x5, .un] = .ok (.nx, EF) := jf (i := 131) (nm := D.str "da") (by kernel_rfl) st_131 rfl fl_132
theorem fl_130 {x4 x5 : Sl} : forL JT JB (PR.drop 130) [.va LNG, .va N200, .va S_130, .un, x4, x5, .un] = .ok (.nx, EF) := jf (i := 130) (nm := D.str "ca") (by kernel_rfl) st_130 rfl fl_131
theorem fl_129 {x4 x5 : Sl} : forL JT JB (PR.drop 129) [.va LNG, .va N200, .va S_129, .un, x4, x5, .un] = .ok (.nx, EF) := jf (i := 129) (nm := D.str "ba") (by kernel_rfl) st_129 rfl fl_130
theorem fl_128 {x4 x5 : Sl} : forL JT JB (PR.drop 128) [.va LNG, .va N200, .va S_128, .un, x4, x5, .un] = .ok (.nx, EF) := jf (i := 128) (nm := D.str "aa") (by kernel_rfl) st_128 rfl fl_129
theorem fl_127 {x4 x5 : Sl} : forL JT JB (PR.drop 127) [.va LNG, .va N200, .va S_127, .un, x4, x5, .un] = .ok (.nx, EF) := jf (i := 127) (nm := D.str "ha") (by kernel_rfl) st_127 rfl fl_128
theorem fl_126 {x4 x5 : Sl} : forL JT JB (PR.drop 126) [.va LNG, .va N200, .va S_126, .un, x4, x5, .un] = .ok (.nx, EF) := jf (i := 126) (nm := D.str "ga") (by kernel_rfl) st_126 rfl fl_127
theorem fl_125 {x4 x5 : Sl} : forL JT JB (PR.drop 125) [.va LNG, .va N200, .va S_125, .un, x4, x5, .un] = .ok (.nx, EF) := jf (i := 125) (nm := D.str "fa") (by kernel_rfl) st_125 rfl fl_126
theorem fl_124 {x4 x5 : Sl} : forL JT JB (PR.drop 124) [.va LNG, .va N200, .va S_124, .un, x4, x5, .un] = .ok (.nx, EF) := jf (i := 124) (nm := D.str "ea") (by kernel_rfl) st_124 rfl fl_125
theorem fl_123 {x4 x5 : Sl} : forL JT JB (PR.drop 123) [.va LNG, .va N200, .va S_123, .un, x4, x5, .un] = .ok (.nx, EF) := jf (i := 123) (nm := D.str "da") (by kernel_rfl) st_123 rfl fl_124
theorem fl_122 {x4 x5 : Sl} : forL JT JB (PR.drop 122) [.va LNG, .va N200, .va S_122, .un, x4, x5, .un] = .ok (.nx, EF) := jf (i := 122) (nm := D.str "ca") (by kernel_rfl) st_122 rfl fl_123
theorem fl_121 {x4 x5 : Sl} : forL JT JB (PR.drop 121) [.va LNG, .va N200, .va S_121, .un, x4, x5, .un] = .ok (.nx, EF) := jf (i := 121) (nm := D.str "ba") (by kernel_rfl) st_121 rfl fl_122
theorem fl_120 {x4 x5 : Sl} : forL JT JB (PR.drop 120) [.va LNG, .va N200, .va S_120, .un, x4, x5, .un] = .ok (.nx, EF) := jf (i := 120) (nm := D.str "aa") (by kernel_rfl) st_120 rfl fl_121
theorem fl_119 {x4 x5 : Sl} : forL JT JB (PR.drop 119) [.va LNG, .va N200, .va S_119, .un, x4, x5, .un] = .ok (.nx, EF) := jf (i := 119) (nm := D.str "ha") (by kernel_rfl) st_119 rfl fl_120
theorem fl_118 {x4 x5 : Sl} : forL JT JB (PR.drop 118) [.va LNG, .va N200, .va S_118, .un, x4, x5, .un] = .ok (.nx, EF) := jf (i := 118) (nm := D.str "ga") (by kernel_rfl) st_118 rfl fl_119
theorem fl_117 {x4 x5 : Sl} : forL JT JB (PR.drop 117) [.va LNG, .va N200, .va S_117, .un, x4, x5, .un] = .ok (.nx, EF) := jf (i := 117) (nm := D.str "fa") (by kernel_rfl) st_117 rfl fl_118
theorem fl_116 {x4 x5 : Sl} : forL JT JB (PR.drop 116) [.va LNG, .va N200, .va S_116, .un, x4, x5, .un] = .ok (.nx, EF) := jf (i := 116) (nm := D.str "ea") (by kernel_rfl) st_116 rfl fl_117
theorem fl_115 {x4 x5 : Sl} : forL JT JB (PR.drop 115) [.va LNG, .va N200, .va S_115, .un, x4, x5, .un] = .ok (.nx, EF) := jf (i := 115) (nm := D.str "da") (by kernel_rfl) st_115 rfl fl_116
theorem fl_114 {x4 x5 : Sl} : forL JT JB (PR.drop 114) [.va LNG, .va N200, .va S_114, .un, x4, x5, .un] = .ok (.nx, EF) := jf (i := 114) (nm := D.str "ca") (by kernel_rfl) st_114 rfl fl_115
theorem fl_113 {x4 x5 : Sl} : forL JT JB (PR.drop 113) [.va LNG, .va N200, .va S_113, .un, x4, x5, .un] = .ok (.nx, EF) := jf (i := 113) (nm := D.str "ba") (by kernel_rfl) st_113 rfl fl_114
theorem fl_112 {x4 x5 : Sl} : forL JT JB (PR.drop 112) [.va LNG, .va N200, .va S_112, .un, x4, x5, .un] = .ok (.nx, EF) := jf (i := 112) (nm := D.str "aa") (by kernel_rfl) st_112 rfl fl_113
theorem fl_111 {x4 x5 : Sl} : forL JT JB (PR.drop 111) [.va LNG, .va N200, .va S_111, .un, x4, x5, .un] = .ok (.nx, EF) := jf (i := 111) (nm := D.str "ha") (by kernel_rfl) st_111 rfl fl_112
theorem fl_110 {x4 x5 : Sl} : forL JT JB (PR.drop 110) [.va LNG, .va N200, .va S_110, .un, x4, x5, .un] = .ok (.nx, EF) := jf (i := 110) (nm := D.str "ga") (by kernel_rfl) st_110 rfl fl_111
theorem fl_109 {x4 x5 : Sl} : forL JT JB (PR.drop 109) [.va LNG, .va N200, .va S_109, .un, x4, x5, .un] = .ok (.nx, EF) := jf (i := 109) (nm := D.str "fa") (by kernel_rfl) st_109 rfl fl_110
theorem fl_108 {x4 x5 : Sl} : forL JT JB (PR.drop 108) [.va LNG, .va N200, .va S_108, .un, x4, x5, .un] = .ok (.nx, EF) := jf (i := 108) (nm := D.str "ea") (by kernel_rfl) st_108 rfl fl_109
theorem fl_107 {x4 x5 : Sl} : forL JT JB (PR.drop 107) [.va LNG, .va N200, .va S_107, .un, x4, x5, .un] = .ok (.nx, EF) := jf (i := 107) (nm := D.str "da") (by kernel_rfl) st_107 rfl fl_108
theorem fl_106 {x4 x5 : Sl} : forL JT JB (PR.drop 106) [.va LNG, .va N200, .va S_106, .un, x4, x5, .un] = .ok (.nx, EF) := jf (i := 106) (nm := D.str "ca") (by kernel_rfl) st_106 rfl fl_107
theorem fl_105 {x4 x5 : Sl} : forL JT JB (PR.drop 105) [.va LNG, .va N200, .va S_105, .un, x4, x5, .un] = .ok (.nx, EF) := jf (i := 105) (nm := D.str "ba") (by kernel_rfl) st_105 rfl fl_106
theorem fl_104 {x4 x5 : Sl} : forL JT JB (PR.drop 104) [.va LNG, .va N200, .va S_104, .un, x4, x5, .un] = .ok (.nx, EF) := jf (i := 104) (nm := D.str "aa") (by kernel_rfl) st_104 rfl fl_105
theorem fl_103 {x4 x5 : Sl} : forL JT JB (PR.drop 103) [.va LNG, .va N200, .va S_103, .un, x4, x5, .un] = .ok (.nx, EF) := jf (i := 103) (nm := D.str "ha") (by kernel_rfl) st_103 rfl fl_104
theorem fl_102 {x4 x5 : Sl} : forL JT JB (PR.drop 102) [.va LNG, .va N200, .va S_102, .un, x4, x5, .un] = .ok (.nx, EF) := jf (i := 102) (nm := D.str "ga") (by kernel_rfl) st_102 rfl fl_103
theorem fl_101 {x4 x5 : Sl} : forL JT JB (PR.drop 101) [.va LNG, .va N200, .va S_101, .un, x4, x5, .un] = .ok (.nx, EF) := jf (i := 101) (nm := D.str "fa") (by kernel_rfl) st_101 rfl fl_102
theorem fl_100 {x4 x5 : Sl} : forL JT JB (PR.drop 100) [.va LNG, .va N200, .va S_100, .un, x4, x5, .un] = .ok (.nx, EF) := jf (i := 100) (nm := D.str "ea") (by kernel_rfl) st_100 rfl fl_101
theorem fl_99 {x4 x5 : Sl} : forL JT JB (PR.drop 99) [.va LNG, .va N200, .va S_99, .un, x4, x5, .un] = .ok (.nx, EF) := jf (i := 99) (nm := D.str "da") (by kernel_rfl) st_99 rfl fl_100
theorem fl_98 {x4 x5 : Sl} : forL JT JB (PR.drop 98) [.va LNG, .va N200, .va S_98, .un, x4, x5, .un] = .ok (.nx, EF) := jf (i := 98) (nm := D.str "ca") (by kernel_rfl) st_98 rfl fl_99
theorem fl_97 {x4 x5 : Sl} : forL JT JB (PR.drop 97) [.va LNG, .va N200, .va S_97, .un, x4, x5, .un] = .ok (.nx, EF) := jf (i := 97) (nm := D.str "ba") (by kernel_rfl) st_97 rfl fl_98
theorem fl_96 {x4 x5 : Sl} : forL JT JB (PR.drop 96) [.va LNG, .va N200, .va S_96, .un, x4, x5, .un] = .ok (.nx, EF) := jf (i := 96) (nm := D.str "aa") (by kernel_rfl) st_96 rfl fl_97
theorem fl_95 {x4 x5 : Sl} : forL JT JB (PR.drop 95) [.va LNG, .va N200, .va S_95, .un, x4, x5, .un] = .ok (.nx, EF) := jf (i := 95) (nm := D.str "ha") (by kernel_rfl) st_95 rfl fl_96
theorem fl_94 {x4 x5 : Sl} : forL JT JB (PR.drop 94) [.va LNG, .va N200, .va S_94, .un, x4, x5, .un] = .ok (.nx, EF) := jf (i := 94) (nm := D.str "ga") (by kernel_rfl) st_94 rfl fl_95
theorem fl_93 {x4 x5 : Sl} : forL JT JB (PR.drop 93) [.va LNG, .va N200, .va S_93, .un, x4, x5, .un] = .ok (.nx, EF) := jf (i := 93) (nm := D.str "fa") (by kernel_rfl) st_93 rfl fl_94
theorem fl_92 {x4 x5 : Sl} : forL JT JB (PR.drop 92) [.va LNG, .va N200, .va S_92, .un, x4, x5, .un] = .ok (.nx, EF) := jf (i := 92) (nm := D.str "ea") (by kernel_rfl) st_92 rfl fl_93
theorem fl_91 {x4 x5 : Sl} : forL JT JB (PR.drop 91) [.va LNG, .va N200, .va S_91, .un, x4, x5, .un] = .ok (.nx, EF) := jf (i := 91) (nm := D.str "da") (by kernel_rfl) st_91 rfl fl_92
theorem fl_90 {x4 x5 : Sl} : forL JT JB (PR.drop 90) [.va LNG, .va N200, .va S_90, .un, x4, x5, .un] = .ok (.nx, EF) := jf (i := 90) (nm := D.str "ca") (by kernel_rfl) st_90 rfl fl_91
theorem fl_89 {x4 x5 : Sl} : forL JT JB (PR.drop 89) [.va LNG, .va N200, .va S_89, .un, x4, x5, .un] = .ok (.nx, EF) := jf (i := 89) (nm := D.str "ba") (by kernel_rfl) st_89 rfl fl_90
theorem fl_88 {x4 x5 : Sl} : forL JT JB (PR.drop 88) [.va LNG, .va N200, .va S_88, .un, x4, x5, .un] = .ok (.nx, EF) := jf (i := 88) (nm := D.str "aa") (by kernel_rfl) st_88 rfl fl_89
theorem fl_87 {x4 x5 : Sl} : forL JT JB (PR.drop 87) [.va LNG, .va N200, .va S_87, .un, x4, x5, .un] = .ok (.nx, EF) := jf (i := 87) (nm := D.str "ha") (by kernel_rfl) st_87 rfl fl_88
theorem fl_86 {x4 x5 : Sl} : forL JT JB (PR.drop 86) [.va LNG, .va N200, .va S_86, .un, x4, x5, .un] = .ok (.nx, EF) := jf (i := 86) (nm := D.str "ga") (by kernel_rfl) st_86 rfl fl_87
theorem fl_85 {x4 x5 : Sl} : forL JT JB (PR.drop 85) [.va LNG, .va N200, .va S_85, .un, x4, x5, .un] = .ok (.nx, EF) := jf (i := 85) (nm := D.str "fa") (by kernel_rfl) st_85 rfl fl_86
theorem fl_84 {x4 x5 : Sl} : forL JT JB (PR.drop 84) [.va LNG, .va N200, .va S_84, .un, x4, x5, .un] = .ok (.nx, EF) := jf (i := 84) (nm := D.str "ea") (by kernel_rfl) st_84 rfl fl_85
theorem fl_83 {x4 x5 : Sl} : forL JT JB (PR.drop 83) [.va LNG, .va N200, .va S_83, .un, x4, x5, .un] = .ok (.nx, EF) := jf (i := 83) (nm := D.str "da") (by kernel_rfl) st_83 rfl fl_84
theorem fl_82 {x4 x5 : Sl} : forL JT JB (PR.drop 82) [.va LNG, .va N200, .va S_82, .un, x4, x5, .un] = .ok (.nx, EF) := jf (i := 82) (nm := D.str "ca") (by kernel_rfl) st_82 rfl fl_83
theorem fl_81 {x4 x5 : Sl} : forL JT JB (PR.drop 81) [.va LNG, .va N200, .va S_81, .un, x4, x5, .un] = .ok (.nx, EF) := jf (i := 81) (nm := D.str "ba") (by kernel_rfl) st_81 rfl fl_82
theorem fl_80 {x4 x5 : Sl} : forL JT JB (PR.drop 80) [.va LNG, .va N200, .va S_80, .un, x4, x5, .un] = .ok (.nx, EF) := jf (i := 80) (nm := D.str "aa") (by kernel_rfl) st_80 rfl fl_81
theorem fl_79 {x4 x5 : Sl} : forL JT JB (PR.drop 79) [.va LNG, .va N200, .va S_79, .un, x4, x5, .un] = .ok (.nx, EF) := jf (i := 79) (nm := D.str "ha") (by kernel_rfl) st_79 rfl fl_80
theorem fl_78 {x4 x5 : Sl} : forL JT JB (PR.drop 78) [.va LNG, .va N200, .va S_78, .un, x4, x5, .un] = .ok (.nx, EF) := jf (i := 78) (nm := D.str "ga") (by kernel_rfl) st_78 rfl fl_79
theorem fl_77 {x4 x5 : Sl} : forL JT JB (PR.drop 77) [.va LNG, .va N200, .va S_77, .un, x4, x5, .un] = .ok (.nx, EF) := jf (i := 77) (nm := D.str "fa") (by kernel_rfl) st_77 rfl fl_78
theorem fl_76 {x4 x5 : Sl} : forL JT JB (PR.drop 76) [.va LNG, .va N200, .va S_76, .un, x4, x5, .un] = .ok (.nx, EF) := jf (i := 76) (nm := D.str "ea") (by kernel_rfl) st_76 rfl fl_77
theorem fl_75 {x4 x5 : Sl} : forL JT JB (PR.drop 75) [.va LNG, .va N200, .va S_75, .un, x4, x5, .un] = .ok (.nx, EF) := jf (i := 75) (nm := D.str "da") (by kernel_rfl) st_75 rfl fl_76
theorem fl_74 {x4 x5 : Sl} : forL JT JB (PR.drop 74) [.va LNG, .va N200, .va S_74, .un, x4, x5, .un] = .ok (.nx, EF) := jf (i := 74) (nm := D.str "ca") (by kernel_rfl) st_74 rfl fl_75
theorem fl_73 {x4 x5 : Sl} : forL JT JB (PR.drop 73) [.va LNG, .va N200, .va S_73, .un, x4, x5, .un] = .ok (.nx, EF) := jf (i := 73) (nm := D.str "ba") (by kernel_rfl) st_73 rfl fl_74
theorem fl_72 {x4 x5 : Sl} : forL JT JB (PR.drop 72) [.va LNG, .va N200, .va S_72, .un, x4, x5, .un] = .ok (.nx, EF) := jf (i := 72) (nm := D.str "aa") (by kernel_rfl) st_72 rfl fl_73
theorem fl_71 {x4 x5 : Sl} : forL JT JB (PR.drop 71) [.va LNG, .va N200, .va S_71, .un, x4, x5, .un] = .ok (.nx, EF) := jf (i := 71) (nm := D.str "ha") (by kernel_rfl) st_71 rfl fl_72
theorem fl_70 {x4 x5 : Sl} : forL JT JB (PR.drop 70) [.va LNG, .va N200, .va S_70, .un, x4, x5, .un] = .ok (.nx, EF) := jf (i := 70) (nm := D.str "ga") (by kernel_rfl) st_70 rfl fl_71
theorem fl_69 {x4 x5 : Sl} : forL JT JB (PR.drop 69) [.va LNG, .va N200, .va S_69, .un, x4, x5, .un] = .ok (.nx, EF) := jf (i := 69) (nm := D.str "fa") (by kernel_rfl) st_69 rfl fl_70
theorem fl_68 {x4 x5 : Sl} : forL JT JB (PR.drop 68) [.va LNG, .va N200, .va S_68, .un, x4, x5, .un] = .ok (.nx, EF) := jf (i := 68) (nm := D.str "ea") (by kernel_rfl) st_68 rfl fl_69
theorem fl_67 {x4 x5 : Sl} : forL JT JB (PR.drop 67) [.va LNG, .va N200, .va S_67, .un, x4, x5, .un] = .ok (.nx, EF) := jf (i := 67) (nm := D.str "da") (by kernel_rfl) st_67 rfl fl_68
theorem fl_66 {x4 x5 : Sl} : forL JT JB (PR.drop 66) [.va LNG, .va N200, .va S_66, .un, x4, x5, .un] = .ok (.nx, EF) := jf (i := 66) (nm := D.str "ca") (by kernel_rfl) st_66 rfl fl_67
theorem fl_65 {x4 x5 : Sl} : forL JT JB (PR.drop 65) [.va LNG, .va N200, .va S_65, .un, x4, x5, .un] = .ok (.nx, EF) := jf (i := 65) (nm := D.str "ba") (by kernel_rfl) st_65 rfl fl_66
theorem fl_64 {x4 x5 : Sl} : forL JT JB (PR.drop 64) [.va LNG, .va N200, .va S_64, .un, x4, x5, .un] = .ok (.nx, EF) := jf (i := 64) (nm := D.str "aa") (by kernel_rfl) st_64 rfl fl_65
theorem fl_63 {x4 x5 : Sl} : forL JT JB (PR.drop 63) [.va LNG, .va N200, .va S_63, .un, x4, x5, .un] = .ok (.nx, EF) := jf (i := 63) (nm := D.str "ha") (by kernel_rfl) st_63 rfl fl_64
theorem fl_62 {x4 x5 : Sl} : forL JT JB (PR.drop 62) [.va LNG, .va N200, .va S_62, .un, x4, x5, .un] = .ok (.nx, EF) := jf (i := 62) (nm := D.str "ga") (by kernel_rfl) st_62 rfl fl_63
theorem fl_61 {x4 x5 : Sl} : forL JT JB (PR.drop 61) [.va LNG, .va N200, .va S_61, .un, x4, x5, .un] = .ok (.nx, EF) := jf (i := 61) (nm := D.str "fa") (by kernel_rfl) st_61 rfl fl_62
theorem fl_60 {x4 x5 : Sl} : forL JT JB (PR.drop 60) [.va LNG, .va N200, .va S_60, .un, x4, x5, .un] = .ok (.nx, EF) := jf (i := 60) (nm := D.str "ea") (by kernel_rfl) st_60 rfl fl_61
theorem fl_59 {x4 x5 : Sl} : forL JT JB (PR.drop 59) [.va LNG, .va N200, .va S_59, .un, x4, x5, .un] = .ok (.nx, EF) := jf (i := 59) (nm := D.str "da") (by kernel_rfl) st_59 rfl fl_60
theorem fl_58 {x4 x5 : Sl} : forL JT JB (PR.drop 58) [.va LNG, .va N200, .va S_58, .un, x4, x5, .un] = .ok (.nx, EF) := jf (i := 58) (nm := D.str "ca") (by kernel_rfl) st_58 rfl fl_59
theorem fl_57 {x4 x5 : Sl} : forL JT JB (PR.drop 57) [.va LNG, .va N200, .va S_57, .un, x4, x5, .un] = .ok (.nx, EF) := jf (i := 57) (nm := D.str "ba") (by kernel_rfl) st_57 rfl fl_58
theorem fl_56 {x4 x5 : Sl} : forL JT JB (PR.drop 56) [.va LNG, .va N200, .va S_56, .un, x4, x5, .un] = .ok (.nx, EF) := jf (i := 56) (nm := D.str "aa") (by kernel_rfl) st_56 rfl fl_57
theorem fl_55 {x4 x5 : Sl} : forL JT JB (PR.drop 55) [.va LNG, .va N200, .va S_55, .un, x4, x5, .un] = .ok (.nx, EF) := jf (i := 55) (nm := D.str "ha") (by kernel_rfl) st_55 rfl fl_56
theorem fl_54 {x4 x5 : Sl} : forL JT JB (PR.drop 54) [.va LNG, .va N200, .va S_54, .un, x4, x5, .un] = .ok (.nx, EF) := jf (i := 54) (nm := D.str "ga") (by kernel_rfl) st_54 rfl fl_55
theorem fl_53 {x4 x5 : Sl} : forL JT JB (PR.drop 53) [.va LNG, .va N200, .va S_53, .un, x4, x5, .un] = .ok (.nx, EF) := jf (i := 53) (nm := D.str "fa") (by kernel_rfl) st_53 rfl fl_54
theorem fl_52 {x4 x5 : Sl} : forL JT JB (PR.drop 52) [.va LNG, .va N200, .va S_52, .un, x4, x5, .un] = .ok (.nx, EF) := jf (i := 52) (nm := D.str "ea") (by kernel_rfl) st_52 rfl fl_53
theorem fl_51 {x4 x5 : Sl} : forL JT JB (PR.drop 51) [.va LNG, .va N200, .va S_51, .un, x4, x5, .un] = .ok (.nx, EF) := jf (i := 51) (nm := D.str "da") (by kernel_rfl) st_51 rfl fl_52
theorem fl_50 {x4 x5 : Sl} : forL JT JB (PR.drop 50) [.va LNG, .va N200, .va S_50, .un, x4, x5, .un] = .ok (.nx, EF) := jf (i := 50) (nm := D.str "ca") (by kernel_rfl) st_50 rfl fl_51
theorem fl_49 {x4 x5 : Sl} : forL JT JB (PR.drop 49) [.va LNG, .va N200, .va S_49, .un, x4, x5, .un] = .ok (.nx, EF) := jf (i := 49) (nm := D.str "ba") (by kernel_rfl) st_49 rfl fl_50
theorem fl_48 {x4 x5 : Sl} : forL JT JB (PR.drop 48) [.va LNG, .va N200, .va S_48, .un, x4, x5, .un] = .ok (.nx, EF) := jf (i := 48) (nm := D.str "aa") (by kernel_rfl) st_48 rfl fl_49
theorem fl_47 {x4 x5 : Sl} : forL JT JB (PR.drop 47) [.va LNG, .va N200, .va S_47, .un, x4, x5, .un] = .ok (.nx, EF) := jf (i := 47) (nm := D.str "ha") (by kernel_rfl) st_47 rfl fl_48
theorem fl_46 {x4 x5 : Sl} : forL JT JB (PR.drop 46) [.va LNG, .va N200, .va S_46, .un, x4, x5, .un] = .ok (.nx, EF) := jf (i := 46) (nm := D.str "ga") (by kernel_rfl) st_46 rfl fl_47
theorem fl_45 {x4 x5 : Sl} : forL JT JB (PR.drop 45) [.va LNG, .va N200, .va S_45, .un, x4, x5, .un] = .ok (.nx, EF) := jf (i := 45) (nm := D.str "fa") (by kernel_rfl) st_45 rfl fl_46
theorem fl_44 {x4 x5 : Sl} : forL JT JB (PR.drop 44) [.va LNG, .va N200, .va S_44, .un, x4, x5, .un] = .ok (.nx, EF) := jf (i := 44) (nm := D.str "ea") (by kernel_rfl) st_44 rfl fl_45
theorem fl_43 {x4 x5 : Sl} : forL JT JB (PR.drop 43) [.va LNG, .va N200, .va S_43, .un, x4, x5, .un] = .ok (.nx, EF) := jf (i := 43) (nm := D.str "da") (by kernel_rfl) st_43 rfl fl_44
theorem fl_42 {x4 x5 : Sl} : forL JT JB (PR.drop 42) [.va LNG, .va N200, .va S_42, .un, x4, x5, .un] = .ok (.nx, EF) := jf (i := 42) (nm := D.str "ca") (by kernel_rfl) st_42 rfl fl_43
theorem fl_41 {x4 x5 : Sl} : forL JT JB (PR.drop 41) [.va LNG, .va N200, .va S_41, .un, x4, x5, .un] = .ok (.nx, EF) := jf (i := 41) (nm := D.str "ba") (by kernel_rfl) st_41 rfl fl_42
theorem fl_40 {x4 x5 : Sl} : forL JT JB (PR.drop 40) [.va LNG, .va N200, .va S_40, .un, x4, x5, .un] = .ok (.nx, EF) := jf (i := 40) (nm := D.str "aa") (by kernel_rfl) st_40 rfl fl_41
theorem fl_39 {x4 x5 : Sl} : forL JT JB (PR.drop 39) [.va LNG, .va N200, .va S_39, .un, x4, x5, .un] = .ok (.nx, EF) := jf (i := 39) (nm := D.str "ha") (by kernel_rfl) st_39 rfl fl_40
theorem fl_38 {x4 x5 : Sl} : forL JT JB (PR.drop 38) [.va LNG, .va N200, .va S_38, .un, x4, x5, .un] = .ok (.nx, EF) := jf (i := 38) (nm := D.str "ga") (by kernel_rfl) st_38 rfl fl_39
theorem fl_37 {x4 x5 : Sl} : forL JT JB (PR.drop 37) [.va LNG, .va N200, .va S_37, .un, x4, x5, .un] = .ok (.nx, EF) := jf (i := 37) (nm := D.str "fa") (by kernel_rfl) st_37 rfl fl_38
theorem fl_36 {x4 x5 : Sl} : forL JT JB (PR.drop 36) [.va LNG, .va N200, .va S_36, .un, x4, x5, .un] = .ok (.nx, EF) := jf (i := 36) (nm := D.str "ea") (by kernel_rfl) st_36 rfl fl_37
theorem fl_35 {x4 x5 : Sl} : forL JT JB (PR.drop 35) [.va LNG, .va N200, .va S_35, .un, x4, x5, .un] = .ok (.nx, EF) := jf (i := 35) (nm := D.str "da") (by kernel_rfl) st_35 rfl fl_36
theorem fl_34 {x4 x5 : Sl} : forL JT JB (PR.drop 34) [.va LNG, .va N200, .va S_34, .un, x4, x5, .un] = .ok (.nx, EF) := jf (i := 34) (nm := D.str "ca") (by kernel_rfl) st_34 rfl fl_35
theorem fl_33 {x4 x5 : Sl} : forL JT JB (PR.drop 33) [.va LNG, .va N200, .va S_33, .un, x4, x5, .un] = .ok (.nx, EF) := jf (i := 33) (nm := D.str "ba") (by kernel_rfl) st_33 rfl fl_34
theorem fl_32 {x4 x5 : Sl} : forL JT JB (PR.drop 32) [.va LNG, .va N200, .va S_32, .un, x4, x5, .un] = .ok (.nx, EF) := jf (i := 32) (nm := D.str "aa") (by kernel_rfl) st_32 rfl fl_33
theorem fl_31 {x4 x5 : Sl} : forL JT JB (PR.drop 31) [.va LNG, .va N200, .va S_31, .un, x4, x5, .un] = .ok (.nx, EF) := jf (i := 31) (nm := D.str "ha") (by kernel_rfl) st_31 rfl fl_32
theorem fl_30 {x4 x5 : Sl} : forL JT JB (PR.drop 30) [.va LNG, .va N200, .va S_30, .un, x4, x5, .un] = .ok (.nx, EF) := jf (i := 30) (nm := D.str "ga") (by kernel_rfl) st_30 rfl fl_31
theorem fl_29 {x4 x5 : Sl} : forL JT JB (PR.drop 29) [.va LNG, .va N200, .va S_29, .un, x4, x5, .un] = .ok (.nx, EF) := jf (i := 29) (nm := D.str "fa") (by kernel_rfl) st_29 rfl fl_30
theorem fl_28 {x4 x5 : Sl} : forL JT JB (PR.drop 28) [.va LNG, .va N200, .va S_28, .un, x4, x5, .un] = .ok (.nx, EF) := jf (i := 28) (nm := D.str "ea") (by kernel_rfl) st_28 rfl fl_29
theorem fl_27 {x4 x5 : Sl} : forL JT JB (PR.drop 27) [.va LNG, .va N200, .va S_27, .un, x4, x5, .un] = .ok (.nx, EF) := jf (i := 27) (nm := D.str "da") (by kernel_rfl) st_27 rfl fl_28
theorem fl_26 {x4 x5 : Sl} : forL JT JB (PR.drop 26) [.va LNG, .va N200, .va S_26, .un, x4, x5, .un] = .ok (.nx, EF) := jf (i := 26) (nm := D.str "ca") (by kernel_rfl) st_26 rfl fl_27
theorem fl_25 {x4 x5 : Sl} : forL JT JB (PR.drop 25) [.va LNG, .va N200, .va S_25, .un, x4, x5, .un] = .ok (.nx, EF) := jf (i := 25) (nm := D.str "ba") (by kernel_rfl) st_25 rfl fl_26
theorem fl_24 {x4 x5 : Sl} : forL JT JB (PR.drop 24) [.va LNG, .va N200, .va S_24, .un, x4, x5, .un] = .ok (.nx, EF) := jf (i := 24) (nm := D.str "aa") (by kernel_rfl) st_24 rfl fl_25
theorem fl_23 {x4 x5 : Sl} : forL JT JB (PR.drop 23) [.va LNG, .va N200, .va S_23, .un, x4, x5, .un] = .ok (.nx, EF) := jf (i := 23) (nm := D.str "ha") (by kernel_rfl) st_23 rfl fl_24
theorem fl_22 {x4 x5 : Sl} : forL JT JB (PR.drop 22) [.va LNG, .va N200, .va S_22, .un, x4, x5, .un] = .ok (.nx, EF) := jf (i := 22) (nm := D.str "ga") (by kernel_rfl) st_22 rfl fl_23
theorem fl_21 {x4 x5 : Sl} : forL JT JB (PR.drop 21) [.va LNG, .va N200, .va S_21, .un, x4, x5, .un] = .ok (.nx, EF) := jf (i := 21) (nm := D.str "fa") (by kernel_rfl) st_21 rfl fl_22
theorem fl_20 {x4 x5 : Sl} : forL JT JB (PR.drop 20) [.va LNG, .va N200, .va S_20, .un, x4, x5, .un] = .ok (.nx, EF) := jf (i := 20) (nm := D.str "ea") (by kernel_rfl) st_20 rfl fl_21
theorem fl_19 {x4 x5 : Sl} : forL JT JB (PR.drop 19) [.va LNG, .va N200, .va S_19, .un, x4, x5, .un] = .ok (.nx, EF) := jf (i := 19) (nm := D.str "da") (by kernel_rfl) st_19 rfl fl_20
theorem fl_18 {x4 x5 : Sl} : forL JT JB (PR.drop 18) [.va LNG, .va N200, .va S_18, .un, x4, x5, .un] = .ok (.nx, EF) := jf (i := 18) (nm := D.str "ca") (by kernel_rfl) st_18 rfl fl_19
theorem fl_17 {x4 x5 : Sl} : forL JT JB (PR.drop 17) [.va LNG, .va N200, .va S_17, .un, x4, x5, .un] = .ok (.nx, EF) := jf (i := 17) (nm := D.str "ba") (by kernel_rfl) st_17 rfl fl_18
theorem fl_16 {x4 x5 : Sl} : forL JT JB (PR.drop 16) [.va LNG, .va N200, .va S_16, .un, x4, x5, .un] = .ok (.nx, EF) := jf (i := 16) (nm := D.str "aa") (by kernel_rfl) st_16 rfl fl_17
theorem fl_15 {x4 x5 : Sl} : forL JT JB (PR.drop 15) [.va LNG, .va N200, .va S_15, .un, x4, x5, .un] = .ok (.nx, EF) := jf (i := 15) (nm := D.str "ha") (by kernel_rfl) st_15 rfl fl_16
theorem fl_14 {x4 x5 : Sl} : forL JT JB (PR.drop 14) [.va LNG, .va N200, .va S_14, .un, x4, x5, .un] = .ok (.nx, EF) := jf (i := 14) (nm := D.str "ga") (by kernel_rfl) st_14 rfl fl_15
theorem fl_13 {x4 x5 : Sl} : forL JT JB (PR.drop 13) [.va LNG, .va N200, .va S_13, .un, x4, x5, .un] = .ok (.nx, EF) := jf (i := 13) (nm := D.str "fa") (by kernel_rfl) st_13 rfl fl_14
theorem fl_12 {x4 x5 : Sl} : forL JT JB (PR.drop 12) [.va LNG, .va N200, .va S_12, .un, x4, x5, .un] = .ok (.nx, EF) := jf (i := 12) (nm := D.str "ea") (by kernel_rfl) st_12 rfl fl_13
theorem fl_11 {x4 x5 : Sl} : forL JT JB (PR.drop 11) [.va LNG, .va N200, .va S_11, .un, x4, x5, .un] = .ok (.nx, EF) := jf (i := 11) (nm := D.str "da") (by kernel_rfl) st_11 rfl fl_12
theorem fl_10 {x4 x5 : Sl} : forL JT JB (PR.drop 10) [.va LNG, .va N200, .va S_10, .un, x4, x5, .un] = .ok (.nx, EF) := jf (i := 10) (nm := D.str "ca") (by kernel_rfl) st_10 rfl fl_11
theorem fl_9 {x4 x5 : Sl} : forL JT JB (PR.drop 9) [.va LNG, .va N200, .va S_9, .un, x4, x5, .un] = .ok (.nx, EF) := jf (i := 9) (nm := D.str "ba") (by kernel_rfl) st_9 rfl fl_10
theorem fl_8 {x4 x5 : Sl} : forL JT JB (PR.drop 8) [.va LNG, .va N200, .va S_8, .un, x4, x5, .un] = .ok (.nx, EF) := jf (i := 8) (nm := D.str "aa") (by kernel_rfl) st_8 rfl fl_9
theorem fl_7 {x4 x5 : Sl} : forL JT JB (PR.drop 7) [.va LNG, .va N200, .va S_7, .un, x4, x5, .un] = .ok (.nx, EF) := jf (i := 7) (nm := D.str "ha") (by kernel_rfl) st_7 rfl fl_8
theorem fl_6 {x4 x5 : Sl} : forL JT JB (PR.drop 6) [.va LNG, .va N200, .va S_6, .un, x4, x5, .un] = .ok (.nx, EF) := jf (i := 6) (nm := D.str "ga") (by kernel_rfl) st_6 rfl fl_7
theorem fl_5 {x4 x5 : Sl} : forL JT JB (PR.drop 5) [.va LNG, .va N200, .va S_5, .un, x4, x5, .un] = .ok (.nx, EF) := jf (i := 5) (nm := D.str "fa") (by kernel_rfl) st_5 rfl fl_6
theorem fl_4 {x4 x5 : Sl} : forL JT JB (PR.drop 4) [.va LNG, .va N200, .va S_4, .un, x4, x5, .un] = .ok (.nx, EF) := jf (i := 4) (nm := D.str "ea") (by kernel_rfl) st_4 rfl fl_5
theorem fl_3 {x4 x5 : Sl} : forL JT JB (PR.drop 3) [.va LNG, .va N200, .va S_3, .un, x4, x5, .un] = .ok (.nx, EF) := jf (i := 3) (nm := D.str "da") (by kernel_rfl) st_3 rfl fl_4
theorem fl_2 {x4 x5 : Sl} : forL JT JB (PR.drop 2) [.va LNG, .va N200, .va S_2, .un, x4, x5, .un] = .ok (.nx, EF) := jf (i := 2) (nm := D.str "ca") (by kernel_rfl) st_2 rfl fl_3
theorem fl_1 {x4 x5 : Sl} : forL JT JB (PR.drop 1) [.va LNG, .va N200, .va S_1, .un, x4, x5, .un] = .ok (.nx, EF) := jf (i := 1) (nm := D.str "ba") (by kernel_rfl) st_1 rfl fl_2
theorem fl_0 {x4 x5 : Sl} : forL JT JB (PR.drop 0) [.va LNG, .va N200, .va S_0, .un, x4, x5, .un] = .ok (.nx, EF) := jf (i := 0) (nm := D.str "aa") (by kernel_rfl) st_0 rfl fl_1
end LW
end Dn

/-! P04e -/
set_option Elab.async false
set_option linter.all false
set_option maxRecDepth 100000
set_option maxHeartbeats 2000000
namespace Dn
namespace LW
open PySem
theorem it_two (R : List D → M D) (a t : D) (ha : R [a, .int 11] = .ok (.bl true)) (h : R [t, .int 11] = .ok (.bl true)) : fin (b_is_tree R (enter 3 [.tup [.str "row", .tup [a, t]], .int 12])) = .ok (.bl true) := by
  unfold b_is_tree
  simp [enter, bSeq, bNil, sIf, dTOr, dTNot, dTr, dTb, dIsi, dVar, D.ty, isTy, truth, dBin, dNe_int, dEq_int, dCall, dCons, dNil, bLen, dC, dIx, L2.atI, L2.ixN, sRaise, fin, sDrop, between_int, dAndV, dLc, dItems, lcL, gSet, put, noOw, wipeE, resE, bAll, bools, dChain, dLe, dCmpI, sRet, dYes, Dn.ns, isOw, dSub, dIntOp, mxs, h, ha, q_row_do, q_row_again, q_row_row, q_row_all, q_row_one, q_all_do, q_all_again, q_all_row, q_all_all, q_all_one, q_one_do, q_one_again, q_one_row, q_one_all, q_one_one, q_again_do, q_again_again, q_again_row, q_again_all, q_again_one, q_do_do, q_do_again, q_do_row, q_do_all, q_do_one, n_row, i_row, n_all, i_all, n_one, i_one, n_again, i_again]
theorem names_two (R : List D → M D) (a t x y : D) (ha : R [a] = .ok (.lst [x])) (h : R [t] = .ok (.lst [y])) : fin (b_names_in R (enter 3 [.tup [.str "row", .tup [a, t]]])) = .ok (.lst [x, y]) := by
  unfold b_names_in
  simp [enter, bSeq, bNil, sIf, dTOr, dTNot, dTr, dTb, dIsi, dVar, D.ty, isTy, truth, dBin, dNe_int, dEq_int, dCall, dCons, dNil, bLen, dC, dIx, L2.atI, L2.ixN, sRaise, fin, sDrop, between_int, dAndV, dLc, dItems, lcL, gSet, put, noOw, wipeE, resE, bAll, bools, dChain, dLe, dCmpI, sRet, dYes, Dn.ns, isOw, dSub, dIntOp, mxs, sSet, sSetO, sFor, forL, dLst, dMeth, fExt, sRetO, dVarO, dIf, bList, dTup, bTuple, dRev, bMax, bMin, bSum, leastOf, mostOf, intsOf, dMul, dIn, putD, repD, maxSeq, sForK, dGetO, dIxK, sSubK, h, ha, q_row_do, q_row_again, q_row_row, q_row_all, q_row_one, q_all_do, q_all_again, q_all_row, q_all_all, q_all_one, q_one_do, q_one_again, q_one_row, q_one_all, q_one_one, q_again_do, q_again_again, q_again_row, q_again_all, q_again_one, q_do_do, q_do_again, q_do_row, q_do_all, q_do_one, n_row, i_row, n_all, i_all, n_one, i_one, n_again, i_again]
end LW
end Dn

/-! P04d -/
set_option Elab.async false
set_option linter.all false
set_option maxRecDepth 100000
set_option maxHeartbeats 4000000
namespace Dn
namespace LW
open PySem

def MANY (k : D) : D := .tup [k, .tup [.tup [.str "row", STP], .tup [.str "do", .str "q"]]]
def PT : D := .tup [.str "row", ST8]
def dB : D := .tup [.str "do", .str "a"]
def TR : D := .tup [.str "row", .tup [dB, .tup [.str "do", .str "b"]]]
def KDS : List D := [.str "row", .str "all", .str "one"]
def TOLD : D := .lst [.str "argument run", .str "argument one", .str "argument other", .str "argument other"]
def NML : List D := [D.non, D.tup [D.str "a", D.int 5], D.tup [D.str "a", D.str ""], D.tup [D.str "a", D.str "B"], D.lst [D.str "a"], D.str "a", D.tup [D.str "a", D.str "a", D.str "a", D.str "a", D.str "a", D.str "a", D.str "a", D.str "a", D.str "a", D.str "a", D.str "a", D.str "a", D.str "a", D.str "a", D.str "a", D.str "a", D.str "a", D.str "a", D.str "a", D.str "a", D.str "a", D.str "a", D.str "a", D.str "a", D.str "a", D.str "a", D.str "a", D.str "a", D.str "a", D.str "a", D.str "a", D.str "a", D.str "a", D.str "a", D.str "a", D.str "a", D.str "a", D.str "a", D.str "a", D.str "a", D.str "a", D.str "a", D.str "a", D.str "a", D.str "a", D.str "a", D.str "a", D.str "a", D.str "a", D.str "a", D.str "a", D.str "a", D.str "a", D.str "a", D.str "a", D.str "a", D.str "a", D.str "a", D.str "a", D.str "a", D.str "a", D.str "a", D.str "a", D.str "a", D.str "a", D.str "a", D.str "a", D.str "a", D.str "a", D.str "a", D.str "a", D.str "a", D.str "a", D.str "a", D.str "a", D.str "a", D.str "a", D.str "a", D.str "a", D.str "a", D.str "a", D.str "a", D.str "a", D.str "a", D.str "a", D.str "a", D.str "a", D.str "a", D.str "a", D.str "a", D.str "a", D.str "a", D.str "a", D.str "a", D.str "a", D.str "a", D.str "a", D.str "a", D.str "a", D.str "a", D.str "a", D.str "a", D.str "a", D.str "a", D.str "a", D.str "a", D.str "a", D.str "a", D.str "a", D.str "a", D.str "a", D.str "a", D.str "a", D.str "a", D.str "a", D.str "a", D.str "a", D.str "a", D.str "a", D.str "a", D.str "a", D.str "a", D.str "a", D.str "a", D.str "a", D.str "a", D.str "a", D.str "a", D.str "a", D.str "a", D.str "a", D.str "a", D.str "a", D.str "a", D.str "a", D.str "a", D.str "a", D.str "a", D.str "a", D.str "a", D.str "a", D.str "a", D.str "a", D.str "a", D.str "a", D.str "a", D.str "a", D.str "a", D.str "a", D.str "a", D.str "a", D.str "a", D.str "a", D.str "a", D.str "a", D.str "a", D.str "a", D.str "a", D.str "a", D.str "a", D.str "a", D.str "a", D.str "a", D.str "a", D.str "a", D.str "a", D.str "a", D.str "a", D.str "a", D.str "a", D.str "a", D.str "a", D.str "a", D.str "a", D.str "a", D.str "a", D.str "a", D.str "a", D.str "a", D.str "a", D.str "a", D.str "a", D.str "a", D.str "a", D.str "a", D.str "a", D.str "a", D.str "a", D.str "a", D.str "a", D.str "a", D.str "a", D.str "a", D.str "a", D.str "a", D.str "a", D.str "a", D.str "a", D.str "a", D.str "a", D.str "a"], D.tup [D.tup [D.str "a"]], D.tup [D.str "a", D.str "bbbbbbbbbbb"], D.tup [D.str "a", D.non]]
def ODL : List D := [D.non, D.str "c", D.str "", D.int 5, D.tup [D.str "a"], D.bl true, D.str "B"]
theorem f7n : dNe (F7 "flow names") (F7 "flow names") = .ok (.bl false) := by kernel_rfl
theorem m7n {env : En} : dBin dMul (dLst (dCons (dC (.str "flow names")) (dNil))) (dC (.int 7)) env = .ok (F7 "flow names", env) := by kernel_rfl
theorem slice_lst {m : Ev} {ml mh : Ov} {env e1 e2 e3 : En} {d r : D} {lo hi : Option Int} (h : m env = .ok (d, e1)) (h1 : ml e1 = .ok (lo, e2)) (h2 : mh e2 = .ok (hi, e3)) (h3 : dSlice1 d lo hi = .ok r) : dSlice m ml mh env = .ok (r, e3) := by
  unfold dSlice
  rw [h, bnd_ok, h1, bnd_ok, h2, bnd_ok, h3]
  rfl
theorem la8 : mr_is_tree 5 [dA, .int 1] = .ok (.bl true) := by kernel_rfl
theorem la9 : mr_is_tree 4 [dA, .int 0] = .ok (.bl false) := by kernel_rfl
theorem deep_is {t : D} (w : Wr dA 11 t) : m_is_tree [t, .int 12] = .ok (.bl true) := is_tree_wr (k := 1) la8 w
theorem deeper_is {t : D} (w : Wr dA 12 t) : m_is_tree [t, .int 12] = .ok (.bl false) := is_tree_wr (k := 0) la9 w
theorem lb1 (f : Nat) : mr_names_in (f + 1) [dB] = .ok (.lst [.str "a"]) := by kernel_rfl
theorem lc_3 : mr_is_tree 7 [dB, .int 3] = .ok (.bl true) := by kernel_rfl
theorem lc_4 : mr_is_tree 8 [dB, .int 4] = .ok (.bl true) := by kernel_rfl
theorem lc_5 : mr_is_tree 9 [dB, .int 5] = .ok (.bl true) := by kernel_rfl
theorem lc_6 : mr_is_tree 10 [dB, .int 6] = .ok (.bl true) := by kernel_rfl
theorem lc_7 : mr_is_tree 11 [dB, .int 7] = .ok (.bl true) := by kernel_rfl
theorem lc_8 : mr_is_tree 12 [dB, .int 8] = .ok (.bl true) := by kernel_rfl
theorem lc_9 : mr_is_tree 13 [dB, .int 9] = .ok (.bl true) := by kernel_rfl
theorem lc_10 : mr_is_tree 14 [dB, .int 10] = .ok (.bl true) := by kernel_rfl
theorem lc_11 : mr_is_tree 15 [dB, .int 11] = .ok (.bl true) := by kernel_rfl
theorem dB_is (k : Nat) (h1 : 3 ≤ k) (h2 : k ≤ 11) : mr_is_tree (k + 4) [dB, .int (k : Nat)] = .ok (.bl true) := match k, h1, h2 with
  | 0, h1, _ => absurd h1 (by decide)
  | 1, h1, _ => absurd h1 (by decide)
  | 2, h1, _ => absurd h1 (by decide)
  | 3, _, _ => lc_3
  | 4, _, _ => lc_4
  | 5, _, _ => lc_5
  | 6, _, _ => lc_6
  | 7, _, _ => lc_7
  | 8, _, _ => lc_8
  | 9, _, _ => lc_9
  | 10, _, _ => lc_10
  | 11, _, _ => lc_11
  | k + 12, _, h2 => absurd h2 (by omega)
theorem chk_names {t : D} (h1 : m_is_tree [t, .int 12] = .ok (.bl true)) (h2 : m_names_in [t] = .ok (.lst [.str "a", .str "a"])) : m_check_tree [t] = .error (.raise 0 (.str "names")) := by
  unfold m_check_tree b_check_tree
  show fin (bSeq _ _ [.va t, .un, .un]) = _
  have e0 : ∀ {R : List Sl}, dVar 0 (.va t :: R) = .ok (t, .va t :: R) := rfl
  rw [stp ((sIf_f (dTNot_ok (dTr_bl (dCall2 e0 rfl h1)))).trans rfl)]
  rw [stp (sSet_to (i := 0) (e2 := [.va t, .va (.lst [.str "a", .str "a"]), .un]) (dCall1 e0 h2) rfl)]
  refine fin_err (bSeq_err ?_)
  kernel_rfl
theorem twice_chk {t : D} {n : Nat} (w : Wr dB n t) (hn : n ≤ 8) : m_check_tree [.tup [.str "row", .tup [dB, t]]] = .error (.raise 0 (.str "names")) := by
  have h1 := is_tree_wr (dB_is (11 - n) (by omega) (by omega)) w
  rw [show 11 - n + 4 + n = 15 by omega, show 11 - n + n = 11 by omega] at h1
  have h2 := names_wr (lb1 (14 - n)) w
  rw [show 14 - n + 1 + n = 15 by omega] at h2
  exact chk_names (it_two (mr_is_tree 15) dB t (by kernel_rfl) h1) (names_two (mr_names_in 15) dB t (.str "a") (.str "a") (lb1 14) h2)
theorem s2_ok {sc st : D} {x2 x10 x14 : Sl} (g : Good st) : ∃ (dp st' : D), sSet 3 (dCallO m__law_within 1 (dCons (dC (.int 11)) (dCons (dTup (dCons (dC (.str "do")) (dCons (dC (.str "ann")) (dNil)))) (dNil)))) [.va sc, .ow st, x2, .un, .un, .un, .un, .un, .un, .un, x10, .un, .un, .un, x14, .un] = .ok (.nx, [.va sc, .ow st', x2, .va dp, .un, .un, .un, .un, .un, .un, x10, .un, .un, .un, x14, .un]) ∧ Wr dA 11 dp ∧ Good st' := by
  obtain ⟨t, st', q, w, g'⟩ := within1 (sc := sc) (st := st) (R := [x2, .un, .un, .un, .un, .un, .un, .un, x10, .un, .un, .un, x14, .un]) (ms := dCons (dC (.int 11)) (dCons (dTup (dCons (dC (.str "do")) (dCons (dC (.str "ann")) (dNil)))) (dNil))) (st1 := st) (n := 11) (leaf := dA) (by kernel_rfl) g (by decide)
  exact ⟨t, st', sSet_to (i := 2) q rfl, w, g'⟩
theorem n3 : dNe (.lst [.str "argument run", .str "argument one"]) (.lst [.str "argument run", .str "argument one"]) = .ok (.bl false) := by kernel_rfl
theorem l3 {env : En} : dLst (dCons (dC (.str "argument run")) (dCons (dC (.str "argument one")) (dNil))) env = .ok (.lst [.str "argument run", .str "argument one"], env) := by kernel_rfl
theorem s3_ok {sc st dp : D} {x2 x10 x14 : Sl} (g : Good st) (w : Wr dA 11 dp) : ∃ st' : D, sIf (dTOr (dTb (dBin dNe (dCall m__law_every (dCons (dCallO m__law_within 1 (dCons (dC (.int 12)) (dCons (dTup (dCons (dC (.str "do")) (dCons (dC (.str "ann")) (dNil)))) (dNil)))) (dNil))) (dBin dMul (dLst (dCons (dC (.str "flow tree")) (dNil))) (dC (.int 7))))) (dTb (dBin dNe (dSlice (dCall m__law_every (dCons (dVar 3) (dNil))) (dOSome (dC (.int 5))) (dONone)) (dLst (dCons (dC (.str "argument run")) (dCons (dC (.str "argument one")) (dNil))))))) (sNever) (bNil) [.va sc, .ow st, x2, .va dp, .un, .un, .un, .un, .un, .un, x10, .un, .un, .un, x14, .un] = .ok (.nx, [.va sc, .ow st', x2, .va dp, .un, .un, .un, .un, .un, .un, x10, .un, .un, .un, x14, .un]) ∧ Good st' := by
  obtain ⟨t, st', q, w2, g'⟩ := within1 (sc := sc) (st := st) (R := [x2, .va dp, .un, .un, .un, .un, .un, .un, x10, .un, .un, .un, x14, .un]) (ms := dCons (dC (.int 12)) (dCons (dTup (dCons (dC (.str "do")) (dCons (dC (.str "ann")) (dNil)))) (dNil))) (st1 := st) (n := 12) (leaf := dA) (by kernel_rfl) g (by decide)
  obtain ⟨u, ev, _⟩ := every_deep (deep_is w) w (by decide)
  refine ⟨st', ?_, g'⟩
  have a := dTb_ok (dBin_ok (f := dNe) (dCall1 q (every_tree (deeper_is w2))) m7t f7t)
  have b := dTb_ok (dBin_ok (f := dNe) (slice_lst (ml := dOSome (dC (.int 5))) (mh := dONone) (dCall1 (m := dVar 3) (env := [.va sc, .ow st', x2, .va dp, .un, .un, .un, .un, .un, .un, x10, .un, .un, .un, x14, .un]) (env' := [.va sc, .ow st', x2, .va dp, .un, .un, .un, .un, .un, .un, x10, .un, .un, .un, x14, .un]) rfl ev) rfl rfl (r := .lst [.str "argument run", .str "argument one"]) rfl) l3 n3)
  rw [sIf_f ((dTOr_f a).trans b)]
  rfl
def R4 : D := .lst [.lst [.tup [.int 1, .int 1]], .lst [.tup [.tup [.int 1, .int 1]]], .lst [.tup [.str "ann"]]]
theorem n4 : dNe R4 R4 = .ok (.bl false) := by kernel_rfl
theorem l4 {env : En} : dLst (dCons (dLst (dCons (dTup (dCons (dC (.int 1)) (dCons (dC (.int 1)) (dNil)))) (dNil))) (dCons (dLst (dCons (dTup (dCons (dTup (dCons (dC (.int 1)) (dCons (dC (.int 1)) (dNil)))) (dNil))) (dNil))) (dCons (dLst (dCons (dTup (dCons (dC (.str "ann")) (dNil))) (dNil))) (dNil)))) env = .ok (R4, env) := by kernel_rfl
theorem n4b : dNe (.lst [dA]) (.lst [dA]) = .ok (.bl false) := by kernel_rfl
theorem l4b {env : En} : dLst (dCons (dTup (dCons (dC (.str "do")) (dCons (dC (.str "ann")) (dNil)))) (dNil)) env = .ok (.lst [dA], env) := by kernel_rfl
theorem s4_ok {sc st dp : D} {x2 x10 x14 : Sl} (w : Wr dA 11 dp) : sIf (dTOr (dTb (dBin dNe (dSlice (dCall m__law_every (dCons (dVar 3) (dNil))) (dONone) (dOSome (dC (.int 3)))) (dLst (dCons (dLst (dCons (dTup (dCons (dC (.int 1)) (dCons (dC (.int 1)) (dNil)))) (dNil))) (dCons (dLst (dCons (dTup (dCons (dTup (dCons (dC (.int 1)) (dCons (dC (.int 1)) (dNil)))) (dNil))) (dNil))) (dCons (dLst (dCons (dTup (dCons (dC (.str "ann")) (dNil))) (dNil))) (dNil))))))) (dTb (dBin dNe (dCall m__law_heard (dCons (dC (.fn 4)) (dCons (dLst (dCons (dVar 3) (dNil))) (dNil)))) (dLst (dCons (dTup (dCons (dC (.str "do")) (dCons (dC (.str "ann")) (dNil)))) (dNil)))))) (sNever) (bNil) [.va sc, .ow st, x2, .va dp, .un, .un, .un, .un, .un, .un, x10, .un, .un, .un, x14, .un] = .ok (.nx, [.va sc, .ow st, x2, .va dp, .un, .un, .un, .un, .un, .un, x10, .un, .un, .un, x14, .un]) := by
  obtain ⟨u, ev, no⟩ := every_deep (deep_is w) w (by decide)
  have a := dTb_ok (dBin_ok (f := dNe) (slice_lst (ml := dONone) (mh := dOSome (dC (.int 3))) (dCall1 (m := dVar 3) (env := [.va sc, .ow st, x2, .va dp, .un, .un, .un, .un, .un, .un, x10, .un, .un, .un, x14, .un]) (env' := [.va sc, .ow st, x2, .va dp, .un, .un, .un, .un, .un, .un, x10, .un, .un, .un, x14, .un]) rfl ev) rfl rfl (r := R4) rfl) l4 n4)
  have b := dTb_ok (dBin_ok (f := dNe) (dCall2 (m1 := dC (.fn 4)) (m2 := dLst (dCons (dVar 3) (dNil))) (env := [.va sc, .ow st, x2, .va dp, .un, .un, .un, .un, .un, .un, x10, .un, .un, .un, x14, .un]) rfl (dLst_ok (dCons_ok (m := dVar 3) (a := dp) (e1 := [.va sc, .ow st, x2, .va dp, .un, .un, .un, .un, .un, .un, x10, .un, .un, .un, x14, .un]) rfl rfl) (by simp)) no) l4b n4b)
  rw [sIf_f ((dTOr_f a).trans b)]
  rfl
theorem s5_ok {sc st dp kd tw nm od : D} {x2 x10 x14 : Sl} : sSet 4 (dCall bTuple (dCons (dLc (dItems (dCall m__law_names (dCons (dC (.int 30)) (dNil)))) (gSet 15) (dYes) (dTup (dCons (dC (.str "do")) (dCons (dVar 15) (dNil)))) [15]) (dNil))) [.va sc, .ow st, x2, .va dp, .un, .un, .un, .un, .un, .un, x10, .un, .un, .un, x14, .un] = .ok (.nx, [.va sc, .ow st, x2, .va dp, .va STP, .un, .un, .un, .un, .un, x10, .un, .un, .un, x14, .un]) := by kernel_rfl
theorem s6_ok {sc st dp : D} {x2 x10 x14 : Sl} (g : Good st) : ∃ (kd st' : D), sSet 5 (dCallO m__law_pick 1 (dCons (dLst (dCons (dC (.str "row")) (dCons (dC (.str "all")) (dCons (dC (.str "one")) (dNil))))) (dNil))) [.va sc, .ow st, x2, .va dp, .va STP, .un, .un, .un, .un, .un, x10, .un, .un, .un, x14, .un] = .ok (.nx, [.va sc, .ow st', x2, .va dp, .va STP, .va kd, .un, .un, .un, .un, x10, .un, .un, .un, x14, .un]) ∧ kd ∈ KDS ∧ Good st' := by
  obtain ⟨kd, st', q, hw, g'⟩ := pick1 (sc := sc) (R := [x2, .va dp, .va STP, .un, .un, .un, .un, .un, x10, .un, .un, .un, x14, .un]) (m := dLst (dCons (dC (.str "row")) (dCons (dC (.str "all")) (dCons (dC (.str "one")) (dNil))))) (xs := KDS) g (by kernel_rfl) (by decide) (by decide)
  exact ⟨kd, st', sSet_to (i := 4) q rfl, hw, g'⟩
theorem s7_ok {sc st dp kd : D} {x2 x10 x14 : Sl} (g : Good st) : ∃ (t st' : D) (n : Nat), sSet 6 (dTup (dCons (dC (.str "row")) (dCons (dTup (dCons (dTup (dCons (dC (.str "do")) (dCons (dC (.str "a")) (dNil)))) (dCons (dCallO m__law_within 1 (dCons (dCallO m__law_draw 1 (dCons (dC (.int 9)) (dNil))) (dCons (dTup (dCons (dC (.str "do")) (dCons (dC (.str "a")) (dNil)))) (dNil)))) (dNil)))) (dNil)))) [.va sc, .ow st, x2, .va dp, .va STP, .va kd, .un, .un, .un, .un, x10, .un, .un, .un, x14, .un] = .ok (.nx, [.va sc, .ow st', x2, .va dp, .va STP, .va kd, .va (.tup [.str "row", .tup [dB, t]]), .un, .un, .un, x10, .un, .un, .un, x14, .un]) ∧ n ≤ 8 ∧ Wr dB n t ∧ Good st' := by
  obtain ⟨k, st1, q1, k0, k1, g1⟩ := draw1 (sc := sc) (R := [x2, .va dp, .va STP, .va kd, .un, .un, .un, .un, x10, .un, .un, .un, x14, .un]) (m := dC (.int 9)) (n := 9) g rfl (by decide) (by decide)
  obtain ⟨n, rfl⟩ : ∃ n : Nat, k = n := ⟨k.toNat, by omega⟩
  have db : ∀ {env : En}, dTup (dCons (dC (.str "do")) (dCons (dC (.str "a")) (dNil))) env = .ok (dB, env) := dTup_ok rfl (by simp)
  obtain ⟨t, st', q, w, g'⟩ := within1 (sc := sc) (st := st) (R := [x2, .va dp, .va STP, .va kd, .un, .un, .un, .un, x10, .un, .un, .un, x14, .un]) (ms := dCons (dCallO m__law_draw 1 (dCons (dC (.int 9)) (dNil))) (dCons (dTup (dCons (dC (.str "do")) (dCons (dC (.str "a")) (dNil)))) (dNil))) (st1 := st1) (n := n) (leaf := dB) (dCons_ok q1 (dCons_ok db rfl)) g1 (by omega)
  refine ⟨t, st', n, sSet_to (i := 5) (dTup_ok (dCons_ok rfl (dCons_ok (dTup_ok (dCons_ok db (dCons_ok q rfl)) (by simp)) rfl)) (by simp)) rfl, by omega, w, g'⟩
theorem s8_ok {sc st dp kd tw nm od : D} {x2 x10 x14 : Sl} : sSet 7 (dTup (dCons (dVar 5) (dCons (dTup (dCons (dTup (dCons (dC (.str "row")) (dCons (dVar 4) (dNil)))) (dCons (dTup (dCons (dC (.str "do")) (dCons (dC (.str "q")) (dNil)))) (dNil)))) (dNil)))) [.va sc, .ow st, x2, .va dp, .va STP, .va kd, .va tw, .un, .un, .un, x10, .un, .un, .un, x14, .un] = .ok (.nx, [.va sc, .ow st, x2, .va dp, .va STP, .va kd, .va tw, .va (MANY kd), .un, .un, x10, .un, .un, .un, x14, .un]) := by kernel_rfl
theorem many_all : (KDS.map fun k => m__law_every [MANY k]) = KDS.map fun _ => .ok (F7 "flow names") := by kernel_rfl
theorem s9_ok {sc st dp kd tw : D} {x2 x10 x14 : Sl} (hk : kd ∈ KDS) (hc : m_check_tree [tw] = .error (.raise 0 (.str "names"))) : sIf (dTOr (dTb (dBin dNe (dCall m__law_every (dCons (dVar 6) (dNil))) (dBin dMul (dLst (dCons (dC (.str "flow names")) (dNil))) (dC (.int 7))))) (dTb (dBin dNe (dCall m__law_every (dCons (dVar 7) (dNil))) (dBin dMul (dLst (dCons (dC (.str "flow names")) (dNil))) (dC (.int 7)))))) (sNever) (bNil) [.va sc, .ow st, x2, .va dp, .va STP, .va kd, .va tw, .va (MANY kd), .un, .un, x10, .un, .un, .un, x14, .un] = .ok (.nx, [.va sc, .ow st, x2, .va dp, .va STP, .va kd, .va tw, .va (MANY kd), .un, .un, x10, .un, .un, .un, x14, .un]) := by
  have a := dTb_ok (dBin_ok (f := dNe) (dCall1 (m := dVar 6) (env := [.va sc, .ow st, x2, .va dp, .va STP, .va kd, .va tw, .va (MANY kd), .un, .un, x10, .un, .un, .un, x14, .un]) (env' := [.va sc, .ow st, x2, .va dp, .va STP, .va kd, .va tw, .va (MANY kd), .un, .un, x10, .un, .un, .un, x14, .un]) rfl (every_err hc (r := .str "flow names") rfl)) m7n f7n)
  have b := dTb_ok (dBin_ok (f := dNe) (dCall1 (m := dVar 7) (env := [.va sc, .ow st, x2, .va dp, .va STP, .va kd, .va tw, .va (MANY kd), .un, .un, x10, .un, .un, .un, x14, .un]) (env' := [.va sc, .ow st, x2, .va dp, .va STP, .va kd, .va tw, .va (MANY kd), .un, .un, x10, .un, .un, .un, x14, .un]) rfl (List.map_inj_left.mp many_all kd hk)) m7n f7n)
  rw [sIf_f ((dTOr_f a).trans b)]
  rfl
theorem s10_all {sc st dp tw : D} {x2 x10 x14 : Sl} : (KDS.map fun kd => sIf (dTb (dBin dNe (dCall m__law_heard (dCons (dC (.fn 0)) (dCons (dLst (dCons (dTup (dCons (dVar 5) (dCons (dVar 4) (dNil)))) (dNil))) (dNil)))) (dLst (dCons (dIf (dTb (dBin dEq (dVar 5) (dC (.str "one")))) (dTup (dCons (dC (.int 1)) (dCons (dC (.int 1)) (dNil)))) (dTup (dCons (dC (.int 30)) (dCons (dC (.int 30)) (dNil))))) (dNil))))) (sNever) (bNil) [.va sc, .ow st, x2, .va dp, .va STP, .va kd, .va tw, .va (MANY kd), .un, .un, x10, .un, .un, .un, x14, .un]) = KDS.map fun kd => .ok (.nx, [.va sc, .ow st, x2, .va dp, .va STP, .va kd, .va tw, .va (MANY kd), .un, .un, x10, .un, .un, .un, x14, .un]) := by kernel_rfl
theorem s11_ok {sc st dp kd tw nm od : D} {x2 x10 x14 : Sl} : sSet 8 (dTup (dCons (dC (.str "row")) (dCons (dSlice (dVar 4) (dONone) (dOSome (dC (.int 8)))) (dNil)))) [.va sc, .ow st, x2, .va dp, .va STP, .va kd, .va tw, .va (MANY kd), .un, .un, x10, .un, .un, .un, x14, .un] = .ok (.nx, [.va sc, .ow st, x2, .va dp, .va STP, .va kd, .va tw, .va (MANY kd), .va PT, .un, x10, .un, .un, .un, x14, .un]) := by kernel_rfl
theorem s12_ok {sc st dp kd tw nm od : D} {x2 x10 x14 : Sl} : sSet 9 (dTup (dCons (dC (.str "again")) (dCons (dTup (dCons (dC (.str "again")) (dCons (dVar 8) (dCons (dC (.int 5)) (dNil))))) (dCons (dC (.int 5)) (dNil))))) [.va sc, .ow st, x2, .va dp, .va STP, .va kd, .va tw, .va (MANY kd), .va PT, .un, x10, .un, .un, .un, x14, .un] = .ok (.nx, [.va sc, .ow st, x2, .va dp, .va STP, .va kd, .va tw, .va (MANY kd), .va PT, .va LNG, x10, .un, .un, .un, x14, .un]) := by kernel_rfl
theorem s13_ok {sc st dp kd tw nm od : D} {x2 x10 x14 : Sl} : sIf (dTOr (dTb (dBin dNe (dCall m__law_heard (dCons (dC (.fn 0)) (dCons (dLst (dCons (dVar 9) (dNil))) (dNil)))) (dLst (dCons (dTup (dCons (dC (.int 8)) (dCons (dC (.int 200)) (dNil)))) (dNil))))) (dTb (dBin dNe (dCall m__law_every (dCons (dTup (dCons (dC (.str "row")) (dCons (dTup (dCons (dVar 9) (dCons (dTup (dCons (dC (.str "do")) (dCons (dC (.str "q")) (dNil)))) (dNil)))) (dNil)))) (dNil))) (dBin dMul (dLst (dCons (dC (.str "flow long")) (dNil))) (dC (.int 7)))))) (sNever) (bNil) [.va sc, .ow st, x2, .va dp, .va STP, .va kd, .va tw, .va (MANY kd), .va PT, .va LNG, x10, .un, .un, .un, x14, .un] = .ok (.nx, [.va sc, .ow st, x2, .va dp, .va STP, .va kd, .va tw, .va (MANY kd), .va PT, .va LNG, x10, .un, .un, .un, x14, .un]) := by kernel_rfl
theorem s14_ok {sc st dp kd tw nm od : D} {x2 x10 x14 : Sl} : sIf (dTOr (dTb (dBin dNe (dCall m__law_every (dCons (dTup (dCons (dC (.str "row")) (dCons (dTup (dCons (dTup (dCons (dC (.str "again")) (dCons (dTup (dCons (dC (.str "again")) (dCons (dTup (dCons (dC (.str "row")) (dCons (dSlice (dVar 4) (dONone) (dOSome (dC (.int 9)))) (dNil)))) (dCons (dC (.int 5)) (dNil))))) (dCons (dC (.int 5)) (dNil))))) (dCons (dTup (dCons (dC (.str "do")) (dCons (dBin dMul (dC (.str "a")) (dC (.int 10))) (dNil)))) (dNil)))) (dNil)))) (dNil))) (dBin dMul (dLst (dCons (dC (.str "flow long")) (dNil))) (dC (.int 7))))) (dTb (dBin dNe (dCall m__law_heard (dCons (dC (.fn 0)) (dCons (dLst (dCons (dTup (dCons (dC (.str "one")) (dCons (dTup (dCons (dVar 9) (dCons (dTup (dCons (dC (.str "do")) (dCons (dC (.str "q")) (dNil)))) (dNil)))) (dNil)))) (dNil))) (dNil)))) (dLst (dCons (dTup (dCons (dC (.int 1)) (dCons (dC (.int 200)) (dNil)))) (dNil)))))) (sNever) (bNil) [.va sc, .ow st, x2, .va dp, .va STP, .va kd, .va tw, .va (MANY kd), .va PT, .va LNG, x10, .un, .un, .un, x14, .un] = .ok (.nx, [.va sc, .ow st, x2, .va dp, .va STP, .va kd, .va tw, .va (MANY kd), .va PT, .va LNG, x10, .un, .un, .un, x14, .un]) := by kernel_rfl
theorem jr0 : m_check_tree [LNG] = .ok .non := by kernel_rfl
theorem jr1b : sIf (dTOr (dTNot (dTr (dIsi "tuple" (dVar 1)))) (dTOr (dTb (dBin dGt (dCall bLen (dCons (dVar 1) (dNil))) (dC (.int 200)))) (dTNot (dTr (dCall bAll (dCons (dLc (dItems (dVar 1)) (gSet 6) (dYes) (dCall m_is_name (dCons (dVar 6) (dNil))) [6]) (dNil))))))) (sRaise 1 (dC (.str "run"))) (bNil) [.va LNG, .va N200, .un, .un, .un, .un, .un] = .ok (.nx, [.va LNG, .va N200, .un, .un, .un, .un, .un]) := by kernel_rfl
theorem jr2 : sSet 2 (dLst (dCons (dC .non) (dNil))) [.va LNG, .va N200, .un, .un, .un, .un, .un] = .ok (.nx, [.va LNG, .va N200, .va S_0, .un, .un, .un, .un]) := by kernel_rfl
theorem jr3 : dEnum (dVar 1) [.va LNG, .va N200, .va S_0, .un, .un, .un, .un] = .ok (PR.drop 0, [.va LNG, .va N200, .va S_0, .un, .un, .un, .un]) := by kernel_rfl
theorem jr4 : sSet 3 (dCall bTuple (dCons (dLc (dItems (dCall bSort2 (dCons (dCall m_names_in (dCons (dVar 0) (dNil))) (dNil)))) (gSet 5) (dTr (dCall m_further (dCons (dVar 0) (dCons (dVar 2) (dCons (dVar 5) (dNil)))))) (dVar 5) [5]) (dNil))) EF = .ok (.nx, [.va LNG, .va N200, .va S_200, .va (.tup []), .va (.int 199), .va (D.str "ha"), .un]) := by kernel_rfl
theorem jr5 : sRet (dTup (dCons (dIf (dTr (dCall m_any_ended (dCons (dVar 0) (dCons (dVar 2) (dNil))))) (dC (.str "done")) (dC (.str "open"))) (dCons (dVar 3) (dNil)))) [.va LNG, .va N200, .va S_200, .va (.tup []), .va (.int 199), .va (D.str "ha"), .un] = .ok (.rt (.tup [.str "done", .tup []]), [.va LNG, .va N200, .va S_200, .va (.tup []), .va (.int 199), .va (D.str "ha"), .un]) := by kernel_rfl
theorem jr_ok : m_judge_run [LNG, N200] = .ok (.tup [.str "done", .tup []]) := by
  unfold m_judge_run b_judge_run
  show fin (bSeq _ _ [.va LNG, .va N200, .un, .un, .un, .un, .un]) = _
  rw [stp (sDrop_ok (dCall1 (a := LNG) (env' := [.va LNG, .va N200, .un, .un, .un, .un, .un]) rfl jr0)), stp jr1b, stp jr2, stp (sFor_ok jr3 fl_0), stp jr4]
  exact fin_ok jr5
theorem m15 {sc st dp kd tw nm od : D} {x2 x10 x14 : Sl} : (dBin dMul (dCall bTuple (dCons (dLc (dItems (dSlice (dVar 4) (dONone) (dOSome (dC (.int 8))))) (gSet 15) (dYes) (dBin dIx (dVar 15) (dC (.int 1))) [15]) (dNil))) (dC (.int 25))) [.va sc, .ow st, x2, .va dp, .va STP, .va kd, .va tw, .va (MANY kd), .va PT, .va LNG, x10, .un, .un, .un, x14, .un] = .ok (N200, [.va sc, .ow st, x2, .va dp, .va STP, .va kd, .va tw, .va (MANY kd), .va PT, .va LNG, x10, .un, .un, .un, x14, .un]) := by kernel_rfl
theorem l15 {env : En} : (dLst (dCons (dTup (dCons (dC (.str "done")) (dCons (dTup (dNil)) (dNil)))) (dNil))) env = .ok (.lst [.tup [.str "done", .tup []]], env) := by kernel_rfl
theorem n15 : dNe (.lst [.tup [.str "done", .tup []]]) (.lst [.tup [.str "done", .tup []]]) = .ok (.bl false) := by kernel_rfl
theorem s15_ok {sc st dp kd tw nm od : D} {x2 x10 x14 : Sl} : sIf (dTb (dBin dNe (dCall m__law_heard (dCons (dC (.fn 5)) (dCons (dLst (dCons (dVar 9) (dCons (dBin dMul (dCall bTuple (dCons (dLc (dItems (dSlice (dVar 4) (dONone) (dOSome (dC (.int 8))))) (gSet 15) (dYes) (dBin dIx (dVar 15) (dC (.int 1))) [15]) (dNil))) (dC (.int 25))) (dNil)))) (dNil)))) (dLst (dCons (dTup (dCons (dC (.str "done")) (dCons (dTup (dNil)) (dNil)))) (dNil))))) (sNever) (bNil) [.va sc, .ow st, x2, .va dp, .va STP, .va kd, .va tw, .va (MANY kd), .va PT, .va LNG, x10, .un, .un, .un, x14, .un] = .ok (.nx, [.va sc, .ow st, x2, .va dp, .va STP, .va kd, .va tw, .va (MANY kd), .va PT, .va LNG, x10, .un, .un, .un, x14, .un]) := by
  have a := dTb_ok (dBin_ok (f := dNe) (dCall2 (m1 := dC (.fn 5)) (m2 := dLst (dCons (dVar 9) (dCons (dBin dMul (dCall bTuple (dCons (dLc (dItems (dSlice (dVar 4) (dONone) (dOSome (dC (.int 8))))) (gSet 15) (dYes) (dBin dIx (dVar 15) (dC (.int 1))) [15]) (dNil))) (dC (.int 25))) (dNil)))) (env := [.va sc, .ow st, x2, .va dp, .va STP, .va kd, .va tw, .va (MANY kd), .va PT, .va LNG, x10, .un, .un, .un, x14, .un]) rfl (dLst_ok (dCons_ok (m := dVar 9) (a := LNG) (e1 := [.va sc, .ow st, x2, .va dp, .va STP, .va kd, .va tw, .va (MANY kd), .va PT, .va LNG, x10, .un, .un, .un, x14, .un]) rfl (dCons_ok (m15 (nm := nm) (od := od)) rfl)) (by simp)) (h2o t5 jr_ok)) l15 n15)
  rw [sIf_f a]
  rfl
theorem s16_ok {sc st dp kd tw nm od : D} {x2 x10 x14 : Sl} : sSet 10 (dTup (dCons (dC (.str "row")) (dCons (dTup (dCons (dTup (dCons (dC (.str "do")) (dCons (dC (.str "a")) (dNil)))) (dCons (dTup (dCons (dC (.str "do")) (dCons (dC (.str "b")) (dNil)))) (dNil)))) (dNil)))) [.va sc, .ow st, x2, .va dp, .va STP, .va kd, .va tw, .va (MANY kd), .va PT, .va LNG, x10, .un, .un, .un, x14, .un] = .ok (.nx, [.va sc, .ow st, x2, .va dp, .va STP, .va kd, .va tw, .va (MANY kd), .va PT, .va LNG, .va TR, .un, .un, .un, x14, .un]) := by kernel_rfl
theorem s17_ok {sc st dp kd tw : D} {x2 x14 : Sl} (g : Good st) : ∃ (nm st' : D), sSet 11 (dCallO m__law_pick 1 (dCons (dLst (dCons (dC .non) (dCons (dTup (dCons (dC (.str "a")) (dCons (dC (.int 5)) (dNil)))) (dCons (dTup (dCons (dC (.str "a")) (dCons (dC (.str "")) (dNil)))) (dCons (dTup (dCons (dC (.str "a")) (dCons (dC (.str "B")) (dNil)))) (dCons (dLst (dCons (dC (.str "a")) (dNil))) (dCons (dC (.str "a")) (dCons (dBin dMul (dTup (dCons (dC (.str "a")) (dNil))) (dC (.int 201))) (dCons (dTup (dCons (dTup (dCons (dC (.str "a")) (dNil))) (dNil))) (dCons (dTup (dCons (dC (.str "a")) (dCons (dBin dMul (dC (.str "b")) (dC (.int 11))) (dNil)))) (dCons (dTup (dCons (dC (.str "a")) (dCons (dC .non) (dNil)))) (dNil)))))))))))) (dNil))) [.va sc, .ow st, x2, .va dp, .va STP, .va kd, .va tw, .va (MANY kd), .va PT, .va LNG, .va TR, .un, .un, .un, x14, .un] = .ok (.nx, [.va sc, .ow st', x2, .va dp, .va STP, .va kd, .va tw, .va (MANY kd), .va PT, .va LNG, .va TR, .va nm, .un, .un, x14, .un]) ∧ nm ∈ NML ∧ Good st' := by
  obtain ⟨kd, st', q, hw, g'⟩ := pick1 (sc := sc) (R := [x2, .va dp, .va STP, .va kd, .va tw, .va (MANY kd), .va PT, .va LNG, .va TR, .un, .un, .un, x14, .un]) (m := dLst (dCons (dC .non) (dCons (dTup (dCons (dC (.str "a")) (dCons (dC (.int 5)) (dNil)))) (dCons (dTup (dCons (dC (.str "a")) (dCons (dC (.str "")) (dNil)))) (dCons (dTup (dCons (dC (.str "a")) (dCons (dC (.str "B")) (dNil)))) (dCons (dLst (dCons (dC (.str "a")) (dNil))) (dCons (dC (.str "a")) (dCons (dBin dMul (dTup (dCons (dC (.str "a")) (dNil))) (dC (.int 201))) (dCons (dTup (dCons (dTup (dCons (dC (.str "a")) (dNil))) (dNil))) (dCons (dTup (dCons (dC (.str "a")) (dCons (dBin dMul (dC (.str "b")) (dC (.int 11))) (dNil)))) (dCons (dTup (dCons (dC (.str "a")) (dCons (dC .non) (dNil)))) (dNil)))))))))))) (xs := NML) g (by kernel_rfl) (by decide) (by decide)
  exact ⟨kd, st', sSet_to (i := 10) q rfl, hw, g'⟩
theorem s18_ok {sc st dp kd tw nm : D} {x2 x14 : Sl} (g : Good st) : ∃ (od st' : D), sSet 12 (dCallO m__law_pick 1 (dCons (dLst (dCons (dC .non) (dCons (dC (.str "c")) (dCons (dC (.str "")) (dCons (dC (.int 5)) (dCons (dTup (dCons (dC (.str "a")) (dNil))) (dCons (dC (.bl true)) (dCons (dC (.str "B")) (dNil))))))))) (dNil))) [.va sc, .ow st, x2, .va dp, .va STP, .va kd, .va tw, .va (MANY kd), .va PT, .va LNG, .va TR, .va nm, .un, .un, x14, .un] = .ok (.nx, [.va sc, .ow st', x2, .va dp, .va STP, .va kd, .va tw, .va (MANY kd), .va PT, .va LNG, .va TR, .va nm, .va od, .un, x14, .un]) ∧ od ∈ ODL ∧ Good st' := by
  obtain ⟨kd, st', q, hw, g'⟩ := pick1 (sc := sc) (R := [x2, .va dp, .va STP, .va kd, .va tw, .va (MANY kd), .va PT, .va LNG, .va TR, .va nm, .un, .un, x14, .un]) (m := dLst (dCons (dC .non) (dCons (dC (.str "c")) (dCons (dC (.str "")) (dCons (dC (.int 5)) (dCons (dTup (dCons (dC (.str "a")) (dNil))) (dCons (dC (.bl true)) (dCons (dC (.str "B")) (dNil))))))))) (xs := ODL) g (by kernel_rfl) (by decide) (by decide)
  exact ⟨kd, st', sSet_to (i := 11) q rfl, hw, g'⟩
theorem h19a : (NML.map fun n => m__law_heard [.fn 5, .lst [TR, n]]) = NML.map fun _ => .ok (.str "argument run") := by kernel_rfl
theorem h19b : (ODL.map fun n => m__law_heard [.fn 6, .lst [TR, n, n]]) = ODL.map fun _ => .ok (.str "argument one") := by kernel_rfl
theorem h19c : (ODL.map fun n => m__law_heard [.fn 6, .lst [TR, .str "a", n]]) = ODL.map fun _ => .ok (.str "argument other") := by kernel_rfl
theorem h19d : m__law_heard [.fn 6, .lst [TR, .str "b", .str "b"]] = .ok (.str "argument other") := by kernel_rfl
theorem s19_ok {sc st dp kd tw nm od : D} {x2 x14 : Sl} (hn : nm ∈ NML) (ho : od ∈ ODL) : sSet 13 (dLst (dCons (dCall m__law_heard (dCons (dC (.fn 5)) (dCons (dLst (dCons (dVar 10) (dCons (dVar 11) (dNil)))) (dNil)))) (dCons (dCall m__law_heard (dCons (dC (.fn 6)) (dCons (dLst (dCons (dVar 10) (dCons (dVar 12) (dCons (dVar 12) (dNil))))) (dNil)))) (dCons (dCall m__law_heard (dCons (dC (.fn 6)) (dCons (dLst (dCons (dVar 10) (dCons (dC (.str "a")) (dCons (dVar 12) (dNil))))) (dNil)))) (dCons (dCall m__law_heard (dCons (dC (.fn 6)) (dCons (dLst (dCons (dVar 10) (dCons (dC (.str "b")) (dCons (dC (.str "b")) (dNil))))) (dNil)))) (dNil)))))) [.va sc, .ow st, x2, .va dp, .va STP, .va kd, .va tw, .va (MANY kd), .va PT, .va LNG, .va TR, .va nm, .va od, .un, x14, .un] = .ok (.nx, [.va sc, .ow st, x2, .va dp, .va STP, .va kd, .va tw, .va (MANY kd), .va PT, .va LNG, .va TR, .va nm, .va od, .va TOLD, x14, .un]) := by
  have v : ∀ (i : Nat) (d : D), ([.va sc, .ow st, x2, .va dp, .va STP, .va kd, .va tw, .va (MANY kd), .va PT, .va LNG, .va TR, .va nm, .va od, .un, x14, .un] : En)[i]? = some (.va d) → dVar i [.va sc, .ow st, x2, .va dp, .va STP, .va kd, .va tw, .va (MANY kd), .va PT, .va LNG, .va TR, .va nm, .va od, .un, x14, .un] = .ok (d, [.va sc, .ow st, x2, .va dp, .va STP, .va kd, .va tw, .va (MANY kd), .va PT, .va LNG, .va TR, .va nm, .va od, .un, x14, .un]) := fun i d h => by unfold dVar; rw [h]
  have a := dCall2 (f := m__law_heard) (m1 := dC (.fn 5)) (m2 := dLst (dCons (dVar 10) (dCons (dVar 11) (dNil)))) (env := [.va sc, .ow st, x2, .va dp, .va STP, .va kd, .va tw, .va (MANY kd), .va PT, .va LNG, .va TR, .va nm, .va od, .un, x14, .un]) rfl (dLst_ok (dCons_ok (v 10 TR rfl) (dCons_ok (v 11 nm rfl) rfl)) (by simp)) (List.map_inj_left.mp h19a nm hn)
  have b := dCall2 (f := m__law_heard) (m1 := dC (.fn 6)) (m2 := dLst (dCons (dVar 10) (dCons (dVar 12) (dCons (dVar 12) (dNil))))) (env := [.va sc, .ow st, x2, .va dp, .va STP, .va kd, .va tw, .va (MANY kd), .va PT, .va LNG, .va TR, .va nm, .va od, .un, x14, .un]) rfl (dLst_ok (dCons_ok (v 10 TR rfl) (dCons_ok (v 12 od rfl) (dCons_ok (v 12 od rfl) rfl))) (by simp)) (List.map_inj_left.mp h19b od ho)
  have c := dCall2 (f := m__law_heard) (m1 := dC (.fn 6)) (m2 := dLst (dCons (dVar 10) (dCons (dC (.str "a")) (dCons (dVar 12) (dNil))))) (env := [.va sc, .ow st, x2, .va dp, .va STP, .va kd, .va tw, .va (MANY kd), .va PT, .va LNG, .va TR, .va nm, .va od, .un, x14, .un]) rfl (dLst_ok (dCons_ok (v 10 TR rfl) (dCons_ok (m := dC (.str "a")) rfl (dCons_ok (v 12 od rfl) rfl))) (by simp)) (List.map_inj_left.mp h19c od ho)
  have d := dCall2 (f := m__law_heard) (m1 := dC (.fn 6)) (m2 := dLst (dCons (dVar 10) (dCons (dC (.str "b")) (dCons (dC (.str "b")) (dNil))))) (env := [.va sc, .ow st, x2, .va dp, .va STP, .va kd, .va tw, .va (MANY kd), .va PT, .va LNG, .va TR, .va nm, .va od, .un, x14, .un]) rfl (dLst_ok (dCons_ok (v 10 TR rfl) (dCons_ok (m := dC (.str "b")) rfl (dCons_ok (m := dC (.str "b")) rfl rfl))) (by simp)) h19d
  exact sSet_to (i := 12) (dLst_ok (dCons_ok a (dCons_ok b (dCons_ok c (dCons_ok d rfl)))) (by simp)) rfl
theorem s20_ok {sc st dp kd tw nm od : D} {x2 x10 x14 : Sl} : sIf (dTb (dBin dNe (dVar 13) (dLst (dCons (dC (.str "argument run")) (dCons (dC (.str "argument one")) (dCons (dC (.str "argument other")) (dCons (dC (.str "argument other")) (dNil)))))))) (sNever) (bNil) [.va sc, .ow st, x2, .va dp, .va STP, .va kd, .va tw, .va (MANY kd), .va PT, .va LNG, .va TR, .va nm, .va od, .va TOLD, x14, .un] = .ok (.nx, [.va sc, .ow st, x2, .va dp, .va STP, .va kd, .va tw, .va (MANY kd), .va PT, .va LNG, .va TR, .va nm, .va od, .va TOLD, x14, .un]) := by kernel_rfl
theorem s21_ok {sc st dp kd tw nm od : D} {x2 x10 x14 : Sl} : sRet (dAndV (dBin dEq (dCall m__law_heard (dCons (dC (.fn 5)) (dCons (dLst (dCons (dVar 10) (dCons (dBin dAdd (dTup (dCons (dC (.str "a")) (dNil))) (dBin dMul (dTup (dCons (dBin dMul (dC (.str "z")) (dC (.int 10))) (dNil))) (dC (.int 199)))) (dNil)))) (dNil)))) (dLst (dCons (dTup (dCons (dC (.str "wrong")) (dCons (dC (.int 1)) (dNil)))) (dNil)))) (dBin dEq (dCall m__law_heard (dCons (dC (.fn 5)) (dCons (dLst (dCons (dVar 10) (dCons (dTup (dNil)) (dNil)))) (dNil)))) (dLst (dCons (dTup (dCons (dC (.str "open")) (dCons (dTup (dCons (dC (.str "a")) (dNil))) (dNil)))) (dNil))))) [.va sc, .ow st, x2, .va dp, .va STP, .va kd, .va tw, .va (MANY kd), .va PT, .va LNG, .va TR, .va nm, .va od, .va TOLD, x14, .un] = .ok (.rt (.bl true), [.va sc, .ow st, x2, .va dp, .va STP, .va kd, .va tw, .va (MANY kd), .va PT, .va LNG, .va TR, .va nm, .va od, .va TOLD, x14, .un]) := by kernel_rfl
theorem law_true (ns : List Int) : m_law [.scr ns] = .ok (.bl true) := by
  obtain ⟨st0, q0, g0⟩ := start_ok ns
  unfold m_law b_law
  show fin (bSeq _ _ [.va (.scr ns), .un, .un, .un, .un, .un, .un, .un, .un, .un, .un, .un, .un, .un, .un, .un]) = _
  rw [stp (sSetO_to (i := 0) (e2 := [.va (.scr ns), .ow st0, .un, .un, .un, .un, .un, .un, .un, .un, .un, .un, .un, .un, .un, .un]) (dCall1 (a := .scr ns) (env' := [.va (.scr ns), .un, .un, .un, .un, .un, .un, .un, .un, .un, .un, .un, .un, .un, .un, .un]) rfl q0) rfl)]
  obtain ⟨st1, x2, x10, x14, q1, g1⟩ := loop_ok (sc := .scr ns) g0
  rw [stp q1]
  obtain ⟨dp, st2, q2, w, g2⟩ := s2_ok (sc := .scr ns) (x2 := x2) (x10 := x10) (x14 := x14) g1
  rw [stp q2]
  obtain ⟨st3, q3, g3⟩ := s3_ok (sc := .scr ns) (x2 := x2) (x10 := x10) (x14 := x14) g2 w
  rw [stp q3, stp (s4_ok w), stp (s5_ok (kd := .non) (tw := .non) (nm := .non) (od := .non))]
  obtain ⟨kd, st6, q6, hk, g6⟩ := s6_ok (sc := .scr ns) (dp := dp) (x2 := x2) (x10 := x10) (x14 := x14) g3
  rw [stp q6]
  obtain ⟨t, st7, n, q7, hn, w7, g7⟩ := s7_ok (sc := .scr ns) (dp := dp) (kd := kd) (x2 := x2) (x10 := x10) (x14 := x14) g6
  rw [stp q7, stp (s8_ok (nm := .non) (od := .non)), stp (s9_ok hk (twice_chk w7 hn)), stp (List.map_inj_left.mp s10_all kd hk), stp (s11_ok (nm := .non) (od := .non)), stp (s12_ok (nm := .non) (od := .non)), stp (s13_ok (nm := .non) (od := .non)), stp (s14_ok (nm := .non) (od := .non)), stp (s15_ok (nm := .non) (od := .non)), stp (s16_ok (nm := .non) (od := .non))]
  obtain ⟨nm, st17, q17, hm, g17⟩ := s17_ok (sc := .scr ns) (dp := dp) (kd := kd) (tw := .tup [.str "row", .tup [dB, t]]) (x2 := x2) (x14 := x14) g7
  rw [stp q17]
  obtain ⟨od, st18, q18, ho, g18⟩ := s18_ok (sc := .scr ns) (dp := dp) (kd := kd) (tw := .tup [.str "row", .tup [dB, t]]) (nm := nm) (x2 := x2) (x14 := x14) g17
  rw [stp q18, stp (s19_ok hm ho), stp (s20_ok (x10 := .un))]
  exact fin_ok (s21_ok (x10 := .un))
end LW
end Dn

/-! H04 -/
set_option Elab.async false
set_option linter.all false
set_option maxRecDepth 100000
set_option maxHeartbeats 4000000
namespace Dn
namespace LW
open PySem PySem.Spec L2
open PyProof.Rows hiding St
def iA0 : Arguments := Sup.iA ⟨6, 17, 6, 21⟩ ⟨6, 23, 6, 29⟩
def iB0 : List Stmt := Sup.iB "the work is refused" 0 ⟨7, 8, 7, 13⟩ ⟨7, 8, 7, 15⟩ ⟨7, 8, 7, 24⟩ ⟨7, 25, 7, 46⟩ ⟨7, 8, 7, 47⟩ ⟨7, 8, 7, 47⟩ ⟨8, 8, 8, 12⟩ ⟨8, 8, 8, 19⟩ ⟨8, 22, 8, 28⟩ ⟨8, 8, 8, 28⟩
def iA1 : Arguments := Sup.iA ⟨11, 17, 11, 21⟩ ⟨11, 23, 11, 29⟩
def iB1 : List Stmt := Sup.iB "an argument is refused" 0 ⟨12, 8, 12, 13⟩ ⟨12, 8, 12, 15⟩ ⟨12, 8, 12, 24⟩ ⟨12, 25, 12, 49⟩ ⟨12, 8, 12, 50⟩ ⟨12, 8, 12, 50⟩ ⟨13, 8, 13, 12⟩ ⟨13, 8, 13, 19⟩ ⟨13, 22, 13, 28⟩ ⟨13, 8, 13, 28⟩
def iA2 : Arguments := Sup.iA ⟨16, 17, 16, 21⟩ ⟨16, 23, 16, 29⟩
def iB2 : List Stmt := Sup.iB "the paper is refused" 0 ⟨17, 8, 17, 13⟩ ⟨17, 8, 17, 15⟩ ⟨17, 8, 17, 24⟩ ⟨17, 25, 17, 47⟩ ⟨17, 8, 17, 48⟩ ⟨17, 8, 17, 48⟩ ⟨18, 8, 18, 12⟩ ⟨18, 8, 18, 19⟩ ⟨18, 22, 18, 28⟩ ⟨18, 8, 18, 28⟩
def iA3 : Arguments := Sup.iA ⟨21, 17, 21, 21⟩ ⟨21, 23, 21, 29⟩
def iB3 : List Stmt := Sup.iB "too many" 0 ⟨22, 8, 22, 13⟩ ⟨22, 8, 22, 15⟩ ⟨22, 8, 22, 24⟩ ⟨22, 25, 22, 35⟩ ⟨22, 8, 22, 36⟩ ⟨22, 8, 22, 36⟩ ⟨23, 8, 23, 12⟩ ⟨23, 8, 23, 19⟩ ⟨23, 22, 23, 28⟩ ⟨23, 8, 23, 28⟩
def four {α : Type} (a b c d : α) (i : Nat) : α := match i with
  | 0 => a
  | 1 => b
  | 2 => c
  | _ => d
theorem four_all {φ : Nat → Prop} (h0 : φ 0) (h1 : φ 1) (h2 : φ 2) (h3 : φ 3) : ∀ i, i < 4 → φ i := fun i h => match i, h with
  | 0, _ => h0
  | 1, _ => h1
  | 2, _ => h2
  | 3, _ => h3
theorem tf_mk {K : PySem.W.Frag} {h : Heap} {mg : Str → Option Value} {p__law_start : Addr} {oc__law_start kV__law_start dc__law_start pm__law_start cd__law_start ct__law_start : Value} {od__law_start an__law_start : Option Addr} {sl__law_start : Array (Option Value)}
  {p__law_draw : Addr} {oc__law_draw kV__law_draw dc__law_draw pm__law_draw cd__law_draw ct__law_draw : Value} {od__law_draw an__law_draw : Option Addr} {sl__law_draw : Array (Option Value)}
  {p__law_pick : Addr} {oc__law_pick kV__law_pick dc__law_pick pm__law_pick cd__law_pick ct__law_pick : Value} {od__law_pick an__law_pick : Option Addr} {sl__law_pick : Array (Option Value)}
  {p__law_within : Addr} {oc__law_within kV__law_within dc__law_within pm__law_within cd__law_within ct__law_within : Value} {od__law_within an__law_within : Option Addr} {sl__law_within : Array (Option Value)}
  {p_is_name : Addr} {oc_is_name kV_is_name dc_is_name pm_is_name cd_is_name ct_is_name : Value} {od_is_name an_is_name : Option Addr} {sl_is_name : Array (Option Value)}
  {p_is_integer : Addr} {oc_is_integer kV_is_integer dc_is_integer pm_is_integer cd_is_integer ct_is_integer : Value} {od_is_integer an_is_integer : Option Addr} {sl_is_integer : Array (Option Value)}
  {p_is_between : Addr} {oc_is_between kV_is_between dc_is_between pm_is_between cd_is_between ct_is_between : Value} {od_is_between an_is_between : Option Addr} {sl_is_between : Array (Option Value)}
  {p_is_tree : Addr} {oc_is_tree kV_is_tree dc_is_tree pm_is_tree cd_is_tree ct_is_tree : Value} {od_is_tree an_is_tree : Option Addr} {sl_is_tree : Array (Option Value)}
  {p_names_in : Addr} {oc_names_in kV_names_in dc_names_in pm_names_in cd_names_in ct_names_in : Value} {od_names_in an_names_in : Option Addr} {sl_names_in : Array (Option Value)}
  {p_length_of : Addr} {oc_length_of kV_length_of dc_length_of pm_length_of cd_length_of ct_length_of : Value} {od_length_of an_length_of : Option Addr} {sl_length_of : Array (Option Value)}
  {p_check_tree : Addr} {oc_check_tree kV_check_tree dc_check_tree pm_check_tree cd_check_tree ct_check_tree : Value} {od_check_tree an_check_tree : Option Addr} {sl_check_tree : Array (Option Value)}
  {p_lengths : Addr} {oc_lengths kV_lengths dc_lengths pm_lengths cd_lengths ct_lengths : Value} {od_lengths an_lengths : Option Addr} {sl_lengths : Array (Option Value)}
  {p_choose : Addr} {oc_choose kV_choose dc_choose pm_choose cd_choose ct_choose : Value} {od_choose an_choose : Option Addr} {sl_choose : Array (Option Value)}
  {p_joined : Addr} {oc_joined kV_joined dc_joined pm_joined cd_joined ct_joined : Value} {od_joined an_joined : Option Addr} {sl_joined : Array (Option Value)}
  {p_ways_in : Addr} {oc_ways_in kV_ways_in dc_ways_in pm_ways_in cd_ways_in ct_ways_in : Value} {od_ways_in an_ways_in : Option Addr} {sl_ways_in : Array (Option Value)}
  {p_count_ways : Addr} {oc_count_ways kV_count_ways dc_count_ways pm_count_ways cd_count_ways ct_count_ways : Value} {od_count_ways an_count_ways : Option Addr} {sl_count_ways : Array (Option Value)}
  {p_needed_in : Addr} {oc_needed_in kV_needed_in dc_needed_in pm_needed_in cd_needed_in ct_needed_in : Value} {od_needed_in an_needed_in : Option Addr} {sl_needed_in : Array (Option Value)}
  {p_must_have : Addr} {oc_must_have kV_must_have dc_must_have pm_must_have cd_must_have ct_must_have : Value} {od_must_have an_must_have : Option Addr} {sl_must_have : Array (Option Value)}
  {p_turned_of : Addr} {oc_turned_of kV_turned_of dc_turned_of pm_turned_of cd_turned_of ct_turned_of : Value} {od_turned_of an_turned_of : Option Addr} {sl_turned_of : Array (Option Value)}
  {p_turned : Addr} {oc_turned kV_turned dc_turned pm_turned cd_turned ct_turned : Value} {od_turned an_turned : Option Addr} {sl_turned : Array (Option Value)}
  {p_normal_of : Addr} {oc_normal_of kV_normal_of dc_normal_of pm_normal_of cd_normal_of ct_normal_of : Value} {od_normal_of an_normal_of : Option Addr} {sl_normal_of : Array (Option Value)}
  {p_normal : Addr} {oc_normal kV_normal dc_normal pm_normal cd_normal ct_normal : Value} {od_normal an_normal : Option Addr} {sl_normal : Array (Option Value)}
  {p_ended : Addr} {oc_ended kV_ended dc_ended pm_ended cd_ended ct_ended : Value} {od_ended an_ended : Option Addr} {sl_ended : Array (Option Value)}
  {p_moved : Addr} {oc_moved kV_moved dc_moved pm_moved cd_moved ct_moved : Value} {od_moved an_moved : Option Addr} {sl_moved : Array (Option Value)}
  {p_further : Addr} {oc_further kV_further dc_further pm_further cd_further ct_further : Value} {od_further an_further : Option Addr} {sl_further : Array (Option Value)}
  {p_any_ended : Addr} {oc_any_ended kV_any_ended dc_any_ended pm_any_ended cd_any_ended ct_any_ended : Value} {od_any_ended an_any_ended : Option Addr} {sl_any_ended : Array (Option Value)}
  {p_judge_run : Addr} {oc_judge_run kV_judge_run dc_judge_run pm_judge_run cd_judge_run ct_judge_run : Value} {od_judge_run an_judge_run : Option Addr} {sl_judge_run : Array (Option Value)}
  {p_relation : Addr} {oc_relation kV_relation dc_relation pm_relation cd_relation ct_relation : Value} {od_relation an_relation : Option Addr} {sl_relation : Array (Option Value)}
  {p__law_called : Addr} {oc__law_called kV__law_called dc__law_called pm__law_called cd__law_called ct__law_called : Value} {od__law_called an__law_called : Option Addr} {sl__law_called : Array (Option Value)}
  {p__law_word : Addr} {oc__law_word kV__law_word dc__law_word pm__law_word cd__law_word ct__law_word : Value} {od__law_word an__law_word : Option Addr} {sl__law_word : Array (Option Value)}
  {p__law_heard : Addr} {oc__law_heard kV__law_heard dc__law_heard pm__law_heard cd__law_heard ct__law_heard : Value} {od__law_heard an__law_heard : Option Addr} {sl__law_heard : Array (Option Value)}
  {p__law_every : Addr} {oc__law_every kV__law_every dc__law_every pm__law_every cd__law_every ct__law_every : Value} {od__law_every an__law_every : Option Addr} {sl__law_every : Array (Option Value)}
  {p__law_names : Addr} {oc__law_names kV__law_names dc__law_names pm__law_names cd__law_names ct__law_names : Value} {od__law_names an__law_names : Option Addr} {sl__law_names : Array (Option Value)}
  {p_law : Addr} {oc_law kV_law dc_law pm_law cd_law ct_law : Value} {od_law an_law : Option Addr} {sl_law : Array (Option Value)}
  {t_MAX_AGAIN : Tok}
  {t_MAX_DEPTH : Tok}
  {t_MAX_LEAVES : Tok}
  {t_MAX_NAME : Tok}
  {t_MAX_RUN : Tok}
  {a_GROUPS : Addr} {od_GROUPS : Option Addr} {sl_GROUPS : Array (Option Value)} {nn_GROUPS : Nat} {t0_GROUPS : Tok} {t1_GROUPS : Tok} {t2_GROUPS : Tok}
  {AW : Addr}
  {C0 I0 N0 cc0 cda0 : Addr} {nm0 qn0 : Str} {bs0 sub0 : List Value} {sn0 : List Str} {ab0 : Bool} {col0 : Option Bool} {dd0 od0 an0 cdd0 cld0 : Option Addr} {x00 x10 x20 x30 x50 : Option Value} {oc0 dc0 pm0 ct0 ccl0 cl0 : Value} {osl0 ccs0 csl0 : Array (Option Value)} {vs0 : Array Value} {tf0 : Tok}
  {C1 I1 N1 cc1 cda1 : Addr} {nm1 qn1 : Str} {bs1 sub1 : List Value} {sn1 : List Str} {ab1 : Bool} {col1 : Option Bool} {dd1 od1 an1 cdd1 cld1 : Option Addr} {x01 x11 x21 x31 x51 : Option Value} {oc1 dc1 pm1 ct1 ccl1 cl1 : Value} {osl1 ccs1 csl1 : Array (Option Value)} {vs1 : Array Value} {tf1 : Tok}
  {C2 I2 N2 cc2 cda2 : Addr} {nm2 qn2 : Str} {bs2 sub2 : List Value} {sn2 : List Str} {ab2 : Bool} {col2 : Option Bool} {dd2 od2 an2 cdd2 cld2 : Option Addr} {x02 x12 x22 x32 x52 : Option Value} {oc2 dc2 pm2 ct2 ccl2 cl2 : Value} {osl2 ccs2 csl2 : Array (Option Value)} {vs2 : Array Value} {tf2 : Tok}
  {C3 I3 N3 cc3 cda3 : Addr} {nm3 qn3 : Str} {bs3 sub3 : List Value} {sn3 : List Str} {ab3 : Bool} {col3 : Option Bool} {dd3 od3 an3 cdd3 cld3 : Option Addr} {x03 x13 x23 x33 x53 : Option Value} {oc3 dc3 pm3 ct3 ccl3 cl3 : Value} {osl3 ccs3 csl3 : Array (Option Value)} {vs3 : Array Value} {tf3 : Tok}
  (X : K.In h) (G : h.Ns mainGlobals mg)
  (a__law_start : PySem.W.nsIn K mainGlobals "_law_start" = some (some (.ref p__law_start)))
  (l__law_start : K.lookup p__law_start = some ⟨oc__law_start, od__law_start, .func (PySem.W.fnOf "_law_start" "_law_start" (defArgs (top 40)) (defBody (top 40)) (defScope (top 40)) .none kV__law_start dc__law_start pm__law_start an__law_start cd__law_start ct__law_start), sl__law_start⟩)
  (c__law_start : PySem.W.codeIn K cd__law_start "_law_start" = true)
  (k__law_start : PySem.W.keepIn K (.ref p__law_start) = true)
  (a__law_draw : PySem.W.nsIn K mainGlobals "_law_draw" = some (some (.ref p__law_draw)))
  (l__law_draw : K.lookup p__law_draw = some ⟨oc__law_draw, od__law_draw, .func (PySem.W.fnOf "_law_draw" "_law_draw" (defArgs (top 41)) (defBody (top 41)) (defScope (top 41)) .none kV__law_draw dc__law_draw pm__law_draw an__law_draw cd__law_draw ct__law_draw), sl__law_draw⟩)
  (c__law_draw : PySem.W.codeIn K cd__law_draw "_law_draw" = true)
  (k__law_draw : PySem.W.keepIn K (.ref p__law_draw) = true)
  (a__law_pick : PySem.W.nsIn K mainGlobals "_law_pick" = some (some (.ref p__law_pick)))
  (l__law_pick : K.lookup p__law_pick = some ⟨oc__law_pick, od__law_pick, .func (PySem.W.fnOf "_law_pick" "_law_pick" (defArgs (top 42)) (defBody (top 42)) (defScope (top 42)) .none kV__law_pick dc__law_pick pm__law_pick an__law_pick cd__law_pick ct__law_pick), sl__law_pick⟩)
  (c__law_pick : PySem.W.codeIn K cd__law_pick "_law_pick" = true)
  (k__law_pick : PySem.W.keepIn K (.ref p__law_pick) = true)
  (a__law_within : PySem.W.nsIn K mainGlobals "_law_within" = some (some (.ref p__law_within)))
  (l__law_within : K.lookup p__law_within = some ⟨oc__law_within, od__law_within, .func (PySem.W.fnOf "_law_within" "_law_within" (defArgs (top 46)) (defBody (top 46)) (defScope (top 46)) .none kV__law_within dc__law_within pm__law_within an__law_within cd__law_within ct__law_within), sl__law_within⟩)
  (c__law_within : PySem.W.codeIn K cd__law_within "_law_within" = true)
  (k__law_within : PySem.W.keepIn K (.ref p__law_within) = true)
  (a_is_name : PySem.W.nsIn K mainGlobals "is_name" = some (some (.ref p_is_name)))
  (l_is_name : K.lookup p_is_name = some ⟨oc_is_name, od_is_name, .func (PySem.W.fnOf "is_name" "is_name" (defArgs (top 14)) (defBody (top 14)) (defScope (top 14)) .none kV_is_name dc_is_name pm_is_name an_is_name cd_is_name ct_is_name), sl_is_name⟩)
  (c_is_name : PySem.W.codeIn K cd_is_name "is_name" = true)
  (k_is_name : PySem.W.keepIn K (.ref p_is_name) = true)
  (a_is_integer : PySem.W.nsIn K mainGlobals "is_integer" = some (some (.ref p_is_integer)))
  (l_is_integer : K.lookup p_is_integer = some ⟨oc_is_integer, od_is_integer, .func (PySem.W.fnOf "is_integer" "is_integer" (defArgs (top 12)) (defBody (top 12)) (defScope (top 12)) .none kV_is_integer dc_is_integer pm_is_integer an_is_integer cd_is_integer ct_is_integer), sl_is_integer⟩)
  (c_is_integer : PySem.W.codeIn K cd_is_integer "is_integer" = true)
  (k_is_integer : PySem.W.keepIn K (.ref p_is_integer) = true)
  (a_is_between : PySem.W.nsIn K mainGlobals "is_between" = some (some (.ref p_is_between)))
  (l_is_between : K.lookup p_is_between = some ⟨oc_is_between, od_is_between, .func (PySem.W.fnOf "is_between" "is_between" (defArgs (top 13)) (defBody (top 13)) (defScope (top 13)) .none kV_is_between dc_is_between pm_is_between an_is_between cd_is_between ct_is_between), sl_is_between⟩)
  (c_is_between : PySem.W.codeIn K cd_is_between "is_between" = true)
  (k_is_between : PySem.W.keepIn K (.ref p_is_between) = true)
  (a_is_tree : PySem.W.nsIn K mainGlobals "is_tree" = some (some (.ref p_is_tree)))
  (l_is_tree : K.lookup p_is_tree = some ⟨oc_is_tree, od_is_tree, .func (PySem.W.fnOf "is_tree" "is_tree" (defArgs (top 17)) (defBody (top 17)) (defScope (top 17)) .none kV_is_tree dc_is_tree pm_is_tree an_is_tree cd_is_tree ct_is_tree), sl_is_tree⟩)
  (c_is_tree : PySem.W.codeIn K cd_is_tree "is_tree" = true)
  (k_is_tree : PySem.W.keepIn K (.ref p_is_tree) = true)
  (a_names_in : PySem.W.nsIn K mainGlobals "names_in" = some (some (.ref p_names_in)))
  (l_names_in : K.lookup p_names_in = some ⟨oc_names_in, od_names_in, .func (PySem.W.fnOf "names_in" "names_in" (defArgs (top 19)) (defBody (top 19)) (defScope (top 19)) .none kV_names_in dc_names_in pm_names_in an_names_in cd_names_in ct_names_in), sl_names_in⟩)
  (c_names_in : PySem.W.codeIn K cd_names_in "names_in" = true)
  (k_names_in : PySem.W.keepIn K (.ref p_names_in) = true)
  (a_length_of : PySem.W.nsIn K mainGlobals "length_of" = some (some (.ref p_length_of)))
  (l_length_of : K.lookup p_length_of = some ⟨oc_length_of, od_length_of, .func (PySem.W.fnOf "length_of" "length_of" (defArgs (top 20)) (defBody (top 20)) (defScope (top 20)) .none kV_length_of dc_length_of pm_length_of an_length_of cd_length_of ct_length_of), sl_length_of⟩)
  (c_length_of : PySem.W.codeIn K cd_length_of "length_of" = true)
  (k_length_of : PySem.W.keepIn K (.ref p_length_of) = true)
  (a_check_tree : PySem.W.nsIn K mainGlobals "check_tree" = some (some (.ref p_check_tree)))
  (l_check_tree : K.lookup p_check_tree = some ⟨oc_check_tree, od_check_tree, .func (PySem.W.fnOf "check_tree" "check_tree" (defArgs (top 18)) (defBody (top 18)) (defScope (top 18)) .none kV_check_tree dc_check_tree pm_check_tree an_check_tree cd_check_tree ct_check_tree), sl_check_tree⟩)
  (c_check_tree : PySem.W.codeIn K cd_check_tree "check_tree" = true)
  (k_check_tree : PySem.W.keepIn K (.ref p_check_tree) = true)
  (a_lengths : PySem.W.nsIn K mainGlobals "lengths" = some (some (.ref p_lengths)))
  (l_lengths : K.lookup p_lengths = some ⟨oc_lengths, od_lengths, .func (PySem.W.fnOf "lengths" "lengths" (defArgs (top 21)) (defBody (top 21)) (defScope (top 21)) .none kV_lengths dc_lengths pm_lengths an_lengths cd_lengths ct_lengths), sl_lengths⟩)
  (c_lengths : PySem.W.codeIn K cd_lengths "lengths" = true)
  (k_lengths : PySem.W.keepIn K (.ref p_lengths) = true)
  (a_choose : PySem.W.nsIn K mainGlobals "choose" = some (some (.ref p_choose)))
  (l_choose : K.lookup p_choose = some ⟨oc_choose, od_choose, .func (PySem.W.fnOf "choose" "choose" (defArgs (top 22)) (defBody (top 22)) (defScope (top 22)) .none kV_choose dc_choose pm_choose an_choose cd_choose ct_choose), sl_choose⟩)
  (c_choose : PySem.W.codeIn K cd_choose "choose" = true)
  (k_choose : PySem.W.keepIn K (.ref p_choose) = true)
  (a_joined : PySem.W.nsIn K mainGlobals "joined" = some (some (.ref p_joined)))
  (l_joined : K.lookup p_joined = some ⟨oc_joined, od_joined, .func (PySem.W.fnOf "joined" "joined" (defArgs (top 23)) (defBody (top 23)) (defScope (top 23)) .none kV_joined dc_joined pm_joined an_joined cd_joined ct_joined), sl_joined⟩)
  (c_joined : PySem.W.codeIn K cd_joined "joined" = true)
  (k_joined : PySem.W.keepIn K (.ref p_joined) = true)
  (a_ways_in : PySem.W.nsIn K mainGlobals "ways_in" = some (some (.ref p_ways_in)))
  (l_ways_in : K.lookup p_ways_in = some ⟨oc_ways_in, od_ways_in, .func (PySem.W.fnOf "ways_in" "ways_in" (defArgs (top 24)) (defBody (top 24)) (defScope (top 24)) .none kV_ways_in dc_ways_in pm_ways_in an_ways_in cd_ways_in ct_ways_in), sl_ways_in⟩)
  (c_ways_in : PySem.W.codeIn K cd_ways_in "ways_in" = true)
  (k_ways_in : PySem.W.keepIn K (.ref p_ways_in) = true)
  (a_count_ways : PySem.W.nsIn K mainGlobals "count_ways" = some (some (.ref p_count_ways)))
  (l_count_ways : K.lookup p_count_ways = some ⟨oc_count_ways, od_count_ways, .func (PySem.W.fnOf "count_ways" "count_ways" (defArgs (top 25)) (defBody (top 25)) (defScope (top 25)) .none kV_count_ways dc_count_ways pm_count_ways an_count_ways cd_count_ways ct_count_ways), sl_count_ways⟩)
  (c_count_ways : PySem.W.codeIn K cd_count_ways "count_ways" = true)
  (k_count_ways : PySem.W.keepIn K (.ref p_count_ways) = true)
  (a_needed_in : PySem.W.nsIn K mainGlobals "needed_in" = some (some (.ref p_needed_in)))
  (l_needed_in : K.lookup p_needed_in = some ⟨oc_needed_in, od_needed_in, .func (PySem.W.fnOf "needed_in" "needed_in" (defArgs (top 36)) (defBody (top 36)) (defScope (top 36)) .none kV_needed_in dc_needed_in pm_needed_in an_needed_in cd_needed_in ct_needed_in), sl_needed_in⟩)
  (c_needed_in : PySem.W.codeIn K cd_needed_in "needed_in" = true)
  (k_needed_in : PySem.W.keepIn K (.ref p_needed_in) = true)
  (a_must_have : PySem.W.nsIn K mainGlobals "must_have" = some (some (.ref p_must_have)))
  (l_must_have : K.lookup p_must_have = some ⟨oc_must_have, od_must_have, .func (PySem.W.fnOf "must_have" "must_have" (defArgs (top 35)) (defBody (top 35)) (defScope (top 35)) .none kV_must_have dc_must_have pm_must_have an_must_have cd_must_have ct_must_have), sl_must_have⟩)
  (c_must_have : PySem.W.codeIn K cd_must_have "must_have" = true)
  (k_must_have : PySem.W.keepIn K (.ref p_must_have) = true)
  (a_turned_of : PySem.W.nsIn K mainGlobals "turned_of" = some (some (.ref p_turned_of)))
  (l_turned_of : K.lookup p_turned_of = some ⟨oc_turned_of, od_turned_of, .func (PySem.W.fnOf "turned_of" "turned_of" (defArgs (top 32)) (defBody (top 32)) (defScope (top 32)) .none kV_turned_of dc_turned_of pm_turned_of an_turned_of cd_turned_of ct_turned_of), sl_turned_of⟩)
  (c_turned_of : PySem.W.codeIn K cd_turned_of "turned_of" = true)
  (k_turned_of : PySem.W.keepIn K (.ref p_turned_of) = true)
  (a_turned : PySem.W.nsIn K mainGlobals "turned" = some (some (.ref p_turned)))
  (l_turned : K.lookup p_turned = some ⟨oc_turned, od_turned, .func (PySem.W.fnOf "turned" "turned" (defArgs (top 31)) (defBody (top 31)) (defScope (top 31)) .none kV_turned dc_turned pm_turned an_turned cd_turned ct_turned), sl_turned⟩)
  (c_turned : PySem.W.codeIn K cd_turned "turned" = true)
  (k_turned : PySem.W.keepIn K (.ref p_turned) = true)
  (a_normal_of : PySem.W.nsIn K mainGlobals "normal_of" = some (some (.ref p_normal_of)))
  (l_normal_of : K.lookup p_normal_of = some ⟨oc_normal_of, od_normal_of, .func (PySem.W.fnOf "normal_of" "normal_of" (defArgs (top 34)) (defBody (top 34)) (defScope (top 34)) .none kV_normal_of dc_normal_of pm_normal_of an_normal_of cd_normal_of ct_normal_of), sl_normal_of⟩)
  (c_normal_of : PySem.W.codeIn K cd_normal_of "normal_of" = true)
  (k_normal_of : PySem.W.keepIn K (.ref p_normal_of) = true)
  (a_normal : PySem.W.nsIn K mainGlobals "normal" = some (some (.ref p_normal)))
  (l_normal : K.lookup p_normal = some ⟨oc_normal, od_normal, .func (PySem.W.fnOf "normal" "normal" (defArgs (top 33)) (defBody (top 33)) (defScope (top 33)) .none kV_normal dc_normal pm_normal an_normal cd_normal ct_normal), sl_normal⟩)
  (c_normal : PySem.W.codeIn K cd_normal "normal" = true)
  (k_normal : PySem.W.keepIn K (.ref p_normal) = true)
  (a_ended : PySem.W.nsIn K mainGlobals "ended" = some (some (.ref p_ended)))
  (l_ended : K.lookup p_ended = some ⟨oc_ended, od_ended, .func (PySem.W.fnOf "ended" "ended" (defArgs (top 26)) (defBody (top 26)) (defScope (top 26)) .none kV_ended dc_ended pm_ended an_ended cd_ended ct_ended), sl_ended⟩)
  (c_ended : PySem.W.codeIn K cd_ended "ended" = true)
  (k_ended : PySem.W.keepIn K (.ref p_ended) = true)
  (a_moved : PySem.W.nsIn K mainGlobals "moved" = some (some (.ref p_moved)))
  (l_moved : K.lookup p_moved = some ⟨oc_moved, od_moved, .func (PySem.W.fnOf "moved" "moved" (defArgs (top 29)) (defBody (top 29)) (defScope (top 29)) .none kV_moved dc_moved pm_moved an_moved cd_moved ct_moved), sl_moved⟩)
  (c_moved : PySem.W.codeIn K cd_moved "moved" = true)
  (k_moved : PySem.W.keepIn K (.ref p_moved) = true)
  (a_further : PySem.W.nsIn K mainGlobals "further" = some (some (.ref p_further)))
  (l_further : K.lookup p_further = some ⟨oc_further, od_further, .func (PySem.W.fnOf "further" "further" (defArgs (top 28)) (defBody (top 28)) (defScope (top 28)) .none kV_further dc_further pm_further an_further cd_further ct_further), sl_further⟩)
  (c_further : PySem.W.codeIn K cd_further "further" = true)
  (k_further : PySem.W.keepIn K (.ref p_further) = true)
  (a_any_ended : PySem.W.nsIn K mainGlobals "any_ended" = some (some (.ref p_any_ended)))
  (l_any_ended : K.lookup p_any_ended = some ⟨oc_any_ended, od_any_ended, .func (PySem.W.fnOf "any_ended" "any_ended" (defArgs (top 27)) (defBody (top 27)) (defScope (top 27)) .none kV_any_ended dc_any_ended pm_any_ended an_any_ended cd_any_ended ct_any_ended), sl_any_ended⟩)
  (c_any_ended : PySem.W.codeIn K cd_any_ended "any_ended" = true)
  (k_any_ended : PySem.W.keepIn K (.ref p_any_ended) = true)
  (a_judge_run : PySem.W.nsIn K mainGlobals "judge_run" = some (some (.ref p_judge_run)))
  (l_judge_run : K.lookup p_judge_run = some ⟨oc_judge_run, od_judge_run, .func (PySem.W.fnOf "judge_run" "judge_run" (defArgs (top 30)) (defBody (top 30)) (defScope (top 30)) .none kV_judge_run dc_judge_run pm_judge_run an_judge_run cd_judge_run ct_judge_run), sl_judge_run⟩)
  (c_judge_run : PySem.W.codeIn K cd_judge_run "judge_run" = true)
  (k_judge_run : PySem.W.keepIn K (.ref p_judge_run) = true)
  (a_relation : PySem.W.nsIn K mainGlobals "relation" = some (some (.ref p_relation)))
  (l_relation : K.lookup p_relation = some ⟨oc_relation, od_relation, .func (PySem.W.fnOf "relation" "relation" (defArgs (top 38)) (defBody (top 38)) (defScope (top 38)) .none kV_relation dc_relation pm_relation an_relation cd_relation ct_relation), sl_relation⟩)
  (c_relation : PySem.W.codeIn K cd_relation "relation" = true)
  (k_relation : PySem.W.keepIn K (.ref p_relation) = true)
  (a__law_called : PySem.W.nsIn K mainGlobals "_law_called" = some (some (.ref p__law_called)))
  (l__law_called : K.lookup p__law_called = some ⟨oc__law_called, od__law_called, .func (PySem.W.fnOf "_law_called" "_law_called" (defArgs (top 44)) (defBody (top 44)) (defScope (top 44)) .none kV__law_called dc__law_called pm__law_called an__law_called cd__law_called ct__law_called), sl__law_called⟩)
  (c__law_called : PySem.W.codeIn K cd__law_called "_law_called" = true)
  (k__law_called : PySem.W.keepIn K (.ref p__law_called) = true)
  (a__law_word : PySem.W.nsIn K mainGlobals "_law_word" = some (some (.ref p__law_word)))
  (l__law_word : K.lookup p__law_word = some ⟨oc__law_word, od__law_word, .func (PySem.W.fnOf "_law_word" "_law_word" (defArgs (top 43)) (defBody (top 43)) (defScope (top 43)) .none kV__law_word dc__law_word pm__law_word an__law_word cd__law_word ct__law_word), sl__law_word⟩)
  (c__law_word : PySem.W.codeIn K cd__law_word "_law_word" = true)
  (k__law_word : PySem.W.keepIn K (.ref p__law_word) = true)
  (a__law_heard : PySem.W.nsIn K mainGlobals "_law_heard" = some (some (.ref p__law_heard)))
  (l__law_heard : K.lookup p__law_heard = some ⟨oc__law_heard, od__law_heard, .func (PySem.W.fnOf "_law_heard" "_law_heard" (defArgs (top 45)) (defBody (top 45)) (defScope (top 45)) .none kV__law_heard dc__law_heard pm__law_heard an__law_heard cd__law_heard ct__law_heard), sl__law_heard⟩)
  (c__law_heard : PySem.W.codeIn K cd__law_heard "_law_heard" = true)
  (k__law_heard : PySem.W.keepIn K (.ref p__law_heard) = true)
  (a__law_every : PySem.W.nsIn K mainGlobals "_law_every" = some (some (.ref p__law_every)))
  (l__law_every : K.lookup p__law_every = some ⟨oc__law_every, od__law_every, .func (PySem.W.fnOf "_law_every" "_law_every" (defArgs (top 47)) (defBody (top 47)) (defScope (top 47)) .none kV__law_every dc__law_every pm__law_every an__law_every cd__law_every ct__law_every), sl__law_every⟩)
  (c__law_every : PySem.W.codeIn K cd__law_every "_law_every" = true)
  (k__law_every : PySem.W.keepIn K (.ref p__law_every) = true)
  (a__law_names : PySem.W.nsIn K mainGlobals "_law_names" = some (some (.ref p__law_names)))
  (l__law_names : K.lookup p__law_names = some ⟨oc__law_names, od__law_names, .func (PySem.W.fnOf "_law_names" "_law_names" (defArgs (top 48)) (defBody (top 48)) (defScope (top 48)) .none kV__law_names dc__law_names pm__law_names an__law_names cd__law_names ct__law_names), sl__law_names⟩)
  (c__law_names : PySem.W.codeIn K cd__law_names "_law_names" = true)
  (k__law_names : PySem.W.keepIn K (.ref p__law_names) = true)
  (a_law : PySem.W.nsIn K mainGlobals "law" = some (some (.ref p_law)))
  (l_law : K.lookup p_law = some ⟨oc_law, od_law, .func (PySem.W.fnOf "law" "law" (defArgs (top 49)) (defBody (top 49)) (defScope (top 49)) .none kV_law dc_law pm_law an_law cd_law ct_law), sl_law⟩)
  (c_law : PySem.W.codeIn K cd_law "law" = true)
  (k_law : PySem.W.keepIn K (.ref p_law) = true)
  (n_MAX_AGAIN : PySem.W.nsIn K mainGlobals "MAX_AGAIN" = some (some (.int 5 t_MAX_AGAIN)))
  (n_MAX_DEPTH : PySem.W.nsIn K mainGlobals "MAX_DEPTH" = some (some (.int 12 t_MAX_DEPTH)))
  (n_MAX_LEAVES : PySem.W.nsIn K mainGlobals "MAX_LEAVES" = some (some (.int 30 t_MAX_LEAVES)))
  (n_MAX_NAME : PySem.W.nsIn K mainGlobals "MAX_NAME" = some (some (.int 10 t_MAX_NAME)))
  (n_MAX_RUN : PySem.W.nsIn K mainGlobals "MAX_RUN" = some (some (.int 200 t_MAX_RUN)))
  (n_GROUPS : PySem.W.nsIn K mainGlobals "GROUPS" = some (some (.ref a_GROUPS)))
  (l_GROUPS : K.lookup a_GROUPS = some ⟨.type "tuple", od_GROUPS, .seq #[.str "row" t0_GROUPS, .str "all" t1_GROUPS, .str "one" t2_GROUPS] nn_GROUPS, sl_GROUPS⟩)
  (b_ValueError : PySem.W.nsIn K mainGlobals "ValueError" = some none)
  (b_abs : PySem.W.nsIn K mainGlobals "abs" = some none)
  (b_all : PySem.W.nsIn K mainGlobals "all" = some none)
  (b_bool : PySem.W.nsIn K mainGlobals "bool" = some none)
  (b_enumerate : PySem.W.nsIn K mainGlobals "enumerate" = some none)
  (b_int : PySem.W.nsIn K mainGlobals "int" = some none)
  (b_isinstance : PySem.W.nsIn K mainGlobals "isinstance" = some none)
  (b_len : PySem.W.nsIn K mainGlobals "len" = some none)
  (b_list : PySem.W.nsIn K mainGlobals "list" = some none)
  (b_max : PySem.W.nsIn K mainGlobals "max" = some none)
  (b_min : PySem.W.nsIn K mainGlobals "min" = some none)
  (b_range : PySem.W.nsIn K mainGlobals "range" = some none)
  (b_sorted : PySem.W.nsIn K mainGlobals "sorted" = some none)
  (b_str : PySem.W.nsIn K mainGlobals "str" = some none)
  (b_sum : PySem.W.nsIn K mainGlobals "sum" = some none)
  (b_super : PySem.W.nsIn K mainGlobals "super" = some none)
  (b_tuple : PySem.W.nsIn K mainGlobals "tuple" = some none)
  (aW : PySem.W.nsIn K mainGlobals "WorkError" = some (some (.ref AW)))
  (hst : PySem.W.nsIn K cStatics "thirdparty.any" = some none)
  (e_n : PySem.W.specialIn K (.builtin "object.__class__") "__get__" = some (some (.builtin "getset_descriptor.__get__")))
  (e_t : PySem.W.takesIn K (.builtin "object.__class__") = some true)
  (aC0 : PySem.W.nsIn K mainGlobals "FlowError" = some (some (.ref C0)))
  (xL0 : K.lookup C0 = some (excClassObj nm0 qn0 C0 N0 bs0 [.ref AW, .type "ValueError", .type "Exception", .type "BaseException", .type "object"] true sn0 sub0 ab0 col0 dd0 x00 x10 x20 x30 x50 "ValueError.__new__"))
  (sa0 : PySem.W.findIn K (.ref C0) "__setattr__" = some (some (.builtin "object.__setattr__")))
  (nr0 : PySem.W.findIn K (.ref C0) "reason" = some none)
  (iC0 : PySem.W.findIn K (.ref C0) "__init__" = some (some (.ref I0)))
  (tI0 : PySem.W.typeIn K (.ref I0) = some (.type "function"))
  (kC0 : PySem.W.keepIn K (.ref C0) = true)
  (eC0 : PySem.W.subIn K (.ref C0) (.type "BaseException") = some true)
  (tC0 : PySem.W.typeIn K (.ref C0) = some (.type "type"))
  (ms0 : PySem.W.mroIn K C0 (.ref C0) = some true)
  (mv0 : PySem.W.mroIn K C0 (.type "ValueError") = some true)
  (si0 : PySem.W.ks_superIn K C0 C0 "__init__" = some (some (.builtin "ValueError.__init__")))
  (lI0 : K.lookup I0 = some ⟨oc0, od0, .func (PySem.W.ksFn "__init__" "FlowError.__init__" iA0 iB0 Sup.iS .none .none dc0 pm0 an0 (.ref cda0) ct0 cc0), osl0⟩)
  (cI0 : PySem.W.codeIn K (.ref cda0) "FlowError.__init__" = true)
  (lD0 : K.lookup cda0 = some ⟨ccl0, cdd0, .fields vs0, ccs0⟩)
  (fD0 : vs0[2]? = some (.str PP.main.file tf0))
  (lK0 : K.lookup cc0 = some ⟨cl0, cld0, .cell (some (.ref C0)), csl0⟩)
  (ga0 : PySem.W.findIn K (.ref C0) "__getattribute__" = some (some (.builtin "BaseException.__getattribute__")))
  (gt0 : PySem.W.findIn K (.ref C0) "__getattr__" = some none)
  (hd0 : PySem.W.hasDictIn K C0 = true)
  (hc0 : PySem.W.findIn K (.ref C0) "__class__" = some (some (.builtin "object.__class__")))
  (hm0 : PySem.W.mroIn K C0 (.type "object") = some true)
  (iv0 : PySem.W.kitOne K (.ref C0) (.type "ValueError") = some true)
  (hx0 : PySem.W.exmOne K (.ref C0) (.ref AW) = some true)
  (aC1 : PySem.W.nsIn K mainGlobals "ArgumentError" = some (some (.ref C1)))
  (xL1 : K.lookup C1 = some (excClassObj nm1 qn1 C1 N1 bs1 [.ref AW, .type "ValueError", .type "Exception", .type "BaseException", .type "object"] true sn1 sub1 ab1 col1 dd1 x01 x11 x21 x31 x51 "ValueError.__new__"))
  (sa1 : PySem.W.findIn K (.ref C1) "__setattr__" = some (some (.builtin "object.__setattr__")))
  (nr1 : PySem.W.findIn K (.ref C1) "reason" = some none)
  (iC1 : PySem.W.findIn K (.ref C1) "__init__" = some (some (.ref I1)))
  (tI1 : PySem.W.typeIn K (.ref I1) = some (.type "function"))
  (kC1 : PySem.W.keepIn K (.ref C1) = true)
  (eC1 : PySem.W.subIn K (.ref C1) (.type "BaseException") = some true)
  (tC1 : PySem.W.typeIn K (.ref C1) = some (.type "type"))
  (ms1 : PySem.W.mroIn K C1 (.ref C1) = some true)
  (mv1 : PySem.W.mroIn K C1 (.type "ValueError") = some true)
  (si1 : PySem.W.ks_superIn K C1 C1 "__init__" = some (some (.builtin "ValueError.__init__")))
  (lI1 : K.lookup I1 = some ⟨oc1, od1, .func (PySem.W.ksFn "__init__" "ArgumentError.__init__" iA1 iB1 Sup.iS .none .none dc1 pm1 an1 (.ref cda1) ct1 cc1), osl1⟩)
  (cI1 : PySem.W.codeIn K (.ref cda1) "ArgumentError.__init__" = true)
  (lD1 : K.lookup cda1 = some ⟨ccl1, cdd1, .fields vs1, ccs1⟩)
  (fD1 : vs1[2]? = some (.str PP.main.file tf1))
  (lK1 : K.lookup cc1 = some ⟨cl1, cld1, .cell (some (.ref C1)), csl1⟩)
  (ga1 : PySem.W.findIn K (.ref C1) "__getattribute__" = some (some (.builtin "BaseException.__getattribute__")))
  (gt1 : PySem.W.findIn K (.ref C1) "__getattr__" = some none)
  (hd1 : PySem.W.hasDictIn K C1 = true)
  (hc1 : PySem.W.findIn K (.ref C1) "__class__" = some (some (.builtin "object.__class__")))
  (hm1 : PySem.W.mroIn K C1 (.type "object") = some true)
  (iv1 : PySem.W.kitOne K (.ref C1) (.type "ValueError") = some true)
  (hx1 : PySem.W.exmOne K (.ref C1) (.ref AW) = some true)
  (aC2 : PySem.W.nsIn K mainGlobals "PaperError" = some (some (.ref C2)))
  (xL2 : K.lookup C2 = some (excClassObj nm2 qn2 C2 N2 bs2 [.ref AW, .type "ValueError", .type "Exception", .type "BaseException", .type "object"] true sn2 sub2 ab2 col2 dd2 x02 x12 x22 x32 x52 "ValueError.__new__"))
  (sa2 : PySem.W.findIn K (.ref C2) "__setattr__" = some (some (.builtin "object.__setattr__")))
  (nr2 : PySem.W.findIn K (.ref C2) "reason" = some none)
  (iC2 : PySem.W.findIn K (.ref C2) "__init__" = some (some (.ref I2)))
  (tI2 : PySem.W.typeIn K (.ref I2) = some (.type "function"))
  (kC2 : PySem.W.keepIn K (.ref C2) = true)
  (eC2 : PySem.W.subIn K (.ref C2) (.type "BaseException") = some true)
  (tC2 : PySem.W.typeIn K (.ref C2) = some (.type "type"))
  (ms2 : PySem.W.mroIn K C2 (.ref C2) = some true)
  (mv2 : PySem.W.mroIn K C2 (.type "ValueError") = some true)
  (si2 : PySem.W.ks_superIn K C2 C2 "__init__" = some (some (.builtin "ValueError.__init__")))
  (lI2 : K.lookup I2 = some ⟨oc2, od2, .func (PySem.W.ksFn "__init__" "PaperError.__init__" iA2 iB2 Sup.iS .none .none dc2 pm2 an2 (.ref cda2) ct2 cc2), osl2⟩)
  (cI2 : PySem.W.codeIn K (.ref cda2) "PaperError.__init__" = true)
  (lD2 : K.lookup cda2 = some ⟨ccl2, cdd2, .fields vs2, ccs2⟩)
  (fD2 : vs2[2]? = some (.str PP.main.file tf2))
  (lK2 : K.lookup cc2 = some ⟨cl2, cld2, .cell (some (.ref C2)), csl2⟩)
  (ga2 : PySem.W.findIn K (.ref C2) "__getattribute__" = some (some (.builtin "BaseException.__getattribute__")))
  (gt2 : PySem.W.findIn K (.ref C2) "__getattr__" = some none)
  (hd2 : PySem.W.hasDictIn K C2 = true)
  (hc2 : PySem.W.findIn K (.ref C2) "__class__" = some (some (.builtin "object.__class__")))
  (hm2 : PySem.W.mroIn K C2 (.type "object") = some true)
  (iv2 : PySem.W.kitOne K (.ref C2) (.type "ValueError") = some true)
  (hx2 : PySem.W.exmOne K (.ref C2) (.ref AW) = some true)
  (aC3 : PySem.W.nsIn K mainGlobals "TooMany" = some (some (.ref C3)))
  (xL3 : K.lookup C3 = some (excClassObj nm3 qn3 C3 N3 bs3 [.ref AW, .type "ValueError", .type "Exception", .type "BaseException", .type "object"] true sn3 sub3 ab3 col3 dd3 x03 x13 x23 x33 x53 "ValueError.__new__"))
  (sa3 : PySem.W.findIn K (.ref C3) "__setattr__" = some (some (.builtin "object.__setattr__")))
  (nr3 : PySem.W.findIn K (.ref C3) "reason" = some none)
  (iC3 : PySem.W.findIn K (.ref C3) "__init__" = some (some (.ref I3)))
  (tI3 : PySem.W.typeIn K (.ref I3) = some (.type "function"))
  (kC3 : PySem.W.keepIn K (.ref C3) = true)
  (eC3 : PySem.W.subIn K (.ref C3) (.type "BaseException") = some true)
  (tC3 : PySem.W.typeIn K (.ref C3) = some (.type "type"))
  (ms3 : PySem.W.mroIn K C3 (.ref C3) = some true)
  (mv3 : PySem.W.mroIn K C3 (.type "ValueError") = some true)
  (si3 : PySem.W.ks_superIn K C3 C3 "__init__" = some (some (.builtin "ValueError.__init__")))
  (lI3 : K.lookup I3 = some ⟨oc3, od3, .func (PySem.W.ksFn "__init__" "TooMany.__init__" iA3 iB3 Sup.iS .none .none dc3 pm3 an3 (.ref cda3) ct3 cc3), osl3⟩)
  (cI3 : PySem.W.codeIn K (.ref cda3) "TooMany.__init__" = true)
  (lD3 : K.lookup cda3 = some ⟨ccl3, cdd3, .fields vs3, ccs3⟩)
  (fD3 : vs3[2]? = some (.str PP.main.file tf3))
  (lK3 : K.lookup cc3 = some ⟨cl3, cld3, .cell (some (.ref C3)), csl3⟩)
  (ga3 : PySem.W.findIn K (.ref C3) "__getattribute__" = some (some (.builtin "BaseException.__getattribute__")))
  (gt3 : PySem.W.findIn K (.ref C3) "__getattr__" = some none)
  (hd3 : PySem.W.hasDictIn K C3 = true)
  (hc3 : PySem.W.findIn K (.ref C3) "__class__" = some (some (.builtin "object.__class__")))
  (hm3 : PySem.W.mroIn K C3 (.type "object") = some true)
  (iv3 : PySem.W.kitOne K (.ref C3) (.type "ValueError") = some true)
  (hx3 : PySem.W.exmOne K (.ref C3) (.ref AW) = some true)
  (is00 : PySem.W.kitOne K (.ref C0) (.ref C0) = some true)
  (xm00 : PySem.W.exmOne K (.ref C0) (.ref C0) = some true)
  (is01 : PySem.W.kitOne K (.ref C0) (.ref C1) = some false)
  (xm01 : PySem.W.exmOne K (.ref C0) (.ref C1) = some false)
  (is02 : PySem.W.kitOne K (.ref C0) (.ref C2) = some false)
  (xm02 : PySem.W.exmOne K (.ref C0) (.ref C2) = some false)
  (is03 : PySem.W.kitOne K (.ref C0) (.ref C3) = some false)
  (xm03 : PySem.W.exmOne K (.ref C0) (.ref C3) = some false)
  (is10 : PySem.W.kitOne K (.ref C1) (.ref C0) = some false)
  (xm10 : PySem.W.exmOne K (.ref C1) (.ref C0) = some false)
  (is11 : PySem.W.kitOne K (.ref C1) (.ref C1) = some true)
  (xm11 : PySem.W.exmOne K (.ref C1) (.ref C1) = some true)
  (is12 : PySem.W.kitOne K (.ref C1) (.ref C2) = some false)
  (xm12 : PySem.W.exmOne K (.ref C1) (.ref C2) = some false)
  (is13 : PySem.W.kitOne K (.ref C1) (.ref C3) = some false)
  (xm13 : PySem.W.exmOne K (.ref C1) (.ref C3) = some false)
  (is20 : PySem.W.kitOne K (.ref C2) (.ref C0) = some false)
  (xm20 : PySem.W.exmOne K (.ref C2) (.ref C0) = some false)
  (is21 : PySem.W.kitOne K (.ref C2) (.ref C1) = some false)
  (xm21 : PySem.W.exmOne K (.ref C2) (.ref C1) = some false)
  (is22 : PySem.W.kitOne K (.ref C2) (.ref C2) = some true)
  (xm22 : PySem.W.exmOne K (.ref C2) (.ref C2) = some true)
  (is23 : PySem.W.kitOne K (.ref C2) (.ref C3) = some false)
  (xm23 : PySem.W.exmOne K (.ref C2) (.ref C3) = some false)
  (is30 : PySem.W.kitOne K (.ref C3) (.ref C0) = some false)
  (xm30 : PySem.W.exmOne K (.ref C3) (.ref C0) = some false)
  (is31 : PySem.W.kitOne K (.ref C3) (.ref C1) = some false)
  (xm31 : PySem.W.exmOne K (.ref C3) (.ref C1) = some false)
  (is32 : PySem.W.kitOne K (.ref C3) (.ref C2) = some false)
  (xm32 : PySem.W.exmOne K (.ref C3) (.ref C2) = some false)
  (is33 : PySem.W.kitOne K (.ref C3) (.ref C3) = some true)
  (xm33 : PySem.W.exmOne K (.ref C3) (.ref C3) = some true) :
  ∃ (g : Ce) (Ca Ci : Nat → Addr) (AW : Addr), TF K mg g Ca Ci AW := by
  refine ⟨⟨fun i => match i with | 0 => some p_lengths | 1 => some p_count_ways | 2 => some p_must_have | 3 => some p_turned | 4 => some p_normal | 5 => some p_judge_run | 6 => some p_relation | _ => none, fun i => match i with | 0 => some C0 | 1 => some C1 | 2 => some C2 | 3 => some C3 | _ => none, fun _ => "reason"⟩, four C0 C1 C2 C3, four I0 I1 I2 I3, AW, ?_⟩
  have mk : ∀ {x : Str} {v : Value}, PySem.W.nsIn K mainGlobals x = some (some v) → mg x = some v := fun e => PySem.W.mg_of X G e
  have mn : ∀ {x : Str}, PySem.W.nsIn K mainGlobals x = some none → mg x = none := fun e => PySem.W.mg_none_of X G e
  have F__law_start : FunAt K mg "_law_start" (top 40) ["script"] := by
    have F := fun_mk (st := top 40) l__law_start c__law_start k__law_start
    exact ⟨_, _, mk a__law_start, F, k__law_start, F.binds (ps := ["script"]) fun _ _ _ _ _ _ us hl => match us, hl with | [_], _ => rfl⟩
  have F__law_draw : FunAt K mg "_law_draw" (top 41) ["state", "many"] := by
    have F := fun_mk (st := top 41) l__law_draw c__law_draw k__law_draw
    exact ⟨_, _, mk a__law_draw, F, k__law_draw, F.binds (ps := ["state", "many"]) fun _ _ _ _ _ _ us hl => match us, hl with | [_, _], _ => rfl⟩
  have F__law_pick : FunAt K mg "_law_pick" (top 42) ["state", "some"] := by
    have F := fun_mk (st := top 42) l__law_pick c__law_pick k__law_pick
    exact ⟨_, _, mk a__law_pick, F, k__law_pick, F.binds (ps := ["state", "some"]) fun _ _ _ _ _ _ us hl => match us, hl with | [_, _], _ => rfl⟩
  have F__law_within : FunAt K mg "_law_within" (top 46) ["state", "depth", "leaf"] := by
    have F := fun_mk (st := top 46) l__law_within c__law_within k__law_within
    exact ⟨_, _, mk a__law_within, F, k__law_within, F.binds (ps := ["state", "depth", "leaf"]) fun _ _ _ _ _ _ us hl => match us, hl with | [_, _, _], _ => rfl⟩
  have F_is_name : FunAt K mg "is_name" (top 14) ["value"] := by
    have F := fun_mk (st := top 14) l_is_name c_is_name k_is_name
    exact ⟨_, _, mk a_is_name, F, k_is_name, F.binds (ps := ["value"]) fun _ _ _ _ _ _ us hl => match us, hl with | [_], _ => rfl⟩
  have F_is_integer : FunAt K mg "is_integer" (top 12) ["value"] := by
    have F := fun_mk (st := top 12) l_is_integer c_is_integer k_is_integer
    exact ⟨_, _, mk a_is_integer, F, k_is_integer, F.binds (ps := ["value"]) fun _ _ _ _ _ _ us hl => match us, hl with | [_], _ => rfl⟩
  have F_is_between : FunAt K mg "is_between" (top 13) ["value", "low", "high"] := by
    have F := fun_mk (st := top 13) l_is_between c_is_between k_is_between
    exact ⟨_, _, mk a_is_between, F, k_is_between, F.binds (ps := ["value", "low", "high"]) fun _ _ _ _ _ _ us hl => match us, hl with | [_, _, _], _ => rfl⟩
  have F_is_tree : FunAt K mg "is_tree" (top 17) ["value", "deep"] := by
    have F := fun_mk (st := top 17) l_is_tree c_is_tree k_is_tree
    exact ⟨_, _, mk a_is_tree, F, k_is_tree, F.binds (ps := ["value", "deep"]) fun _ _ _ _ _ _ us hl => match us, hl with | [_, _], _ => rfl⟩
  have F_names_in : FunAt K mg "names_in" (top 19) ["tree"] := by
    have F := fun_mk (st := top 19) l_names_in c_names_in k_names_in
    exact ⟨_, _, mk a_names_in, F, k_names_in, F.binds (ps := ["tree"]) fun _ _ _ _ _ _ us hl => match us, hl with | [_], _ => rfl⟩
  have F_length_of : FunAt K mg "length_of" (top 20) ["tree", "most"] := by
    have F := fun_mk (st := top 20) l_length_of c_length_of k_length_of
    exact ⟨_, _, mk a_length_of, F, k_length_of, F.binds (ps := ["tree", "most"]) fun _ _ _ _ _ _ us hl => match us, hl with | [_, _], _ => rfl⟩
  have F_check_tree : FunAt K mg "check_tree" (top 18) ["tree"] := by
    have F := fun_mk (st := top 18) l_check_tree c_check_tree k_check_tree
    exact ⟨_, _, mk a_check_tree, F, k_check_tree, F.binds (ps := ["tree"]) fun _ _ _ _ _ _ us hl => match us, hl with | [_], _ => rfl⟩
  have F_lengths : FunAt K mg "lengths" (top 21) ["tree"] := by
    have F := fun_mk (st := top 21) l_lengths c_lengths k_lengths
    exact ⟨_, _, mk a_lengths, F, k_lengths, F.binds (ps := ["tree"]) fun _ _ _ _ _ _ us hl => match us, hl with | [_], _ => rfl⟩
  have F_choose : FunAt K mg "choose" (top 22) ["many", "few"] := by
    have F := fun_mk (st := top 22) l_choose c_choose k_choose
    exact ⟨_, _, mk a_choose, F, k_choose, F.binds (ps := ["many", "few"]) fun _ _ _ _ _ _ us hl => match us, hl with | [_, _], _ => rfl⟩
  have F_joined : FunAt K mg "joined" (top 23) ["first", "second", "mixed"] := by
    have F := fun_mk (st := top 23) l_joined c_joined k_joined
    exact ⟨_, _, mk a_joined, F, k_joined, F.binds (ps := ["first", "second", "mixed"]) fun _ _ _ _ _ _ us hl => match us, hl with | [_, _, _], _ => rfl⟩
  have F_ways_in : FunAt K mg "ways_in" (top 24) ["tree"] := by
    have F := fun_mk (st := top 24) l_ways_in c_ways_in k_ways_in
    exact ⟨_, _, mk a_ways_in, F, k_ways_in, F.binds (ps := ["tree"]) fun _ _ _ _ _ _ us hl => match us, hl with | [_], _ => rfl⟩
  have F_count_ways : FunAt K mg "count_ways" (top 25) ["tree"] := by
    have F := fun_mk (st := top 25) l_count_ways c_count_ways k_count_ways
    exact ⟨_, _, mk a_count_ways, F, k_count_ways, F.binds (ps := ["tree"]) fun _ _ _ _ _ _ us hl => match us, hl with | [_], _ => rfl⟩
  have F_needed_in : FunAt K mg "needed_in" (top 36) ["tree"] := by
    have F := fun_mk (st := top 36) l_needed_in c_needed_in k_needed_in
    exact ⟨_, _, mk a_needed_in, F, k_needed_in, F.binds (ps := ["tree"]) fun _ _ _ _ _ _ us hl => match us, hl with | [_], _ => rfl⟩
  have F_must_have : FunAt K mg "must_have" (top 35) ["tree"] := by
    have F := fun_mk (st := top 35) l_must_have c_must_have k_must_have
    exact ⟨_, _, mk a_must_have, F, k_must_have, F.binds (ps := ["tree"]) fun _ _ _ _ _ _ us hl => match us, hl with | [_], _ => rfl⟩
  have F_turned_of : FunAt K mg "turned_of" (top 32) ["tree"] := by
    have F := fun_mk (st := top 32) l_turned_of c_turned_of k_turned_of
    exact ⟨_, _, mk a_turned_of, F, k_turned_of, F.binds (ps := ["tree"]) fun _ _ _ _ _ _ us hl => match us, hl with | [_], _ => rfl⟩
  have F_turned : FunAt K mg "turned" (top 31) ["tree"] := by
    have F := fun_mk (st := top 31) l_turned c_turned k_turned
    exact ⟨_, _, mk a_turned, F, k_turned, F.binds (ps := ["tree"]) fun _ _ _ _ _ _ us hl => match us, hl with | [_], _ => rfl⟩
  have F_normal_of : FunAt K mg "normal_of" (top 34) ["tree"] := by
    have F := fun_mk (st := top 34) l_normal_of c_normal_of k_normal_of
    exact ⟨_, _, mk a_normal_of, F, k_normal_of, F.binds (ps := ["tree"]) fun _ _ _ _ _ _ us hl => match us, hl with | [_], _ => rfl⟩
  have F_normal : FunAt K mg "normal" (top 33) ["tree"] := by
    have F := fun_mk (st := top 33) l_normal c_normal k_normal
    exact ⟨_, _, mk a_normal, F, k_normal, F.binds (ps := ["tree"]) fun _ _ _ _ _ _ us hl => match us, hl with | [_], _ => rfl⟩
  have F_ended : FunAt K mg "ended" (top 26) ["tree", "state"] := by
    have F := fun_mk (st := top 26) l_ended c_ended k_ended
    exact ⟨_, _, mk a_ended, F, k_ended, F.binds (ps := ["tree", "state"]) fun _ _ _ _ _ _ us hl => match us, hl with | [_, _], _ => rfl⟩
  have F_moved : FunAt K mg "moved" (top 29) ["tree", "state", "name"] := by
    have F := fun_mk (st := top 29) l_moved c_moved k_moved
    exact ⟨_, _, mk a_moved, F, k_moved, F.binds (ps := ["tree", "state", "name"]) fun _ _ _ _ _ _ us hl => match us, hl with | [_, _, _], _ => rfl⟩
  have F_further : FunAt K mg "further" (top 28) ["tree", "states", "name"] := by
    have F := fun_mk (st := top 28) l_further c_further k_further
    exact ⟨_, _, mk a_further, F, k_further, F.binds (ps := ["tree", "states", "name"]) fun _ _ _ _ _ _ us hl => match us, hl with | [_, _, _], _ => rfl⟩
  have F_any_ended : FunAt K mg "any_ended" (top 27) ["tree", "states"] := by
    have F := fun_mk (st := top 27) l_any_ended c_any_ended k_any_ended
    exact ⟨_, _, mk a_any_ended, F, k_any_ended, F.binds (ps := ["tree", "states"]) fun _ _ _ _ _ _ us hl => match us, hl with | [_, _], _ => rfl⟩
  have F_judge_run : FunAt K mg "judge_run" (top 30) ["tree", "names"] := by
    have F := fun_mk (st := top 30) l_judge_run c_judge_run k_judge_run
    exact ⟨_, _, mk a_judge_run, F, k_judge_run, F.binds (ps := ["tree", "names"]) fun _ _ _ _ _ _ us hl => match us, hl with | [_, _], _ => rfl⟩
  have F_relation : FunAt K mg "relation" (top 38) ["tree", "one", "other"] := by
    have F := fun_mk (st := top 38) l_relation c_relation k_relation
    exact ⟨_, _, mk a_relation, F, k_relation, F.binds (ps := ["tree", "one", "other"]) fun _ _ _ _ _ _ us hl => match us, hl with | [_, _, _], _ => rfl⟩
  have F__law_called : FunAt K mg "_law_called" (top 44) ["call", "some"] := by
    have F := fun_mk (st := top 44) l__law_called c__law_called k__law_called
    exact ⟨_, _, mk a__law_called, F, k__law_called, F.binds (ps := ["call", "some"]) fun _ _ _ _ _ _ us hl => match us, hl with | [_, _], _ => rfl⟩
  have F__law_word : FunAt K mg "_law_word" (top 43) ["error"] := by
    have F := fun_mk (st := top 43) l__law_word c__law_word k__law_word
    exact ⟨_, _, mk a__law_word, F, k__law_word, F.binds (ps := ["error"]) fun _ _ _ _ _ _ us hl => match us, hl with | [_], _ => rfl⟩
  have F__law_heard : FunAt K mg "_law_heard" (top 45) ["call", "some"] := by
    have F := fun_mk (st := top 45) l__law_heard c__law_heard k__law_heard
    exact ⟨_, _, mk a__law_heard, F, k__law_heard, F.binds (ps := ["call", "some"]) fun _ _ _ _ _ _ us hl => match us, hl with | [_, _], _ => rfl⟩
  have F__law_every : FunAt K mg "_law_every" (top 47) ["tree"] := by
    have F := fun_mk (st := top 47) l__law_every c__law_every k__law_every
    exact ⟨_, _, mk a__law_every, F, k__law_every, F.binds (ps := ["tree"]) fun _ _ _ _ _ _ us hl => match us, hl with | [_], _ => rfl⟩
  have F__law_names : FunAt K mg "_law_names" (top 48) ["many"] := by
    have F := fun_mk (st := top 48) l__law_names c__law_names k__law_names
    exact ⟨_, _, mk a__law_names, F, k__law_names, F.binds (ps := ["many"]) fun _ _ _ _ _ _ us hl => match us, hl with | [_], _ => rfl⟩
  have F_law : FunAt K mg "law" (top 49) ["script"] := by
    have F := fun_mk (st := top 49) l_law c_law k_law
    exact ⟨_, _, mk a_law, F, k_law, F.binds (ps := ["script"]) fun _ _ _ _ _ _ us hl => match us, hl with | [_], _ => rfl⟩
  have T0 : Sup.Txt PP K mg C0 I0 := ⟨⟨nm0, qn0, N0, bs0, _, sn0, sub0, ab0, col0, dd0, x00, x10, x20, x30, x50, xL0, rfl⟩, sa0, nr0, iC0, tI0, kC0, eC0, tC0, ms0, mv0, si0, hst, mn b_super, by decide +kernel, ⟨_, _, _, _, _, _, _, _, _, _, _, _, _, _, _, _, _, _, _, _, _, _, _, _, lI0, cI0, rfl, ⟨_, _, _, _, _, _, lD0, fD0, by decide +kernel⟩, _, _, _, lK0⟩⟩
  have E0 : ExcC K C0 := ⟨ga0, gt0, eC0, hd0, hc0, e_n, e_t, hm0⟩
  have X0 : XfC K C0 := ⟨ga0, gt0, eC0, hd0⟩
  have T1 : Sup.Txt PP K mg C1 I1 := ⟨⟨nm1, qn1, N1, bs1, _, sn1, sub1, ab1, col1, dd1, x01, x11, x21, x31, x51, xL1, rfl⟩, sa1, nr1, iC1, tI1, kC1, eC1, tC1, ms1, mv1, si1, hst, mn b_super, by decide +kernel, ⟨_, _, _, _, _, _, _, _, _, _, _, _, _, _, _, _, _, _, _, _, _, _, _, _, lI1, cI1, rfl, ⟨_, _, _, _, _, _, lD1, fD1, by decide +kernel⟩, _, _, _, lK1⟩⟩
  have E1 : ExcC K C1 := ⟨ga1, gt1, eC1, hd1, hc1, e_n, e_t, hm1⟩
  have X1 : XfC K C1 := ⟨ga1, gt1, eC1, hd1⟩
  have T2 : Sup.Txt PP K mg C2 I2 := ⟨⟨nm2, qn2, N2, bs2, _, sn2, sub2, ab2, col2, dd2, x02, x12, x22, x32, x52, xL2, rfl⟩, sa2, nr2, iC2, tI2, kC2, eC2, tC2, ms2, mv2, si2, hst, mn b_super, by decide +kernel, ⟨_, _, _, _, _, _, _, _, _, _, _, _, _, _, _, _, _, _, _, _, _, _, _, _, lI2, cI2, rfl, ⟨_, _, _, _, _, _, lD2, fD2, by decide +kernel⟩, _, _, _, lK2⟩⟩
  have E2 : ExcC K C2 := ⟨ga2, gt2, eC2, hd2, hc2, e_n, e_t, hm2⟩
  have X2 : XfC K C2 := ⟨ga2, gt2, eC2, hd2⟩
  have T3 : Sup.Txt PP K mg C3 I3 := ⟨⟨nm3, qn3, N3, bs3, _, sn3, sub3, ab3, col3, dd3, x03, x13, x23, x33, x53, xL3, rfl⟩, sa3, nr3, iC3, tI3, kC3, eC3, tC3, ms3, mv3, si3, hst, mn b_super, by decide +kernel, ⟨_, _, _, _, _, _, _, _, _, _, _, _, _, _, _, _, _, _, _, _, _, _, _, _, lI3, cI3, rfl, ⟨_, _, _, _, _, _, lD3, fD3, by decide +kernel⟩, _, _, _, lK3⟩⟩
  have E3 : ExcC K C3 := ⟨ga3, gt3, eC3, hd3, hc3, e_n, e_t, hm3⟩
  have X3 : XfC K C3 := ⟨ga3, gt3, eC3, hd3⟩
  exact ⟨F__law_start,
    F__law_draw,
    F__law_pick,
    F__law_within,
    F_is_name,
    F_is_integer,
    F_is_between,
    F_is_tree,
    F_names_in,
    F_length_of,
    F_check_tree,
    F_lengths,
    F_choose,
    F_joined,
    F_ways_in,
    F_count_ways,
    F_needed_in,
    F_must_have,
    F_turned_of,
    F_turned,
    F_normal_of,
    F_normal,
    F_ended,
    F_moved,
    F_further,
    F_any_ended,
    F_judge_run,
    F_relation,
    F__law_called,
    F__law_word,
    F__law_heard,
    F__law_every,
    F__law_names,
    F_law,
    ⟨_, mk n_MAX_AGAIN⟩,
    ⟨_, mk n_MAX_DEPTH⟩,
    ⟨_, mk n_MAX_LEAVES⟩,
    ⟨_, mk n_MAX_NAME⟩,
    ⟨_, mk n_MAX_RUN⟩,
    ⟨_, mk n_GROUPS, fun H => .inr ⟨_, _, _, l_GROUPS, rfl, rfl, (by show 3 ≤ sizeLine; rw [sizeLine_eq]; omega), .cons ⟨_, rfl⟩ (.cons ⟨_, rfl⟩ (.cons ⟨_, rfl⟩ (.nil)))⟩⟩,
    mn b_abs,
    mn b_all,
    mn b_bool,
    mn b_enumerate,
    mn b_int,
    mn b_isinstance,
    mn b_len,
    mn b_list,
    mn b_max,
    mn b_min,
    mn b_range,
    mn b_sorted,
    mn b_str,
    mn b_sum,
    mn b_tuple,
    ⟨_, mk a_lengths, rfl⟩,
    ⟨_, mk a_count_ways, rfl⟩,
    ⟨_, mk a_must_have, rfl⟩,
    ⟨_, mk a_turned, rfl⟩,
    ⟨_, mk a_normal, rfl⟩,
    ⟨_, mk a_judge_run, rfl⟩,
    ⟨_, mk a_relation, rfl⟩,
    ⟨four_all rfl rfl rfl rfl, mk aC0, mk aC1, mk aC2, mk aC3, mn b_isinstance, mn b_ValueError, four_all E0 E1 E2 E3, four_all X0 X1 X2 X3, four_all nr0 nr1 nr2 nr3, fun i j hi hj => (four_all (φ := fun i => ∀ j, j < 4 → PySem.W.kitOne K (.ref (four C0 C1 C2 C3 i)) (.ref (four C0 C1 C2 C3 j)) = some (i == j)) (four_all is00 is01 is02 is03) (four_all is10 is11 is12 is13) (four_all is20 is21 is22 is23) (four_all is30 is31 is32 is33)) i hi j hj, four_all iv0 iv1 iv2 iv3⟩,
    mk aW,
    T0,
    T1,
    T2,
    T3,
    fun _ => rfl,
    four_all hx0 hx1 hx2 hx3,
    fun i j hi hj => (four_all (φ := fun i => ∀ j, j < 4 → PySem.W.exmOne K (.ref (four C0 C1 C2 C3 i)) (.ref (four C0 C1 C2 C3 j)) = some (i == j)) (four_all xm00 xm01 xm02 xm03) (four_all xm10 xm11 xm12 xm13) (four_all xm20 xm21 xm22 xm23) (four_all xm30 xm31 xm32 xm33)) i hi j hj⟩
theorem law_at {w : World} {K : PySem.W.Frag} {mg : Str → Option Value} {fa : Addr} (hl : ∀ ns : List Int, m_law [.scr ns] = .ok (.bl true)) (hfa : mg "law" = some (.ref fa)) (T : ∃ (g : Ce) (Ca Ci : Nat → Addr) (AW : Addr), TF K mg g Ca Ci AW) :
    ∃ fd : FuncData, (∀ (s : Shared) (u : Value), BindsTo s fd ⟨[u], []⟩ [("script", u)]) ∧ ∀ base : Heap, K.In base → base.Ns mainGlobals mg → FnOk PP w K mg base (L2.CX PP w) 40 fa fd ["script"] (spL K) := by
  obtain ⟨g, Ca, Ci, AW, T⟩ := T
  obtain ⟨f, fd, h1, h2, h3, h4⟩ := T.f_law
  rw [hfa] at h1
  cases h1
  refine ⟨fd, ?_, fun base _ _ => ?_⟩
  · obtain ⟨oc, od, kV, doc, pm, an, cdv, ct, osl, rfl, lk, hcd⟩ := h2.ex
    exact fun s u => .of_eq rfl
  · exact law_fn (fn_law (w := w) (base := base) T h2) hl
end LW
end Dn
open PySem PySem.W PyProof.Rows in
set_option maxRecDepth 100000 in
set_option maxHeartbeats 0 in
theorem PySem.Challenge.cw_doneorundone_k04_arguments_of_trees_holds : PySem.Challenge.rw_doneorundone_k04_arguments_of_trees.Holds := by
  w_on; o_law; k_head; (case hw => w_witness2)
  k_fill
  refine Dn.walkD (l := PySem.Challenge.rw_doneorundone_k04_arguments_of_trees) (k := 40) rfl rfl ⟨rfl, by decide, by decide⟩ (fun w h Y => PySem.W.kIn_of Y) ?F
  case F =>
    intro w mg fa h KX G hmg
    refine Dn.LW.law_at Dn.LW.law_true hmg ?_
    refine' Dn.LW.tf_mk KX G ?a__law_start ?l__law_start ?c__law_start ?k__law_start ?a__law_draw ?l__law_draw ?c__law_draw ?k__law_draw ?a__law_pick ?l__law_pick ?c__law_pick ?k__law_pick ?a__law_within ?l__law_within ?c__law_within ?k__law_within ?a_is_name ?l_is_name ?c_is_name ?k_is_name ?a_is_integer ?l_is_integer ?c_is_integer ?k_is_integer ?a_is_between ?l_is_between ?c_is_between ?k_is_between ?a_is_tree ?l_is_tree ?c_is_tree ?k_is_tree ?a_names_in ?l_names_in ?c_names_in ?k_names_in ?a_length_of ?l_length_of ?c_length_of ?k_length_of ?a_check_tree ?l_check_tree ?c_check_tree ?k_check_tree ?a_lengths ?l_lengths ?c_lengths ?k_lengths ?a_choose ?l_choose ?c_choose ?k_choose ?a_joined ?l_joined ?c_joined ?k_joined ?a_ways_in ?l_ways_in ?c_ways_in ?k_ways_in ?a_count_ways ?l_count_ways ?c_count_ways ?k_count_ways ?a_needed_in ?l_needed_in ?c_needed_in ?k_needed_in ?a_must_have ?l_must_have ?c_must_have ?k_must_have ?a_turned_of ?l_turned_of ?c_turned_of ?k_turned_of ?a_turned ?l_turned ?c_turned ?k_turned ?a_normal_of ?l_normal_of ?c_normal_of ?k_normal_of ?a_normal ?l_normal ?c_normal ?k_normal ?a_ended ?l_ended ?c_ended ?k_ended ?a_moved ?l_moved ?c_moved ?k_moved ?a_further ?l_further ?c_further ?k_further ?a_any_ended ?l_any_ended ?c_any_ended ?k_any_ended ?a_judge_run ?l_judge_run ?c_judge_run ?k_judge_run ?a_relation ?l_relation ?c_relation ?k_relation ?a__law_called ?l__law_called ?c__law_called ?k__law_called ?a__law_word ?l__law_word ?c__law_word ?k__law_word ?a__law_heard ?l__law_heard ?c__law_heard ?k__law_heard ?a__law_every ?l__law_every ?c__law_every ?k__law_every ?a__law_names ?l__law_names ?c__law_names ?k__law_names ?a_law ?l_law ?c_law ?k_law ?n_MAX_AGAIN ?n_MAX_DEPTH ?n_MAX_LEAVES ?n_MAX_NAME ?n_MAX_RUN ?n_GROUPS ?l_GROUPS ?b_ValueError ?b_abs ?b_all ?b_bool ?b_enumerate ?b_int ?b_isinstance ?b_len ?b_list ?b_max ?b_min ?b_range ?b_sorted ?b_str ?b_sum ?b_super ?b_tuple ?aW ?hst ?e_n ?e_t ?aC0 ?xL0 ?sa0 ?nr0 ?iC0 ?tI0 ?kC0 ?eC0 ?tC0 ?ms0 ?mv0 ?si0 ?lI0 ?cI0 ?lD0 ?fD0 ?lK0 ?ga0 ?gt0 ?hd0 ?hc0 ?hm0 ?iv0 ?hx0 ?aC1 ?xL1 ?sa1 ?nr1 ?iC1 ?tI1 ?kC1 ?eC1 ?tC1 ?ms1 ?mv1 ?si1 ?lI1 ?cI1 ?lD1 ?fD1 ?lK1 ?ga1 ?gt1 ?hd1 ?hc1 ?hm1 ?iv1 ?hx1 ?aC2 ?xL2 ?sa2 ?nr2 ?iC2 ?tI2 ?kC2 ?eC2 ?tC2 ?ms2 ?mv2 ?si2 ?lI2 ?cI2 ?lD2 ?fD2 ?lK2 ?ga2 ?gt2 ?hd2 ?hc2 ?hm2 ?iv2 ?hx2 ?aC3 ?xL3 ?sa3 ?nr3 ?iC3 ?tI3 ?kC3 ?eC3 ?tC3 ?ms3 ?mv3 ?si3 ?lI3 ?cI3 ?lD3 ?fD3 ?lK3 ?ga3 ?gt3 ?hd3 ?hc3 ?hm3 ?iv3 ?hx3 ?is00 ?xm00 ?is01 ?xm01 ?is02 ?xm02 ?is03 ?xm03 ?is10 ?xm10 ?is11 ?xm11 ?is12 ?xm12 ?is13 ?xm13 ?is20 ?xm20 ?is21 ?xm21 ?is22 ?xm22 ?is23 ?xm23 ?is30 ?xm30 ?is31 ?xm31 ?is32 ?xm32 ?is33 ?xm33
    (case a__law_start => first | k_is | rfl)
    (case l__law_start => first | k_is | rfl)
    (case c__law_start => first | k_is | rfl)
    (case k__law_start => first | k_is | rfl)
    (case a__law_draw => first | k_is | rfl)
    (case l__law_draw => first | k_is | rfl)
    (case c__law_draw => first | k_is | rfl)
    (case k__law_draw => first | k_is | rfl)
    (case a__law_pick => first | k_is | rfl)
    (case l__law_pick => first | k_is | rfl)
    (case c__law_pick => first | k_is | rfl)
    (case k__law_pick => first | k_is | rfl)
    (case a__law_within => first | k_is | rfl)
    (case l__law_within => first | k_is | rfl)
    (case c__law_within => first | k_is | rfl)
    (case k__law_within => first | k_is | rfl)
    (case a_is_name => first | k_is | rfl)
    (case l_is_name => first | k_is | rfl)
    (case c_is_name => first | k_is | rfl)
    (case k_is_name => first | k_is | rfl)
    (case a_is_integer => first | k_is | rfl)
    (case l_is_integer => first | k_is | rfl)
    (case c_is_integer => first | k_is | rfl)
    (case k_is_integer => first | k_is | rfl)
    (case a_is_between => first | k_is | rfl)
    (case l_is_between => first | k_is | rfl)
    (case c_is_between => first | k_is | rfl)
    (case k_is_between => first | k_is | rfl)
    (case a_is_tree => first | k_is | rfl)
    (case l_is_tree => first | k_is | rfl)
    (case c_is_tree => first | k_is | rfl)
    (case k_is_tree => first | k_is | rfl)
    (case a_names_in => first | k_is | rfl)
    (case l_names_in => first | k_is | rfl)
    (case c_names_in => first | k_is | rfl)
    (case k_names_in => first | k_is | rfl)
    (case a_length_of => first | k_is | rfl)
    (case l_length_of => first | k_is | rfl)
    (case c_length_of => first | k_is | rfl)
    (case k_length_of => first | k_is | rfl)
    (case a_check_tree => first | k_is | rfl)
    (case l_check_tree => first | k_is | rfl)
    (case c_check_tree => first | k_is | rfl)
    (case k_check_tree => first | k_is | rfl)
    (case a_lengths => first | k_is | rfl)
    (case l_lengths => first | k_is | rfl)
    (case c_lengths => first | k_is | rfl)
    (case k_lengths => first | k_is | rfl)
    (case a_choose => first | k_is | rfl)
    (case l_choose => first | k_is | rfl)
    (case c_choose => first | k_is | rfl)
    (case k_choose => first | k_is | rfl)
    (case a_joined => first | k_is | rfl)
    (case l_joined => first | k_is | rfl)
    (case c_joined => first | k_is | rfl)
    (case k_joined => first | k_is | rfl)
    (case a_ways_in => first | k_is | rfl)
    (case l_ways_in => first | k_is | rfl)
    (case c_ways_in => first | k_is | rfl)
    (case k_ways_in => first | k_is | rfl)
    (case a_count_ways => first | k_is | rfl)
    (case l_count_ways => first | k_is | rfl)
    (case c_count_ways => first | k_is | rfl)
    (case k_count_ways => first | k_is | rfl)
    (case a_needed_in => first | k_is | rfl)
    (case l_needed_in => first | k_is | rfl)
    (case c_needed_in => first | k_is | rfl)
    (case k_needed_in => first | k_is | rfl)
    (case a_must_have => first | k_is | rfl)
    (case l_must_have => first | k_is | rfl)
    (case c_must_have => first | k_is | rfl)
    (case k_must_have => first | k_is | rfl)
    (case a_turned_of => first | k_is | rfl)
    (case l_turned_of => first | k_is | rfl)
    (case c_turned_of => first | k_is | rfl)
    (case k_turned_of => first | k_is | rfl)
    (case a_turned => first | k_is | rfl)
    (case l_turned => first | k_is | rfl)
    (case c_turned => first | k_is | rfl)
    (case k_turned => first | k_is | rfl)
    (case a_normal_of => first | k_is | rfl)
    (case l_normal_of => first | k_is | rfl)
    (case c_normal_of => first | k_is | rfl)
    (case k_normal_of => first | k_is | rfl)
    (case a_normal => first | k_is | rfl)
    (case l_normal => first | k_is | rfl)
    (case c_normal => first | k_is | rfl)
    (case k_normal => first | k_is | rfl)
    (case a_ended => first | k_is | rfl)
    (case l_ended => first | k_is | rfl)
    (case c_ended => first | k_is | rfl)
    (case k_ended => first | k_is | rfl)
    (case a_moved => first | k_is | rfl)
    (case l_moved => first | k_is | rfl)
    (case c_moved => first | k_is | rfl)
    (case k_moved => first | k_is | rfl)
    (case a_further => first | k_is | rfl)
    (case l_further => first | k_is | rfl)
    (case c_further => first | k_is | rfl)
    (case k_further => first | k_is | rfl)
    (case a_any_ended => first | k_is | rfl)
    (case l_any_ended => first | k_is | rfl)
    (case c_any_ended => first | k_is | rfl)
    (case k_any_ended => first | k_is | rfl)
    (case a_judge_run => first | k_is | rfl)
    (case l_judge_run => first | k_is | rfl)
    (case c_judge_run => first | k_is | rfl)
    (case k_judge_run => first | k_is | rfl)
    (case a_relation => first | k_is | rfl)
    (case l_relation => first | k_is | rfl)
    (case c_relation => first | k_is | rfl)
    (case k_relation => first | k_is | rfl)
    (case a__law_called => first | k_is | rfl)
    (case l__law_called => first | k_is | rfl)
    (case c__law_called => first | k_is | rfl)
    (case k__law_called => first | k_is | rfl)
    (case a__law_word => first | k_is | rfl)
    (case l__law_word => first | k_is | rfl)
    (case c__law_word => first | k_is | rfl)
    (case k__law_word => first | k_is | rfl)
    (case a__law_heard => first | k_is | rfl)
    (case l__law_heard => first | k_is | rfl)
    (case c__law_heard => first | k_is | rfl)
    (case k__law_heard => first | k_is | rfl)
    (case a__law_every => first | k_is | rfl)
    (case l__law_every => first | k_is | rfl)
    (case c__law_every => first | k_is | rfl)
    (case k__law_every => first | k_is | rfl)
    (case a__law_names => first | k_is | rfl)
    (case l__law_names => first | k_is | rfl)
    (case c__law_names => first | k_is | rfl)
    (case k__law_names => first | k_is | rfl)
    (case a_law => first | k_is | rfl)
    (case l_law => first | k_is | rfl)
    (case c_law => first | k_is | rfl)
    (case k_law => first | k_is | rfl)
    (case n_MAX_AGAIN => first | k_is | rfl)
    (case n_MAX_DEPTH => first | k_is | rfl)
    (case n_MAX_LEAVES => first | k_is | rfl)
    (case n_MAX_NAME => first | k_is | rfl)
    (case n_MAX_RUN => first | k_is | rfl)
    (case n_GROUPS => first | k_is | rfl)
    (case l_GROUPS => first | k_is | rfl)
    (case b_ValueError => first | k_is | rfl)
    (case b_abs => first | k_is | rfl)
    (case b_all => first | k_is | rfl)
    (case b_bool => first | k_is | rfl)
    (case b_enumerate => first | k_is | rfl)
    (case b_int => first | k_is | rfl)
    (case b_isinstance => first | k_is | rfl)
    (case b_len => first | k_is | rfl)
    (case b_list => first | k_is | rfl)
    (case b_max => first | k_is | rfl)
    (case b_min => first | k_is | rfl)
    (case b_range => first | k_is | rfl)
    (case b_sorted => first | k_is | rfl)
    (case b_str => first | k_is | rfl)
    (case b_sum => first | k_is | rfl)
    (case b_super => first | k_is | rfl)
    (case b_tuple => first | k_is | rfl)
    (case aW => first | k_is | rfl)
    (case hst => first | k_is | rfl)
    (case e_n => first | k_is | rfl)
    (case e_t => first | k_is | rfl)
    (case aC0 => first | k_is | rfl)
    (case xL0 => first | k_is | rfl)
    (case sa0 => first | k_is | rfl)
    (case nr0 => first | k_is | rfl)
    (case iC0 => first | k_is | rfl)
    (case tI0 => first | k_is | rfl)
    (case kC0 => first | k_is | rfl)
    (case eC0 => first | k_is | rfl)
    (case tC0 => first | k_is | rfl)
    (case ms0 => first | k_is | rfl)
    (case mv0 => first | k_is | rfl)
    (case si0 => first | k_is | rfl)
    (case lI0 => first | k_is | rfl)
    (case cI0 => first | k_is | rfl)
    (case lD0 => first | k_is | rfl)
    (case fD0 => first | k_is | rfl)
    (case lK0 => first | k_is | rfl)
    (case ga0 => first | k_is | rfl)
    (case gt0 => first | k_is | rfl)
    (case hd0 => first | k_is | rfl)
    (case hc0 => first | k_is | rfl)
    (case hm0 => first | k_is | rfl)
    (case iv0 => first | k_is | rfl)
    (case hx0 => first | k_is | rfl)
    (case aC1 => first | k_is | rfl)
    (case xL1 => first | k_is | rfl)
    (case sa1 => first | k_is | rfl)
    (case nr1 => first | k_is | rfl)
    (case iC1 => first | k_is | rfl)
    (case tI1 => first | k_is | rfl)
    (case kC1 => first | k_is | rfl)
    (case eC1 => first | k_is | rfl)
    (case tC1 => first | k_is | rfl)
    (case ms1 => first | k_is | rfl)
    (case mv1 => first | k_is | rfl)
    (case si1 => first | k_is | rfl)
    (case lI1 => first | k_is | rfl)
    (case cI1 => first | k_is | rfl)
    (case lD1 => first | k_is | rfl)
    (case fD1 => first | k_is | rfl)
    (case lK1 => first | k_is | rfl)
    (case ga1 => first | k_is | rfl)
    (case gt1 => first | k_is | rfl)
    (case hd1 => first | k_is | rfl)
    (case hc1 => first | k_is | rfl)
    (case hm1 => first | k_is | rfl)
    (case iv1 => first | k_is | rfl)
    (case hx1 => first | k_is | rfl)
    (case aC2 => first | k_is | rfl)
    (case xL2 => first | k_is | rfl)
    (case sa2 => first | k_is | rfl)
    (case nr2 => first | k_is | rfl)
    (case iC2 => first | k_is | rfl)
    (case tI2 => first | k_is | rfl)
    (case kC2 => first | k_is | rfl)
    (case eC2 => first | k_is | rfl)
    (case tC2 => first | k_is | rfl)
    (case ms2 => first | k_is | rfl)
    (case mv2 => first | k_is | rfl)
    (case si2 => first | k_is | rfl)
    (case lI2 => first | k_is | rfl)
    (case cI2 => first | k_is | rfl)
    (case lD2 => first | k_is | rfl)
    (case fD2 => first | k_is | rfl)
    (case lK2 => first | k_is | rfl)
    (case ga2 => first | k_is | rfl)
    (case gt2 => first | k_is | rfl)
    (case hd2 => first | k_is | rfl)
    (case hc2 => first | k_is | rfl)
    (case hm2 => first | k_is | rfl)
    (case iv2 => first | k_is | rfl)
    (case hx2 => first | k_is | rfl)
    (case aC3 => first | k_is | rfl)
    (case xL3 => first | k_is | rfl)
    (case sa3 => first | k_is | rfl)
    (case nr3 => first | k_is | rfl)
    (case iC3 => first | k_is | rfl)
    (case tI3 => first | k_is | rfl)
    (case kC3 => first | k_is | rfl)
    (case eC3 => first | k_is | rfl)
    (case tC3 => first | k_is | rfl)
    (case ms3 => first | k_is | rfl)
    (case mv3 => first | k_is | rfl)
    (case si3 => first | k_is | rfl)
    (case lI3 => first | k_is | rfl)
    (case cI3 => first | k_is | rfl)
    (case lD3 => first | k_is | rfl)
    (case fD3 => first | k_is | rfl)
    (case lK3 => first | k_is | rfl)
    (case ga3 => first | k_is | rfl)
    (case gt3 => first | k_is | rfl)
    (case hd3 => first | k_is | rfl)
    (case hc3 => first | k_is | rfl)
    (case hm3 => first | k_is | rfl)
    (case iv3 => first | k_is | rfl)
    (case hx3 => first | k_is | rfl)
    (case is00 => first | k_is | rfl)
    (case xm00 => first | k_is | rfl)
    (case is01 => first | k_is | rfl)
    (case xm01 => first | k_is | rfl)
    (case is02 => first | k_is | rfl)
    (case xm02 => first | k_is | rfl)
    (case is03 => first | k_is | rfl)
    (case xm03 => first | k_is | rfl)
    (case is10 => first | k_is | rfl)
    (case xm10 => first | k_is | rfl)
    (case is11 => first | k_is | rfl)
    (case xm11 => first | k_is | rfl)
    (case is12 => first | k_is | rfl)
    (case xm12 => first | k_is | rfl)
    (case is13 => first | k_is | rfl)
    (case xm13 => first | k_is | rfl)
    (case is20 => first | k_is | rfl)
    (case xm20 => first | k_is | rfl)
    (case is21 => first | k_is | rfl)
    (case xm21 => first | k_is | rfl)
    (case is22 => first | k_is | rfl)
    (case xm22 => first | k_is | rfl)
    (case is23 => first | k_is | rfl)
    (case xm23 => first | k_is | rfl)
    (case is30 => first | k_is | rfl)
    (case xm30 => first | k_is | rfl)
    (case is31 => first | k_is | rfl)
    (case xm31 => first | k_is | rfl)
    (case is32 => first | k_is | rfl)
    (case xm32 => first | k_is | rfl)
    (case is33 => first | k_is | rfl)
    (case xm33 => first | k_is | rfl)
