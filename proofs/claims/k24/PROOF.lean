import PyProof.Rows.All
import Wide.All
import OpenK.AllK
import Wide.FinOn
import HandS.ForMost
import HandS.ForExc
import HandS.IsInst
import HandS.TupAny
import HandS.TupMul
import HandS.Deep
import HandS.Wide
import HandS.WideBits
import HandS.CallSlots
import HandS.CallLocal
import HandS.ExcCtx
import HandS.SuiteRaise
import HandS.Walk
import HandS.Iter
import HandS.Zip
import HandS.Lambda
import HandS.SetFor
import HandS.Strs
import HandS.SortInts
import KE.GoesEnum
import HandS.Style
import HandS.ExcSuper
import HandS.ExcInit
import HandS.ExcField
import KE.KSuper
import HandS.RaiseFrom
import HandS.HotCalls
import HandS.ExcIs
import HandS.ExcInitHot
import KE.KExcIs
import KE.GoesNew
import KE.GoesMore
import HandS.Conv
import HandS.ListItems
import KE.KDictZip
import PyProof.EnumMake
import HandS.Dict
import PySem.Challenge.RW_doneorundone_k24_papers_and_arguments_of
/-! Dn1 -/
set_option Elab.async false
set_option linter.all false
set_option maxRecDepth 100000
set_option maxHeartbeats 1000000
/-! Dn1: data, the monad, how data lie in the heap, the states. -/
namespace Dn
open PySem PySem.Spec L2
open PyProof.Rows hiding St

/-- plain data -/
inductive D where
  | non | bl (b : Bool) | int (i : Int) | str (x : Str)
  | tup (xs : List D) | lst (xs : List D)
  | dct (ks vs : List D)
  | fn (i : Nat)
  | scr (ns : List Int)

inductive Exn where
  | raise (k : Nat) (d : D)
  | stuck

abbrev M := Except Exn
abbrev stuck {α : Type} : M α := .error .stuck

/-- what is fixed in a law: the written part, where the defs stand that are values, the error classes -/
structure Cc where
  K : PySem.W.Frag
  fa : Nat → Option Addr
  ec : Nat → Option Addr
  en : Nat → Str

def dk : Key → D
  | .inl i => .int i
  | .inr x => .str x

mutual
def IsD (c : Cc) (H : Hp) : D → V → Prop
  | .non, v => v = .non
  | .bl b, v => v = .bl b
  | .int i, v => v = .int i
  | .str x, v => v = .str x
  | .tup xs, v => ∃ a vs, v = .ref a ∧ SqT c.K H a vs ∧ IsDs c H xs vs
  | .lst xs, v => ∃ a vs, v = .ref a ∧ H a = some (.lst vs) ∧ IsDs c H xs vs
  | .scr ns, v => ∃ a, v = .ref a ∧ SqL c.K H a (ns.map V.int)
  | .dct ks ws, v => ∃ a, v = .ref a ∧ ∃ kvs : List (Key × V), Rd H a (.dK kvs) ∧ ks = kvs.map (fun p => dk p.1) ∧ IsDs c H ws (kvs.map (·.2))
  | .fn i, v => ∃ a, c.fa i = some a ∧ v = .ref a
def IsDs (c : Cc) (H : Hp) : List D → List V → Prop
  | [], vs => vs = []
  | d :: ds, vs => ∃ v r, vs = v :: r ∧ IsD c H d v ∧ IsDs c H ds r
end

theorem Rd.same {H H' : Hp} {a : Addr} {u : HO} (e : Same H H') (r : Rd H a u) : Rd H' a u := by
  rcases r with r | ⟨o, r⟩
  · exact .inl (e _ _ r)
  · exact .inr ⟨o, e _ _ r⟩
theorem SqT.same {K : PySem.W.Frag} {H H' : Hp} {a : Addr} {xs : List V} (e : Same H H') (r : SqT K H a xs) : SqT K H' a xs := by
  rcases r with r | r
  · exact .inl (Rd.same e r)
  · exact .inr r

mutual
theorem IsD.same {c : Cc} {H H' : Hp} (e : Same H H') : ∀ (d : D) (v : V), IsD c H d v → IsD c H' d v
  | .non, v, h => by unfold IsD at h ⊢; exact h
  | .bl _, v, h => by unfold IsD at h ⊢; exact h
  | .int _, v, h => by unfold IsD at h ⊢; exact h
  | .str _, v, h => by unfold IsD at h ⊢; exact h
  | .tup xs, v, h => by
    unfold IsD at h ⊢
    obtain ⟨a, vs, e1, e2, e3⟩ := h
    exact ⟨a, vs, e1, SqT.same e e2, IsDs.same e xs vs e3⟩
  | .lst xs, v, h => by
    unfold IsD at h ⊢
    obtain ⟨a, vs, e1, e2, e3⟩ := h
    exact ⟨a, vs, e1, e _ _ e2, IsDs.same e xs vs e3⟩
  | .scr ns, v, h => by
    unfold IsD at h ⊢
    obtain ⟨a, e1, e2⟩ := h
    exact ⟨a, e1, e.seq e2⟩
  | .dct ks ws, v, h => by
    unfold IsD at h ⊢
    obtain ⟨a, e1, kvs, h1, h2, h3⟩ := h
    exact ⟨a, e1, kvs, Rd.same e h1, h2, IsDs.same e ws _ h3⟩
  | .fn _, v, h => by unfold IsD at h ⊢; exact h
theorem IsDs.same {c : Cc} {H H' : Hp} (e : Same H H') : ∀ (ds : List D) (vs : List V), IsDs c H ds vs → IsDs c H' ds vs
  | [], vs, h => by unfold IsDs at h ⊢; exact h
  | d :: ds, vs, h => by
    unfold IsDs at h ⊢
    obtain ⟨v, r, e1, h1, h2⟩ := h
    exact ⟨v, r, e1, IsD.same e d v h1, IsDs.same e ds r h2⟩
end

section
variable {c : Cc} {H : Hp}
theorem IsDs.len : ∀ {ds : List D} {vs : List V}, IsDs c H ds vs → ds.length = vs.length
  | [], vs, h => by unfold IsDs at h; subst h; rfl
  | d :: ds, vs, h => by
    unfold IsDs at h
    obtain ⟨v, r, rfl, h1, h2⟩ := h
    simp [IsDs.len h2]
theorem IsDs.nil : IsDs c H [] [] := by unfold IsDs; rfl
theorem IsDs.cons {d : D} {v : V} {ds : List D} {vs : List V} (h : IsD c H d v) (t : IsDs c H ds vs) : IsDs c H (d :: ds) (v :: vs) := by
  unfold IsDs; exact ⟨v, vs, rfl, h, t⟩
theorem IsDs.get : ∀ {ds : List D} {vs : List V} {i : Nat} {v : V}, IsDs c H ds vs → vs[i]? = some v → ∃ d, ds[i]? = some d ∧ IsD c H d v
  | [], vs, i, v, h, e => by unfold IsDs at h; subst h; simp at e
  | d :: ds, vs, i, v, h, e => by
    unfold IsDs at h
    obtain ⟨w, r, rfl, h1, h2⟩ := h
    cases i with
    | zero => simp at e; subst e; exact ⟨d, rfl, h1⟩
    | succ i => obtain ⟨d', e1, e2⟩ := IsDs.get (i := i) h2 (by simpa using e); exact ⟨d', by simpa using e1, e2⟩
theorem IsDs.getD : ∀ {ds : List D} {vs : List V} {i : Nat} {d : D}, IsDs c H ds vs → ds[i]? = some d → ∃ v, vs[i]? = some v ∧ IsD c H d v
  | [], vs, i, v, h, e => by simp at e
  | d :: ds, vs, i, d', h, e => by
    unfold IsDs at h
    obtain ⟨w, r, rfl, h1, h2⟩ := h
    cases i with
    | zero => simp at e; subst e; exact ⟨w, rfl, h1⟩
    | succ i => obtain ⟨v', e1, e2⟩ := IsDs.getD (i := i) h2 (by simpa using e); exact ⟨v', by simpa using e1, e2⟩
theorem IsDs.append : ∀ {ds es : List D} {vs ws : List V}, IsDs c H ds vs → IsDs c H es ws → IsDs c H (ds ++ es) (vs ++ ws)
  | [], es, vs, ws, h, h' => by unfold IsDs at h; subst h; exact h'
  | d :: ds, es, vs, ws, h, h' => by
    unfold IsDs at h
    obtain ⟨w, r, rfl, h1, h2⟩ := h
    exact IsDs.cons h1 (IsDs.append h2 h')
theorem IsDs.drop : ∀ {ds : List D} {vs : List V} (n : Nat), IsDs c H ds vs → IsDs c H (ds.drop n) (vs.drop n)
  | ds, vs, 0, h => h
  | [], vs, n + 1, h => by unfold IsDs at h; subst h; exact IsDs.nil
  | d :: ds, vs, n + 1, h => by
    unfold IsDs at h
    obtain ⟨w, r, rfl, h1, h2⟩ := h
    exact IsDs.drop n h2
theorem IsDs.take : ∀ {ds : List D} {vs : List V} (n : Nat), IsDs c H ds vs → IsDs c H (ds.take n) (vs.take n)
  | ds, vs, 0, h => IsDs.nil
  | [], vs, n + 1, h => by unfold IsDs at h; subst h; exact IsDs.nil
  | d :: ds, vs, n + 1, h => by
    unfold IsDs at h
    obtain ⟨w, r, rfl, h1, h2⟩ := h
    exact IsDs.cons h1 (IsDs.take n h2)
theorem IsDs.set : ∀ {ds : List D} {vs : List V} {d : D} {v : V} (n : Nat), IsDs c H ds vs → IsD c H d v → IsDs c H (ds.set n d) (vs.set n v)
  | [], vs, d, v, n, h, _ => by unfold IsDs at h; subst h; exact IsDs.nil
  | d :: ds, vs, d', v, n, h, h' => by
    unfold IsDs at h
    obtain ⟨w, r, rfl, h1, h2⟩ := h
    cases n with
    | zero => exact IsDs.cons h' h2
    | succ n => exact IsDs.cons h1 (IsDs.set n h2 h')
theorem IsDs.reverse : ∀ {ds : List D} {vs : List V}, IsDs c H ds vs → IsDs c H ds.reverse vs.reverse
  | [], vs, h => by unfold IsDs at h; subst h; exact IsDs.nil
  | d :: ds, vs, h => by
    unfold IsDs at h
    obtain ⟨w, r, rfl, h1, h2⟩ := h
    rw [List.reverse_cons, List.reverse_cons]
    exact IsDs.append (IsDs.reverse h2) (IsDs.cons h1 IsDs.nil)
theorem IsDs.dropLast {ds : List D} {vs : List V} (h : IsDs c H ds vs) : IsDs c H ds.dropLast vs.dropLast := by
  rw [List.dropLast_eq_take, List.dropLast_eq_take, h.len]
  exact h.take _
theorem IsDs.eraseIdx : ∀ {ds : List D} {vs : List V} (n : Nat), IsDs c H ds vs → IsDs c H (ds.eraseIdx n) (vs.eraseIdx n)
  | [], vs, n, h => by unfold IsDs at h; subst h; exact IsDs.nil
  | d :: ds, vs, n, h => by
    unfold IsDs at h
    obtain ⟨w, r, rfl, h1, h2⟩ := h
    cases n with
    | zero => exact h2
    | succ n => exact IsDs.cons h1 (IsDs.eraseIdx n h2)
end

/-! ### hiding -/
open Classical in
noncomputable def hide (H : Hp) (P : Addr → Prop) : Hp := fun a => if P a then none else H a
theorem hide_of {H : Hp} {P : Addr → Prop} {a : Addr} (h : ¬ P a) : hide H P a = H a := by unfold hide; rw [if_neg h]
theorem hide_yes {H : Hp} {P : Addr → Prop} {a : Addr} (h : P a) : hide H P a = none := by unfold hide; rw [if_pos h]
theorem hide_some {H : Hp} {P : Addr → Prop} {a : Addr} {o : HO} (h : hide H P a = some o) : ¬ P a ∧ H a = some o := by
  by_cases p : P a
  · rw [hide_yes p] at h; cases h
  · rw [hide_of p] at h; exact ⟨p, h⟩
theorem hide_same {H H' : Hp} {P : Addr → Prop} (e : Same H H') : Same (hide H P) (hide H' P) := fun b o h => by
  obtain ⟨h1, h2⟩ := hide_some h
  rw [hide_of h1]; exact e _ _ h2
theorem hide_sub {H : Hp} {P P' : Addr → Prop} (e : ∀ a, P' a → P a) : Same (hide H P) (hide H P') := fun b o h => by
  obtain ⟨h1, h2⟩ := hide_some h
  rw [hide_of fun p => h1 (e _ p)]; exact h2
theorem hide_full {H : Hp} {P : Addr → Prop} : Same (hide H P) H := fun b o h => (hide_some h).2
theorem same_new {H : Hp} {p : Addr} {o : HO} (n : H p = none) : Same H (upd H p o) := fun b u h => by
  rw [upd_ne (ne_of_none h n)]; exact h

/-! ### the states -/
inductive Sl where
  | un | va (d : D) | ow (d : D)
abbrev En := List Sl

/-- an owned object's content -/
def ObjRep (c : Cc) (G : Hp) : D → HO → Prop
  | .lst ds, o => ∃ vs, o = .lst vs ∧ IsDs c G ds vs
  | .dct ks ws, o => ∃ kvs : List (Key × V), o = .dK kvs ∧ ks = kvs.map (fun p => dk p.1) ∧ IsDs c G ws (kvs.map (·.2))
  | _, _ => False
theorem ObjRep.same {c : Cc} {G G' : Hp} (e : Same G G') {d : D} {o : HO} (h : ObjRep c G d o) : ObjRep c G' d o := by
  cases d with
  | lst ds => obtain ⟨vs, e1, h⟩ := h; exact ⟨vs, e1, h.same e⟩
  | dct ks ws =>
    obtain ⟨kvs, e1, e2, h⟩ := h
    exact ⟨kvs, e1, e2, h.same e⟩
  | _ => exact h

def Owns (env : En) (σ : St) (a : Addr) : Prop := ∃ (i : Nat) (d : D), env[i]? = some (Sl.ow d) ∧ σ[i]? = some (some (V.ref a))
abbrev Hid (xs : Addr → Prop) (env : En) (σ : St) : Addr → Prop := fun a => Owns env σ a ∨ xs a

structure StOk (c : Cc) (xs : Addr → Prop) (env : En) (σ : St) (H : Hp) : Prop where
  len : env.length = σ.length
  xb : ∀ a, xs a → H a ≠ none ∧ ¬ Owns env σ a
  va : ∀ (i : Nat) (d : D), env[i]? = some (Sl.va d) → ∃ v, σ[i]? = some (some v) ∧ IsD c (hide H (Hid xs env σ)) d v
  ow : ∀ (i : Nat) (d : D), env[i]? = some (Sl.ow d) → ∃ a o, σ[i]? = some (some (V.ref a)) ∧ H a = some o ∧ ObjRep c (hide H (Hid xs env σ)) d o
  inj : ∀ (i j : Nat) (d e : D) (a : Addr), env[i]? = some (Sl.ow d) → env[j]? = some (Sl.ow e) → σ[i]? = some (some (V.ref a)) → σ[j]? = some (some (V.ref a)) → i = j

section
variable {c : Cc} {xs : Addr → Prop} {env : En} {σ : St} {H H' : Hp}
/-- nothing changed -/
theorem StOk.same (S : StOk c xs env σ H) (e : Same H H') : StOk c xs env σ H' where
  len := S.len
  xb := fun a h => by
    refine ⟨fun n => ?_, (S.xb a h).2⟩
    cases q : H a with
    | none => exact (S.xb a h).1 q
    | some o => rw [e _ _ q] at n; cases n
  va := fun i d h => let ⟨v, h1, h2⟩ := S.va i d h; ⟨v, h1, h2.same (hide_same e)⟩
  ow := fun i d h => let ⟨a, o, h1, h2, h3⟩ := S.ow i d h; ⟨a, o, h1, e _ _ h2, h3.same (hide_same e)⟩
  inj := S.inj
/-- hidden addresses are taken -/
theorem StOk.hid (S : StOk c xs env σ H) {a : Addr} (h : Hid xs env σ a) : H a ≠ none := by
  rcases h with ⟨i, d, h1, h2⟩ | h
  · obtain ⟨b, o, h3, h4, _⟩ := S.ow i d h1
    rw [h2] at h3; cases h3
    rw [h4]; exact fun z => nomatch z
  · exact (S.xb a h).1
theorem StOk.newHid (S : StOk c xs env σ H) {p : Addr} (n : H p = none) : ¬ Hid xs env σ p := fun h => S.hid h n
end
end Dn

/-! Dn2 -/
set_option Elab.async false
set_option linter.all false
set_option maxRecDepth 100000
set_option maxHeartbeats 1000000
/-! Dn2: readings by data: expressions, tests, arguments, statements. -/
namespace Dn
open PySem PySem.Spec L2
open PyProof.Rows hiding St

/-- as Cc, without the written part -/
structure Ce where
  fa : Nat → Option Addr
  ec : Nat → Option Addr
  en : Nat → Str
abbrev cc (X : Cx) (g : Ce) : Cc := ⟨X.K, g.fa, g.ec, g.en⟩

def bnd {α β : Type} (x : M α) (f : α → M β) : M β :=
  match x with
  | .ok a => f a
  | .error e => .error e
@[simp] theorem bnd_ok {α β : Type} (a : α) (f : α → M β) : bnd (.ok a) f = f a := rfl
@[simp] theorem bnd_err {α β : Type} (e : Exn) (f : α → M β) : bnd (.error e : M α) f = .error e := rfl

/-! ### how a value is held: clean, or by its shell -/
def RepS (c : Cc) (P : Addr → Prop) (H : Hp) : D → V → Prop
  | .lst ds, v => ∃ a vs, v = .ref a ∧ H a = some (.lst vs) ∧ IsDs c (hide H P) ds vs
  | .dct ks ws, v => ∃ a, v = .ref a ∧ ∃ kvs : List (Key × V), Rd H a (.dK kvs) ∧ ks = kvs.map (fun p => dk p.1) ∧ IsDs c (hide H P) ws (kvs.map (·.2))
  | d, v => IsD c (hide H P) d v
def Rep (c : Cc) (sh : Bool) (P : Addr → Prop) (H : Hp) (d : D) (v : V) : Prop := if sh = true then RepS c P H d v else IsD c (hide H P) d v
theorem RepS.of {c : Cc} {P : Addr → Prop} {H : Hp} {d : D} {v : V} (h : IsD c (hide H P) d v) : RepS c P H d v := by
  cases d with
  | lst ds => unfold IsD at h; obtain ⟨a, vs, e1, e2, e3⟩ := h; exact ⟨a, vs, e1, hide_full _ _ e2, e3⟩
  | dct ks ws =>
    unfold IsD at h
    obtain ⟨a, e1, kvs, h1, h2⟩ := h
    exact ⟨a, e1, kvs, Rd.same hide_full h1, h2⟩
  | _ => exact h
theorem RepS.same {c : Cc} {P : Addr → Prop} {H H' : Hp} {d : D} {v : V} (e : Same H H') (h : RepS c P H d v) : RepS c P H' d v := by
  cases d with
  | lst ds => obtain ⟨a, vs, e1, e2, e3⟩ := h; exact ⟨a, vs, e1, e _ _ e2, e3.same (hide_same e)⟩
  | dct ks ws =>
    obtain ⟨a, e1, kvs, h1, h2, h3⟩ := h
    exact ⟨a, e1, kvs, Rd.same e h1, h2, h3.same (hide_same e)⟩
  | _ => exact IsD.same (hide_same e) _ _ h
theorem Rep.shell {c : Cc} {sh : Bool} {P : Addr → Prop} {H : Hp} {d : D} {v : V} (h : Rep c sh P H d v) : RepS c P H d v := by
  unfold Rep at h
  split at h
  · exact h
  · exact RepS.of h
theorem Rep.clean {c : Cc} {P : Addr → Prop} {H : Hp} {d : D} {v : V} (h : Rep c false P H d v) : IsD c (hide H P) d v := h
theorem Rep.of {c : Cc} {sh : Bool} {P : Addr → Prop} {H : Hp} {d : D} {v : V} (h : IsD c (hide H P) d v) : Rep c sh P H d v := by
  unfold Rep
  split
  · exact RepS.of h
  · exact h

def isOw (env : En) (j : Nat) : Bool := match env[j]? with
  | some (.ow _) => true
  | _ => false
theorem isOw_of {env : En} {j : Nat} {d : D} (h : env[j]? = some (Sl.ow d)) : isOw env j = true := by unfold isOw; rw [h]
theorem of_isOw {env : En} {j : Nat} (h : isOw env j = true) : ∃ d, env[j]? = some (Sl.ow d) := by
  unfold isOw at h
  split at h
  · rename_i d q; exact ⟨d, q⟩
  · cases h
theorem owns_shape {env env' : En} {σ : St} (h : ∀ j, isOw env' j = isOw env j) : Owns env' σ = Owns env σ := by
  funext a
  apply propext
  constructor
  · rintro ⟨i, d, h1, h2⟩
    obtain ⟨e, he⟩ := of_isOw ((h i).symm.trans (isOw_of h1))
    exact ⟨i, e, he, h2⟩
  · rintro ⟨i, d, h1, h2⟩
    obtain ⟨e, he⟩ := of_isOw ((h i).trans (isOw_of h1))
    exact ⟨i, e, he, h2⟩
/-- an evaluation's step -/
structure Stp (c : Cc) (xs : Addr → Prop) (pu : Bool) (env env' : En) (σ : St) (H H' : Hp) : Prop where
  st : StOk c xs env' σ H'
  shp : ∀ j, isOw env' j = isOw env j
  sm : Same (hide H (Owns env σ)) (hide H' (Owns env σ))
  pr : pu = true → env' = env ∧ Same H H'
section
variable {c : Cc} {xs : Addr → Prop} {pu pu' : Bool} {env env' env'' : En} {σ : St} {H H' H'' : Hp}
theorem Stp.own (s : Stp c xs pu env env' σ H H') : Owns env' σ = Owns env σ := owns_shape s.shp
theorem Stp.hid (s : Stp c xs pu env env' σ H H') : Hid xs env' σ = Hid xs env σ := by
  funext a; unfold Hid; rw [s.own]
theorem Stp.smH (s : Stp c xs pu env env' σ H H') : Same (hide H (Hid xs env σ)) (hide H' (Hid xs env σ)) := fun b o h => by
  obtain ⟨h1, h2⟩ := hide_some h
  have h3 := s.sm b o (by rw [hide_of fun z => h1 (.inl z)]; exact h2)
  rw [hide_of h1]
  exact (hide_some h3).2
theorem Stp.th (s : Stp c xs pu env env' σ H H') (a : Addr) (h : H a ≠ none) : H' a ≠ none := fun n => by
  by_cases z : Owns env σ a
  · exact s.st.hid (.inl (by rw [s.own]; exact z)) n
  · cases q : H a with
    | none => exact h q
    | some o =>
      have := s.sm a o (by rw [hide_of z]; exact q)
      rw [(hide_some this).2] at n; cases n
theorem Stp.trans (s : Stp c xs pu env env' σ H H') (s' : Stp c xs pu' env' env'' σ H' H'') : Stp c xs (pu && pu') env env'' σ H H'' where
  st := s'.st
  shp := fun j => (s'.shp j).trans (s.shp j)
  sm := s.sm.trans (by have := s'.sm; rw [s.own] at this; exact this)
  pr := fun h => by
    simp only [Bool.and_eq_true] at h
    obtain ⟨e1, k1⟩ := s.pr h.1
    obtain ⟨e2, k2⟩ := s'.pr h.2
    exact ⟨e2.trans e1, k1.trans k2⟩
theorem Stp.refl (S : StOk c xs env σ H) : Stp c xs pu env env σ H H := ⟨S, fun _ => rfl, Same.refl _, fun _ => ⟨rfl, Same.refl _⟩⟩
theorem Stp.grow (s : Stp c xs pu env env' σ H H') (k : Same H' H'') : Stp c xs pu env env' σ H H'' :=
  ⟨s.st.same k, s.shp, s.sm.trans (hide_same k), fun h => ⟨(s.pr h).1, (s.pr h).2.trans k⟩⟩
theorem Stp.weak (s : Stp c xs pu env env' σ H H') (h : pu' = true → pu = true) : Stp c xs pu' env env' σ H H' := ⟨s.st, s.shp, s.sm, fun q => s.pr (h q)⟩
/-- a value held ahead of a step is held behind it -/
theorem Stp.rep (s : Stp c xs pu env env' σ H H') {sh : Bool} {d : D} {v : V} (h : sh = false ∨ pu = true) (r : Rep c sh (Hid xs env σ) H d v) : Rep c sh (Hid xs env σ) H' d v := by
  rcases h with rfl | h
  · exact IsD.same s.smH _ _ r
  · have k := (s.pr h).2
    cases sh with
    | true => exact RepS.same k r
    | false => exact IsD.same (hide_same k) _ _ r
end

def ExcRep (c : Cc) (H : Hp) (k : Nat) (p : D) (cls : Value) (dd : Option Addr) : Prop := ∃ C d v, c.ec k = some C ∧ cls = .ref C ∧ dd = some d ∧ H d = some (.xd [(c.en k, v)]) ∧ IsD c H p v

abbrev Ev := En → M (D × En)
abbrev Tv := En → M (Bool × En)
abbrev Av := En → M (List D × En)

/-- what is wanted of an evaluation's outcome -/
def Want {α β : Type} (c : Cc) (xs : Addr → Prop) (pu : Bool) (env : En) (σ : St) (H : Hp) (R : α → En → β → Hp → Prop) (W : WX) (Q : β → Hp → Prop) : M (α × En) → Prop
  | .ok (d, env') => ∀ v H', Stp c xs pu env env' σ H H' → R d env' v H' → Q v H'
  | .error (.raise k p) => ∀ cls dd H', Same (hide H (Owns env σ)) H' → ExcRep c H' k p cls dd → W cls dd σ H'
  | .error .stuck => False

def tE (c : Cc) (pu sh : Bool) (m : Ev) (W : WX) : TE := fun σ H Q => ∃ xs env, StOk c xs env σ H ∧ Want c xs pu env σ H (fun d _ v H' => Rep c sh (Hid xs env σ) H' d v) W Q (m env)
/-- a new object, by values -/
def RepV (c : Cc) (P : Addr → Prop) (H H' : Hp) (d : D) (v : V) : Prop := ∃ a o, v = .ref a ∧ H a = none ∧ H' a = some o ∧ ObjRep c (hide H' (fun b => P b ∨ b = a)) d o
/-- a new object that nothing else leans on -/
def RepF (c : Cc) (xs : Addr → Prop) (σ : St) (H : Hp) (d : D) (env' : En) (v : V) (H' : Hp) : Prop := ∃ a o, v = .ref a ∧ H a = none ∧ H' a = some o ∧ StOk c (fun b => xs b ∨ b = a) env' σ H' ∧ ObjRep c (hide H' (fun b => Hid xs env' σ b ∨ b = a)) d o
def tF (c : Cc) (pu : Bool) (m : Ev) (W : WX) : TE := fun σ H Q => ∃ xs env, StOk c xs env σ H ∧ Want c xs pu env σ H (RepF c xs σ H) W Q (m env)
theorem StOk.newX {c : Cc} {xs : Addr → Prop} {env : En} {σ : St} {H H' : Hp} {a : Addr} {o : HO} (S : StOk c xs env σ H) (k : Same H H') (n : H a = none) (ho : H' a = some o) : StOk c (fun b => xs b ∨ b = a) env σ H' := by
  have up : Same (hide H (Hid xs env σ)) (hide H' (Hid (fun b => xs b ∨ b = a) env σ)) := fun b u hb => by
    obtain ⟨h1, h2⟩ := hide_some hb
    have ne := ne_of_none h2 n
    rw [hide_of fun z => z.elim (fun z => h1 (.inl z)) fun z => z.elim (fun z => h1 (.inr z)) ne]
    exact k _ _ h2
  have S' := S.same k
  refine ⟨S.len, fun b hb => ?_, fun i d h => ?_, fun i d h => ?_, S.inj⟩
  · rcases hb with hb | rfl
    · exact S'.xb b hb
    · exact ⟨fun z => by rw [ho] at z; (cases z), fun z => S.hid (.inl z) n⟩
  · obtain ⟨v, h1, h2⟩ := S.va i d h
    exact ⟨v, h1, h2.same up⟩
  · obtain ⟨b, u, h1, h2, h3⟩ := S.ow i d h
    exact ⟨b, u, h1, k _ _ h2, h3.same up⟩
def tT (c : Cc) (pu : Bool) (m : Tv) (W : WX) : TT := fun σ H Q => ∃ xs env, StOk c xs env σ H ∧ Want c xs pu env σ H (fun d _ v _ => v = d) W Q (m env)
def Reps (c : Cc) (P : Addr → Prop) (H : Hp) : List Bool → List D → List V → Prop
  | [], [], [] => True
  | s :: ss, d :: ds, v :: vs => Rep c s P H d v ∧ Reps c P H ss ds vs
  | _, _, _ => False
def tA (c : Cc) (pu : Bool) (shs : List Bool) (m : Av) (W : WX) : TA := fun σ H Q => ∃ xs env, StOk c xs env σ H ∧ Want c xs pu env σ H (fun ds _ vs H' => Reps c (Hid xs env σ) H' shs ds vs) W Q (m env)

inductive Fl where
  | nx | bk | ct | rt (d : D) | rf (d : D) | ro (i : Nat)
abbrev Sv := En → M (Fl × En)
/-- what a statement leaves as it was -/
structure Kept (env : En) (σ : St) (H : Hp) (env' : En) (σ' : St) (H' : Hp) : Prop where
  sm : Same (hide H (Owns env σ)) (hide H' (Owns env' σ'))
  th : ∀ a, H a ≠ none → H' a ≠ none
  fx : isOw env 0 = true → isOw env' 0 = true ∧ σ'[0]? = σ[0]?
  ln : σ'.length = σ.length
theorem Kept.trans {env env' env'' : En} {σ σ' σ'' : St} {H H' H'' : Hp} (a : Kept env σ H env' σ' H') (b : Kept env' σ' H' env'' σ'' H'') : Kept env σ H env'' σ'' H'' := ⟨a.sm.trans b.sm, fun x h => b.th x (a.th x h), fun h => ⟨(b.fx (a.fx h).1).1, (b.fx (a.fx h).1).2.trans (a.fx h).2⟩, b.ln.trans a.ln⟩
theorem Kept.refl {env : En} {σ : St} {H : Hp} : Kept env σ H env σ H := ⟨Same.refl _, fun _ h => h, fun h => ⟨h, rfl⟩, rfl⟩
/-- a store in slot i: not in slot 0 while it holds a def's own list -/
def put (i : Nat) (s : Sl) (env : En) : M En := if (i == 0 && isOw env 0) = true then stuck else .ok (env.set i s)
theorem put_ok {i : Nat} {s : Sl} {env env' : En} (h : put i s env = .ok env') : env' = env.set i s ∧ (isOw env 0 = true → i ≠ 0) := by
  unfold put at h
  split at h
  · cases h
  · rename_i q
    cases h
    refine ⟨rfl, fun h z => q ?_⟩
    subst z
    simpa using h
theorem put_cases (i : Nat) (s : Sl) (env : En) : put i s env = stuck ∨ (put i s env = .ok (env.set i s) ∧ (isOw env 0 = true → i ≠ 0)) := by
  cases q : put i s env with
  | error x =>
    left
    unfold put at q
    split at q <;> cases q
    rfl
  | ok e =>
    obtain ⟨h1, h2⟩ := put_ok q
    subst h1
    exact .inr ⟨rfl, h2⟩
@[simp] theorem put_succ {i : Nat} {s : Sl} {env : En} : put (i + 1) s env = .ok (env.set (i + 1) s) := rfl
theorem Same.th {H H' : Hp} (k : Same H H') (a : Addr) (h : H a ≠ none) : H' a ≠ none := fun n => by
  cases q : H a with
  | none => exact h q
  | some o => rw [k a o q] at n; cases n
/-- a new object that is returned -/
def RepR (c : Cc) (xs : Addr → Prop) (env : En) (σ : St) (H : Hp) (env' : En) (σ' : St) (H' : Hp) (d : D) (v : V) : Prop := ∃ a o, v = .ref a ∧ H a = none ∧ H' a = some o ∧ ¬ Hid xs env' σ' a ∧ ObjRep c (hide H' (fun b => Hid xs env' σ' b ∨ b = a)) d o
def WantS (c : Cc) (xs : Addr → Prop) (env : En) (σ : St) (H : Hp) (W : WX) (E : Ends) : M (Fl × En) → Prop
  | .ok (.nx, env') => ∀ σ' H', StOk c xs env' σ' H' → Kept env σ H env' σ' H' → E.nx σ' H'
  | .ok (.bk, env') => ∀ σ' H', StOk c xs env' σ' H' → Kept env σ H env' σ' H' → E.bk σ' H'
  | .ok (.ct, env') => ∀ σ' H', StOk c xs env' σ' H' → Kept env σ H env' σ' H' → E.ct σ' H'
  | .ok (.rt d, env') => ∀ σ' v H', StOk c xs env' σ' H' → Kept env σ H env' σ' H' → IsD c (hide H' (Hid xs env' σ')) d v → E.rt v H'
  | .ok (.rf d, env') => ∀ σ' v H', StOk c xs env' σ' H' → Kept env σ H env' σ' H' → RepR c xs env σ H env' σ' H' d v → E.rt v H'
  | .ok (.ro i, env') => ∀ σ' a H', StOk c xs env' σ' H' → Kept env σ H env' σ' H' → σ'[i]? = some (some (V.ref a)) → (∃ d, env'[i]? = some (Sl.ow d)) → E.rt (.ref a) H'
  | .error (.raise k p) => ∀ cls dd σ' H', σ'.length = σ.length → Same (hide H (Owns env σ)) H' → ExcRep c H' k p cls dd → W cls dd σ' H'
  | .error .stuck => False
def tS (c : Cc) (m : Sv) (W : WX) : TS := fun E σ H => ∃ xs env, StOk c xs env σ H ∧ WantS c xs env σ H W E (m env)

/-! ### changing a reading -/
theorem PE.imp {X : Cx} {e : Expr} {t t' : TE} (h : PE X e t) (k : ∀ σ H Q, t' σ H Q → t σ H Q) : PE X e t' := ⟨fun pins s σ H Q I w => h.run pins s σ H Q I (k _ _ _ w)⟩
theorem PT.imp {X : Cx} {e : Expr} {t t' : TT} (h : PT X e t) (k : ∀ σ H Q, t' σ H Q → t σ H Q) : PT X e t' := ⟨fun pins s σ H Q I w => h.run pins s σ H Q I (k _ _ _ w)⟩
theorem PW.imp {X : Cx} {e : Expr} {t t' : TT} (h : PW X e t) (k : ∀ σ H Q, t' σ H Q → t σ H Q) : PW X e t' := ⟨fun wh pins s σ H Q I w => h.run wh pins s σ H Q I (k _ _ _ w)⟩
theorem PA.imp {X : Cx} {e : List Expr} {t t' : TA} (h : PA X e t) (k : ∀ σ H Q, t' σ H Q → t σ H Q) : PA X e t' := ⟨fun pos pins s σ H Q I w => h.run pos pins s σ H Q I (k _ _ _ w)⟩
theorem PS.imp {X : Cx} {e : Stmt} {t t' : TS} (h : PS X e t) (k : ∀ E σ H, t' E σ H → t E σ H) : PS X e t' := ⟨fun pins s σ H E I w => h.run pins s σ H E I (k _ _ _ w)⟩
theorem PSs.imp {X : Cx} {e : List Stmt} {t t' : TS} (h : PSs X e t) (k : ∀ E σ H, t' E σ H → t E σ H) : PSs X e t' := ⟨fun pins s σ H E I w => h.run pins s σ H E I (k _ _ _ w)⟩

section
variable {X : Cx} {g : Ce}
abbrev DE (X : Cx) (g : Ce) (pu sh : Bool) (e : Expr) (m : Ev) (W : WX) : Prop := PE X e (tE (cc X g) pu sh m W)
abbrev DF (X : Cx) (g : Ce) (pu : Bool) (e : Expr) (m : Ev) (W : WX) : Prop := PE X e (tF (cc X g) pu m W)
abbrev DT (X : Cx) (g : Ce) (pu : Bool) (e : Expr) (m : Tv) (W : WX) : Prop := PT X e (tT (cc X g) pu m W)
abbrev DW (X : Cx) (g : Ce) (pu : Bool) (e : Expr) (m : Tv) (W : WX) : Prop := PW X e (tT (cc X g) pu m W)
abbrev DA (X : Cx) (g : Ce) (pu : Bool) (shs : List Bool) (es : List Expr) (m : Av) (W : WX) : Prop := PA X es (tA (cc X g) pu shs m W)
abbrev DS (X : Cx) (g : Ce) (s : Stmt) (m : Sv) (W : WX) : Prop := PS X s (tS (cc X g) m W)
abbrev DSs (X : Cx) (g : Ce) (s : List Stmt) (m : Sv) (W : WX) : Prop := PSs X s (tS (cc X g) m W)
end

/-! ### combining outcomes -/
section
variable {c : Cc} {xs : Addr → Prop} {pu pu' : Bool} {env env' : En} {σ : St} {H H' : Hp} {W : WX}
/-- from an outcome to the next one -/
theorem Want.bind {α β γ δ : Type} {R : α → En → β → Hp → Prop} {R' : γ → En → δ → Hp → Prop} {Q : β → Hp → Prop} {Q' : δ → Hp → Prop} {m : M (α × En)} {f : α × En → M (γ × En)}
    (h : Want c xs pu' env σ H R' W Q' (bnd m f))
    (k : ∀ d env' v H', m = .ok (d, env') → Stp c xs pu env env' σ H H' → R d env' v H' → Want c xs pu' env σ H R' W Q' (f (d, env')) → Q v H') : Want c xs pu env σ H R W Q m := by
  cases m with
  | error e => cases e with
    | raise k p => exact h
    | stuck => exact h
  | ok p =>
    obtain ⟨d, env'⟩ := p
    exact fun v H' s r => k d env' v H' rfl s r h
/-- started again behind a step -/
theorem Want.after {α β : Type} {R : α → En → β → Hp → Prop} {Q : β → Hp → Prop} {m : M (α × En)} (s : Stp c xs pu env env' σ H H') (h : Want c xs (pu && pu') env σ H R W Q m) : Want c xs pu' env' σ H' R W Q m := by
  cases m with
  | error e => cases e with
    | raise k p => exact fun cls dd H'' q r => h cls dd H'' (s.sm.trans (by rw [s.own] at q; exact q)) r
    | stuck => exact h
  | ok p =>
    obtain ⟨d, env''⟩ := p
    exact fun v H'' s' r => h v H'' (s.trans s') r
theorem Want.imp {α β : Type} {R R' : α → En → β → Hp → Prop} {Q Q' : β → Hp → Prop} {m : M (α × En)} (h : Want c xs pu env σ H R W Q m)
    (k : ∀ d env' v H', m = .ok (d, env') → Stp c xs pu' env env' σ H H' → R' d env' v H' → (Stp c xs pu env env' σ H H' → R d env' v H' → Q v H') → Q' v H') : Want c xs pu' env σ H R' W Q' m := by
  cases m with
  | error e => cases e with
    | raise k p => exact h
    | stuck => exact h
  | ok p =>
    obtain ⟨d, env''⟩ := p
    exact fun v H'' s' r => k d env'' v H'' rfl s' r fun s r => h v H'' s r
end
end Dn

/-! Dn3 -/
set_option Elab.async false
set_option linter.all false
set_option maxRecDepth 100000
set_option maxHeartbeats 1000000
/-! Dn3: combinators: names, constants, operators, tests. -/
namespace Dn
open PySem PySem.Spec L2
open PyProof.Rows hiding St

section
variable {X : Cx} {g : Ce} {W : WX} {pu pu1 pu2 pu3 sh sh1 sh2 sh3 : Bool} {m m1 m2 m3 : Ev} {a b e : Expr} {pos : Pos}

/-! ### weakening -/
theorem DE.shell (h : DE X g pu false e m W) : DE X g pu true e m W := PE.imp h fun σ H Q ⟨xs, env, S, w⟩ =>
  ⟨xs, env, S, w.imp fun d env' v H' e s r k => k s (RepS.of r)⟩
theorem DE.impure (h : DE X g true sh e m W) : DE X g false sh e m W := PE.imp h fun σ H Q ⟨xs, env, S, w⟩ =>
  ⟨xs, env, S, w.imp fun d env' v H' e s r k => k (s.weak fun z => nomatch z) r⟩
theorem DF.impure (h : DF X g true e m W) : DF X g false e m W := PE.imp h fun σ H Q ⟨xs, env, S, w⟩ =>
  ⟨xs, env, S, w.imp fun d env' v H' e s r k => k (s.weak fun z => nomatch z) r⟩
theorem DT.impure {m : Tv} (h : DT X g true e m W) : DT X g false e m W := PT.imp h fun σ H Q ⟨xs, env, S, w⟩ =>
  ⟨xs, env, S, w.imp fun d env' v H' e s r k => k (s.weak fun z => nomatch z) r⟩
theorem DW.impure {m : Tv} (h : DW X g true e m W) : DW X g false e m W := PW.imp h fun σ H Q ⟨xs, env, S, w⟩ =>
  ⟨xs, env, S, w.imp fun d env' v H' e s r k => k (s.weak fun z => nomatch z) r⟩
theorem DA.impure {shs : List Bool} {es : List Expr} {m : Av} (h : DA X g true shs es m W) : DA X g false shs es m W := PA.imp h fun σ H Q ⟨xs, env, S, w⟩ =>
  ⟨xs, env, S, w.imp fun d env' v H' e s r k => k (s.weak fun z => nomatch z) r⟩
/-- a new object as a value -/
theorem ObjRep.isD {c : Cc} {P : Addr → Prop} {H : Hp} {d : D} {a : Addr} {o : HO} (h : ObjRep c (hide H (fun b => P b ∨ b = a)) d o) (ho : H a = some o) (hp : ¬ P a) : IsD c (hide H P) d (.ref a) := by
  have k : Same (hide H (fun b => P b ∨ b = a)) (hide H P) := hide_sub fun _ z => .inl z
  have ho' : hide H P a = some o := by rw [hide_of hp]; exact ho
  cases d with
  | lst ds => obtain ⟨vs, e1, h⟩ := h; subst e1; unfold IsD; exact ⟨a, vs, rfl, ho', h.same k⟩
  | dct ks ws =>
    unfold IsD
    obtain ⟨kvs, e1, e2, h⟩ := h
    subst e1
    exact ⟨a, rfl, kvs, Rd.of ho', e2, h.same k⟩
  | _ => exact h.elim
theorem DF.val (h : DF X g pu e m W) : DE X g pu false e m W := PE.imp h fun σ H Q ⟨xs, env, S, w⟩ =>
  ⟨xs, env, S, w.imp fun d env' v H' e s r k => k s (by
    obtain ⟨a, o, rfl, n, h1, _, h2⟩ := r
    rw [s.hid] at h2
    exact h2.isD h1 (S.newHid n))⟩

/-! ### names and constants -/
def dVar (i : Nat) : Ev := fun env => match env[i]? with
  | some (.va d) => .ok (d, env)
  | _ => stuck
def dVarO (i : Nat) : Ev := fun env => match env[i]? with
  | some (.va d) => .ok (d, env)
  | some (.ow d) => .ok (d, env)
  | _ => stuck
theorem e_var (i : Nat) {x : Str} (h : PE X (.Name x pos) (tVar i)) : DE X g true false (.Name x pos) (dVar i) W := PE.imp h fun σ H Q ⟨xs, env, S, w⟩ => by
  unfold dVar at w
  split at w
  · rename_i d hd
    obtain ⟨v, h1, h2⟩ := S.va i d hd
    exact ⟨v, h1, w v H (.refl S) h2⟩
  · exact w.elim
theorem e_varO (i : Nat) {x : Str} (h : PE X (.Name x pos) (tVar i)) : DE X g true true (.Name x pos) (dVarO i) W := PE.imp h fun σ H Q ⟨xs, env, S, w⟩ => by
  unfold dVarO at w
  split at w
  · rename_i d hd
    obtain ⟨v, h1, h2⟩ := S.va i d hd
    exact ⟨v, h1, w v H (.refl S) (RepS.of h2)⟩
  · rename_i d hd
    obtain ⟨a, o, h1, h2, h3⟩ := S.ow i d hd
    refine ⟨.ref a, h1, w _ H (.refl S) ?_⟩
    cases d with
    | lst ds => obtain ⟨vs, e1, h3⟩ := h3; subst e1; exact ⟨a, vs, rfl, h2, h3⟩
    | dct ks ws =>
      obtain ⟨kvs, e1, e2, h3⟩ := h3
      subst e1
      exact ⟨a, rfl, kvs, Rd.of h2, e2, h3⟩
    | _ => exact h3.elim
  · exact w.elim

def dC (d : D) : Ev := fun env => .ok (d, env)
theorem e_const {d : D} {v : V} (h : PE X e (tC v)) (k : ∀ c H, IsD c H d v) : DE X g true false e (dC d) W := PE.imp h fun σ H Q ⟨xs, env, S, w⟩ => w v H (.refl S) (k _ _)
theorem e_int {i : Int} {j pos} : DE X g true false (.Constant (.int i) j pos) (dC (.int i)) W := e_const pe_int fun _ _ => by unfold IsD; rfl
theorem e_bl {i : Bool} {j pos} : DE X g true false (.Constant (.bool i) j pos) (dC (.bl i)) W := e_const pe_bl fun _ _ => by unfold IsD; rfl
theorem e_non {j pos} : DE X g true false (.Constant .none j pos) (dC .non) W := e_const pe_non fun _ _ => by unfold IsD; rfl
theorem e_str {x : Str} {j pos} : DE X g true false (.Constant (.str x) j pos) (dC (.str x)) W := e_const pe_str fun _ _ => by unfold IsD; rfl

/-! ### two-place operators by values -/
/-- what an operation of the machine says of data; the operands by their shells -/
def VB (c : Cc) (r : R2) (f : D → D → M D) : Prop := ∀ (P : Addr → Prop) (H : Hp) (x y : V) (d1 d2 d : D) (Q : VK), (∀ a, P a → H a ≠ none) → RepS c P H d1 x → RepS c P H d2 y →
  f d1 d2 = .ok d → (∀ v H', Same H H' → IsD c (hide H' P) d v → Q v H') → r x y H Q
/-- f raises nothing of the program's own -/
def NoR (f : M D) : Prop := ∀ k p, f ≠ .error (.raise k p)
def dBin (f : D → D → M D) (m1 m2 : Ev) : Ev := fun env => bnd (m1 env) fun p => bnd (m2 p.2) fun q => bnd (f p.1 q.1) fun d => .ok (d, q.2)
def NoR2 (f : D → D → M D) : Prop := ∀ d1 d2 k p, f d1 d2 ≠ .error (.raise k p)
theorem t_bin {r : R2} {f : D → D → M D} (hv : VB (cc X g) r f) (nr : NoR2 f) (hc : sh1 = false ∨ pu2 = true) {σ : St} {H : Hp} {Q : VK} (h : tE (cc X g) (pu1 && pu2) false (dBin f m1 m2) W σ H Q) :
    tOp r (tE (cc X g) pu1 sh1 m1 W) (tE (cc X g) pu2 sh2 m2 W) σ H Q := by
  obtain ⟨xs, env, S, w⟩ := h
  refine ⟨xs, env, S, w.bind fun d1 env1 x H1 e1 s1 r1 w1 => ?_⟩
  refine ⟨xs, env1, s1.st, Want.bind (pu' := pu2) (w1.after s1) fun d2 env2 y H2 e2 s2 r2 w2 => ?_⟩
  rw [← s1.hid] at r1
  have r1' := (s2.rep hc r1).shell
  have r2' := r2.shell
  cases q : f d1 d2 with
  | error e => cases e with
    | raise k p => exact absurd q (nr _ _ _ _)
    | stuck => rw [q] at w2; exact w2.elim
  | ok d =>
    rw [q] at w2
    refine hv (Hid xs env1 σ) H2 x y d1 d2 d Q (fun a ha => s2.st.hid (by rw [s2.hid]; exact ha)) r1' r2' q fun v H' k hd => ?_
    rw [s1.hid] at hd
    exact w2 v H' (s2.grow k) hd
theorem e_bin {op : Operator} {r : R2} {f : D → D → M D} (ho : OpR X (binaryOp op) r) (hv : VB (cc X g) r f) (nr : NoR2 f) (hc : sh1 = false ∨ pu2 = true) (ha : DE X g pu1 sh1 a m1 W) (hb : DE X g pu2 sh2 b m2 W) :
    DE X g (pu1 && pu2) false (.BinOp a op b pos) (dBin f m1 m2) W := PE.imp (pe_op ho ha hb) fun _ _ _ h => t_bin hv nr hc h
theorem e_cmp {op : CmpOp} {r : R2} {f : D → D → M D} (ho : OpR X (compareOp op) r) (hv : VB (cc X g) r f) (nr : NoR2 f) (hc : sh1 = false ∨ pu2 = true) (hm : behindInMarks op b = false) (ha : DE X g pu1 sh1 a m1 W) (hb : DE X g pu2 sh2 b m2 W) :
    DE X g (pu1 && pu2) false (.Compare a [op] [b] pos) (dBin f m1 m2) W := PE.imp (pe_cmpR ho ha hb hm) fun _ _ _ h => t_bin hv nr hc h
end
end Dn

/-! Dn4 -/
set_option Elab.async false
set_option linter.all false
set_option maxRecDepth 100000
set_option maxHeartbeats 1000000
/-! Dn4: the operators by values. -/
namespace Dn
open PySem PySem.Spec L2
open PyProof.Rows hiding St

theorem OpR.or {X : Cx} {f : Value → Value → Sem Value} {r r' : R2} (h : OpR X f r) (h' : OpR X f r') : OpR X f (fun x y H Q => r x y H Q ∨ r' x y H Q) := by
  intro pins s σ H x y v u Q I rx ry q
  rcases q with q | q
  · exact h pins s σ H x y v u Q I rx ry q
  · exact h' pins s σ H x y v u Q I rx ry q

section
variable {c : Cc} {P : Addr → Prop} {H : Hp} {v : V}
theorem RepS.int {i : Int} (h : RepS c P H (.int i) v) : v = .int i := by unfold RepS IsD at h; exact h
theorem RepS.bl {b : Bool} (h : RepS c P H (.bl b) v) : v = .bl b := by unfold RepS IsD at h; exact h
theorem RepS.str {x : Str} (h : RepS c P H (.str x) v) : v = .str x := by unfold RepS IsD at h; exact h
theorem RepS.non (h : RepS c P H .non v) : v = .non := by unfold RepS IsD at h; exact h
theorem RepS.lst {ds : List D} (h : RepS c P H (.lst ds) v) : ∃ a vs, v = .ref a ∧ H a = some (.lst vs) ∧ IsDs c (hide H P) ds vs := h
theorem RepS.tup {ds : List D} (h : RepS c P H (.tup ds) v) : ∃ a vs, v = .ref a ∧ SqT c.K H a vs ∧ IsDs c (hide H P) ds vs := by
  unfold RepS IsD at h
  obtain ⟨a, vs, e, h1, h2⟩ := h
  exact ⟨a, vs, e, SqT.same hide_full h1, h2⟩
theorem isInt {G : Hp} {i : Int} : IsD c G (.int i) (.int i) := by unfold IsD; rfl
theorem isBl {G : Hp} {b : Bool} : IsD c G (.bl b) (.bl b) := by unfold IsD; rfl
theorem isStr {G : Hp} {x : Str} : IsD c G (.str x) (.str x) := by unfold IsD; rfl
theorem isNon {G : Hp} : IsD c G .non .non := by unfold IsD; rfl
/-- a new list, a new tuple -/
theorem isNewL {p : Addr} {ds : List D} {vs : List V} (hp : H p = none) (hP : ∀ a, P a → H a ≠ none) (h : IsDs c (hide H P) ds vs) : IsD c (hide (upd H p (.lst vs)) P) (.lst ds) (.ref p) := by
  unfold IsD
  exact ⟨p, vs, rfl, by rw [hide_of fun z => hP p z hp]; exact upd_same, h.same (hide_same (same_new hp))⟩
theorem isNewT {p : Addr} {ds : List D} {vs : List V} (hp : H p = none) (hP : ∀ a, P a → H a ≠ none) (h : IsDs c (hide H P) ds vs) : IsD c (hide (upd H p (.tup vs)) P) (.tup ds) (.ref p) := by
  unfold IsD
  exact ⟨p, vs, rfl, SqT.of (by rw [hide_of fun z => hP p z hp]; exact upd_same), h.same (hide_same (same_new hp))⟩
end

/-- the longest sequence that the model has -/
def maxSeq : Nat := 16777216
theorem maxSeq_eq : sizeLine = maxSeq := sizeLine_eq

/-- ints in, an int out, under a check -/
def dIntOp (ok : Int → Int → Bool) (f : Int → Int → Int) : D → D → M D
  | .int i, .int j => if ok i j then .ok (.int (f i j)) else stuck
  | _, _ => stuck
theorem dIntOp_inv {ok : Int → Int → Bool} {f : Int → Int → Int} {d1 d2 d : D} (h : dIntOp ok f d1 d2 = .ok d) : ∃ i j, d1 = .int i ∧ d2 = .int j ∧ ok i j = true ∧ d = .int (f i j) := by
  unfold dIntOp at h
  split at h
  · split at h
    · rename_i i j hq; cases h; exact ⟨i, j, rfl, rfl, hq, rfl⟩
    · cases h
  · cases h
theorem dIntOp_nr {ok : Int → Int → Bool} {f : Int → Int → Int} : NoR2 (dIntOp ok f) := fun d1 d2 k p h => by
  unfold dIntOp at h
  split at h
  · split at h <;> cases h
  · cases h
theorem vb_int {c : Cc} {C : Int → Int → Prop} {ok : Int → Int → Bool} {f : Int → Int → Int} (hk : ∀ i j, ok i j = true → C i j) : VB c (rI C fun i j => .int (f i j)) (dIntOp ok f) := by
  intro P H x y d1 d2 d Q hP r1 r2 e k
  obtain ⟨i, j, rfl, rfl, ho, rfl⟩ := dIntOp_inv e
  exact ⟨i, j, r1.int, r2.int, hk i j ho, k _ H (Same.refl _) isInt⟩
theorem vb_int0 {c : Cc} {f : Int → Int → Int} : VB c (rI0 fun i j => .int (f i j)) (dIntOp (fun _ _ => true) f) := by
  intro P H x y d1 d2 d Q hP r1 r2 e k
  obtain ⟨i, j, rfl, rfl, ho, rfl⟩ := dIntOp_inv e
  exact ⟨i, j, r1.int, r2.int, k _ H (Same.refl _) isInt⟩

/-! ### + -/
def dAdd : D → D → M D
  | .int i, .int j => .ok (.int (i + j))
  | .str x, .str y => if x.length + y.length ≤ maxSeq then .ok (.str (x ++ y)) else stuck
  | .lst xs, .lst ys => if xs.length + ys.length ≤ maxSeq then .ok (.lst (xs ++ ys)) else stuck
  | .tup xs, .tup ys => if xs.length + ys.length ≤ maxSeq then .ok (.tup (xs ++ ys)) else stuck
  | _, _ => stuck
theorem dAdd_nr : NoR2 dAdd := fun d1 d2 k p h => by
  unfold dAdd at h
  split at h <;> first | cases h | (split at h <;> cases h)
def rAddD (K : PySem.W.Frag) : R2 := fun x y H Q => (rI0 (fun i j => .int (i + j)) x y H Q ∨ (∃ i j, x = .str i ∧ y = .str j ∧ i.length + j.length ≤ sizeLine ∧ Q (.str (i ++ j)) H)) ∨ (rCat x y H Q ∨ rCatA K x y H Q)
theorem op_addD {X : Cx} : OpR X (binaryOp .Add) (rAddD X.K) := OpR.or (OpR.or op_add op_add_str) (OpR.or op_cat op_catA)
theorem vb_add {c : Cc} : VB c (rAddD c.K) dAdd := by
  intro P H x y d1 d2 d Q hP r1 r2 e k
  unfold dAdd at e
  split at e
  · cases e
    exact .inl (.inl ⟨_, _, r1.int, r2.int, k _ H (Same.refl _) isInt⟩)
  · split at e
    · rename_i hz; cases e
      exact .inl (.inr ⟨_, _, r1.str, r2.str, by rw [maxSeq_eq]; exact hz, k _ H (Same.refl _) isStr⟩)
    · cases e
  · split at e
    · rename_i hz; cases e
      obtain ⟨a, vs, e1, h1, h2⟩ := r1.lst
      obtain ⟨b, ws, e2, h3, h4⟩ := r2.lst
      exact .inr (.inl ⟨a, b, vs, ws, e1, e2, h1, h3, by rw [maxSeq_eq, ← h2.len, ← h4.len]; exact hz, fun p hp => k _ _ (same_new hp) (isNewL hp hP (h2.append h4))⟩)
    · cases e
  · split at e
    · rename_i hz; cases e
      obtain ⟨a, vs, e1, h1, h2⟩ := r1.tup
      obtain ⟨b, ws, e2, h3, h4⟩ := r2.tup
      refine .inr (.inr ⟨a, b, vs, ws, e1, e2, h1, h3, by rw [maxSeq_eq, ← h2.len, ← h4.len]; exact hz, fun q => ?_, fun _ q => ?_, fun _ _ p hp => k _ _ (same_new hp) (isNewT hp hP (h2.append h4))⟩)
      · subst q
        have := h2.len
        obtain rfl := List.eq_nil_of_length_eq_zero (show _ = 0 from this)
        subst e2
        have r2' : IsD c (hide H P) (.tup _) (.ref b) := r2
        exact k _ H (Same.refl _) r2'
      · subst q
        have := h4.len
        obtain rfl := List.eq_nil_of_length_eq_zero (show _ = 0 from this)
        subst e1
        have r1' : IsD c (hide H P) (.tup _) (.ref a) := r1
        rw [List.append_nil] at k
        exact k _ H (Same.refl _) r1'
    · cases e
  · cases e

/-! ### -, *, //, %, **, <<, >>, &, | -/
abbrev dSub : D → D → M D := dIntOp (fun _ _ => true) fun i j => i - j
/-- big: a factor below it is taken without a look at the other one -/
def bitsOf (i : Int) : Nat := i.natAbs.log2
def mulOk (i j : Int) : Bool := decide (bitsOf i + bitsOf j < 1000000)
def divOk (_ j : Int) : Bool := decide (0 < j) && decide (bitsOf j < 9000)
abbrev dFdiv : D → D → M D := dIntOp divOk fun i j => i / j
abbrev dMod : D → D → M D := dIntOp (fun _ j => decide (0 < j)) fun i j => i % j
def powOk (i j : Int) : Bool := decide (0 ≤ j) && decide (j ≤ 1000000) && decide (i.natAbs < 2 ^ 64)
abbrev dPow : D → D → M D := dIntOp powOk fun i j => i ^ j.toNat
abbrev dShl : D → D → M D := dIntOp powOk fun i j => i * 2 ^ j.toNat
abbrev dShr : D → D → M D := dIntOp (fun _ j => decide (0 ≤ j)) fun i j => i / 2 ^ j.toNat
abbrev dAnd2 : D → D → M D := dIntOp (fun _ _ => true) Builtin.bitAnd
abbrev dOr2 : D → D → M D := dIntOp (fun _ _ => true) Builtin.bitOr
theorem vb_sub {c : Cc} : VB c (rI0 fun i j => .int (i - j)) dSub := vb_int0
theorem vb_fdiv {c : Cc} : VB c (rI CDivW fun i j => .int (i / j)) dFdiv := vb_int fun i j h => by
  unfold divOk at h
  simp only [Bool.and_eq_true, decide_eq_true_eq] at h
  exact ⟨h.1, h.2⟩
theorem vb_mod {c : Cc} : VB c (rI (fun _ j => 0 < j) fun i j => .int (i % j)) dMod := vb_int fun i j h => by simpa using h
theorem powOk_of {i j : Int} (h : powOk i j = true) : CPow i j := by
  unfold powOk at h
  simp only [Bool.and_eq_true, decide_eq_true_eq] at h
  exact ⟨h.1.1, h.1.2, h.2⟩
theorem vb_pow {c : Cc} : VB c (rI CPow fun i j => .int (i ^ j.toNat)) dPow := vb_int fun i j h => powOk_of h
theorem vb_shl {c : Cc} : VB c (rI CPow fun i j => .int (i * 2 ^ j.toNat)) dShl := vb_int fun i j h => powOk_of h
theorem vb_shr {c : Cc} : VB c (rI (fun _ j => 0 ≤ j) fun i j => .int (i / 2 ^ j.toNat)) dShr := vb_int fun i j h => by simpa using h
theorem vb_and {c : Cc} : VB c (rI0 fun i j => .int (Builtin.bitAnd i j)) dAnd2 := vb_int0
theorem vb_or {c : Cc} : VB c (rI0 fun i j => .int (Builtin.bitOr i j)) dOr2 := vb_int0

/-! ### comparisons -/
def dCmpI (f : Int → Int → Bool) (fs : List Nat → List Nat → Bool) : D → D → M D
  | .int i, .int j => .ok (.bl (f i j))
  | .str x, .str y => .ok (.bl (fs x.cps.toList y.cps.toList))
  | _, _ => stuck
theorem dCmpI_nr {f fs} : NoR2 (dCmpI f fs) := fun d1 d2 k p h => by
  unfold dCmpI at h
  split at h <;> cases h
def rCmpD (f : Int → Int → Bool) (fs : List Nat → List Nat → Bool) : R2 := fun x y H Q => rI0 (fun i j => .bl (f i j)) x y H Q ∨ ∃ i j, x = .str i ∧ y = .str j ∧ Q (.bl (fs i.cps.toList j.cps.toList)) H
theorem vb_cmpI {c : Cc} {f : Int → Int → Bool} {fs : List Nat → List Nat → Bool} : VB c (rCmpD f fs) (dCmpI f fs) := by
  intro P H x y d1 d2 d Q hP r1 r2 e k
  unfold dCmpI at e
  split at e
  · cases e
    exact .inl ⟨_, _, r1.int, r2.int, k _ H (Same.refl _) isBl⟩
  · cases e
    exact .inr ⟨_, _, r1.str, r2.str, k _ H (Same.refl _) isBl⟩
  · cases e
abbrev dLt : D → D → M D := dCmpI (fun i j => decide (i < j)) fun x y => decide (x < y)
abbrev dLe : D → D → M D := dCmpI (fun i j => decide (i ≤ j)) fun x y => !decide (y < x)
abbrev dGt : D → D → M D := dCmpI (fun i j => decide (j < i)) fun x y => decide (y < x)
abbrev dGe : D → D → M D := dCmpI (fun i j => decide (j ≤ i)) fun x y => !decide (x < y)
section
variable {X : Cx}
theorem op_ltD : OpR X (compareOp .Lt) (rCmpD (fun i j => decide (i < j)) fun x y => decide (x < y)) := OpR.or op_lt op_lt_str
theorem op_leD : OpR X (compareOp .LtE) (rCmpD (fun i j => decide (i ≤ j)) fun x y => !decide (y < x)) := OpR.or op_le op_le_str
theorem op_gtD : OpR X (compareOp .Gt) (rCmpD (fun i j => decide (j < i)) fun x y => decide (y < x)) := OpR.or op_gt op_gt_str
theorem op_geD : OpR X (compareOp .GtE) (rCmpD (fun i j => decide (j ≤ i)) fun x y => !decide (x < y)) := OpR.or op_ge op_ge_str
end

/-! ### == of data -/
mutual
def D.eqv : D → D → Bool
  | .non, .non => true
  | .bl a, .bl b => a == b
  | .bl a, .int j => (if a then 1 else 0) == j
  | .int i, .bl b => i == (if b then 1 else 0)
  | .int i, .int j => i == j
  | .str x, .str y => x == y
  | .lst xs, .lst ys => D.eqvs xs ys
  | .tup xs, .tup ys => D.eqvs xs ys
  | _, _ => false
def D.eqvs : List D → List D → Bool
  | [], [] => true
  | x :: xs, y :: ys => D.eqv x y && D.eqvs xs ys
  | _, _ => false
end
mutual
def D.lay : D → Bool
  | .non | .bl _ | .int _ => true
  | .str x => x.cps.all (· < 0x110000)
  | .lst xs | .tup xs => D.lays xs
  | _ => false
def D.lays : List D → Bool
  | [] => true
  | x :: xs => D.lay x && D.lays xs
end
mutual
def D.dep : D → Nat
  | .lst xs | .tup xs => D.deps xs + 1
  | _ => 0
def D.deps : List D → Nat
  | [] => 0
  | x :: xs => max (D.dep x) (D.deps xs)
end
mutual
def D.toP : D → PyData
  | .non => .none
  | .bl b => .bool b
  | .int i => .int i
  | .str x => .str x
  | .lst xs => .list (D.toPs xs)
  | .tup xs => .tuple (D.toPs xs)
  | _ => .none
def D.toPs : List D → List PyData
  | [] => []
  | x :: xs => D.toP x :: D.toPs xs
end
/-- may be compared -/
def D.ok (d : D) : Bool := d.lay && decide (d.dep ≤ 64)
mutual
theorem eqv_toP : ∀ (x y : D), x.lay = true → y.lay = true → PyData.eqv x.toP y.toP = D.eqv x y
  | .non, y, h, h' => by cases y <;> first | rfl | (simp [D.lay] at h'; done) | simp [D.toP, PyData.eqv, D.eqv]
  | .bl a, y, h, h' => by cases y <;> first | rfl | (simp [D.lay] at h'; done) | simp [D.toP, PyData.eqv, D.eqv]
  | .int a, y, h, h' => by cases y <;> first | rfl | (simp [D.lay] at h'; done) | simp [D.toP, PyData.eqv, D.eqv]
  | .str a, y, h, h' => by cases y <;> first | rfl | (simp [D.lay] at h'; done) | simp [D.toP, PyData.eqv, D.eqv]
  | .lst xs, y, h, h' => by
    cases y with
    | lst ys => simp only [D.toP, PyData.eqv, D.eqv]; exact eqvs_toP xs ys (by simpa [D.lay] using h) (by simpa [D.lay] using h')
    | _ => first | rfl | (simp [D.lay] at h'; done) | simp [D.toP, PyData.eqv, D.eqv]
  | .tup xs, y, h, h' => by
    cases y with
    | tup ys => simp only [D.toP, PyData.eqv, D.eqv]; exact eqvs_toP xs ys (by simpa [D.lay] using h) (by simpa [D.lay] using h')
    | _ => first | rfl | (simp [D.lay] at h'; done) | simp [D.toP, PyData.eqv, D.eqv]
  | .dct _ _, y, h, h' => by simp [D.lay] at h
  | .fn _, y, h, h' => by simp [D.lay] at h
  | .scr _, y, h, h' => by simp [D.lay] at h
theorem eqvs_toP : ∀ (xs ys : List D), D.lays xs = true → D.lays ys = true → PyData.eqvAll (D.toPs xs) (D.toPs ys) = D.eqvs xs ys
  | [], [], h, h' => by simp [D.toPs, PyData.eqvAll, D.eqvs]
  | [], y :: ys, h, h' => by simp [D.toPs, PyData.eqvAll, D.eqvs]
  | x :: xs, [], h, h' => by simp [D.toPs, PyData.eqvAll, D.eqvs]
  | x :: xs, y :: ys, h, h' => by
    simp only [D.lays, Bool.and_eq_true] at h h'
    simp only [D.toPs, PyData.eqvAll, D.eqvs]
    rw [eqv_toP x y h.1 h'.1, eqvs_toP xs ys h.2 h'.2]
end
mutual
theorem lay_toP : ∀ (x : D), x.lay = true → x.toP.canLay0 = true
  | .non, h => by simp [D.toP, PyData.canLay0]
  | .bl a, h => by simp [D.toP, PyData.canLay0]
  | .int a, h => by simp [D.toP, PyData.canLay0]
  | .str a, h => by simp only [D.toP, PyData.canLay0]; exact h
  | .lst xs, h => by simp only [D.toP, PyData.canLay0]; exact lays_toP xs (by simpa [D.lay] using h)
  | .tup xs, h => by simp only [D.toP, PyData.canLay0]; exact lays_toP xs (by simpa [D.lay] using h)
  | .dct _ _, h => by simp [D.lay] at h
  | .fn _, h => by simp [D.lay] at h
  | .scr _, h => by simp [D.lay] at h
theorem lays_toP : ∀ (xs : List D), D.lays xs = true → PyData.canLayAll0 (D.toPs xs) = true
  | [], h => by simp [D.toPs, PyData.canLayAll0]
  | x :: xs, h => by
    simp only [D.lays, Bool.and_eq_true] at h
    simp only [D.toPs, PyData.canLayAll0, lay_toP x h.1, lays_toP xs h.2, Bool.and_self]
end
mutual
theorem dep_toP : ∀ (x : D), x.toP.depth = x.dep
  | .non => by simp [D.toP, PyData.depth, D.dep]
  | .bl a => by simp [D.toP, PyData.depth, D.dep]
  | .int a => by simp [D.toP, PyData.depth, D.dep]
  | .str a => by simp [D.toP, PyData.depth, D.dep]
  | .lst xs => by simp only [D.toP, PyData.depth, D.dep, deps_toP xs]
  | .tup xs => by simp only [D.toP, PyData.depth, D.dep, deps_toP xs]
  | .dct _ _ => by simp [D.toP, PyData.depth, D.dep]
  | .fn _ => by simp [D.toP, PyData.depth, D.dep]
  | .scr _ => by simp [D.toP, PyData.depth, D.dep]
theorem deps_toP : ∀ (xs : List D), PyData.depthAll (D.toPs xs) = D.deps xs
  | [] => by simp [D.toPs, PyData.depthAll, D.deps]
  | x :: xs => by simp only [D.toPs, PyData.depthAll, D.deps, dep_toP x, deps_toP xs]
end
theorem ok_toP {d : D} (h : d.ok = true) : SeqAt.shaped d.toP = true := by
  unfold D.ok at h
  simp only [Bool.and_eq_true, decide_eq_true_eq] at h
  unfold SeqAt.shaped
  rw [lay_toP d h.1, dep_toP]
  simpa using h.2
theorem ok_lay {d : D} (h : d.ok = true) : d.lay = true := by
  unfold D.ok at h
  simp only [Bool.and_eq_true] at h
  exact h.1
mutual
theorem IsD.dp {c : Cc} {H : Hp} : ∀ (d : D) (v : V), d.lay = true → IsD c H d v → Dp c.K H v d.toP
  | .non, v, l, h => by unfold IsD at h; subst h; exact .non
  | .bl b, v, l, h => by unfold IsD at h; subst h; exact .bl b
  | .int b, v, l, h => by unfold IsD at h; subst h; exact .int b
  | .str b, v, l, h => by unfold IsD at h; subst h; exact .str b
  | .lst xs, v, l, h => by
    unfold IsD at h
    obtain ⟨a, vs, rfl, h1, h2⟩ := h
    exact .lst (SqL.of h1) (IsDs.dp xs vs (by simpa [D.lay] using l) h2)
  | .tup xs, v, l, h => by
    unfold IsD at h
    obtain ⟨a, vs, rfl, h1, h2⟩ := h
    exact .tup h1 (IsDs.dp xs vs (by simpa [D.lay] using l) h2)
  | .dct _ _, v, l, h => by simp [D.lay] at l
  | .fn _, v, l, h => by simp [D.lay] at l
  | .scr _, v, l, h => by simp [D.lay] at l
theorem IsDs.dp {c : Cc} {H : Hp} : ∀ (ds : List D) (vs : List V), D.lays ds = true → IsDs c H ds vs → DpAll c.K H vs (D.toPs ds)
  | [], vs, l, h => by unfold IsDs at h; subst h; exact .nil
  | d :: ds, vs, l, h => by
    unfold IsDs at h
    obtain ⟨v, r, rfl, h1, h2⟩ := h
    simp only [D.lays, Bool.and_eq_true] at l
    exact .cons (IsD.dp d v l.1 h1) (IsDs.dp ds r l.2 h2)
end
theorem RepS.dp {c : Cc} {P : Addr → Prop} {H : Hp} {d : D} {v : V} (l : d.lay = true) (h : RepS c P H d v) : Dp c.K H v d.toP := by
  cases d with
  | lst ds =>
    obtain ⟨a, vs, rfl, h1, h2⟩ := h
    exact .lst (SqL.of h1) (IsDs.dp ds vs (by simpa [D.lay] using l) (h2.same hide_full))
  | dct _ _ => simp [D.lay] at l
  | _ => exact IsD.dp _ _ l (IsD.same (hide_full (P := P)) _ _ h)
def dEq (d1 d2 : D) : M D := if d1.ok && d2.ok then .ok (.bl (D.eqv d1 d2)) else stuck
def dNe (d1 d2 : D) : M D := if d1.ok && d2.ok then .ok (.bl (!D.eqv d1 d2)) else stuck
theorem dEq_nr : NoR2 dEq := fun d1 d2 k p h => by unfold dEq at h; split at h <;> cases h
theorem dNe_nr : NoR2 dNe := fun d1 d2 k p h => by unfold dNe at h; split at h <;> cases h
theorem vb_eq {c : Cc} : VB c (rEqD c.K) dEq := by
  intro P H x y d1 d2 d Q hP r1 r2 e k
  unfold dEq at e
  split at e
  · rename_i hk
    simp only [Bool.and_eq_true] at hk
    cases e
    exact ⟨_, _, r1.dp (ok_lay hk.1), r2.dp (ok_lay hk.2), ok_toP hk.1, ok_toP hk.2, by rw [eqv_toP _ _ (ok_lay hk.1) (ok_lay hk.2)]; exact k _ H (Same.refl _) isBl⟩
  · cases e
theorem vb_ne {c : Cc} : VB c (rNeD c.K) dNe := by
  intro P H x y d1 d2 d Q hP r1 r2 e k
  unfold dNe at e
  split at e
  · rename_i hk
    simp only [Bool.and_eq_true] at hk
    cases e
    exact ⟨_, _, r1.dp (ok_lay hk.1), r2.dp (ok_lay hk.2), ok_toP hk.1, ok_toP hk.2, by rw [eqv_toP _ _ (ok_lay hk.1) (ok_lay hk.2)]; exact k _ H (Same.refl _) isBl⟩
  · cases e

/-! ### in, not in: lists, tuples, one text in another -/
def inOk (d : D) (ds : List D) : Bool := d.ok && (D.lst ds).ok
def dIn : D → D → M D
  | d, .lst ds => if inOk d ds then .ok (.bl (ds.any fun z => D.eqv z d)) else stuck
  | d, .tup ds => if inOk d ds then .ok (.bl (ds.any fun z => D.eqv z d)) else stuck
  | _, _ => stuck
def dNotIn : D → D → M D
  | d, .lst ds => if inOk d ds then .ok (.bl (!ds.any fun z => D.eqv z d)) else stuck
  | d, .tup ds => if inOk d ds then .ok (.bl (!ds.any fun z => D.eqv z d)) else stuck
  | _, _ => stuck
theorem dIn_nr : NoR2 dIn := fun d1 d2 k p h => by unfold dIn at h; split at h <;> first | cases h | (split at h <;> cases h)
theorem dNotIn_nr : NoR2 dNotIn := fun d1 d2 k p h => by unfold dNotIn at h; split at h <;> first | cases h | (split at h <;> cases h)
def rInT (K : PySem.W.Frag) (neg : Bool) : R2 := fun x y H Q => ∃ d ds, Dp K H x d ∧ Dp K H y (.tuple ds) ∧ SeqAt.shaped d = true ∧ SeqAt.shaped (.list ds) = true ∧ Q (.bl (if neg then !ds.any (fun z => PyData.eqv z d) else ds.any fun z => PyData.eqv z d)) H
theorem op_inT {X : Cx} (hu : X.A.units + 65 < cLine) : OpR X (compareOp .In) (rInT X.K false) := by
  intro pins s σ H x y v u Q I rx ry ⟨d, ds, hd, he, sd, se, q⟩
  obtain ⟨as, r1⟩ := Dp.reads I d x v hd rx
  obtain ⟨bs, r2⟩ := Dp.reads I (.tuple ds) y u he ry
  exact SeqAt.in_tuple_reads r2 r1 (SeqAt.canLay_of_shaped se) (SeqAt.canLay_of_shaped sd) (room_in_shaped sd hu) ⟨.bl _, H, I, rfl, q⟩
theorem op_notInT {X : Cx} (hu : X.A.units + 65 < cLine) : OpR X (compareOp .NotIn) (rInT X.K true) := by
  intro pins s σ H x y v u Q I rx ry ⟨d, ds, hd, he, sd, se, q⟩
  obtain ⟨as, r1⟩ := Dp.reads I d x v hd rx
  obtain ⟨bs, r2⟩ := Dp.reads I (.tuple ds) y u he ry
  exact SeqAt.notIn_tuple_reads r2 r1 (SeqAt.canLay_of_shaped se) (SeqAt.canLay_of_shaped sd) (room_in_shaped sd hu) ⟨.bl _, H, I, rfl, q⟩
def rInD' (K : PySem.W.Frag) : R2 := fun x y H Q => rInD K x y H Q ∨ rInT K false x y H Q
def rNotInD' (K : PySem.W.Frag) : R2 := fun x y H Q => rNotInD K x y H Q ∨ rInT K true x y H Q
theorem op_inS {X : Cx} (hu : X.A.units + 65 < cLine) : OpR X (compareOp .In) (rInD' X.K) := OpR.or (op_inD hu) (op_inT hu)
theorem op_notInS {X : Cx} (hu : X.A.units + 65 < cLine) : OpR X (compareOp .NotIn) (rNotInD' X.K) := OpR.or (op_notInD hu) (op_notInT hu)
theorem toPs_map : ∀ ds : List D, D.toPs ds = ds.map D.toP
  | [] => rfl
  | d :: ds => by simp only [D.toPs, List.map_cons, toPs_map ds]
theorem lays_mem : ∀ {ds : List D} {z : D}, D.lays ds = true → z ∈ ds → z.lay = true
  | d :: ds, z, h, m => by
    simp only [D.lays, Bool.and_eq_true] at h
    rcases List.mem_cons.mp m with rfl | m
    · exact h.1
    · exact lays_mem h.2 m
theorem any_toP {d : D} {ds : List D} (hd : d.lay = true) (hs : D.lays ds = true) : ((D.toPs ds).any fun z => PyData.eqv z d.toP) = ds.any fun z => D.eqv z d := by
  rw [toPs_map, List.any_map]
  rw [Bool.eq_iff_iff]
  simp only [List.any_eq_true, Function.comp]
  constructor
  · rintro ⟨z, m, h⟩; exact ⟨z, m, by rw [← eqv_toP z d (lays_mem hs m) hd]; exact h⟩
  · rintro ⟨z, m, h⟩; exact ⟨z, m, by rw [eqv_toP z d (lays_mem hs m) hd]; exact h⟩
theorem inOk_of {d : D} {ds : List D} (h : inOk d ds = true) : d.lay = true ∧ D.lays ds = true ∧ SeqAt.shaped d.toP = true ∧ SeqAt.shaped (.list (D.toPs ds)) = true := by
  unfold inOk at h
  simp only [Bool.and_eq_true] at h
  have h2 := ok_lay h.2
  exact ⟨ok_lay h.1, by simpa [D.lay] using h2, ok_toP h.1, by have := ok_toP h.2; simpa only [D.toP] using this⟩
theorem vb_in {c : Cc} : VB c (rInD' c.K) dIn := by
  intro P H x y d1 d2 d Q hP r1 r2 e k
  unfold dIn at e
  split at e
  · split at e
    · rename_i hk
      cases e
      obtain ⟨h1, h2, h3, h4⟩ := inOk_of hk
      refine .inl ⟨_, _, r1.dp h1, ?_, h3, h4, by rw [any_toP h1 h2]; exact k _ H (Same.refl _) isBl⟩
      have := r2.dp (show (D.lst _).lay = true by simpa [D.lay] using h2)
      simpa only [D.toP] using this
    · cases e
  · split at e
    · rename_i hk
      cases e
      obtain ⟨h1, h2, h3, h4⟩ := inOk_of hk
      refine .inr ⟨_, _, r1.dp h1, ?_, h3, h4, by rw [any_toP h1 h2]; exact k _ H (Same.refl _) isBl⟩
      have := r2.dp (show (D.tup _).lay = true by simpa [D.lay] using h2)
      simpa only [D.toP] using this
    · cases e
  · cases e
theorem vb_notIn {c : Cc} : VB c (rNotInD' c.K) dNotIn := by
  intro P H x y d1 d2 d Q hP r1 r2 e k
  unfold dNotIn at e
  split at e
  · split at e
    · rename_i hk
      cases e
      obtain ⟨h1, h2, h3, h4⟩ := inOk_of hk
      refine .inl ⟨_, _, r1.dp h1, ?_, h3, h4, by rw [any_toP h1 h2]; exact k _ H (Same.refl _) isBl⟩
      have := r2.dp (show (D.lst _).lay = true by simpa [D.lay] using h2)
      simpa only [D.toP] using this
    · cases e
  · split at e
    · rename_i hk
      cases e
      obtain ⟨h1, h2, h3, h4⟩ := inOk_of hk
      refine .inr ⟨_, _, r1.dp h1, ?_, h3, h4, by rw [any_toP h1 h2]; exact k _ H (Same.refl _) isBl⟩
      have := r2.dp (show (D.tup _).lay = true by simpa [D.lay] using h2)
      simpa only [D.toP] using this
    · cases e
  · cases e

/-! ### is None -/
def dIsN : D → D → M D
  | .non, .non => .ok (.bl true)
  | _, .non => .ok (.bl false)
  | _, _ => stuck
def dNotN : D → D → M D
  | .non, .non => .ok (.bl false)
  | _, .non => .ok (.bl true)
  | _, _ => stuck
theorem dIsN_nr : NoR2 dIsN := fun d1 d2 k p h => by unfold dIsN at h; split at h <;> cases h
theorem dNotN_nr : NoR2 dNotN := fun d1 d2 k p h => by unfold dNotN at h; split at h <;> cases h
theorem RepS.ne_non {c : Cc} {P : Addr → Prop} {H : Hp} {d : D} {v : V} (h : RepS c P H d v) (hd : d ≠ .non) : v ≠ .non := by
  intro e
  subst e
  cases d with
  | non => exact hd rfl
  | lst ds => obtain ⟨a, vs, e, _⟩ := h; cases e
  | dct ks ws => obtain ⟨a, e, _⟩ := h; cases e
  | tup ds => obtain ⟨a, vs, e, _⟩ := h.tup; cases e
  | bl b => cases h.bl
  | int b => cases h.int
  | str b => cases h.str
  | fn i => unfold RepS IsD at h; obtain ⟨a, _, e⟩ := h; cases e
  | scr i => unfold RepS IsD at h; obtain ⟨a, e, _⟩ := h; cases e
theorem vb_isN {c : Cc} : VB c (fun x y H Q => y = .non ∧ Q (.bl (decide (x = .non))) H) dIsN := by
  intro P H x y d1 d2 d Q hP r1 r2 e k
  unfold dIsN at e
  split at e
  · cases e
    refine ⟨r2.non, ?_⟩
    rw [decide_eq_true r1.non]
    exact k _ H (Same.refl _) isBl
  · rename_i hn
    cases e
    refine ⟨r2.non, ?_⟩
    rw [decide_eq_false (r1.ne_non fun q => hn (by rw [q]))]
    exact k _ H (Same.refl _) isBl
  · cases e
theorem vb_notN {c : Cc} : VB c (fun x y H Q => y = .non ∧ Q (.bl (!decide (x = .non))) H) dNotN := by
  intro P H x y d1 d2 d Q hP r1 r2 e k
  unfold dNotN at e
  split at e
  · cases e
    refine ⟨r2.non, ?_⟩
    rw [decide_eq_true r1.non]
    exact k _ H (Same.refl _) isBl
  · rename_i hn
    cases e
    refine ⟨r2.non, ?_⟩
    rw [decide_eq_false (r1.ne_non fun q => hn (by rw [q]))]
    exact k _ H (Same.refl _) isBl
  · cases e
end Dn

/-! Dn5 -/
set_option Elab.async false
set_option linter.all false
set_option maxRecDepth 100000
set_option maxHeartbeats 1000000
/-! Dn5: tests, conditional values, displays, arguments, calls of built-ins, subscripts, slices. -/
namespace Dn
open PySem PySem.Spec L2
open PyProof.Rows hiding St

theorem and_l {a b : Bool} (h : (a && b) = true) : a = true := by simp only [Bool.and_eq_true] at h; exact h.1
theorem and_r {a b : Bool} (h : (a && b) = true) : b = true := by simp only [Bool.and_eq_true] at h; exact h.2

section
variable {X : Cx} {g : Ce} {W : WX} {pu pu1 pu2 pu3 sh sh1 sh2 sh3 : Bool} {m m1 m2 m3 : Ev} {a b e : Expr} {pos : Pos} {t t1 t2 : Tv} {rest : List Expr}

/-! ### tests -/
def dTb (m : Ev) : Tv := fun env => bnd (m env) fun p => match p.1 with
  | .bl k => .ok (k, p.2)
  | _ => stuck
theorem tT_of {c : Cc} {σ : St} {H : Hp} {Q : Bool → Hp → Prop} (h : tT c pu (dTb m) W σ H Q) : tE c pu false m W σ H (fun x H' => ∃ k, x = .bl k ∧ Q k H') := by
  obtain ⟨xs, env, S, w⟩ := h
  refine ⟨xs, env, S, Want.bind w fun d env' v H' e s r w' => ?_⟩
  have r' : RepS c _ H' d v := Rep.shell r
  dsimp only at w'
  split at w'
  · rename_i k
    exact ⟨k, r'.bl, w' k H' s rfl⟩
  · exact w'.elim
theorem t_cmp {op : CmpOp} {r : R2} {f : D → D → M D} (ho : OpR X (compareOp op) r) (hv : VB (cc X g) r f) (nr : NoR2 f) (hc : sh1 = false ∨ pu2 = true) (hm : behindInMarks op b = false) (ha : DE X g pu1 sh1 a m1 W) (hb : DE X g pu2 sh2 b m2 W) :
    DT X g (pu1 && pu2) (.Compare a [op] [b] pos) (dTb (dBin f m1 m2)) W := PT.imp (pt_cmpR ho ha hb hm) fun _ _ _ h => t_bin hv nr hc (tT_of h)

def truth : D → M Bool
  | .non => .ok false
  | .bl b => .ok b
  | .int i => .ok (i != 0)
  | .str x => if x.length ≤ maxSeq then .ok ((x.length : Int) != 0) else stuck
  | .tup xs => .ok (!xs.isEmpty)
  | .lst xs => .ok (!xs.isEmpty)
  | _ => stuck
def dTr (m : Ev) : Tv := fun env => bnd (m env) fun p => bnd (truth p.1) fun k => .ok (k, p.2)
theorem truth_nr {d : D} {k p} : truth d ≠ .error (.raise k p) := fun h => by
  unfold truth at h
  split at h <;> first | cases h | (split at h <;> cases h)
theorem isDs_empty {c : Cc} {H : Hp} {ds : List D} {vs : List V} (h : IsDs c H ds vs) : ds.isEmpty = vs.isEmpty := by
  have := h.len
  cases ds <;> cases vs <;> simp_all
theorem truth_of {c : Cc} {P : Addr → Prop} {H : Hp} {d : D} {v : V} {k : Bool} (h : truth d = .ok k) (r : RepS c P H d v) : TruV c.K v H k := by
  unfold truth at h
  split at h
  · cases h; rw [r.non]; rfl
  · cases h; rw [r.bl]; rfl
  · cases h; rw [r.int]; rfl
  · split at h
    · rename_i hz; cases h; rw [r.str]; exact ⟨by rw [maxSeq_eq]; exact hz, rfl⟩
    · cases h
  · cases h
    obtain ⟨a, vs, rfl, h1, h2⟩ := r.tup
    exact .inr (.inl ⟨vs, h1, by rw [isDs_empty h2]⟩)
  · cases h
    obtain ⟨a, vs, rfl, h1, h2⟩ := r.lst
    exact .inl ⟨vs, SqL.of h1, by rw [isDs_empty h2]⟩
  · cases h
theorem t_truth (he : ∀ whole, isTrue a X.env whole = (do let v ← whole; standAt a.pos; holding [v] (truthy v))) (ha : DE X g pu sh a m W) : DT X g pu a (dTr m) W := by
  refine PT.imp (pt_truth ha he) fun σ H Q ⟨xs, env, S, w⟩ => ⟨xs, env, S, Want.bind w fun d env' v H' e s r w' => ?_⟩
  cases q : truth d with
  | error x => cases x with
    | raise k p => exact absurd q truth_nr
    | stuck => rw [q] at w'; exact w'.elim
  | ok k =>
    rw [q] at w'
    exact ⟨k, truth_of (c := cc X g) q r.shell, w' k H' s rfl⟩

def dTNot (t : Tv) : Tv := fun env => bnd (t env) fun p => .ok (!p.1, p.2)
theorem t_not (h : DT X g pu a t W) : DT X g pu (.UnaryOp .Not a pos) (dTNot t) W :=
  PT.imp (pt_not h) fun σ H Q ⟨xs, env, S, w⟩ => ⟨xs, env, S, Want.bind w fun d env' v H' e s r w' => by subst r; exact w' _ H' s rfl⟩
def dTAnd (t1 t2 : Tv) : Tv := fun env => bnd (t1 env) fun p => if p.1 = true then t2 p.2 else .ok (false, p.2)
def dTOr (t1 t2 : Tv) : Tv := fun env => bnd (t1 env) fun p => if p.1 = true then .ok (true, p.2) else t2 p.2
theorem w_and1 (h : DT X g pu a t W) : DW X g pu (.BoolOp .And [a] pos) t W := pw_and1 h
theorem w_or1 (h : DT X g pu a t W) : DW X g pu (.BoolOp .Or [a] pos) t W := pw_or1 h
theorem w_and (h1 : DT X g pu1 a t1 W) (h2 : DW X g pu2 (.BoolOp .And (b :: rest) pos) t2 W) : DW X g (pu1 && pu2) (.BoolOp .And (a :: b :: rest) pos) (dTAnd t1 t2) W :=
  PW.imp (pw_and h1 h2) fun σ H Q ⟨xs, env, S, w⟩ => ⟨xs, env, S, Want.bind w fun d env' v H' e s r w' => by
    have r' : v = d := r
    subst r'
    dsimp only at w'
    cases v with
    | true => exact ⟨xs, env', s.st, Want.after s w'⟩
    | false => exact w' false H' (s.weak and_l) rfl⟩
theorem w_or (h1 : DT X g pu1 a t1 W) (h2 : DW X g pu2 (.BoolOp .Or (b :: rest) pos) t2 W) : DW X g (pu1 && pu2) (.BoolOp .Or (a :: b :: rest) pos) (dTOr t1 t2) W :=
  PW.imp (pw_or h1 h2) fun σ H Q ⟨xs, env, S, w⟩ => ⟨xs, env, S, Want.bind w fun d env' v H' e s r w' => by
    have r' : v = d := r
    subst r'
    dsimp only at w'
    cases v with
    | false => exact ⟨xs, env', s.st, Want.after s w'⟩
    | true => exact w' true H' (s.weak and_l) rfl⟩
theorem t_w (h : DW X g pu a t W) : DT X g pu a t W := h.pt

/-! ### and, or, not as values (bools, all but the last) -/
def dAndV (m1 m2 : Ev) : Ev := fun env => bnd (m1 env) fun p => match p.1 with
  | .bl true => m2 p.2
  | .bl false => .ok (.bl false, p.2)
  | _ => stuck
def dOrV (m1 m2 : Ev) : Ev := fun env => bnd (m1 env) fun p => match p.1 with
  | .bl true => .ok (.bl true, p.2)
  | .bl false => m2 p.2
  | _ => stuck
def dNotV (m : Ev) : Ev := fun env => bnd (m env) fun p => match p.1 with
  | .bl k => .ok (.bl (!k), p.2)
  | _ => stuck
theorem e_one {op} (h : DE X g pu sh a m W) : DE X g pu sh (.BoolOp op [a] pos) m W := pe_one h
/-- what a later part finds -/
theorem Want.afterE {α β : Type} {c : Cc} {xs : Addr → Prop} {env env' : En} {σ : St} {H H' : Hp} {R : α → En → β → Hp → Prop} {Q : β → Hp → Prop} {m : M (α × En)} (s : Stp c xs pu1 env env' σ H H') (h : Want c xs (pu1 && pu2) env σ H R W Q m) :
    Want c xs pu2 env' σ H' R W Q m := Want.after s h
theorem e_and (h1 : DE X g pu1 sh1 a m1 W) (h2 : DE X g pu2 sh (.BoolOp .And (b :: rest) pos) m2 W) : DE X g (pu1 && pu2) sh (.BoolOp .And (a :: b :: rest) pos) (dAndV m1 m2) W :=
  PE.imp (pe_and h1 h2) fun σ H Q ⟨xs, env, S, w⟩ => ⟨xs, env, S, Want.bind w fun d env' v H' e s r w' => by
    have r' := Rep.shell r
    dsimp only at w'
    split at w'
    · refine ⟨true, r'.bl, ?_⟩
      rw [if_pos rfl]
      refine ⟨xs, env', s.st, ?_⟩
      rw [s.hid]
      exact Want.after s w'
    · refine ⟨false, r'.bl, ?_⟩
      rw [if_neg Bool.false_ne_true]
      exact w' _ H' (s.weak and_l) (Rep.of isBl)
    · exact w'.elim⟩
theorem e_or (h1 : DE X g pu1 sh1 a m1 W) (h2 : DE X g pu2 sh (.BoolOp .Or (b :: rest) pos) m2 W) : DE X g (pu1 && pu2) sh (.BoolOp .Or (a :: b :: rest) pos) (dOrV m1 m2) W :=
  PE.imp (pe_or h1 h2) fun σ H Q ⟨xs, env, S, w⟩ => ⟨xs, env, S, Want.bind w fun d env' v H' e s r w' => by
    have r' := Rep.shell r
    dsimp only at w'
    split at w'
    · refine ⟨true, r'.bl, ?_⟩
      rw [if_pos rfl]
      exact w' _ H' (s.weak and_l) (Rep.of isBl)
    · refine ⟨false, r'.bl, ?_⟩
      rw [if_neg Bool.false_ne_true]
      refine ⟨xs, env', s.st, ?_⟩
      rw [s.hid]
      exact Want.after s w'
    · exact w'.elim⟩
theorem e_not (h : DE X g pu sh a m W) : DE X g pu false (.UnaryOp .Not a pos) (dNotV m) W :=
  PE.imp (pe_not h) fun σ H Q ⟨xs, env, S, w⟩ => ⟨xs, env, S, Want.bind w fun d env' v H' e s r w' => by
    have r' := Rep.shell r
    dsimp only at w'
    split at w'
    · exact ⟨_, r'.bl, w' _ H' s (Rep.of isBl)⟩
    · exact w'.elim⟩
/-! ### a if t else b -/
def dIf (t : Tv) (m1 m2 : Ev) : Ev := fun env => bnd (t env) fun p => if p.1 = true then m1 p.2 else m2 p.2
theorem e_if (ht : DT X g pu e t W) (h1 : DE X g pu1 sh a m1 W) (h2 : DE X g pu1 sh b m2 W) : DE X g (pu && pu1) sh (.IfExp e a b pos) (dIf t m1 m2) W :=
  PE.imp (pe_ifExp ht h1 h2) fun σ H Q ⟨xs, env, S, w⟩ => ⟨xs, env, S, Want.bind w fun d env' v H' e s r w' => by
    have r' : v = d := r
    subst r'
    dsimp only at w'
    cases v with
    | true =>
      rw [if_pos rfl]
      refine ⟨xs, env', s.st, ?_⟩
      rw [s.hid]
      exact Want.after s w'
    | false =>
      rw [if_neg Bool.false_ne_true]
      refine ⟨xs, env', s.st, ?_⟩
      rw [s.hid]
      exact Want.after s w'⟩
/-- chained comparisons -/
def dChain (f f' : D → D → M D) (m1 m2 m3 : Ev) : Ev := fun env => bnd (m1 env) fun p => bnd (m2 p.2) fun q => bnd (f p.1 q.1) fun k => match k with
  | .bl true => bnd (m3 q.2) fun r => bnd (f' q.1 r.1) fun d => .ok (d, r.2)
  | .bl false => .ok (.bl false, q.2)
  | _ => stuck
theorem t_chain' {r r' : R2} {f f' : D → D → M D} (hv : VB (cc X g) r f) (hv' : VB (cc X g) r' f') (nr : NoR2 f) (nr' : NoR2 f') {σ : St} {H : Hp} {Q : VK} (h : tE (cc X g) true false (dChain f f' m1 m2 m3) W σ H Q) :
    tChain r r' (tE (cc X g) true sh1 m1 W) (tE (cc X g) true sh2 m2 W) (tE (cc X g) true sh3 m3 W) σ H Q := by
  obtain ⟨xs, env, S, w⟩ := h
  refine ⟨xs, env, S, w.bind fun d1 env1 x H1 e1 s1 r1 w1 => ?_⟩
  refine ⟨xs, env1, s1.st, Want.bind (pu' := true) (Want.after s1 w1) fun d2 env2 y H2 e2 s2 r2 w2 => ?_⟩
  rw [← s1.hid] at r1
  have r1' := (s2.rep (.inr rfl) r1).shell
  have r2' := r2.shell
  have hP : ∀ a, Hid xs env1 σ a → H2 a ≠ none := fun a ha => s2.st.hid (by rw [s2.hid]; exact ha)
  cases q : f d1 d2 with
  | error e => cases e with
    | raise k p => exact absurd q (nr _ _ _ _)
    | stuck => rw [q] at w2; exact w2.elim
  | ok d =>
    rw [q] at w2
    refine hv (Hid xs env1 σ) H2 x y d1 d2 d _ hP r1' r2' q fun v H3 k hd => ?_
    dsimp only [bnd] at w2
    split at w2
    · have hv := (RepS.of hd).bl
      subst hv
      refine ⟨true, rfl, ?_⟩
      rw [if_pos rfl]
      refine ⟨xs, env2, s2.st.same k, Want.bind (pu' := true) (Want.after (s2.grow k) w2) fun d3 env3 z H4 e3 s3 r3 w3 => ?_⟩
      have r2'' : RepS (cc X g) (Hid xs env1 σ) H4 d2 y := ((RepS.same k r2').same (s3.pr rfl).2)
      have r3' := r3.shell
      rw [s2.hid] at r3'
      cases q' : f' d2 d3 with
      | error e => cases e with
        | raise k p => exact absurd q' (nr' _ _ _ _)
        | stuck => rw [q'] at w3; exact w3.elim
      | ok d' =>
        rw [q'] at w3
        refine hv' (Hid xs env1 σ) H4 y z d2 d3 d' Q (fun a ha => s3.st.hid (by rw [s3.hid, s2.hid]; exact ha)) r2'' r3' q' fun v' H5 k' hd' => ?_
        rw [s1.hid] at hd'
        exact w3 v' H5 (s3.grow k') hd'
    · have hv := (RepS.of hd).bl
      subst hv
      refine ⟨false, rfl, ?_⟩
      rw [if_neg Bool.false_ne_true]
      exact w2 _ H3 (s2.grow k) (Rep.of isBl)
    · exact w2.elim
theorem e_chain {op op' : CmpOp} {r r' : R2} {f f' : D → D → M D} (ho : OpR X (compareOp op) r) (ho' : OpR X (compareOp op') r') (hv : VB (cc X g) r f) (hv' : VB (cc X g) r' f') (nr : NoR2 f) (nr' : NoR2 f')
    (hm : lastMarks [op, op'] [b, e] = false) (ha : DE X g true sh1 a m1 W) (hb : DE X g true sh2 b m2 W) (he : DE X g true sh3 e m3 W) : DE X g true false (.Compare a [op, op'] [b, e] pos) (dChain f f' m1 m2 m3) W :=
  PE.imp (pe_chain ho ho' ha hb he hm) fun _ _ _ h => t_chain' hv hv' nr nr' h
theorem t_chain {op op' : CmpOp} {r r' : R2} {f f' : D → D → M D} (ho : OpR X (compareOp op) r) (ho' : OpR X (compareOp op') r') (hv : VB (cc X g) r f) (hv' : VB (cc X g) r' f') (nr : NoR2 f) (nr' : NoR2 f')
    (hm : lastMarks [op, op'] [b, e] = false) (ha : DE X g true sh1 a m1 W) (hb : DE X g true sh2 b m2 W) (he : DE X g true sh3 e m3 W) : DT X g true (.Compare a [op, op'] [b, e] pos) (dTb (dChain f f' m1 m2 m3)) W :=
  PT.imp (pt_chain ho ho' ha hb he hm) fun _ _ _ h => t_chain' hv hv' nr nr' (tT_of h)
end
end Dn

/-! Dn6 -/
set_option Elab.async false
set_option linter.all false
set_option maxRecDepth 100000
set_option maxHeartbeats 1000000
/-! Dn6: arguments, displays, calls of built-ins, subscripts, slices. -/
namespace Dn
open PySem PySem.Spec L2
open PyProof.Rows hiding St

section
variable {X : Cx} {g : Ce} {W : WX} {pu pu1 pu2 pu3 sh sh1 sh2 sh3 : Bool} {m m1 m2 m3 : Ev} {a b e : Expr} {es : List Expr} {pos : Pos} {ma : Av} {shs : List Bool}

/-! ### arguments -/
def dNil : Av := fun env => .ok ([], env)
def dCons (m : Ev) (ms : Av) : Av := fun env => bnd (m env) fun p => bnd (ms p.2) fun q => .ok (p.1 :: q.1, q.2)
theorem a_nil : DA X g true [] [] dNil W := PA.imp pa_nil fun σ H Q ⟨xs, env, S, w⟩ => w [] H (.refl S) trivial
theorem Stp.reps {c : Cc} {xs : Addr → Prop} {env env' : En} {σ : St} {H H' : Hp} (s : Stp c xs pu env env' σ H H') : ∀ {shs : List Bool} {ds : List D} {vs : List V}, (shs.all (!·) = true ∨ pu = true) → Reps c (Hid xs env σ) H shs ds vs → Reps c (Hid xs env σ) H' shs ds vs
  | [], [], [], _, r => r
  | s' :: ss, d :: ds, v :: vs, h, r => by
    obtain ⟨r1, r2⟩ := r
    refine ⟨s.rep ?_ r1, Stp.reps s ?_ r2⟩
    · rcases h with h | h
      · simp only [List.all_cons, Bool.and_eq_true] at h
        exact .inl (by simpa using h.1)
      · exact .inr h
    · rcases h with h | h
      · simp only [List.all_cons, Bool.and_eq_true] at h
        exact .inl h.2
      · exact .inr h
  | [], [], _ :: _, _, r => r.elim
  | [], _ :: _, _, _, r => r.elim
  | _ :: _, [], _, _, r => r.elim
  | _ :: _, _ :: _, [], _, r => r.elim
theorem a_cons (hc : sh = false ∨ pu2 = true) (h1 : DE X g pu1 sh e m W) (h2 : DA X g pu2 shs es ma W) (hs : starEach (e :: es) X.env = (false, eval e X.env) :: starEach es X.env := by rfl) : DA X g (pu1 && pu2) (sh :: shs) (e :: es) (dCons m ma) W :=
  PA.imp (pa_cons h1 h2 hs) fun σ H Q ⟨xs, env, S, w⟩ => ⟨xs, env, S, Want.bind w fun d env1 v H1 e1 s1 r1 w1 => by
    refine ⟨xs, env1, s1.st, Want.bind (pu' := pu2) (Want.after s1 w1) fun ds env2 vs H2 e2 s2 r2 w2 => ?_⟩
    rw [← s1.hid] at r1
    have r1' := s2.rep hc r1
    rw [s1.hid] at r1' r2
    exact w2 (v :: vs) H2 s2 ⟨r1', r2⟩⟩

/-! ### displays -/
def dTup (ms : Av) : Ev := fun env => bnd (ms env) fun p => if p.1.length ≤ maxSeq then .ok (.tup p.1, p.2) else stuck
def dLst (ms : Av) : Ev := fun env => bnd (ms env) fun p => if p.1.length ≤ maxSeq then .ok (.lst p.1, p.2) else stuck
theorem Reps.clean {c : Cc} {P : Addr → Prop} {H : Hp} : ∀ {shs : List Bool} {ds : List D} {vs : List V}, shs.all (!·) = true → Reps c P H shs ds vs → IsDs c (hide H P) ds vs
  | [], [], [], _, _ => IsDs.nil
  | s :: ss, d :: ds, v :: vs, h, ⟨r1, r2⟩ => by
    simp only [List.all_cons, Bool.and_eq_true] at h
    have e : s = false := by simpa using h.1
    subst e
    exact IsDs.cons r1 (Reps.clean h.2 r2)
  | [], [], _ :: _, _, r => r.elim
  | [], _ :: _, _, _, r => r.elim
  | _ :: _, [], _, _, r => r.elim
  | _ :: _, _ :: _, [], _, r => r.elim
theorem e_tup {x1} (hs : shs.all (!·) = true) (h : DA X g pu shs es ma W) : DE X g pu false (.Tuple es x1 pos) (dTup ma) W :=
  PE.imp (pe_tup h) fun σ H Q ⟨xs, env, S, w⟩ => ⟨xs, env, S, Want.bind w fun ds env' vs H' e s r w' => by
    have c := r.clean hs
    dsimp only at w'
    split at w'
    · rename_i hz
      refine ⟨by rw [maxSeq_eq, ← c.len]; exact hz, fun p hp => ?_⟩
      refine w' _ _ (s.grow (same_new hp)) (Rep.of ?_)
      exact isNewT hp (fun a ha => s.st.hid (by rw [s.hid]; exact ha)) c
    · exact w'.elim⟩
/-- a new list -/
theorem RepF.lst {c : Cc} {xs : Addr → Prop} {env env' : En} {σ : St} {H H' : Hp} {ds : List D} {vs : List V} (s : Stp c xs pu env env' σ H H') (r : IsDs c (hide H' (Hid xs env σ)) ds vs) {p : Addr} (hp : H' p = none) (h0 : H p = none) :
    RepF c xs σ H (.lst ds) env' (.ref p) (upd H' p (.lst vs)) := by
  refine ⟨p, _, rfl, h0, upd_same, s.st.newX (same_new hp) hp upd_same, vs, rfl, r.same ?_⟩
  intro b o hb
  obtain ⟨h1, h2⟩ := hide_some hb
  have ne : b ≠ p := ne_of_none h2 hp
  rw [s.hid, hide_of fun z => z.elim h1 ne, upd_ne ne]
  exact h2
/-- a new object by values, behind a step -/
theorem RepV.step {c : Cc} {xs : Addr → Prop} {env env' : En} {σ : St} {H H' H2 : Hp} {d : D} {v : V} (s : Stp c xs pu env env' σ H H') (S : StOk c xs env σ H) (k : Same H' H2) (r : RepV c (Hid xs env σ) H' H2 d v) (hf : ∀ p, H' p = none → H p = none) : RepF c xs σ H d env' v H2 := by
  obtain ⟨a, o, e1, e2, e3, e4⟩ := r
  exact ⟨a, o, e1, hf a e2, e3, s.st.newX k e2 e3, by rw [s.hid]; exact e4⟩
theorem Stp.free {c : Cc} {xs : Addr → Prop} {env env' : En} {σ : St} {H H' : Hp} (s : Stp c xs pu env env' σ H H') (S : StOk c xs env σ H) {p : Addr} (hp : H' p = none) : H p = none := by
  cases q : H p with
  | none => rfl
  | some o =>
    by_cases hP : Hid xs env σ p
    · exact absurd hp (s.st.hid (by rw [s.hid]; exact hP))
    · have := s.smH p o (by rw [hide_of hP]; exact q)
      rw [hide_of hP, hp] at this; cases this
theorem f_lst (hs : shs.all (!·) = true) (h : DA X g pu shs es ma W) : DF X g pu (.List es pos) (dLst ma) W :=
  PE.imp (pe_lst h) fun σ H Q ⟨xs, env, S, w⟩ => ⟨xs, env, S, Want.bind w fun ds env' vs H' e s r w' => by
    have c := r.clean hs
    dsimp only at w'
    split at w'
    · rename_i hz
      refine ⟨by rw [maxSeq_eq, ← c.len]; exact hz, fun p hp => ?_⟩
      exact w' _ _ (s.grow (same_new hp)) (RepF.lst s c hp (s.free S hp))
    · exact w'.elim⟩

/-! ### calls of built-ins by values -/
abbrev RC := List V → Hp → VK → Prop
def RepsS (c : Cc) (P : Addr → Prop) (H : Hp) : List D → List V → Prop
  | [], [] => True
  | d :: ds, v :: vs => RepS c P H d v ∧ RepsS c P H ds vs
  | _, _ => False
theorem Reps.shell {c : Cc} {P : Addr → Prop} {H : Hp} : ∀ {shs : List Bool} {ds : List D} {vs : List V}, Reps c P H shs ds vs → RepsS c P H ds vs
  | [], [], [], _ => trivial
  | s :: ss, d :: ds, v :: vs, ⟨r1, r2⟩ => ⟨r1.shell, Reps.shell r2⟩
  | [], [], _ :: _, r => r.elim
  | [], _ :: _, _, r => r.elim
  | _ :: _, [], _, r => r.elim
  | _ :: _, _ :: _, [], r => r.elim
/-- a built-in's call, of data -/
def VC (c : Cc) (r : RC) (f : List D → M D) : Prop := ∀ (P : Addr → Prop) (H : Hp) (vs : List V) (ds : List D) (d : D) (Q : VK), (∀ a, P a → H a ≠ none) → RepsS c P H ds vs →
  f ds = .ok d → (∀ v H', Same H H' → IsD c (hide H' P) d v → Q v H') → r vs H Q
/-- .. that makes a new object -/
def VCF (c : Cc) (r : RC) (f : List D → M D) : Prop := ∀ (P : Addr → Prop) (H : Hp) (vs : List V) (ds : List D) (d : D) (Q : VK), (∀ a, P a → H a ≠ none) → RepsS c P H ds vs →
  f ds = .ok d → (∀ v H', Same H H' → RepV c P H H' d v → Q v H') → r vs H Q
def NoRL (f : List D → M D) : Prop := ∀ ds k p, f ds ≠ .error (.raise k p)
def dCall (f : List D → M D) (ms : Av) : Ev := fun env => bnd (ms env) fun p => bnd (f p.1) fun d => .ok (d, p.2)
theorem t_callB {r : RC} {f : List D → M D} (hv : VC (cc X g) r f) (nr : NoRL f) {σ : St} {H : Hp} {Q : VK} (h : tE (cc X g) pu false (dCall f ma) W σ H Q) : tCB r (tA (cc X g) pu shs ma W) σ H Q := by
  obtain ⟨xs, env, S, w⟩ := h
  refine ⟨xs, env, S, Want.bind w fun ds env' vs H' e s r w' => ?_⟩
  cases q : f ds with
  | error x => cases x with
    | raise k p => exact absurd q (nr _ _ _)
    | stuck => rw [q] at w'; exact w'.elim
  | ok d =>
    rw [q] at w'
    exact hv (Hid xs env σ) H' vs ds d Q (fun a ha => s.st.hid (by rw [s.hid]; exact ha)) r.shell q fun v H2 k hd => w' v H2 (s.grow k) (Rep.of hd)
theorem t_callF {r : RC} {f : List D → M D} (hv : VCF (cc X g) r f) (nr : NoRL f) {σ : St} {H : Hp} {Q : VK} (h : tF (cc X g) pu (dCall f ma) W σ H Q) : tCB r (tA (cc X g) pu shs ma W) σ H Q := by
  obtain ⟨xs, env, S, w⟩ := h
  refine ⟨xs, env, S, Want.bind w fun ds env' vs H' e s r w' => ?_⟩
  cases q : f ds with
  | error x => cases x with
    | raise k p => exact absurd q (nr _ _ _)
    | stuck => rw [q] at w'; exact w'.elim
  | ok d =>
    rw [q] at w'
    refine hv (Hid xs env σ) H' vs ds d Q (fun a ha => s.st.hid (by rw [s.hid]; exact ha)) r.shell q fun v H2 k hr => w' v H2 (s.grow k) (hr.step s S k fun p hp => s.free S hp)
variable {x : Str} {p : Pos} {id T : String} {r : RC} {f : List D → M D}
theorem e_callB (hc : CallR X (.builtin id) r) (hv : VC (cc X g) r f) (nr : NoRL f) (hg : Gl X x) (hm : X.mg x = none) (hb : bootBuiltins x = some (.builtin id)) (ha : DA X g pu shs (e :: es) ma W) (hn : x ≠ "__name__" := by decide) (hdb : (x == ("__debug__" : Str)) = false := by decide)
    (he : starEach (e :: es) X.env = (false, eval e X.env) :: starEach es X.env := by rfl) (hpl : (backTo pos (starEach es X.env)).any (·.1) = false := by rfl) : DE X g pu false (.Call (.Name x p) (e :: es) [] pos) (dCall f ma) W :=
  PE.imp (pe_callB hc hg hm hb ha hn hdb he hpl) fun _ _ _ h => t_callB hv nr h
theorem f_callB (hc : CallR X (.builtin id) r) (hv : VCF (cc X g) r f) (nr : NoRL f) (hg : Gl X x) (hm : X.mg x = none) (hb : bootBuiltins x = some (.builtin id)) (ha : DA X g pu shs (e :: es) ma W) (hn : x ≠ "__name__" := by decide) (hdb : (x == ("__debug__" : Str)) = false := by decide)
    (he : starEach (e :: es) X.env = (false, eval e X.env) :: starEach es X.env := by rfl) (hpl : (backTo pos (starEach es X.env)).any (·.1) = false := by rfl) : DF X g pu (.Call (.Name x p) (e :: es) [] pos) (dCall f ma) W :=
  PE.imp (pe_callB hc hg hm hb ha hn hdb he hpl) fun _ _ _ h => t_callF hv nr h
theorem e_callT (hc : CallR X (.type T) r) (hv : VC (cc X g) r f) (nr : NoRL f) (hg : Gl X x) (hm : X.mg x = none) (hb : bootBuiltins x = some (.type T)) (ha : DA X g pu shs (e :: es) ma W) (hn : x ≠ "__name__" := by decide) (hdb : (x == ("__debug__" : Str)) = false := by decide)
    (he : starEach (e :: es) X.env = (false, eval e X.env) :: starEach es X.env := by rfl) (hpl : (backTo pos (starEach es X.env)).any (·.1) = false := by rfl) : DE X g pu false (.Call (.Name x p) (e :: es) [] pos) (dCall f ma) W :=
  PE.imp (pe_callTy hc hg hm hb ha hn hdb he hpl) fun _ _ _ h => t_callB hv nr h
theorem f_callT (hc : CallR X (.type T) r) (hv : VCF (cc X g) r f) (nr : NoRL f) (hg : Gl X x) (hm : X.mg x = none) (hb : bootBuiltins x = some (.type T)) (ha : DA X g pu shs (e :: es) ma W) (hn : x ≠ "__name__" := by decide) (hdb : (x == ("__debug__" : Str)) = false := by decide)
    (he : starEach (e :: es) X.env = (false, eval e X.env) :: starEach es X.env := by rfl) (hpl : (backTo pos (starEach es X.env)).any (·.1) = false := by rfl) : DF X g pu (.Call (.Name x p) (e :: es) [] pos) (dCall f ma) W :=
  PE.imp (pe_callTy hc hg hm hb ha hn hdb he hpl) fun _ _ _ h => t_callF hv nr h
/-- a new object is a value -/
theorem VCF.val {c : Cc} {r : RC} {f : List D → M D} (h : VCF c r f) : VC c r f := fun P H vs ds d Q hP hr hf k => h P H vs ds d Q hP hr hf fun v H' s ⟨a, o, e1, e2, e3, e4⟩ => k v H' s (by
  subst e1
  exact e4.isD e3 fun z => hP a z e2)

/-! ### subscripts -/
theorem e_ix {r : R2} {f : D → D → M D} (ho : IxR X r) (hv : VB (cc X g) r f) (nr : NoR2 f) (hc : sh1 = false ∨ pu2 = true) (ha : DE X g pu1 sh1 a m1 W) (hb : DE X g pu2 sh2 b m2 W) (hs : PlainIx b) : DE X g (pu1 && pu2) false (.Subscript a b pos) (dBin f m1 m2) W :=
  PE.imp (pe_ix ho ha hb hs) fun _ _ _ h => t_bin hv nr hc h
def dIx : D → D → M D
  | .lst xs, .int i => match atI xs i with
    | some d => .ok d
    | none => stuck
  | .tup xs, .int i => match atI xs i with
    | some d => .ok d
    | none => stuck
  | .str x, .int i => if x.length ≤ maxSeq then (match atI x.cps.toList i with
    | some k => .ok (.str ⟨#[k]⟩)
    | none => stuck) else stuck
  | _, _ => stuck
theorem dIx_nr : NoR2 dIx := fun d1 d2 k p h => by
  unfold dIx at h
  split at h
  · split at h <;> cases h
  · split at h <;> cases h
  · split at h
    · split at h <;> cases h
    · cases h
  · cases h
theorem atI_rep {c : Cc} {H : Hp} {ds : List D} {vs : List V} {i : Int} {d : D} (r : IsDs c H ds vs) (h : atI ds i = some d) : ∃ v, atI vs i = some v ∧ IsD c H d v := by
  unfold atI at h ⊢
  rw [← r.len]
  cases q : ixN ds.length i with
  | none => rw [q] at h; cases h
  | some j =>
    rw [q] at h
    obtain ⟨v, h1, h2⟩ := r.getD (show ds[j]? = some d from h)
    exact ⟨v, h1, h2⟩
theorem vb_ix {c : Cc} : VB c (rIx c.K) dIx := by
  intro P H x y d1 d2 d Q hP r1 r2 e k
  unfold dIx at e
  split at e
  · split at e
    · rename_i q
      cases e
      obtain ⟨a, vs, rfl, h1, h2⟩ := r1.lst
      obtain ⟨v, h3, h4⟩ := atI_rep h2 q
      exact .inl ⟨a, vs, _, v, rfl, r2.int, SqL.of h1, h3, k v H (Same.refl _) h4⟩
    · cases e
  · split at e
    · rename_i q
      cases e
      obtain ⟨a, vs, rfl, h1, h2⟩ := r1.tup
      obtain ⟨v, h3, h4⟩ := atI_rep h2 q
      exact .inr (.inl ⟨a, vs, _, v, rfl, r2.int, h1, h3, k v H (Same.refl _) h4⟩)
    · cases e
  · split at e
    · rename_i hz
      split at e
      · rename_i q
        cases e
        exact .inr (.inr ⟨_, _, _, r1.str, r2.int, by rw [maxSeq_eq]; exact hz, q, k _ H (Same.refl _) isStr⟩)
      · cases e
    · cases e
  · cases e

/-! ### slices -/
abbrev Ov := En → M (Option Int × En)
def tO (c : Cc) (pu : Bool) (m : Ov) (W : WX) : TO := fun σ H Q => ∃ xs env, StOk c xs env σ H ∧ Want c xs pu env σ H (fun d _ v _ => v = d) W Q (m env)
abbrev DO (X : Cx) (g : Ce) (pu : Bool) (e : Option Expr) (m : Ov) (W : WX) : Prop := PO X e (tO (cc X g) pu m W)
theorem PO.imp {X : Cx} {e : Option Expr} {t t' : TO} (h : PO X e t) (k : ∀ σ H Q, t' σ H Q → t σ H Q) : PO X e t' := ⟨fun pins s σ H Q I w => h.run pins s σ H Q I (k _ _ _ w)⟩
def dONone : Ov := fun env => .ok (none, env)
def dOSome (m : Ev) : Ov := fun env => bnd (m env) fun p => match p.1 with
  | .int i => .ok (some i, p.2)
  | _ => stuck
theorem o_none : DO X g true none dONone W := PO.imp po_none fun σ H Q ⟨xs, env, S, w⟩ => w _ H (.refl S) rfl
theorem o_some (h : DE X g pu sh e m W) : DO X g pu (some e) (dOSome m) W := PO.imp (po_some h) fun σ H Q ⟨xs, env, S, w⟩ => ⟨xs, env, S, Want.bind w fun d env' v H' e s r w' => by
  have r' := Rep.shell r
  dsimp only at w'
  split at w'
  · exact ⟨_, r'.int, w' _ H' s rfl⟩
  · exact w'.elim⟩
def cutD {α : Type} (xs : List α) (lo hi : Option Int) : List α := (xs.drop (HT.sIx xs.length 0 lo)).take (HT.sIx xs.length xs.length hi - HT.sIx xs.length 0 lo)
def dSlice1 : D → Option Int → Option Int → M D
  | .lst xs, lo, hi => .ok (.lst (cutD xs lo hi))
  | .tup xs, lo, hi => .ok (.tup (cutD xs lo hi))
  | .str x, lo, hi => if x.length ≤ maxSeq then .ok (.str ⟨(cutD x.cps.toList lo hi).toArray⟩) else stuck
  | _, _, _ => stuck
end
end Dn

/-! Dn7 -/
set_option Elab.async false
set_option linter.all false
set_option maxRecDepth 100000
set_option maxHeartbeats 1000000
/-! Dn7: slots set; statements; own calls; defs. -/
namespace Dn
open PySem PySem.Spec L2
open PyProof.Rows hiding St

section
variable {c : Cc} {xs : Addr → Prop} {env env' : En} {σ σ' : St} {H H' H0 : Hp} {pu : Bool}
theorem owns_set_va {i : Nat} {d : D} {v : V} {a : Addr} (h : Owns (env.set i (.va d)) (σ.set i (some v)) a) : Owns env σ a := by
  obtain ⟨j, e, h1, h2⟩ := h
  by_cases hj : i = j
  · subst hj
    rw [List.getElem?_set] at h1
    rw [if_pos rfl] at h1
    split at h1 <;> cases h1
  · rw [List.getElem?_set_ne hj] at h1 h2
    exact ⟨j, e, h1, h2⟩
theorem owns_set_un {i : Nat} {o : Option V} {a : Addr} (h : Owns (env.set i .un) (σ.set i o) a) : Owns env σ a := by
  obtain ⟨j, e, h1, h2⟩ := h
  by_cases hj : i = j
  · subst hj
    rw [List.getElem?_set] at h1
    rw [if_pos rfl] at h1
    split at h1 <;> cases h1
  · rw [List.getElem?_set_ne hj] at h1 h2
    exact ⟨j, e, h1, h2⟩
theorem StOk.setVa (S : StOk c xs env σ H) (i : Nat) {d : D} {v : V} (h : IsD c (hide H (Hid xs env σ)) d v) : StOk c xs (env.set i (.va d)) (σ.set i (some v)) H := by
  have sub : Same (hide H (Hid xs env σ)) (hide H (Hid xs (env.set i (.va d)) (σ.set i (some v)))) := hide_sub fun a z => z.elim (fun z => .inl (owns_set_va z)) .inr
  refine ⟨by simp [S.len], fun a h => ⟨(S.xb a h).1, fun z => (S.xb a h).2 (owns_set_va z)⟩, fun j e he => ?_, fun j e he => ?_, fun j k e f a h1 h2 h3 h4 => ?_⟩
  · by_cases hj : i = j
    · subst hj
      rw [List.getElem?_set, if_pos rfl] at he
      split at he
      · rename_i hl
        cases he
        exact ⟨v, by rw [List.getElem?_set, if_pos rfl, if_pos (by rw [← S.len]; exact hl)], h.same sub⟩
      · cases he
    · rw [List.getElem?_set_ne hj] at he
      obtain ⟨u, h1, h2⟩ := S.va j e he
      exact ⟨u, by rw [List.getElem?_set_ne hj]; exact h1, h2.same sub⟩
  · by_cases hj : i = j
    · subst hj
      rw [List.getElem?_set, if_pos rfl] at he
      split at he <;> cases he
    · rw [List.getElem?_set_ne hj] at he
      obtain ⟨a, o, h1, h2, h3⟩ := S.ow j e he
      exact ⟨a, o, by rw [List.getElem?_set_ne hj]; exact h1, h2, h3.same sub⟩
  · have nj : i ≠ j := fun z => by
      subst z
      rw [List.getElem?_set, if_pos rfl] at h1
      split at h1 <;> cases h1
    have nk : i ≠ k := fun z => by
      subst z
      rw [List.getElem?_set, if_pos rfl] at h2
      split at h2 <;> cases h2
    rw [List.getElem?_set_ne nj] at h1 h3
    rw [List.getElem?_set_ne nk] at h2 h4
    exact S.inj j k e f a h1 h2 h3 h4
theorem StOk.setUn (S : StOk c xs env σ H) (i : Nat) (o : Option V) : StOk c xs (env.set i .un) (σ.set i o) H := by
  have sub : Same (hide H (Hid xs env σ)) (hide H (Hid xs (env.set i .un) (σ.set i o))) := hide_sub fun a z => z.elim (fun z => .inl (owns_set_un z)) .inr
  refine ⟨by simp [S.len], fun a h => ⟨(S.xb a h).1, fun z => (S.xb a h).2 (owns_set_un z)⟩, fun j e he => ?_, fun j e he => ?_, fun j k e f a h1 h2 h3 h4 => ?_⟩
  · by_cases hj : i = j
    · subst hj
      rw [List.getElem?_set, if_pos rfl] at he
      split at he <;> cases he
    · rw [List.getElem?_set_ne hj] at he
      obtain ⟨u, h1, h2⟩ := S.va j e he
      exact ⟨u, by rw [List.getElem?_set_ne hj]; exact h1, h2.same sub⟩
  · by_cases hj : i = j
    · subst hj
      rw [List.getElem?_set, if_pos rfl] at he
      split at he <;> cases he
    · rw [List.getElem?_set_ne hj] at he
      obtain ⟨a, o, h1, h2, h3⟩ := S.ow j e he
      exact ⟨a, o, by rw [List.getElem?_set_ne hj]; exact h1, h2, h3.same sub⟩
  · have nj : i ≠ j := fun z => by
      subst z
      rw [List.getElem?_set, if_pos rfl] at h1
      split at h1 <;> cases h1
    have nk : i ≠ k := fun z => by
      subst z
      rw [List.getElem?_set, if_pos rfl] at h2
      split at h2 <;> cases h2
    rw [List.getElem?_set_ne nj] at h1 h3
    rw [List.getElem?_set_ne nk] at h2 h4
    exact S.inj j k e f a h1 h2 h3 h4
theorem owns_set_ow {i : Nat} {d : D} {b a : Addr} (h : Owns (env.set i (.ow d)) (σ.set i (some (.ref b))) a) : Owns env σ a ∨ a = b := by
  obtain ⟨j, e, h1, h2⟩ := h
  by_cases hj : i = j
  · subst hj
    rw [List.getElem?_set, if_pos rfl] at h2
    split at h2
    · cases h2; exact .inr rfl
    · cases h2
  · rw [List.getElem?_set_ne hj] at h1 h2
    exact .inl ⟨j, e, h1, h2⟩
theorem StOk.setOw (S : StOk c xs env σ H) (i : Nat) {d : D} {a : Addr} {o : HO} (n : ¬ Hid xs env σ a) (ho : H a = some o) (h : ObjRep c (hide H (fun b => Hid xs env σ b ∨ b = a)) d o)
    (hv : ∀ (j : Nat) (e : D) (v : V), env[j]? = some (Sl.va e) → σ[j]? = some (some v) → IsD c (hide H (fun b => Hid xs env σ b ∨ b = a)) e v)
    (hw : ∀ (j : Nat) (e : D) (b : Addr) (u : HO), env[j]? = some (Sl.ow e) → σ[j]? = some (some (V.ref b)) → H b = some u → ObjRep c (hide H (fun b => Hid xs env σ b ∨ b = a)) e u) :
    StOk c xs (env.set i (.ow d)) (σ.set i (some (.ref a))) H := by
  have sub : Same (hide H (fun b => Hid xs env σ b ∨ b = a)) (hide H (Hid xs (env.set i (.ow d)) (σ.set i (some (.ref a))))) := hide_sub fun b z => by
    rcases z with z | z
    · rcases owns_set_ow z with z | z
      · exact .inl (.inl z)
      · exact .inr z
    · exact .inl (.inr z)
  refine ⟨by simp [S.len], fun b hb => ⟨(S.xb b hb).1, fun z => ?_⟩, fun j e he => ?_, fun j e he => ?_, fun j k e f b h1 h2 h3 h4 => ?_⟩
  · rcases owns_set_ow z with z | z
    · exact (S.xb b hb).2 z
    · rw [z] at hb; exact n (.inr hb)
  · by_cases hj : i = j
    · subst hj
      rw [List.getElem?_set, if_pos rfl] at he
      split at he <;> cases he
    · rw [List.getElem?_set_ne hj] at he
      obtain ⟨u, h1, h2⟩ := S.va j e he
      exact ⟨u, by rw [List.getElem?_set_ne hj]; exact h1, (hv j e u he h1).same sub⟩
  · by_cases hj : i = j
    · subst hj
      rw [List.getElem?_set, if_pos rfl] at he
      split at he
      · rename_i hl
        cases he
        exact ⟨a, o, by rw [List.getElem?_set, if_pos rfl, if_pos (by rw [← S.len]; exact hl)], ho, h.same sub⟩
      · cases he
    · rw [List.getElem?_set_ne hj] at he
      obtain ⟨b, u, h1, h2, h3⟩ := S.ow j e he
      exact ⟨b, u, by rw [List.getElem?_set_ne hj]; exact h1, h2, (hw j e b u he h1 h2).same sub⟩
  · by_cases hj : i = j
    · by_cases hk : i = k
      · rw [← hj, ← hk]
      · subst hj
        rw [List.getElem?_set_ne hk] at h2 h4
        rw [List.getElem?_set, if_pos rfl] at h3
        split at h3
        · cases h3
          exact absurd (.inl ⟨k, f, h2, h4⟩) n
        · cases h3
    · rw [List.getElem?_set_ne hj] at h1 h3
      by_cases hk : i = k
      · subst hk
        rw [List.getElem?_set, if_pos rfl] at h4
        split at h4
        · cases h4
          exact absurd (.inl ⟨j, e, h1, h3⟩) n
        · cases h4
      · rw [List.getElem?_set_ne hk] at h2 h4
        exact S.inj j k e f b h1 h2 h3 h4
theorem isOw_get0 {env env' : En} {j : Nat} (h : env[j]? = env'[j]?) : isOw env j = isOw env' j := by unfold isOw; rw [h]
/-- a fresh object behind an evaluation goes to a slot -/
theorem Stp.setOw (S : StOk c xs env σ H) (s : Stp c xs pu env env' σ H H') (i : Nat) (h0 : isOw env' 0 = true → i ≠ 0) {d : D} {v : V} (r : RepF c xs σ H d env' v H') :
    StOk c xs (env'.set i (.ow d)) (σ.set i (some v)) H' ∧ Kept env σ H (env'.set i (.ow d)) (σ.set i (some v)) H' := by
  obtain ⟨a, o, rfl, n, ho, sx, h⟩ := r
  have e : (Hid (fun b => xs b ∨ b = a) env' σ) = fun b => Hid xs env' σ b ∨ b = a := by
    funext b; apply propext
    constructor
    · rintro (z | z | z)
      · exact .inl (.inl z)
      · exact .inl (.inr z)
      · exact .inr z
    · rintro ((z | z) | z)
      · exact .inl z
      · exact .inr (.inl z)
      · exact .inr (.inr z)
  have na : ¬ Hid xs env' σ a := by rw [s.hid]; exact S.newHid n
  refine ⟨StOk.setOw s.st i na ho h (fun j e' v h1 h2 => ?_) (fun j e' b u h1 h2 h3 => ?_), ⟨fun b u hb => ?_, s.th, fun h => ?_, by rw [List.length_set]⟩⟩
  · obtain ⟨v', h3, h4⟩ := sx.va j e' h1
    rw [h2] at h3; cases h3
    rw [← e]; exact h4
  · obtain ⟨b', u', h4, h5, h6⟩ := sx.ow j e' h1
    rw [h2] at h4; cases h4
    rw [h3] at h5; cases h5
    rw [← e]; exact h6
  · obtain ⟨h1, h2⟩ := hide_some hb
    have h3 := s.sm b u hb
    have ne := ne_of_none h2 n
    rw [hide_of fun z => (owns_set_ow z).elim (fun z => h1 (by rw [← s.own]; exact z)) ne]
    exact (hide_some h3).2
  · rw [← s.shp 0] at h
    have hi := h0 h
    exact ⟨(isOw_get0 (by rw [List.getElem?_set_ne hi])).trans h, by rw [List.getElem?_set_ne hi]⟩
end

/-! ### own defs -/
/-- run out of a body: what is handed back -/
def fin : M (Fl × En) → M D
  | .ok (.nx, _) => .ok .non
  | .ok (.rt d, _) => .ok d
  | .ok (.rf d, _) => .ok d
  | .ok (.ro i, env) => match env[i]? with
    | some (.ow d) => .ok d
    | _ => stuck
  | .ok _ => stuck
  | .error e => .error e
/-- the state at a def's entry -/
def enter (n : Nat) (ds : List D) : En := ds.map Sl.va ++ List.replicate (n - ds.length) Sl.un

/-- a def that changes none of its arguments -/
def spP (c : Cc) (n : Nat) (f : List D → M D) : Sp := fun vs H Q E => ∃ (xs : Addr → Prop) (ds : List D), ds.length = n ∧ (∀ a, xs a → H a ≠ none) ∧ IsDs c (hide H xs) ds vs ∧
  match f ds with
  | .ok d => ∀ v H', Same H H' → IsD c (hide H' xs) d v → Q v H'
  | .error (.raise k p) => ∀ cls dd H', Same H H' → ExcRep c H' k p cls dd → E cls dd H'
  | .error .stuck => False
/-- .. and hands back a new object -/
def spF (c : Cc) (n : Nat) (f : List D → M D) : Sp := fun vs H Q E => ∃ (xs : Addr → Prop) (ds : List D), ds.length = n ∧ (∀ a, xs a → H a ≠ none) ∧ IsDs c (hide H xs) ds vs ∧
  match f ds with
  | .ok d => ∀ v H', Same H H' → RepV c xs H H' d v → Q v H'
  | .error (.raise k p) => ∀ cls dd H', Same H H' → ExcRep c H' k p cls dd → E cls dd H'
  | .error .stuck => False
/-- a def that may change its first argument's object -/
def spO (c : Cc) (n : Nat) (f : D → List D → M (D × D)) : Sp := fun vs H Q E => ∃ (xs : Addr → Prop) (a : Addr) (o : HO) (s : D) (ds : List D) (ws : List V), vs = .ref a :: ws ∧ ds.length = n ∧ (∀ b, xs b → H b ≠ none ∧ b ≠ a) ∧
  H a = some o ∧ ObjRep c (hide H (fun b => b = a ∨ xs b)) s o ∧ IsDs c (hide H (fun b => b = a ∨ xs b)) ds ws ∧
  match f s ds with
  | .ok (d, s') => ∀ v H' o', Same (hide H (· = a)) (hide H' (· = a)) → H' a = some o' → ObjRep c (hide H' (fun b => b = a ∨ xs b)) s' o' → IsD c (hide H' (fun b => b = a ∨ xs b)) d v → Q v H'
  | .error (.raise k p) => ∀ cls dd H', Same (hide H (· = a)) H' → ExcRep c H' k p cls dd → E cls dd H'
  | .error .stuck => False

section
variable {P : Program} {w : World} {K : PySem.W.Frag} {mg : Str → Option Value} {base : Heap} {g : Ce}
abbrev ck (K : PySem.W.Frag) (g : Ce) : Cc := ⟨K, g.fa, g.ec, g.en⟩
theorem enter_get {n : Nat} {ds : List D} {i : Nat} {s : Sl} (h : (enter n ds)[i]? = some s) : (∃ d, ds[i]? = some d ∧ s = .va d) ∨ s = .un := by
  unfold enter at h
  rw [List.getElem?_append] at h
  split at h
  · rw [List.getElem?_map] at h
    cases q : ds[i]? with
    | none => rw [q] at h; cases h
    | some d => rw [q] at h; cases h; exact .inl ⟨d, rfl, rfl⟩
  · rw [List.getElem?_replicate] at h
    split at h
    · cases h; exact .inr rfl
    · cases h
theorem enter_owns {n : Nat} {ds : List D} {σ : St} {a : Addr} : ¬ Owns (enter n ds) σ a := fun ⟨i, d, h, _⟩ => by
  rcases enter_get h with ⟨e, _, h⟩ | h <;> cases h
theorem enter_ok {N : List Str} {ds : List D} {vs : List V} {H : Hp} {c : Cc} {xs : Addr → Prop} (hN : ds.length ≤ N.length) (hx : ∀ a, xs a → H a ≠ none) (r : IsDs c (hide H xs) ds vs) : StOk c xs (enter N.length ds) (L2.start N vs) H := by
  refine ⟨?_, fun a h => ⟨hx a h, enter_owns⟩, fun i d h => ?_, fun i d h => ?_, fun i j d e a h => ?_⟩
  · unfold enter L2.start
    simp [r.len]
  · rcases enter_get h with ⟨e, h1, h2⟩ | h
    · cases h2
      obtain ⟨v, h3, h4⟩ := r.getD h1
      have q : (L2.start N vs)[i]? = some (some v) := by
        unfold L2.start
        rw [List.getElem?_append_left (by rw [List.length_map]; exact (List.getElem?_eq_some_iff.mp h3).1), List.getElem?_map, h3]
        rfl
      have k : Same (hide H xs) (hide H (Hid xs (enter N.length ds) (L2.start N vs))) := hide_sub fun a z => z.elim (fun z => (enter_owns z).elim) id
      exact ⟨v, q, h4.same k⟩
    · cases h
  · rcases enter_get h with ⟨e, _, h⟩ | h <;> cases h
  · rcases enter_get h with ⟨e, _, h⟩ | h <;> cases h

/-! ### where one stands -/
def lookB (sc : Scope) (x : Str) : Option NameKind := sc.names.lookup x
/-- nn: every error of its own has no context -/
def CXn (nn : Bool) (P : Program) (w : World) : CXT := match nn with
  | true => L2N.CX P w
  | false => L2.CX P w
def Tk (nn : Bool) (X : Cx) (W : WX) : Prop := match nn with
  | true => L2N.Takes X W
  | false => L2.Takes X W
structure Cok (nn : Bool) (X : Cx) (W : WX) (P : Program) (w : World) (K : PySem.W.Frag) (mg : Str → Option Value) (base : Heap) (N : List Str) (sc : Scope) (k : Nat) (bk : Bool) : Prop where
  eP : X.prog = P
  ew : X.w = w
  eK : X.K = K
  em : X.mg = mg
  eb : X.base = base
  eN : X.N = N
  es : X.env.scope = sc
  calm : X.calm = true
  room : Room k X.A
  nd : N.Nodup
  fn : bk = false → ∀ x : Str, X.fn x = true
  tk : Tk nn X W
  own : bk = false → PassesOwn (model X.prog X.w) X.A X.env X.xe
  sf : bk = false → X.stack = X.env :: X.outer ∧ X.env.frame = some X.env.locals

/-- the outcome of a body, wanted as a promise wants it -/
theorem body_end {c : Cc} {N : List Str} {ds : List D} {vs : List V} {H : Hp} {xs : Addr → Prop} {Q : VK} {E : XK} {r : M (Fl × En)}
    (h : match fin r with
      | .ok d => ∀ v H', Same H H' → IsD c (hide H' xs) d v → Q v H'
      | .error (.raise k p) => ∀ cls dd H', Same H H' → ExcRep c H' k p cls dd → E cls dd H'
      | .error .stuck => False) :
    WantS c xs (enter N.length ds) (L2.start N vs) H (fun cls d _ H => E cls d H) { nx := fun _ H' => Q .non H', rt := Q } r := by
  have own0 : ∀ {H' : Hp}, Same (hide H (Owns (enter N.length ds) (L2.start N vs))) H' → Same H H' := fun k b o e => k b o (by rw [hide_of enter_owns]; exact e)
  cases r with
  | error e => cases e with
    | raise k p => exact fun cls dd σ' H' _ k' r => h cls dd H' (own0 k') r
    | stuck => exact h
  | ok p =>
    obtain ⟨fl, env'⟩ := p
    cases fl with
    | nx => exact fun σ' H' S' k => h _ H' (own0 (Same.trans k.sm hide_full)) isNon
    | bk => exact h.elim
    | ct => exact h.elim
    | rt d => exact fun σ' v H' S' k hd => h v H' (own0 (Same.trans k.sm hide_full)) (hd.same (hide_sub fun a z => .inr z))
    | rf d =>
      rintro σ' v H' S' k ⟨a, o, e1, e2, e3, e4, e5⟩
      subst e1
      refine h _ H' (own0 (Same.trans k.sm hide_full)) (ObjRep.isD (e5.same (hide_sub fun b z => ?_)) e3 fun z => e4 (.inr z))
      rcases z with z | z
      · exact .inl (.inr z)
      · exact .inr z
    | ro i =>
      rintro σ' a H' S' k hi ⟨d, hd⟩
      obtain ⟨b, o, e1, e2, e3⟩ := S'.ow i d hd
      rw [hi] at e1; cases e1
      unfold fin at h
      simp only [hd] at h
      refine h _ H' (own0 (Same.trans k.sm hide_full)) (ObjRep.isD (e3.same ?_) e2 fun z => (S'.xb a z).2 ⟨i, d, hd, hi⟩)
      refine hide_sub fun b z => ?_
      rcases z with z | z
      · exact .inr z
      · subst z; exact .inl ⟨i, d, hd, hi⟩
/-- .. a new object -/
theorem body_endF {c : Cc} {N : List Str} {ds : List D} {vs : List V} {H : Hp} {xs : Addr → Prop} {Q : VK} {E : XK} {r : M (Fl × En)} (hnf : ∀ d env, r ≠ .ok (.rt d, env)) (hnx : ∀ env, r ≠ .ok (.nx, env))
    (h : match fin r with
      | .ok d => ∀ v H', Same H H' → RepV c xs H H' d v → Q v H'
      | .error (.raise k p) => ∀ cls dd H', Same H H' → ExcRep c H' k p cls dd → E cls dd H'
      | .error .stuck => False) :
    WantS c xs (enter N.length ds) (L2.start N vs) H (fun cls d _ H => E cls d H) { nx := fun _ H' => Q .non H', rt := Q } r := by
  have own0 : ∀ {H' : Hp}, Same (hide H (Owns (enter N.length ds) (L2.start N vs))) H' → Same H H' := fun k b o e => k b o (by rw [hide_of enter_owns]; exact e)
  cases r with
  | error e => cases e with
    | raise k p => exact fun cls dd σ' H' _ k' r => h cls dd H' (own0 k') r
    | stuck => exact h
  | ok p =>
    obtain ⟨fl, env'⟩ := p
    cases fl with
    | nx => exact absurd rfl (hnx _)
    | bk => exact h.elim
    | ct => exact h.elim
    | rt d => exact absurd rfl (hnf _ _)
    | rf d =>
      rintro σ' v H' S' k ⟨a, o, e1, e2, e3, e4, e5⟩
      subst e1
      refine h _ H' (own0 (Same.trans k.sm hide_full)) ⟨a, o, rfl, e2, e3, e5.same (hide_sub fun b z => ?_)⟩
      rcases z with z | z
      · exact .inl (.inr z)
      · exact .inr z
    | ro i =>
      rintro σ' a H' S' k hi ⟨d, hd⟩
      obtain ⟨b, o, e1, e2, e3⟩ := S'.ow i d hd
      rw [hi] at e1; cases e1
      unfold fin at h
      simp only [hd] at h
      have n : H a = none := by
        cases q : H a with
        | none => rfl
        | some u =>
          have := k.sm a u (by rw [hide_of enter_owns]; exact q)
          exact absurd (show Owns env' σ' a from ⟨i, d, hd, hi⟩) (hide_some this).1
      refine h _ H' (own0 (Same.trans k.sm hide_full)) ⟨a, o, rfl, n, e2, e3.same (hide_sub fun b z => ?_)⟩
      rcases z with z | z
      · exact .inr z
      · subst z; exact .inl ⟨i, d, hd, hi⟩

abbrev PaOk (X : Cx) : Prop := ∀ hd : Option Value, PassesOwnAt (model X.prog X.w) (X.A.mark hd) X.A X.env X.xe
theorem ctx_def {nn : Bool} {N ps : List Str} {k : Nat} {qual : Str} {st : Stmt} {f : Addr} (S : FnScope N ps (defScope st)) {cdv : Value} {A : Around} {outer : List Env} {s : Shared} {H : Hp} {E : XK} (hr : Room k (A.deeper (envOfC qual (defScope st) s.heap.objs.size f cdv))) :
    Cok nn (cxOf (CXn nn P w) P w K mg base N qual (defScope st) f cdv A outer s H E) (fun cls d _ H => E cls d H) P w K mg base N (defScope st) k false :=
  ⟨rfl, rfl, rfl, rfl, rfl, rfl, rfl, rfl, hr, S.nd, fun _ _ => rfl, by cases nn <;> first | exact L2.takes_of rfl rfl rfl rfl | exact L2N.takes_of rfl rfl rfl rfl, fun _ => passes_of rfl, fun _ => ⟨rfl, rfl⟩⟩

theorem fun_ok {CX : CXT} {x qual : Str} {st : Stmt} {f : Addr} {fd : FuncData} {N ps : List Str} {k : Nat} {sp : Sp} (F : Fun K x qual st f fd) (S : FnScope N ps (defScope st)) (len : ∀ vs H Q E, sp vs H Q E → vs.length = ps.length)
    (hbody : ∀ (cdv : Value) (A : Around) (outer : List Env) (s : Shared) (H : Hp) (vs : List V) (Q : VK) (E : XK), Room k (A.deeper (envOfC qual (defScope st) s.heap.objs.size f cdv)) → sp vs H Q E →
      ∃ t, PSs (cxOf CX P w K mg base N qual (defScope st) f cdv A outer s H E) (defBody st) t ∧ t { nx := fun _ H' => Q .non H', rt := Q } (L2.start N vs) H) : FnOk P w K mg base CX (k + 1) f fd ps sp := by
  obtain ⟨oc, od, kV, doc, pm, an, cdv, ct, osl, rfl, lk, hcd⟩ := F.ex
  exact fn_of lk hcd S len fun A outer s H vs Q E hr hsp => hbody cdv A outer s H vs Q E hr hsp
/-- THE RULE for a def that changes none of its arguments -/
theorem def_pure {nn : Bool} {x qual : Str} {st : Stmt} {f : Addr} {fd : FuncData} {N ps : List Str} {k : Nat} {mf : List D → M D} {body : Sv} (F : Fun K x qual st f fd) (S : FnScope N ps (defScope st)) (hN : ps.length ≤ N.length) (hf : ∀ ds, mf ds = fin (body (enter N.length ds)))
    (hbody : ∀ (X : Cx) (W : WX), Cok nn X W P w K mg base N (defScope st) k false → PaOk X → DSs X g (defBody st) body W) :
    FnOk P w K mg base (CXn nn P w) (k + 1) f fd ps (spP (ck K g) ps.length mf) := by
  refine fun_ok F S (fun vs H Q E ⟨xs, ds, h1, h2, h3, _⟩ => by rw [← h3.len, h1]) (fun cdv A outer s H vs Q E hr ⟨xs, ds, h1, h2, h3, h⟩ => ?_)
  refine ⟨_, hbody _ _ (ctx_def S hr) (L2H.passesAt_of rfl), xs, enter N.length ds, enter_ok (by rw [h1]; exact hN) h2 h3, ?_⟩
  rw [hf] at h
  exact body_end h
/-- .. that hands back a new object -/
theorem def_fresh {nn : Bool} {x qual : Str} {st : Stmt} {f : Addr} {fd : FuncData} {N ps : List Str} {k : Nat} {mf : List D → M D} {body : Sv} (F : Fun K x qual st f fd) (S : FnScope N ps (defScope st)) (hN : ps.length ≤ N.length) (hf : ∀ ds, mf ds = fin (body (enter N.length ds)))
    (hnf : ∀ ds d env, body (enter N.length ds) ≠ .ok (.rt d, env)) (hnx : ∀ ds env, body (enter N.length ds) ≠ .ok (.nx, env))
    (hbody : ∀ (X : Cx) (W : WX), Cok nn X W P w K mg base N (defScope st) k false → PaOk X → DSs X g (defBody st) body W) :
    FnOk P w K mg base (CXn nn P w) (k + 1) f fd ps (spF (ck K g) ps.length mf) := by
  refine fun_ok F S (fun vs H Q E ⟨xs, ds, h1, h2, h3, _⟩ => by rw [← h3.len, h1]) (fun cdv A outer s H vs Q E hr ⟨xs, ds, h1, h2, h3, h⟩ => ?_)
  refine ⟨_, hbody _ _ (ctx_def S hr) (L2H.passesAt_of rfl), xs, enter N.length ds, enter_ok (by rw [h1]; exact hN) h2 h3, ?_⟩
  rw [hf] at h
  exact body_endF (hnf ds) (hnx ds) h
end
end Dn

/-! Dn8 -/
set_option Elab.async false
set_option linter.all false
set_option maxRecDepth 100000
set_option maxHeartbeats 1000000
/-! Dn8: names, calls of own defs, plain statements. -/
namespace Dn
open PySem PySem.Spec L2
open PyProof.Rows hiding St

section
variable {X : Cx} {W : WX} {P : Program} {w : World} {K : PySem.W.Frag} {mg : Str → Option Value} {base : Heap} {N : List Str} {sc : Scope} {k : Nat} {bk nn : Bool} {g : Ce}
variable {pu pu1 pu2 sh sh1 sh2 : Bool} {m m1 m2 : Ev} {a b e : Expr} {es : List Expr} {pos p : Pos} {ma : Av} {shs : List Bool} {x : Str}

/-! ### names -/
def visB (sc : Scope) (x : Str) : Bool := match sc.names.lookup x with
  | some .local | some .cell | some .free => true
  | _ => false
def locB (sc : Scope) (x : Str) : Bool := match sc.names.lookup x with
  | some .local | some .cell => true
  | _ => false
def gloB (sc : Scope) (x : Str) : Bool := match sc.names.lookup x with
  | some .globalImplicit => true
  | _ => false
theorem visB_of (h : visB sc x = true) : Vis sc x := by
  unfold visB at h
  split at h
  · rename_i q; exact .inl q
  · rename_i q; exact .inr (.inl q)
  · rename_i q; exact .inr (.inr q)
  · cases h
theorem locB_of (h : locB sc x = true) : Loc sc x := by
  unfold locB at h
  split at h
  · rename_i q; exact .inl q
  · rename_i q; exact .inr q
  · cases h
theorem gloB_of (C : Cok nn X W P w K mg base N sc k bk) (h : gloB sc x = true) : Gl X x := by
  unfold gloB at h
  split at h
  · rename_i q
    show X.env.scope.names.lookup x = _
    rw [C.es]; exact q
  · cases h
theorem n_pe (C : Cok nn X W P w K mg base N sc k bk) (i : Nat) (x : Str) (hi : N[i]? = some x) (hv : visB sc x = true) (hd : (x == ("__debug__" : Str)) = false) (hcd : (x == ("__classdict__" : Str)) = false) : PE X (.Name x pos) (tVar i) :=
  pe_var (by rw [C.eN]; exact hi) (by rw [C.es]; exact visB_of hv) hd hcd
theorem n_var (C : Cok nn X W P w K mg base N sc k bk) (i : Nat) (x : Str) (hi : N[i]? = some x) (hv : visB sc x = true) (hd : (x == ("__debug__" : Str)) = false) (hcd : (x == ("__classdict__" : Str)) = false) : DE X g true false (.Name x pos) (dVar i) W := e_var i (n_pe C i x hi hv hd hcd)
theorem n_varO (C : Cok nn X W P w K mg base N sc k bk) (i : Nat) (x : Str) (hi : N[i]? = some x) (hv : visB sc x = true) (hd : (x == ("__debug__" : Str)) = false) (hcd : (x == ("__classdict__" : Str)) = false) : DE X g true true (.Name x pos) (dVarO i) W := e_varO i (n_pe C i x hi hv hd hcd)
theorem n_pg (C : Cok nn X W P w K mg base N sc k false) (i : Nat) (x : Str) (hi : N[i]? = some x) (hv : locB sc x = true) : PG X (.Name x pos) (gName i) := by
  have hl := locB_of hv
  refine pg_name (by rw [C.eN]; exact C.nd) (by rw [C.eN]; exact hi) (by rw [C.es]; exact hl) ?_
  rcases hl with h | h
  · exact .inr (by rw [C.es]; exact h)
  · exact .inl (C.fn rfl x)
/-- a module's int constant -/
theorem n_const (C : Cok nn X W P w K mg base N sc k bk) {i : Int} {t : Tok} (hg : gloB sc x = true) (hm : mg x = some (.int i t)) (hd : (x == ("__debug__" : Str)) = false) : DE X g true false (.Name x pos) (dC (.int i)) W :=
  e_const (pe_glob (v := .int i) (u := .int i t) (gloB_of C hg) (by rw [C.em]; exact hm) ⟨t, rfl⟩ hd) fun _ _ => isInt
/-- a def as a value -/
theorem n_fn (C : Cok nn X W P w K mg base N sc k bk) {i : Nat} {f : Addr} (hg : gloB sc x = true) (hm : mg x = some (.ref f)) (hf : g.fa i = some f) (hd : (x == ("__debug__" : Str)) = false) : DE X g true false (.Name x pos) (dC (.fn i)) W :=
  e_const' (pe_glob (v := .ref f) (gloB_of C hg) (by rw [C.em]; exact hm) rfl hd) fun H => by unfold IsD; exact ⟨f, hf, rfl⟩
where
  e_const' {X : Cx} {W : WX} {g : Ce} {e : Expr} {d : D} {v : V} (h : PE X e (tC v)) (k : ∀ H, IsD (cc X g) H d v) : DE X g true false e (dC d) W := PE.imp h fun σ H Q ⟨xs, env, S, w⟩ => w v H (.refl S) (k _)

/-! ### calls of own defs -/
theorem Reps.len {c : Cc} {Z : Addr → Prop} {H : Hp} : ∀ {shs : List Bool} {ds : List D} {vs : List V}, Reps c Z H shs ds vs → ds.length = shs.length
  | [], [], [], _ => rfl
  | _ :: ss, d :: ds, v :: vs, ⟨_, r2⟩ => by simp [Reps.len r2]
  | [], [], _ :: _, r => r.elim
  | [], _ :: _, _, r => r.elim
  | _ :: _, [], _, r => r.elim
  | _ :: _, _ :: _, [], r => r.elim
theorem t_callP {mf : List D → M D} (hs : shs.all (!·) = true) {σ : St} {H : Hp} {Q : VK} (h : tE (cc X g) pu false (dCall mf ma) W σ H Q) : tCallS (spP (cc X g) shs.length mf) (WE W) (tA (cc X g) pu shs ma W) σ H Q := by
  obtain ⟨xs, env, S, w⟩ := h
  refine ⟨xs, env, S, Want.bind w fun ds env' vs H' e s r w' => ?_⟩
  refine ⟨Hid xs env σ, ds, r.len, fun a ha => s.st.hid (by rw [s.hid]; exact ha), r.clean hs, ?_⟩
  dsimp only at w'
  cases q : mf ds with
  | error x =>
    rw [q] at w'
    cases x with
    | raise kk p => exact fun cls dd H2 k2 hx => w' cls dd H2 (s.sm.trans (Same.trans hide_full k2)) hx
    | stuck => exact w'.elim
  | ok d =>
    rw [q] at w'
    exact fun v H2 k2 hd => w' v H2 (s.grow k2) (Rep.of hd)
theorem t_callPF {mf : List D → M D} (hs : shs.all (!·) = true) {σ : St} {H : Hp} {Q : VK} (h : tF (cc X g) pu (dCall mf ma) W σ H Q) : tCallS (spF (cc X g) shs.length mf) (WE W) (tA (cc X g) pu shs ma W) σ H Q := by
  obtain ⟨xs, env, S, w⟩ := h
  refine ⟨xs, env, S, Want.bind w fun ds env' vs H' e s r w' => ?_⟩
  refine ⟨Hid xs env σ, ds, r.len, fun a ha => s.st.hid (by rw [s.hid]; exact ha), r.clean hs, ?_⟩
  dsimp only at w'
  cases q : mf ds with
  | error x =>
    rw [q] at w'
    cases x with
    | raise kk p => exact fun cls dd H2 k2 hx => w' cls dd H2 (s.sm.trans (Same.trans hide_full k2)) hx
    | stuck => exact w'.elim
  | ok d =>
    rw [q] at w'
    exact fun v H2 k2 hr => w' v H2 (s.grow k2) (hr.step s S k2 fun p hp => s.free S hp)
end
/-! nothing but tuples and plain values -/
mutual
def D.flat : D → Bool
  | .non | .bl _ | .int _ | .str _ => true
  | .tup xs => D.flats xs
  | _ => false
def D.flats : List D → Bool
  | [] => true
  | x :: xs => D.flat x && D.flats xs
end
mutual
theorem flat_hide {c : Cc} {H : Hp} {Z Z' : Addr → Prop} (hz : ∀ a ys, Z' a → ¬ Z a → ¬ Rd H a (.tup ys)) : ∀ (d : D) (v : V), d.flat = true → IsD c (hide H Z) d v → IsD c (hide H Z') d v
  | .non, v, _, h => by unfold IsD at h ⊢; exact h
  | .bl _, v, _, h => by unfold IsD at h ⊢; exact h
  | .int _, v, _, h => by unfold IsD at h ⊢; exact h
  | .str _, v, _, h => by unfold IsD at h ⊢; exact h
  | .tup xs, v, f, h => by
    unfold IsD at h ⊢
    obtain ⟨a, vs, e1, e2, e3⟩ := h
    refine ⟨a, vs, e1, ?_, flats_hide hz xs vs (by simpa [D.flat] using f) e3⟩
    rcases e2 with e2 | e2
    · have hn : ¬ Z a := by
        rcases e2 with e2 | ⟨o, e2⟩
        · exact (hide_some e2).1
        · exact (hide_some e2).1
      have hr : Rd H a (.tup vs) := Rd.same hide_full e2
      have hz' : ¬ Z' a := fun z => hz a vs z hn hr
      rcases hr with hr | ⟨o, hr⟩
      · exact .inl (.inl (by rw [hide_of hz']; exact hr))
      · exact .inl (.inr ⟨o, by rw [hide_of hz']; exact hr⟩)
    · exact .inr e2
  | .lst _, v, f, h => by simp [D.flat] at f
  | .dct _ _, v, f, h => by simp [D.flat] at f
  | .fn _, v, f, h => by simp [D.flat] at f
  | .scr _, v, f, h => by simp [D.flat] at f
theorem flats_hide {c : Cc} {H : Hp} {Z Z' : Addr → Prop} (hz : ∀ a ys, Z' a → ¬ Z a → ¬ Rd H a (.tup ys)) : ∀ (ds : List D) (vs : List V), D.flats ds = true → IsDs c (hide H Z) ds vs → IsDs c (hide H Z') ds vs
  | [], vs, _, h => by unfold IsDs at h ⊢; exact h
  | d :: ds, vs, f, h => by
    unfold IsDs at h ⊢
    obtain ⟨v, r, e1, e2, e3⟩ := h
    simp only [D.flats, Bool.and_eq_true] at f
    exact ⟨v, r, e1, flat_hide hz d v f.1 e2, flats_hide hz ds r f.2 e3⟩
end
/-- a shell, seen by who may read all but some tuples -/
def TupsOf (Z : Addr → Prop) (H : Hp) : Addr → Prop := fun b => Z b ∧ ∃ ys, Rd H b (.tup ys)
theorem notTup_lst {H : Hp} {a : Addr} {vs : List V} (h : H a = some (.lst vs)) (ys : List V) : ¬ Rd H a (.tup ys) := fun r => by
  rcases r with r | ⟨o, r⟩ <;> (rw [h] at r; cases r)
theorem notTup_dK {H : Hp} {a : Addr} {kvs : List (Key × V)} (h : Rd H a (.dK kvs)) (ys : List V) : ¬ Rd H a (.tup ys) := fun r => by
  rcases h with h | ⟨u, h⟩ <;> rcases r with r | ⟨o, r⟩ <;> (rw [h] at r; cases r)
theorem notTup_dT {H : Hp} {a : Addr} {kvs : List (List Key × V)} (h : Rd H a (.dT kvs)) (ys : List V) : ¬ Rd H a (.tup ys) := fun r => by
  rcases h with h | ⟨u, h⟩ <;> rcases r with r | ⟨o, r⟩ <;> (rw [h] at r; cases r)
theorem rd_hide {H : Hp} {Z : Addr → Prop} {a : Addr} {o : HO} (h : Rd H a o) (n : ¬ Z a) : Rd (hide H Z) a o := by
  rcases h with h | ⟨u, h⟩
  · exact .inl (by rw [hide_of n]; exact h)
  · exact .inr ⟨u, by rw [hide_of n]; exact h⟩
theorem RepS.open {c : Cc} {Z : Addr → Prop} {H : Hp} {d : D} {v : V} (r : RepS c Z H d v) : IsD c (hide H (TupsOf Z H)) d v := by
  have sub : Same (hide H Z) (hide H (TupsOf Z H)) := hide_sub fun a z => z.1
  cases d with
  | lst ds =>
    obtain ⟨a, vs, rfl, h1, h2⟩ := r
    unfold IsD
    exact ⟨a, vs, rfl, by rw [hide_of fun ⟨_, ys, z⟩ => notTup_lst h1 ys z]; exact h1, h2.same sub⟩
  | dct ks ws =>
    obtain ⟨a, rfl, kvs, h1, h2, h3⟩ := r
    unfold IsD
    exact ⟨a, rfl, kvs, rd_hide h1 fun ⟨_, ys, z⟩ => notTup_dK h1 ys z, h2, h3.same sub⟩
  | _ => exact IsD.same sub _ _ r
theorem RepsS.open {c : Cc} {Z : Addr → Prop} {H : Hp} : ∀ {ds : List D} {vs : List V}, RepsS c Z H ds vs → IsDs c (hide H (TupsOf Z H)) ds vs
  | [], [], _ => IsDs.nil
  | d :: ds, v :: vs, ⟨r1, r2⟩ => IsDs.cons r1.open (RepsS.open r2)
  | [], _ :: _, r => r.elim
  | _ :: _, [], r => r.elim

section
variable {X : Cx} {W : WX} {P : Program} {w : World} {K : PySem.W.Frag} {mg : Str → Option Value} {base : Heap} {N : List Str} {sc : Scope} {k : Nat} {bk nn : Bool} {g : Ce}
variable {pu pu1 pu2 sh sh1 sh2 : Bool} {m m1 m2 : Ev} {a b e : Expr} {es : List Expr} {pos p : Pos} {ma : Av} {shs : List Bool} {x : Str}
/-- a call that is handed lists of one's own: what comes back must be flat -/
def dCallS (f : List D → M D) (ms : Av) : Ev := fun env => bnd (ms env) fun p => bnd (f p.1) fun d => if d.flat = true then .ok (d, p.2) else stuck
theorem t_callPS {mf : List D → M D} {σ : St} {H : Hp} {Q : VK} (h : tE (cc X g) pu false (dCallS mf ma) W σ H Q) : tCallS (spP (cc X g) shs.length mf) (WE W) (tA (cc X g) pu shs ma W) σ H Q := by
  obtain ⟨xs, env, S, w⟩ := h
  refine ⟨xs, env, S, Want.bind w fun ds env' vs H' e s r w' => ?_⟩
  have hP : ∀ a, Hid xs env σ a → H' a ≠ none := fun a ha => s.st.hid (by rw [s.hid]; exact ha)
  refine ⟨TupsOf (Hid xs env σ) H', ds, r.len, fun a ha => hP a ha.1, r.shell.open, ?_⟩
  dsimp only at w'
  cases q : mf ds with
  | error x =>
    rw [q] at w'
    cases x with
    | raise kk p => exact fun cls dd H2 k2 hx => w' cls dd H2 (s.sm.trans (Same.trans hide_full k2)) hx
    | stuck => exact w'.elim
  | ok d =>
    rw [q] at w'
    intro v H2 k2 hd
    dsimp only [bnd] at w'
    split at w'
    · rename_i hf
      refine w' v H2 (s.grow k2) (Rep.of (flat_hide (fun a ys h1 h2 h3 => h2 ⟨h1, ys, ?_⟩) d v hf hd))
      cases q : H' a with
      | none => exact absurd q (hP a h1)
      | some o =>
        have q2 := k2 a o q
        rcases h3 with h3 | ⟨u, h3⟩
        · rw [q2] at h3; cases h3; exact .inl q
        · rw [q2] at h3; cases h3; exact .inr ⟨u, q⟩
    · exact w'.elim

variable {f : Addr} {fd : FuncData} {ps : List Str} {mf : List D → M D}
/-- what a call of an own def wants -/
structure Fok (nn : Bool) (P : Program) (w : World) (K : PySem.W.Frag) (mg : Str → Option Value) (base : Heap) (k : Nat) (x : Str) (sp : Sp) : Prop where
  ex : ∃ (f : Addr) (fd : FuncData) (ps : List Str), mg x = some (.ref f) ∧ FnOk P w K mg base (CXn nn P w) k f fd ps sp ∧ PySem.W.keepIn K (.ref f) = true ∧ Binds K fd ps []
theorem passAtN {X : Cx} {W : WX} {nn : Bool} (tk : Tk nn X W) (σ : St) : PassesAt (CXn nn X.prog X.w) X σ (WE W σ) := by
  cases nn with
  | true => exact L2N.passAt tk σ
  | false => exact L2.passAt tk σ
theorem call_pe (C : Cok nn X W P w K mg base N sc k bk) {j : Nat} {sp : Sp} (F : Fok nn P w K mg base j x sp) (hj : j ≤ k) {t : TA} (hg : gloB sc x = true) (ha : PA X (e :: es) t) (hdb : (x == ("__debug__" : Str)) = false)
    (he : starEach (e :: es) X.env = (false, eval e X.env) :: starEach es X.env) (hpl : (backTo pos (starEach es X.env)).any (·.1) = false) : PE X (.Call (.Name x p) (e :: es) [] pos) (tCallS sp (WE W) t) := by
  obtain ⟨f, fd, ps, hm, G, hk, hb⟩ := F.ex
  have hgl := gloB_of C hg
  have tk := C.tk
  have hr := C.room.mono hj
  obtain ⟨rfl, rfl, rfl, rfl, rfl⟩ := And.intro C.eP (And.intro C.ew (And.intro C.eK (And.intro C.em C.eb)))
  exact pe_callS G hr hgl hm hk hb (fun σ => passAtN tk σ) ha hdb he hpl
theorem e_call (C : Cok nn X W P w K mg base N sc k bk) {j : Nat} (F : Fok nn P w K mg base j x (spP (ck K g) shs.length mf)) (hj : j ≤ k) (hg : gloB sc x = true) (hs : shs.all (!·) = true) (ha : DA X g pu shs (e :: es) ma W) (hdb : (x == ("__debug__" : Str)) = false := by rfl)
    (he : starEach (e :: es) X.env = (false, eval e X.env) :: starEach es X.env := by rfl) (hpl : (backTo pos (starEach es X.env)).any (·.1) = false := by rfl) : DE X g pu false (.Call (.Name x p) (e :: es) [] pos) (dCall mf ma) W := by
  have h := call_pe (p := p) C F hj hg ha hdb he hpl
  obtain rfl := C.eK
  exact PE.imp h fun _ _ _ h => t_callP hs h
theorem f_call (C : Cok nn X W P w K mg base N sc k bk) {j : Nat} (F : Fok nn P w K mg base j x (spF (ck K g) shs.length mf)) (hj : j ≤ k) (hg : gloB sc x = true) (hs : shs.all (!·) = true) (ha : DA X g pu shs (e :: es) ma W) (hdb : (x == ("__debug__" : Str)) = false := by rfl)
    (he : starEach (e :: es) X.env = (false, eval e X.env) :: starEach es X.env := by rfl) (hpl : (backTo pos (starEach es X.env)).any (·.1) = false := by rfl) : DF X g pu (.Call (.Name x p) (e :: es) [] pos) (dCall mf ma) W := by
  have h := call_pe (p := p) C F hj hg ha hdb he hpl
  obtain rfl := C.eK
  exact PE.imp h fun _ _ _ h => t_callPF hs h
theorem e_callS (C : Cok nn X W P w K mg base N sc k bk) {j : Nat} (F : Fok nn P w K mg base j x (spP (ck K g) shs.length mf)) (hj : j ≤ k) (hg : gloB sc x = true) (ha : DA X g pu shs (e :: es) ma W) (hdb : (x == ("__debug__" : Str)) = false := by rfl)
    (he : starEach (e :: es) X.env = (false, eval e X.env) :: starEach es X.env := by rfl) (hpl : (backTo pos (starEach es X.env)).any (·.1) = false := by rfl) : DE X g pu false (.Call (.Name x p) (e :: es) [] pos) (dCallS mf ma) W := by
  have h := call_pe (p := p) C F hj hg ha hdb he hpl
  obtain rfl := C.eK
  exact PE.imp h fun _ _ _ h => t_callPS h

/-! ### a call that changes the object in one's own slot i, its first argument -/
def dCallO (f : D → List D → M (D × D)) (i : Nat) (ms : Av) : Ev := fun env => match env[i]? with
  | some (.ow _) => bnd (ms env) fun p => match p.2[i]? with
    | some (.ow s) => bnd (f s p.1) fun q => .ok (q.1, p.2.set i (.ow q.2))
    | _ => stuck
  | _ => stuck
theorem isOw_keep {env : En} {i : Nat} {d d' : D} (h : env[i]? = some (Sl.ow d)) (j : Nat) : isOw (env.set i (.ow d')) j = isOw env j := by
  by_cases hj : i = j
  · subst hj
    rw [isOw_of h, isOw_of (d := d') (by rw [List.getElem?_set, if_pos rfl, if_pos (List.getElem?_eq_some_iff.mp h).1])]
  · unfold isOw; rw [List.getElem?_set_ne hj]
theorem owns_keep {env : En} {σ : St} {i : Nat} {d d' : D} (h : env[i]? = some (Sl.ow d)) : Owns (env.set i (.ow d')) σ = Owns env σ := by
  funext a
  apply propext
  constructor
  · rintro ⟨j, e, h1, h2⟩
    by_cases hj : i = j
    · subst hj; exact ⟨i, d, h, h2⟩
    · rw [List.getElem?_set_ne hj] at h1; exact ⟨j, e, h1, h2⟩
  · rintro ⟨j, e, h1, h2⟩
    by_cases hj : i = j
    · subst hj
      exact ⟨i, d', by rw [List.getElem?_set, if_pos rfl, if_pos (List.getElem?_eq_some_iff.mp h).1], h2⟩
    · exact ⟨j, e, by rw [List.getElem?_set_ne hj]; exact h1, h2⟩
theorem hide_ne {H : Hp} {a b : Addr} (h : b ≠ a) : hide H (· = a) b = H b := hide_of (P := (· = a)) h
/-- an owned object changed -/
theorem StOk.change {c : Cc} {xs : Addr → Prop} {env : En} {σ : St} {H H' : Hp} {i : Nat} {d d' : D} {a : Addr} {o' : HO} (S : StOk c xs env σ H) (hi : env[i]? = some (Sl.ow d)) (ha : σ[i]? = some (some (V.ref a)))
    (k : Same (hide H (· = a)) (hide H' (· = a))) (ho : H' a = some o') (r : ObjRep c (hide H' (Hid xs env σ)) d' o') : Stp c xs false env (env.set i (.ow d')) σ H H' := by
  have own := owns_keep (σ := σ) (d' := d') hi
  have hid : Hid xs (env.set i (.ow d')) σ = Hid xs env σ := by funext b; unfold Hid; rw [own]
  have oa : Owns env σ a := ⟨i, d, hi, ha⟩
  have up : Same (hide H (Owns env σ)) (hide H' (Owns env σ)) := fun b u hb => by
    obtain ⟨h1, h2⟩ := hide_some hb
    have ne : ¬ b = a := fun z => h1 (z ▸ oa)
    have := k b u (by rw [hide_ne ne]; exact h2)
    rw [hide_of h1]; exact (hide_some this).2
  have upH : Same (hide H (Hid xs env σ)) (hide H' (Hid xs env σ)) := fun b u hb => by
    obtain ⟨h1, h2⟩ := hide_some hb
    have := up b u (by rw [hide_of fun z => h1 (.inl z)]; exact h2)
    rw [hide_of h1]; exact (hide_some this).2
  have at_ : ∀ b u, b ≠ a → H b = some u → H' b = some u := fun b u ne hb => (hide_some (k b u (by rw [hide_ne ne]; exact hb))).2
  refine ⟨⟨by simp [S.len], fun b hb => ?_, fun j e he => ?_, fun j e he => ?_, fun j l e f b h1 h2 h3 h4 => ?_⟩, isOw_keep hi, up, fun z => nomatch z⟩
  · rw [own]
    refine ⟨fun n => ?_, (S.xb b hb).2⟩
    have ne : b ≠ a := fun z => (S.xb b hb).2 (z ▸ oa)
    cases q : H b with
    | none => exact (S.xb b hb).1 q
    | some u => rw [at_ b u ne q] at n; cases n
  · by_cases hj : i = j
    · subst hj
      rw [List.getElem?_set, if_pos rfl] at he
      split at he <;> cases he
    · rw [List.getElem?_set_ne hj] at he
      obtain ⟨v, h1, h2⟩ := S.va j e he
      rw [hid]
      exact ⟨v, h1, h2.same upH⟩
  · rw [hid]
    by_cases hj : i = j
    · subst hj
      rw [List.getElem?_set, if_pos rfl] at he
      split at he
      · cases he
        exact ⟨a, o', ha, ho, r⟩
      · cases he
    · rw [List.getElem?_set_ne hj] at he
      obtain ⟨b, u, h1, h2, h3⟩ := S.ow j e he
      have ne : b ≠ a := fun z => by
        subst z
        exact hj (S.inj i j _ _ _ hi he ha h1)
      exact ⟨b, u, h1, at_ b u ne h2, h3.same upH⟩
  · have key : ∀ {j : Nat} {e : D}, (env.set i (.ow d'))[j]? = some (Sl.ow e) → ∃ e', env[j]? = some (Sl.ow e') := fun {j e} h => by
      by_cases hj : i = j
      · subst hj; exact ⟨d, hi⟩
      · rw [List.getElem?_set_ne hj] at h; exact ⟨e, h⟩
    obtain ⟨e1, q1⟩ := key h1
    obtain ⟨e2, q2⟩ := key h2
    exact S.inj j l e1 e2 b q1 q2 h3 h4
theorem t_callO {mf : D → List D → M (D × D)} {i : Nat} (hs : shs.all (!·) = true) {σ : St} {H : Hp} {Q : VK} (h : tE (cc X g) false false (dCallO mf i ma) W σ H Q) : tCallS (spO (cc X g) shs.length mf) (WE W) (tCons (tVar i) (tA (cc X g) pu shs ma W)) σ H Q := by
  obtain ⟨xs, env, S, w⟩ := h
  unfold dCallO at w
  split at w
  · rename_i d0 hi0
    obtain ⟨a, o0, ha, ho0, hr0⟩ := S.ow i d0 hi0
    refine ⟨.ref a, ha, xs, env, S, Want.bind w fun ds env' vs H' e s r w' => ?_⟩
    dsimp only at w'
    split at w'
    · rename_i d1 hi
      obtain ⟨a', o, ha', ho, hr⟩ := s.st.ow i d1 hi
      rw [ha] at ha'; cases ha'
      have hid := s.hid
      have oa : Owns env σ a := ⟨i, d0, hi0, ha⟩
      have eq : (fun b => b = a ∨ (Hid xs env σ b ∧ b ≠ a)) = Hid xs env σ := by
        funext b
        apply propext
        constructor
        · rintro (rfl | h)
          · exact .inl oa
          · exact h.1
        · intro h
          by_cases q : b = a
          · exact .inl q
          · exact .inr ⟨h, q⟩
      refine ⟨fun b => Hid xs env σ b ∧ b ≠ a, a, o, d1, ds, vs, rfl, r.len, fun b hb => ⟨s.st.hid (by rw [hid]; exact hb.1), hb.2⟩, ho, ?_, ?_, ?_⟩
      · rw [eq, ← hid]; exact hr
      · rw [eq]; exact r.clean hs
      · have oa' : Owns env' σ a := ⟨i, d1, hi, ha⟩
        have upO : ∀ {H2 : Hp}, Same (hide H' (· = a)) H2 → Same (hide H' (Owns env' σ)) H2 := fun k2 b u hb => by
          obtain ⟨h1, h2⟩ := hide_some hb
          have ne : b ≠ a := fun z => h1 (by rw [z]; exact oa')
          exact k2 b u (by rw [hide_ne ne]; exact h2)
        cases q : mf d1 ds with
        | error x =>
          rw [q] at w'
          cases x with
          | raise kk p => exact fun cls dd H2 k2 hx => w' cls dd H2 (s.sm.trans (by have := upO k2; rw [s.own] at this; exact this)) hx
          | stuck => exact w'.elim
        | ok p =>
          obtain ⟨d, s'⟩ := p
          rw [q] at w'
          intro v H2 o' k2 ho' hr' hd
          rw [eq] at hr' hd
          have st2 := s.st.change (d' := s') hi ha k2 ho' (by rw [hid]; exact hr')
          exact w' v H2 ((s.trans st2).weak fun z => nomatch z) hd
    · exact w'.elim
  · exact w.elim
theorem e_callO (C : Cok nn X W P w K mg base N sc k bk) {j : Nat} {mf : D → List D → M (D × D)} {y : Str} {py : Pos} (F : Fok nn P w K mg base j x (spO (ck K g) shs.length mf)) (hj : j ≤ k) (hg : gloB sc x = true) (hs : shs.all (!·) = true) (i : Nat) (hy : PE X (.Name y py) (tVar i)) (ha : DA X g pu shs es ma W)
    (hdb : (x == ("__debug__" : Str)) = false := by rfl) (he : starEach (.Name y py :: es) X.env = (false, eval (.Name y py) X.env) :: starEach es X.env := by rfl) (hpl : (backTo pos (starEach es X.env)).any (·.1) = false := by rfl) :
    DE X g false false (.Call (.Name x p) (.Name y py :: es) [] pos) (dCallO mf i ma) W := by
  have h := call_pe (p := p) C F hj hg (pa_cons hy ha he) hdb he hpl
  obtain rfl := C.eK
  exact PE.imp h fun _ _ _ h => t_callO hs h
end
end Dn

/-! Dn9 -/
set_option Elab.async false
set_option linter.all false
set_option maxRecDepth 100000
set_option maxHeartbeats 1000000
/-! Dn9: statements. -/
namespace Dn
open PySem PySem.Spec L2
open PyProof.Rows hiding St

/-! ### going on behind a statement -/
section
variable {c : Cc} {xs : Addr → Prop} {env env' : En} {σ σ' : St} {H H' : Hp} {W : WX} {E E' : Ends} {r : M (Fl × En)} {pu : Bool}
theorem WantS.after (k : Kept env σ H env' σ' H') (h : WantS c xs env σ H W E r) : WantS c xs env' σ' H' W E r := by
  cases r with
  | error e => cases e with
    | raise kk p => exact fun cls dd σ2 H2 hl q hx => h cls dd σ2 H2 (hl.trans k.ln) (k.sm.trans q) hx
    | stuck => exact h
  | ok p =>
    obtain ⟨fl, env2⟩ := p
    cases fl with
    | nx => exact fun σ2 H2 S q => h σ2 H2 S (k.trans q)
    | bk => exact fun σ2 H2 S q => h σ2 H2 S (k.trans q)
    | ct => exact fun σ2 H2 S q => h σ2 H2 S (k.trans q)
    | rt d => exact fun σ2 v H2 S q hd => h σ2 v H2 S (k.trans q) hd
    | rf d =>
      rintro σ2 v H2 S q ⟨a, o, e1, e2, e3⟩
      refine h σ2 v H2 S (k.trans q) ⟨a, o, e1, ?_, e3⟩
      cases z : H a with
      | none => rfl
      | some u => exact absurd e2 (k.th a (by rw [z]; exact fun w => nomatch w))
    | ro i => exact fun σ2 a H2 S q h1 h2 => h σ2 a H2 S (k.trans q) h1 h2
theorem WantS.ends {nx bk ct : St → Hp → Prop} (h : WantS c xs env σ H W E r)
    (h1 : ∀ env' σ' H', r = .ok (.nx, env') → StOk c xs env' σ' H' → Kept env σ H env' σ' H' → nx σ' H') (h2 : ∀ env' σ' H', r = .ok (.bk, env') → StOk c xs env' σ' H' → Kept env σ H env' σ' H' → bk σ' H')
    (h3 : ∀ env' σ' H', r = .ok (.ct, env') → StOk c xs env' σ' H' → Kept env σ H env' σ' H' → ct σ' H') : WantS c xs env σ H W { E with nx := nx, bk := bk, ct := ct } r := by
  cases r with
  | error e => cases e with
    | raise kk p => exact h
    | stuck => exact h
  | ok p =>
    obtain ⟨fl, env2⟩ := p
    cases fl with
    | nx => exact fun σ2 H2 S q => h1 env2 σ2 H2 rfl S q
    | bk => exact fun σ2 H2 S q => h2 env2 σ2 H2 rfl S q
    | ct => exact fun σ2 H2 S q => h3 env2 σ2 H2 rfl S q
    | rt d => exact h
    | rf d => exact h
    | ro i => exact h
/-- from a statement's outcome to an expression's -/
theorem WantS.bindE {α β : Type} {R : α → En → β → Hp → Prop} {Q : β → Hp → Prop} {m : M (α × En)} {f : α × En → M (Fl × En)} (h : WantS c xs env σ H W E (bnd m f))
    (k : ∀ d env' v H', m = .ok (d, env') → Stp c xs pu env env' σ H H' → R d env' v H' → WantS c xs env σ H W E (f (d, env')) → Q v H') : Want c xs pu env σ H R W Q m := by
  cases m with
  | error e => cases e with
    | raise kk p => exact fun cls dd H2 q hx => h cls dd σ H2 rfl q hx
    | stuck => exact h
  | ok p =>
    obtain ⟨d, env'⟩ := p
    exact fun v H' s r => k d env' v H' rfl s r h
theorem Stp.kept (s : Stp c xs pu env env' σ H H') : Kept env σ H env' σ H' := ⟨by rw [s.own]; exact s.sm, s.th, fun h => ⟨(s.shp 0).trans h, rfl⟩, rfl⟩
theorem kept_set_va {i : Nat} {d : D} {v : V} (h0 : isOw env 0 = true → i ≠ 0) : Kept env σ H (env.set i (.va d)) (σ.set i (some v)) H :=
  ⟨hide_sub fun a z => owns_set_va z, fun _ h => h, fun h => ⟨(isOw_get0 (by rw [List.getElem?_set_ne (h0 h)])).trans h, by rw [List.getElem?_set_ne (h0 h)]⟩, by rw [List.length_set]⟩
theorem kept_va {i : Nat} {d : D} {v : V} (s : Stp c xs pu env env' σ H H') (h0 : isOw env' 0 = true → i ≠ 0) : Kept env σ H (env'.set i (.va d)) (σ.set i (some v)) H' := s.kept.trans (kept_set_va h0)
end

section
variable {X : Cx} {W : WX} {P : Program} {w : World} {K : PySem.W.Frag} {mg : Str → Option Value} {base : Heap} {N : List Str} {sc : Scope} {k : Nat} {bk nn : Bool} {g : Ce}
variable {pu pu1 pu2 sh sh1 sh2 : Bool} {m m1 m2 : Ev} {a b e : Expr} {es : List Expr} {pos p pos' : Pos} {ma : Av} {shs : List Bool} {x : Str} {st : Stmt} {sts sts' : List Stmt} {ms ms1 ms2 : Sv} {t : Tv}

/-! ### blocks -/
def bNil : Sv := fun env => .ok (.nx, env)
def bSeq (s ss : Sv) : Sv := fun env => bnd (s env) fun p => match p.1 with
  | .nx => ss p.2
  | f => .ok (f, p.2)
theorem ss_nil : DSs X g [] bNil W := PSs.imp pss_nil fun E σ H ⟨xs, env, S, w⟩ => w σ H S .refl
theorem ss_one (h : DS X g st ms W) : DSs X g [st] ms W := pss_one h
theorem ss_cons (h1 : DS X g st ms1 W) (h2 : DSs X g sts ms2 W) : DSs X g (st :: sts) (bSeq ms1 ms2) W := PSs.imp (pss_cons h1 h2) fun E σ H ⟨xs, env, S, w⟩ => by
  refine ⟨xs, env, S, ?_⟩
  unfold bSeq at w
  generalize hr : ms1 env = r at w ⊢
  cases r with
  | error e => cases e with
    | raise kk p => exact w
    | stuck => exact w
  | ok p =>
    obtain ⟨fl, env2⟩ := p
    cases fl with
    | nx => exact fun σ2 H2 S2 q => ⟨xs, env2, S2, WantS.after q w⟩
    | bk => exact w
    | ct => exact w
    | rt d => exact w
    | rf d => exact w
    | ro i => exact w

/-! ### stores -/
def sSet (i : Nat) (m : Ev) : Sv := fun env => bnd (m env) fun p => bnd (put i (.va p.1) p.2) fun env' => .ok (.nx, env')
def sSetO (i : Nat) (m : Ev) : Sv := fun env => bnd (m env) fun p => bnd (put i (.ow p.1) p.2) fun env' => .ok (.nx, env')
theorem t_set {i : Nat} {E : Ends} {σ : St} {H : Hp} (h : tS (cc X g) (sSet i m) W E σ H) : tAsg (tE (cc X g) pu false m W) (gName i) E σ H := by
  obtain ⟨xs, env, S, w⟩ := h
  refine ⟨xs, env, S, WantS.bindE w fun d env' v H' e s r w' => ?_⟩
  have r' : IsD (cc X g) (hide H' (Hid xs env σ)) d v := r
  rw [← s.hid] at r'
  dsimp only at w'
  rcases put_cases i (.va d) env' with q | ⟨q, h0⟩ <;> rw [q] at w'
  · exact w'.elim
  · exact w' _ H' (s.st.setVa i r') (kept_va s h0)
theorem t_setO {i : Nat} {E : Ends} {σ : St} {H : Hp} (h : tS (cc X g) (sSetO i m) W E σ H) : tAsg (tF (cc X g) pu m W) (gName i) E σ H := by
  obtain ⟨xs, env, S, w⟩ := h
  refine ⟨xs, env, S, WantS.bindE w fun d env' v H' e s r w' => ?_⟩
  dsimp only at w'
  rcases put_cases i (.ow d) env' with q | ⟨q, h0⟩ <;> rw [q] at w'
  · exact w'.elim
  · obtain ⟨h1, h2⟩ := s.setOw S i h0 r
    exact w' _ H' h1 h2
theorem set_pe (C : Cok nn X W P w K mg base N sc k false) {te : TE} (i : Nat) (hi : N[i]? = some x) (hl : locB sc x = true) (he : PE X e te) (hs : swapsWith e (some (.Name x pos')) pos.line X.env = pure false) : PS X (.Assign [.Name x pos'] e pos) (tAsg te (gName i)) := by
  have hl := locB_of hl
  refine ps_set (by rw [C.eN]; exact C.nd) (by rw [C.eN]; exact hi) (by rw [C.es]; exact hl) he hs ?_
  rcases hl with h | h
  · exact .inr (by rw [C.es]; exact h)
  · exact .inl (C.fn rfl x)
theorem s_set (C : Cok nn X W P w K mg base N sc k false) (i : Nat) (hi : N[i]? = some x) (hl : locB sc x = true) (he : DE X g pu false e m W) (hs : swapsWith e (some (.Name x pos')) pos.line X.env = pure false := by rfl) : DS X g (.Assign [.Name x pos'] e pos) (sSet i m) W :=
  PS.imp (set_pe C i hi hl he hs) fun _ _ _ h => t_set h
theorem s_setO (C : Cok nn X W P w K mg base N sc k false) (i : Nat) (hi : N[i]? = some x) (hl : locB sc x = true) (he : DF X g pu e m W) (hs : swapsWith e (some (.Name x pos')) pos.line X.env = pure false := by rfl) : DS X g (.Assign [.Name x pos'] e pos) (sSetO i m) W :=
  PS.imp (set_pe C i hi hl he hs) fun _ _ _ h => t_setO h

/-! ### an expression dropped; returns; flow -/
def sDrop (m : Ev) : Sv := fun env => bnd (m env) fun p => .ok (.nx, p.2)
theorem s_drop (he : DE X g pu sh e m W) (hs : swapsWith e none pos.line X.env = pure false := by rfl) : DS X g (.Expr e pos) (sDrop m) W := PS.imp (ps_expr he hs) fun E σ H ⟨xs, env, S, w⟩ =>
  ⟨xs, env, S, WantS.bindE w fun d env' v H' e s r w' => w' σ H' s.st s.kept⟩
def sRet (m : Ev) : Sv := fun env => bnd (m env) fun p => .ok (.rt p.1, p.2)
def sRetF (m : Ev) : Sv := fun env => bnd (m env) fun p => .ok (.rf p.1, p.2)
def sRetO (i : Nat) : Sv := fun env => match env[i]? with
  | some (.ow _) => .ok (.ro i, env)
  | _ => stuck
def sRetN : Sv := fun env => .ok (.rt .non, env)
theorem s_ret (he : DE X g pu false e m W) : DS X g (.Return (some e) pos) (sRet m) W := PS.imp (ps_ret he) fun E σ H ⟨xs, env, S, w⟩ =>
  ⟨xs, env, S, WantS.bindE w fun d env' v H' e s r w' => w' σ v H' s.st s.kept (by rw [s.hid]; exact r)⟩
theorem s_retF (he : DF X g pu e m W) : DS X g (.Return (some e) pos) (sRetF m) W := PS.imp (ps_ret he) fun E σ H ⟨xs, env, S, w⟩ =>
  ⟨xs, env, S, WantS.bindE w fun d env' v H' e s r w' => w' σ v H' s.st s.kept (by
    obtain ⟨a, o, e1, e2, e3, _, e5⟩ := r
    exact ⟨a, o, e1, e2, e3, by rw [s.hid]; exact S.newHid e2, e5⟩)⟩
theorem s_retO (i : Nat) (he : PE X (.Name x pos') (tVar i)) : DS X g (.Return (some (.Name x pos')) pos) (sRetO i) W := PS.imp (ps_ret he) fun E σ H ⟨xs, env, S, w⟩ => by
  unfold sRetO at w
  split at w
  · rename_i d hd
    obtain ⟨a, o, h1, h2, h3⟩ := S.ow i d hd
    exact ⟨.ref a, h1, w σ a H S .refl h1 ⟨d, hd⟩⟩
  · exact w.elim
theorem s_retN : DS X g (.Return none pos) sRetN W := PS.imp ps_retN fun E σ H ⟨xs, env, S, w⟩ => w σ .non H S .refl isNon
def sPass : Sv := fun env => .ok (.nx, env)
def sBreak : Sv := fun env => .ok (.bk, env)
def sCont : Sv := fun env => .ok (.ct, env)
theorem s_pass : DS X g (.Pass pos) sPass W := PS.imp ps_pass fun E σ H ⟨xs, env, S, w⟩ => w σ H S .refl
theorem s_break : DS X g (.Break pos) sBreak W := PS.imp ps_break fun E σ H ⟨xs, env, S, w⟩ => w σ H S .refl
theorem s_cont : DS X g (.Continue pos) sCont W := PS.imp ps_continue fun E σ H ⟨xs, env, S, w⟩ => w σ H S .refl
def sIf (t : Tv) (a b : Sv) : Sv := fun env => bnd (t env) fun p => if p.1 = true then a p.2 else b p.2
theorem s_if (ht : DT X g pu e t W) (ha : DSs X g sts ms1 W) (hb : DSs X g sts' ms2 W) : DS X g (.If e sts sts' pos) (sIf t ms1 ms2) W := PS.imp (ps_if ht ha hb) fun E σ H ⟨xs, env, S, w⟩ =>
  ⟨xs, env, S, WantS.bindE w fun d env' v H' e s r w' => by
    have r' : v = d := r
    subst r'
    cases v with
    | true =>
      rw [if_pos rfl] at w'
      rw [if_pos rfl]
      exact ⟨xs, env', s.st, WantS.after s.kept w'⟩
    | false =>
      rw [if_neg Bool.false_ne_true] at w'
      rw [if_neg Bool.false_ne_true]
      exact ⟨xs, env', s.st, WantS.after s.kept w'⟩⟩

/-! ### while -/
def whileN (t : Tv) (b : Sv) : Nat → Sv
  | 0, _ => stuck
  | n + 1, env => bnd (t env) fun p => if p.1 = true then bnd (b p.2) fun q => match q.1 with
      | .nx => whileN t b n q.2
      | .ct => whileN t b n q.2
      | .bk => .ok (.nx, q.2)
      | f => .ok (f, q.2)
    else .ok (.nx, p.2)
/-- as many turns as the model is asked for -/
def manyTurns : Nat := 1000000000
def sWhile (t : Tv) (b : Sv) : Sv := whileN t b manyTurns
theorem s_while (C : Cok nn X W P w K mg base N sc k false) (ht : DT X g pu e t W) (hb : DSs X g sts ms W) : DS X g (.While e sts [] pos) (sWhile t ms) W := PS.imp (ps_while (C.own rfl) ht hb) fun E σ H ⟨xs, env, S, w⟩ => by
  refine ⟨fun n σ' H' => ∃ env', StOk (cc X g) xs env' σ' H' ∧ WantS (cc X g) xs env' σ' H' W E (whileN t ms n env'), ⟨manyTurns, env, S, w⟩, ?_⟩
  rintro n σ1 H1 ⟨env1, S1, w1⟩
  cases n with
  | zero => exact w1.elim
  | succ n =>
    refine ⟨xs, env1, S1, WantS.bindE w1 fun d env2 v H2 e s r w2 => ?_⟩
    have r' : v = d := r
    subst r'
    cases v with
    | false =>
      rw [if_neg Bool.false_ne_true] at w2
      rw [if_neg Bool.false_ne_true]
      exact w2 σ1 H2 s.st s.kept
    | true =>
      rw [if_pos rfl] at w2
      rw [if_pos rfl]
      refine ⟨fun σ' H' => ∃ env', StOk (cc X g) xs env' σ' H' ∧ WantS (cc X g) xs env' σ' H' W E (whileN t ms n env'), fun σ' H' h => ⟨n, Nat.lt_succ_self n, h⟩, xs, env2, s.st, ?_⟩
      have w3 := WantS.after s.kept w2
      dsimp only at w3
      generalize hr : ms env2 = r2 at w3 ⊢
      cases r2 with
      | error e => cases e with
        | raise kk p => exact w3
        | stuck => exact w3
      | ok p =>
        obtain ⟨fl, env3⟩ := p
        cases fl with
        | nx => exact fun σ4 H4 S4 q => ⟨env3, S4, WantS.after q w3⟩
        | ct => exact fun σ4 H4 S4 q => ⟨env3, S4, WantS.after q w3⟩
        | bk => exact w3
        | rt d => exact w3
        | rf d => exact w3
        | ro i => exact w3
end
end Dn

/-! Dn10 -/
set_option Elab.async false
set_option linter.all false
set_option maxRecDepth 100000
set_option maxHeartbeats 1000000
/-! Dn10: what is walked; targets; for. -/
namespace Dn
open PySem PySem.Spec L2
open PyProof.Rows hiding St

/-- J gives ds, one after another, while G0 stands -/
def ItOk (c : Cc) (G0 : Hp) (J : It) (ds : List D) : Prop :=
  ∃ (G : Hp → Prop) (Y : Nat → Hp → V → Hp → Prop), Walk J ds.length G Y ∧ (∀ H, Same G0 H → G H) ∧
    ∀ i x H H' d, ds[i]? = some d → Same G0 H → Y i H x H' → Same H H' ∧ ∀ Z : Addr → Prop, Same G0 (hide H Z) → (∀ a, Z a → H a ≠ none) → IsD c (hide H' Z) d x
theorem ItOk.same {c : Cc} {G0 G1 : Hp} {J : It} {ds : List D} (k : Same G0 G1) (h : ItOk c G0 J ds) : ItOk c G1 J ds := by
  obtain ⟨G, Y, h1, h2, h3⟩ := h
  exact ⟨G, Y, h1, fun H z => h2 H (k.trans z), fun i x H H' d e z y => by
    obtain ⟨p, q⟩ := h3 i x H H' d e (k.trans z) y
    exact ⟨p, fun Z a b => q Z (k.trans a) b⟩⟩

abbrev Iv := En → M (List D × En)
def tI (c : Cc) (pu : Bool) (m : Iv) (W : WX) : TI := fun σ H R => ∃ xs env, StOk c xs env σ H ∧ Want c xs pu env σ H (fun ds _ J H' => ItOk c (hide H' (Hid xs env σ)) J ds) W R (m env)
abbrev DI (X : Cx) (g : Ce) (tg : Expr) (pu : Bool) (e : Expr) (m : Iv) (W : WX) : Prop := PI X tg e (tI (cc X g) pu m W)
theorem PI.imp {X : Cx} {tg e : Expr} {t t' : TI} (h : PI X tg e t) (k : ∀ σ H Q, t' σ H Q → t σ H Q) : PI X tg e t' := ⟨fun pins s σ H Q I w => h.run pins s σ H Q I (k _ _ _ w)⟩
theorem PI.or {X : Cx} {tg e : Expr} {t t' : TI} (h : PI X tg e t) (h' : PI X tg e t') : PI X tg e (fun σ H Q => t σ H Q ∨ t' σ H Q) := ⟨fun pins s σ H Q I w => w.elim (h.run pins s σ H Q I) (h'.run pins s σ H Q I)⟩

theorem itok_lst {c : Cc} {G0 : Hp} {a : Addr} {ds : List D} {vs : List V} (h : SqL c.K G0 a vs) (r : IsDs c G0 ds vs) : ItOk c G0 (Itl c.K a) ds := by
  refine ⟨fun H => SqL c.K H a vs, YAt vs, by rw [r.len]; exact walk_list, fun H z => z.seq h, fun i x H H' d e z y => ?_⟩
  obtain ⟨rfl, y⟩ := y
  refine ⟨Same.refl _, fun Z k _ => ?_⟩
  obtain ⟨v, h1, h2⟩ := r.getD e
  rw [y] at h1; cases h1
  exact h2.same k
theorem itok_tup {c : Cc} {G0 : Hp} {a : Addr} {ds : List D} {vs : List V} (h : SqT c.K G0 a vs) (r : IsDs c G0 ds vs) : ItOk c G0 (Itt c.K a) ds := by
  refine ⟨fun H => SqT c.K H a vs, YAt vs, by rw [r.len]; exact walk_tup, fun H z => SqT.same z h, fun i x H H' d e z y => ?_⟩
  obtain ⟨rfl, y⟩ := y
  refine ⟨Same.refl _, fun Z k _ => ?_⟩
  obtain ⟨v, h1, h2⟩ := r.getD e
  rw [y] at h1; cases h1
  exact h2.same k
def signs (x : Str) : List D := x.cps.toList.map fun k => .str ⟨#[k]⟩
theorem itok_str {c : Cc} {G0 : Hp} {x : Str} : ItOk c G0 (Its x) (signs x) := by
  refine ⟨fun _ => True, _, by unfold signs; rw [List.length_map, Array.length_toList]; exact walk_str, fun _ _ => trivial, fun i v H H' d e z y => ?_⟩
  obtain ⟨rfl, k, h1, rfl⟩ := y
  refine ⟨Same.refl _, fun Z _ _ => ?_⟩
  unfold signs at e
  rw [List.getElem?_map, Array.getElem?_toList, h1] at e
  cases e
  exact isStr
def rngD (lo st : Int) (n : Nat) : List D := (List.range n).map fun i : Nat => D.int (lo + (i : Int) * st)
theorem itok_rng {c : Cc} {G0 : Hp} {lo : Int} {n : Nat} : ItOk c G0 (Itr lo n) (rngD lo 1 n) := by
  refine ⟨fun _ => True, _, by unfold rngD; rw [List.length_map, List.length_range]; exact walk_range, fun _ _ => trivial, fun i v H H' d e z y => ?_⟩
  obtain ⟨rfl, rfl⟩ := y
  refine ⟨Same.refl _, fun Z _ _ => ?_⟩
  unfold rngD at e
  rw [List.getElem?_map] at e
  cases q : (List.range n)[i]? with
  | none => rw [q] at e; cases e
  | some j =>
    rw [q] at e
    rw [List.getElem?_range (by have := (List.getElem?_eq_some_iff.mp q).1; simpa using this)] at q
    cases q; cases e
    show IsD c _ (.int (lo + (i : Int) * 1)) (.int (lo + i))
    rw [Int.mul_one]
    exact isInt
theorem itok_rngC {c : Cc} {G0 : Hp} {lo st : Int} {n : Nat} : ItOk c G0 (Itc lo st n) (rngD lo st n) := by
  refine ⟨fun _ => True, _, by unfold rngD; rw [List.length_map, List.length_range]; exact walk_rangeC, fun _ _ => trivial, fun i v H H' d e z y => ?_⟩
  obtain ⟨rfl, rfl⟩ := y
  refine ⟨Same.refl _, fun Z _ _ => ?_⟩
  unfold rngD at e
  rw [List.getElem?_map] at e
  cases q : (List.range n)[i]? with
  | none => rw [q] at e; cases e
  | some j =>
    rw [q] at e
    rw [List.getElem?_range (by have := (List.getElem?_eq_some_iff.mp q).1; simpa using this)] at q
    cases q; cases e
    exact isInt

section
variable {X : Cx} {g : Ce} {W : WX} {pu pu1 pu2 sh sh1 sh2 : Bool} {m m1 m2 : Ev} {a b e tg : Expr} {es : List Expr} {pos : Pos} {ma : Av} {shs : List Bool} {mi : Iv}
theorem PI.impure (h : DI X g tg true e mi W) : DI X g tg false e mi W := PI.imp h fun σ H Q ⟨xs, env, S, w⟩ =>
  ⟨xs, env, S, w.imp fun d env' v H' e s r k => k (s.weak fun z => nomatch z) r⟩
def dItems (m : Ev) : Iv := fun env => bnd (m env) fun p => match p.1 with
  | .lst xs => .ok (xs, p.2)
  | .tup xs => .ok (xs, p.2)
  | .str x => .ok (signs x, p.2)
  | .scr ns => .ok (ns.map D.int, p.2)
  | _ => stuck
theorem isDs_ints {c : Cc} {H : Hp} : ∀ ns : List Int, IsDs c H (ns.map D.int) (ns.map V.int)
  | [] => IsDs.nil
  | n :: ns => IsDs.cons isInt (isDs_ints ns)
theorem SqL.hid {K : PySem.W.Frag} {H : Hp} {P : Addr → Prop} {a : Addr} {xs : List V} (h : SqL K (hide H P) a xs) : SqL K H a xs := Same.seq hide_full h
theorem SqT.hid {K : PySem.W.Frag} {H : Hp} {P : Addr → Prop} {a : Addr} {xs : List V} (h : SqT K (hide H P) a xs) : SqT K H a xs := SqT.same hide_full h
theorem i_items (h : DE X g pu false e m W) : DI X g tg pu e (dItems m) W :=
  PI.imp (PI.or (pi_list h) (PI.or (pi_tup h) (pi_str (tg := tg) h))) fun σ H Q ⟨xs, env, S, w⟩ => by
    have w0 := w
    unfold dItems at w0
    cases q : m env with
    | error x =>
      rw [q] at w0
      refine .inl ⟨xs, env, S, ?_⟩
      rw [q]
      cases x with
      | raise k p => exact w0
      | stuck => exact w0.elim
    | ok p =>
      obtain ⟨d, env'⟩ := p
      have key : ∀ {R' : V → Hp → Prop}, (∀ v H', Stp (cc X g) xs pu env env' σ H H' → IsD (cc X g) (hide H' (Hid xs env σ)) d v → R' v H') → tE (cc X g) pu false m W σ H R' := fun k => ⟨xs, env, S, by
        rw [q]; exact fun v H' s r => k v H' s r⟩
      rw [q] at w0
      simp only [bnd_ok] at w0
      split at w0
      · rename_i ds
        refine .inl (key fun v H' s r => ?_)
        unfold IsD at r
        obtain ⟨l, vs, e1, e2, e3⟩ := r
        have hq : SqL X.K (hide H' (Hid xs env σ)) l vs := SqL.of e2
        exact ⟨l, e1, ⟨vs, SqL.hid hq⟩, w0 _ H' s (itok_lst hq e3)⟩
      · rename_i ds
        refine .inr (.inl (key fun v H' s r => ?_))
        unfold IsD at r
        obtain ⟨l, vs, e1, e2, e3⟩ := r
        exact ⟨l, e1, ⟨vs, SqT.hid e2⟩, w0 _ H' s (itok_tup e2 e3)⟩
      · rename_i x
        refine .inr (.inr (key fun v H' s r => ?_))
        unfold IsD at r
        exact ⟨x, r, w0 _ H' s itok_str⟩
      · rename_i ns
        refine .inl (key fun v H' s r => ?_)
        unfold IsD at r
        obtain ⟨l, e1, e2⟩ := r
        exact ⟨l, e1, ⟨_, SqL.hid e2⟩, w0 _ H' s (itok_lst e2 (isDs_ints ns))⟩
      · exact w0.elim
end
end Dn

/-! Dn11 -/
set_option Elab.async false
set_option linter.all false
set_option maxRecDepth 100000
set_option maxHeartbeats 1000000
/-! Dn11: ranges, targets, for. -/
namespace Dn
open PySem PySem.Spec L2
open PyProof.Rows hiding St

section
variable {X : Cx} {P : Program} {w : World} {K : PySem.W.Frag} {mg : Str → Option Value} {base : Heap} {N : List Str} {sc : Scope} {k : Nat} {bk nn : Bool} {g : Ce} {W : WX}
variable {pu pu1 pu2 sh sh1 sh2 : Bool} {m m1 m2 : Ev} {a b e tg : Expr} {es : List Expr} {pos p : Pos} {ma : Av} {shs : List Bool} {mi : Iv} {x : Str} {sts : List Stmt} {ms : Sv}

/-! ### ranges -/
def smallI (j : Int) : Bool := decide (-4611686018427387904 ≤ j) && decide (j < 4611686018427387904)
def dRng (ms : Av) : Iv := fun env => bnd (ms env) fun p => match p.1 with
  | [.int j] => if smallI j = true then .ok (rngD 0 1 j.toNat, p.2) else stuck
  | [.int i, .int j] => if (smallI i && smallI j) = true then .ok (rngD i 1 (j - i).toNat, p.2) else stuck
  | [.int i, .int j, .int s] => if (smallI i && smallI j && decide (s = -1)) = true then .ok (rngD i s (i - j).toNat, p.2) else stuck
  | _ => stuck
theorem smallI_of {j : Int} (h : smallI j = true) : -(2 ^ 62) ≤ j ∧ j < 2 ^ 62 := by
  unfold smallI at h
  simp only [Bool.and_eq_true, decide_eq_true_eq] at h
  omega
theorem Reps.one {c : Cc} {P : Addr → Prop} {H : Hp} {d : D} {vs : List V} (r : Reps c P H shs [d] vs) : ∃ v, vs = [v] ∧ RepS c P H d v := by
  cases shs with
  | nil => cases vs <;> exact r.elim
  | cons s ss => cases ss with
    | nil => cases vs with
      | nil => exact r.elim
      | cons v vs => cases vs with
        | nil => exact ⟨v, rfl, r.1.shell⟩
        | cons _ _ => exact r.2.elim
    | cons _ _ => cases vs with
      | nil => exact r.elim
      | cons v vs => exact r.2.elim
theorem RepsS.one {c : Cc} {P : Addr → Prop} {H : Hp} {d : D} {vs : List V} (r : RepsS c P H [d] vs) : ∃ v, vs = [v] ∧ RepS c P H d v := by
  cases vs with
  | nil => exact r.elim
  | cons v vs => cases vs with
    | nil => exact ⟨v, rfl, r.1⟩
    | cons _ _ => exact r.2.elim
theorem RepsS.two {c : Cc} {P : Addr → Prop} {H : Hp} {d d2 : D} {vs : List V} (r : RepsS c P H [d, d2] vs) : ∃ v v2, vs = [v, v2] ∧ RepS c P H d v ∧ RepS c P H d2 v2 := by
  cases vs with
  | nil => exact r.elim
  | cons v vs => obtain ⟨v2, rfl, q⟩ := RepsS.one r.2; exact ⟨v, v2, rfl, r.1, q⟩
theorem RepsS.three {c : Cc} {P : Addr → Prop} {H : Hp} {d d2 d3 : D} {vs : List V} (r : RepsS c P H [d, d2, d3] vs) : ∃ v v2 v3, vs = [v, v2, v3] ∧ RepS c P H d v ∧ RepS c P H d2 v2 ∧ RepS c P H d3 v3 := by
  cases vs with
  | nil => exact r.elim
  | cons v vs => obtain ⟨v2, v3, rfl, q⟩ := RepsS.two r.2; exact ⟨v, v2, v3, rfl, r.1, q⟩
theorem Reps.bad1 {c : Cc} {P : Addr → Prop} {H : Hp} {s : Bool} {d d2 : D} {ds : List D} {vs : List V} (r : Reps c P H [s] (d :: d2 :: ds) vs) : False := by
  cases vs with
  | nil => exact r.elim
  | cons v vs => cases vs <;> exact r.2.elim
theorem Reps.bad2 {c : Cc} {P : Addr → Prop} {H : Hp} {s s2 : Bool} {d d2 d3 : D} {ds : List D} {vs : List V} (r : Reps c P H [s, s2] (d :: d2 :: d3 :: ds) vs) : False := by
  cases vs with
  | nil => exact r.elim
  | cons v vs => exact Reps.bad1 r.2
theorem Reps.bad2' {c : Cc} {P : Addr → Prop} {H : Hp} {s s2 : Bool} {ss : List Bool} {d : D} {vs : List V} (r : Reps c P H (s :: s2 :: ss) [d] vs) : False := by
  cases vs with
  | nil => exact r.elim
  | cons v vs => cases vs <;> exact r.2.elim
theorem i_rng1 (hg : Gl X "range") (hm : X.mg "range" = none) (ha : DA X g pu [sh1] [a] ma W) (hs : starEach [a] X.env = [(false, eval a X.env)] := by rfl) : DI X g tg pu (.Call (.Name "range" p) [a] [] pos) (dRng ma) W :=
  PI.imp (pi_range1 hg hm ha hs) fun σ H Q ⟨xs, env, S, w⟩ => ⟨xs, env, S, Want.bind w fun ds env' vs H' e s r w' => by
    have r' := r.shell
    dsimp only at w'
    split at w'
    · rename_i j
      split at w'
      · rename_i hz
        obtain ⟨v, rfl, r1⟩ := r'.one
        have e1 := r1.int
        subst e1
        obtain ⟨h1, h2⟩ := smallI_of hz
        exact ⟨j, rfl, h1, h2, w' _ H' s itok_rng⟩
      · exact w'.elim
    · exact r.bad1.elim
    · exact r.bad1.elim
    · exact w'.elim⟩
theorem i_rng2 (hg : Gl X "range") (hm : X.mg "range" = none) (ha : DA X g pu [sh1, sh2] [a, b] ma W) (hs : starEach [a, b] X.env = [(false, eval a X.env), (false, eval b X.env)] := by rfl) (hs2 : starEach [b] X.env = [(false, eval b X.env)] := by rfl) : DI X g tg pu (.Call (.Name "range" p) [a, b] [] pos) (dRng ma) W :=
  PI.imp (pi_range2 hg hm ha hs hs2) fun σ H Q ⟨xs, env, S, w⟩ => ⟨xs, env, S, Want.bind w fun ds env' vs H' e s r w' => by
    have r' := r.shell
    dsimp only at w'
    split at w'
    · exact r.bad2'.elim
    · rename_i i j
      split at w'
      · rename_i hz
        rw [Bool.and_eq_true] at hz
        obtain ⟨v, v2, rfl, r1, r2⟩ := r'.two
        have e1 := r1.int
        have e2 := r2.int
        subst e1 e2
        obtain ⟨h1, h2⟩ := smallI_of hz.1
        obtain ⟨h3, h4⟩ := smallI_of hz.2
        exact ⟨i, j, rfl, ⟨h1, h2, h3, h4⟩, w' _ H' s itok_rng⟩
      · exact w'.elim
    · exact r.bad2.elim
    · exact w'.elim⟩
theorem i_rng3 (hg : Gl X "range") (hm : X.mg "range" = none) (ha : DA X g pu [false, false, false] [a, b, e] ma W) (hs : starEach [a, b, e] X.env = (false, eval a X.env) :: starEach [b, e] X.env := by rfl) (hpl : (backTo pos (starEach [b, e] X.env)).any (·.1) = false := by rfl) : DI X g tg pu (.Call (.Name "range" p) [a, b, e] [] pos) (dRng ma) W :=
  PI.imp (pi_range3 hg hm ha hs hpl) fun σ H Q ⟨xs, env, S, w⟩ => ⟨xs, env, S, Want.bind w fun ds env' vs H' e s r w' => by
    have r' := r.shell
    dsimp only at w'
    split at w'
    · exact r.bad2'.elim
    · exfalso
      cases vs with
      | nil => exact r.elim
      | cons v vs => exact r.2.bad2'
    · rename_i i j st
      split at w'
      · rename_i hz
        rw [Bool.and_eq_true, Bool.and_eq_true, decide_eq_true_eq] at hz
        obtain ⟨v, v2, v3, rfl, r1, r2, r3⟩ := r'.three
        have e1 := r1.int
        have e2 := r2.int
        have e3 := r3.int
        subst e1 e2 e3
        obtain ⟨h1, h2⟩ := smallI_of hz.1.1
        obtain ⟨h3, h4⟩ := smallI_of hz.1.2
        obtain rfl := hz.2
        exact ⟨i, j, -1, _, rfl, RgC.neg h1 h2 h3 h4, w' _ H' s itok_rngC⟩
      · exact w'.elim
    · exact w'.elim⟩

/-! ### targets -/
abbrev Gv := D → En → M En
abbrev Gsv := List D → En → M En
def wipeE (env : En) : List Nat → En
  | [] => env
  | v :: vs => (wipeE env vs).set v .un
theorem wipeE_set {env : En} {i : Nat} {s : Sl} : ∀ {vs : List Nat}, i ∈ vs → wipeE (env.set i s) vs = wipeE env vs
  | v :: vs, h => by
    unfold wipeE
    by_cases hv : i ∈ vs
    · rw [wipeE_set hv]
    · have e : i = v := (List.mem_cons.mp h).resolve_right hv
      subst e
      have : ∀ ws : List Nat, i ∉ ws → wipeE (env.set i s) ws = (wipeE env ws).set i s := fun ws => by
        induction ws with
        | nil => intro _; rfl
        | cons w ws ih =>
          intro hw
          unfold wipeE
          rw [ih fun z => hw (List.mem_cons_of_mem _ z), List.set_comm _ _ fun z => hw (by rw [z]; exact List.mem_cons_self)]
      rw [this vs hv, List.set_set]
theorem wipe_set {σ : St} {i : Nat} {s : Option V} : ∀ {vs : List Nat}, i ∈ vs → wipe (σ.set i s) vs = wipe σ vs
  | v :: vs, h => by
    unfold wipe
    by_cases hv : i ∈ vs
    · rw [wipe_set hv]
    · have e : i = v := (List.mem_cons.mp h).resolve_right hv
      subst e
      have : ∀ ws : List Nat, i ∉ ws → wipe (σ.set i s) ws = (wipe σ ws).set i s := fun ws => by
        induction ws with
        | nil => intro _; rfl
        | cons w ws ih =>
          intro hw
          unfold wipe
          rw [ih fun z => hw (List.mem_cons_of_mem _ z), List.set_comm _ _ fun z => hw (by rw [z]; exact List.mem_cons_self)]
      rw [this vs hv, List.set_set]
/-- raising nothing -/
def ns {α : Type} : M α → M α
  | .ok a => .ok a
  | .error _ => stuck
@[simp] theorem ns_ok {α : Type} (a : α) : ns (.ok a : M α) = .ok a := rfl
/-- what a target's stores want -/
def WantG (c : Cc) (vs : List Nat) (xs : Addr → Prop) (env : En) (σ : St) (H : Hp) (Q : St → Hp → Prop) : M En → Prop
  | .ok env' => ∀ σ', StOk c xs env' σ' H → Kept env σ H env' σ' H → wipe σ' vs = wipe σ vs → wipeE env' vs = wipeE env vs → (∀ j, isOw env' j = true → isOw env j = true) → Q σ' H
  | .error _ => False
def tG (c : Cc) (m : Gv) (vs : List Nat) : TG := fun v σ H Q => ∃ xs env d, StOk c xs env σ H ∧ IsD c (hide H (Hid xs env σ)) d v ∧ WantG c vs xs env σ H Q (m d env)
def tGs (c : Cc) (m : Gsv) (vs : List Nat) : TGs := fun v σ H Q => ∃ xs env d, StOk c xs env σ H ∧ IsDs c (hide H (Hid xs env σ)) d v ∧ WantG c vs xs env σ H Q (m d env)
theorem PG.imp {X : Cx} {e : Expr} {t t' : TG} (h : PG X e t) (k : ∀ v σ H Q, t' v σ H Q → t v σ H Q) : PG X e t' := ⟨fun pins s σ H v u Q I r w => h.run pins s σ H v u Q I r (k _ _ _ _ w)⟩
theorem PGs.imp {X : Cx} {e : List Expr} {t t' : TGs} (h : PGs X e t) (k : ∀ v σ H Q, t' v σ H Q → t v σ H Q) : PGs X e t' := ⟨fun pins s σ H v u Q I r w => h.run pins s σ H v u Q I r (k _ _ _ _ w)⟩
abbrev DG (X : Cx) (g : Ce) (vs : List Nat) (e : Expr) (m : Gv) : Prop := PG X e (tG (cc X g) m vs)
abbrev DGs (X : Cx) (g : Ce) (vs : List Nat) (e : List Expr) (m : Gsv) : Prop := PGs X e (tGs (cc X g) m vs)
theorem Kept.smH {xs : Addr → Prop} {env env' : En} {σ σ' : St} {H H' : Hp} (q : Kept env σ H env' σ' H') : Same (hide H (Hid xs env σ)) (hide H' (Hid xs env' σ')) := fun b o h => by
  obtain ⟨h1, h2⟩ := hide_some h
  have h3 := q.sm b o (by rw [hide_of fun z => h1 (.inl z)]; exact h2)
  obtain ⟨h4, h5⟩ := hide_some h3
  rw [hide_of fun z => z.elim h4 fun z => h1 (.inr z)]
  exact h5
variable {vs : List Nat} {mg1 : Gv} {mgs : Gsv} {i : Nat}
def gSet (i : Nat) : Gv := fun d env => put i (.va d) env
theorem isOw_set_va {env : En} {i j : Nat} {d : D} (h : isOw (env.set i (.va d)) j = true) : isOw env j = true := by
  obtain ⟨e, he⟩ := of_isOw h
  by_cases hj : i = j
  · subst hj
    rw [List.getElem?_set, if_pos rfl] at he
    split at he <;> cases he
  · rw [List.getElem?_set_ne hj] at he
    exact isOw_of he
theorem g_name (h : PG X e (gName i)) (hv : i ∈ vs) : DG X g vs e (gSet i) := PG.imp h fun v σ H Q ⟨xs, env, d, S, r, w⟩ => by
  unfold gSet at w
  rcases put_cases i (.va d) env with q | ⟨q, h0⟩ <;> rw [q] at w
  · exact w.elim
  · exact w _ (S.setVa i r) (kept_set_va h0) (wipe_set hv) (wipeE_set hv) fun j z => isOw_set_va z
def gsNil : Gsv := fun ds env => match ds with
  | [] => .ok env
  | _ => stuck
def gsCons (m : Gv) (ms : Gsv) : Gsv := fun ds env => match ds with
  | d :: r => bnd (m d env) fun env1 => ms r env1
  | [] => stuck
theorem g_nil : DGs X g vs [] gsNil := PGs.imp pgs_nil fun v σ H Q ⟨xs, env, ds, S, r, w⟩ => by
  cases ds with
  | nil => unfold IsDs at r; exact ⟨r, w σ S .refl rfl rfl fun _ z => z⟩
  | cons _ _ => exact w.elim
theorem g_cons (h1 : DG X g vs e mg1) (h2 : DGs X g vs es mgs) (hs : (assignEach (e :: es) X.env).map (·.2) = assign e X.env :: (assignEach es X.env).map (·.2) := by rfl) : DGs X g vs (e :: es) (gsCons mg1 mgs) :=
  PGs.imp (pgs_cons h1 h2 hs) fun v σ H Q ⟨xs, env, ds, S, r, w⟩ => by
    cases ds with
    | nil => exact w.elim
    | cons d ds =>
      unfold IsDs at r
      obtain ⟨v1, vr, e1, r1, r2⟩ := r
      refine ⟨v1, vr, e1, xs, env, d, S, r1, ?_⟩
      have w' : WantG (cc X g) vs xs env σ H Q (bnd (mg1 d env) fun env1 => mgs ds env1) := w
      cases q : mg1 d env with
      | error x => rw [q] at w'; exact w'.elim
      | ok env1 =>
        rw [q] at w'
        intro σ1 S1 k1 a1 b1 c1
        refine ⟨xs, env1, ds, S1, r2.same k1.smH, ?_⟩
        dsimp only [bnd] at w'
        cases q2 : mgs ds env1 with
        | error x => rw [q2] at w'; exact w'.elim
        | ok env2 =>
          rw [q2] at w'
          exact fun σ2 S2 k2 a2 b2 c2 => w' σ2 S2 (k1.trans k2) (a2.trans a1) (b2.trans b1) fun j z => c1 j (c2 j z)
def gTupD (ms : Gsv) : Gv := fun d env => match d with
  | .tup ds => ms ds env
  | _ => stuck
def lenOf (n : Nat) (ms : Gsv) : Gsv := fun ds env => if ds.length = n then ms ds env else stuck
theorem g_tup {kk : Nat} (hc : X.calm = true) (h : DGs X g vs es mgs) (hst : (assignEach es X.env).findIdx? (·.1) = none := by rfl) (hl : (assignEach es X.env).length = es.length := by rfl) : DG X g vs (.Tuple es kk pos) (gTupD (lenOf es.length mgs)) :=
  PG.imp (pg_tup hc h hl hst) fun v σ H Q ⟨xs, env, d, S, r, w⟩ => by
    unfold gTupD at w
    split at w
    · rename_i ds
      unfold IsD at r
      obtain ⟨a, ws, e1, e2, e3⟩ := r
      unfold lenOf at w
      split at w
      · rename_i hz
        exact ⟨a, ws, e1, SqT.hid e2, by rw [← e3.len]; exact hz, xs, env, ds, S, e3, w⟩
      · exact w.elim
    · exact w.elim
/-- target = value -/
def sAsg (m : Ev) (mt : Gv) : Sv := fun env => bnd (m env) fun p => bnd (ns (mt p.1 p.2)) fun env' => .ok (.nx, env')
theorem s_asg (he : DE X g pu false e m W) (hg : DG X g vs tg mg1) (hs : swapsWithSole [tg] e pos.line X.env = pure false := by rfl) (hw : swappedStores [tg] e X.env = pure none := by rfl)
    (h1 : (assignEach [tg] X.env).map (·.2) = [assign tg X.env] := by rfl) : DS X g (.Assign [tg] e pos) (sAsg m mg1) W := PS.imp (ps_asg he hg hs hw h1) fun E σ H ⟨xs, env, S, w⟩ =>
  ⟨xs, env, S, WantS.bindE w fun d env' v H' e s r w' => by
    have r' : IsD (cc X g) (hide H' (Hid xs env σ)) d v := r
    rw [← s.hid] at r'
    refine ⟨xs, env', d, s.st, r', ?_⟩
    dsimp only at w'
    cases q : mg1 d env' with
    | error x =>
      rw [q] at w'
      exact w'.elim
    | ok env2 =>
      rw [q] at w'
      exact fun σ2 S2 k2 _ _ _ => w' σ2 H' S2 (s.kept.trans k2)⟩

/-! ### for -/
def forL (mt : Gv) (mb : Sv) : List D → Sv
  | [], env => .ok (.nx, env)
  | d :: r, env => bnd (ns (mt d env)) fun env1 => bnd (mb env1) fun q => match q.1 with
    | .nx => forL mt mb r q.2
    | .ct => forL mt mb r q.2
    | .bk => .ok (.nx, q.2)
    | f => .ok (f, q.2)
def sFor (mi : Iv) (mt : Gv) (mb : Sv) : Sv := fun env => bnd (mi env) fun p => forL mt mb p.1 p.2
theorem s_for (C : Cok nn X W P w K mg base N sc k false) (hi : DI X g tg pu e mi W) (hg : DG X g vs tg mg1) (hb : DSs X g sts ms W) (hs : ∀ x, foldedSetIterable e X.env x = pure x := by intro _; rfl) : DS X g (.For tg e sts [] pos) (sFor mi mg1 ms) W :=
  PS.imp (ps_for (C.own rfl) C.calm hi hg hb hs) fun E σ H ⟨xs, env, S, w⟩ => ⟨xs, env, S, WantS.bindE w fun ds env1 J H1 e s r w1 => by
    obtain ⟨G, Y, hw, hG, hY⟩ := r
    rw [← s.hid] at hG hY
    have w1 := WantS.after s.kept w1
    dsimp only at w1
    refine for_it hw (fun i σ' H' => ∃ env', StOk (cc X g) xs env' σ' H' ∧ Kept env1 σ H1 env' σ' H' ∧ WantS (cc X g) xs env' σ' H' W E (forL mg1 ms (ds.drop i) env')) ⟨env1, s.st, .refl, w1⟩ ?_ ?_ ?_
    · rintro i σ' H' _ ⟨env', S', q, _⟩
      exact hG H' (q.smH.trans hide_full)
    · rintro i x σ' H' H2 hlt ⟨env', S', q, w2⟩ y
      have hd : ds[i]? = some ds[i] := by simp [hlt]
      obtain ⟨k1, k2⟩ := hY i x H' H2 _ hd (q.smH.trans hide_full) y
      have rd := k2 (Hid xs env' σ') q.smH fun a ha => S'.hid ha
      have S2 := S'.same k1
      have kk : Kept env' σ' H' env' σ' H2 := ⟨hide_same k1, Same.th k1, fun h => ⟨h, rfl⟩, rfl⟩
      refine ⟨xs, env', ds[i], S2, rd, ?_⟩
      rw [List.drop_eq_getElem_cons hlt] at w2
      unfold forL at w2
      cases q2 : mg1 ds[i] env' with
      | error x => rw [q2] at w2; exact w2.elim
      | ok env3 =>
        rw [q2] at w2
        intro σ3 S3 k3 _ _ _
        refine ⟨xs, env3, S3, ?_⟩
        have k4 := kk.trans k3
        have w3 := WantS.after k4 w2
        simp only [ns_ok, bnd_ok] at w3
        generalize hr : ms env3 = r2 at w3 ⊢
        cases r2 with
        | error e => cases e with
          | raise kk p => exact w3
          | stuck => exact w3
        | ok p =>
          obtain ⟨fl, env4⟩ := p
          cases fl with
          | nx => exact fun σ5 H5 S5 q5 => ⟨env4, S5, q.trans (k4.trans q5), WantS.after q5 w3⟩
          | ct => exact fun σ5 H5 S5 q5 => ⟨env4, S5, q.trans (k4.trans q5), WantS.after q5 w3⟩
          | bk => exact w3
          | rt d => exact w3
          | rf d => exact w3
          | ro i => exact w3
    · rintro σ' H' ⟨env', S', q, w2⟩
      rw [List.drop_length] at w2
      exact w2 σ' H' S' .refl⟩
end
end Dn

/-! Dn12 -/
set_option Elab.async false
set_option linter.all false
set_option maxRecDepth 100000
set_option maxHeartbeats 1000000
/-! Dn12: list comprehensions. -/
namespace Dn
open PySem PySem.Spec L2
open PyProof.Rows hiding St

/-! ### slots forgotten for a while -/
theorem wipeE_get {env : En} {j : Nat} : ∀ {vs : List Nat}, (wipeE env vs)[j]? = if j ∈ vs then (env[j]?).map (fun _ => Sl.un) else env[j]?
  | [] => by simp [wipeE]
  | v :: vs => by
    unfold wipeE
    by_cases hj : v = j
    · subst hj
      rw [List.getElem?_set, if_pos rfl, if_pos List.mem_cons_self]
      have ih := wipeE_get (env := env) (j := v) (vs := vs)
      split
      · rename_i h
        have : (wipeE env vs)[v]? ≠ none := fun z => by rw [List.getElem?_eq_none_iff] at z; omega
        cases q : env[v]? with
        | none => rw [q] at ih; simp at ih; exact absurd (List.getElem?_eq_none_iff.mpr ih) this
        | some s => rfl
      · rename_i h
        have : (wipeE env vs)[v]? = none := List.getElem?_eq_none_iff.mpr (by omega)
        rw [this] at ih
        cases q : env[v]? with
        | none => rfl
        | some s =>
          rw [q] at ih
          split at ih <;> cases ih
    · rw [List.getElem?_set_ne hj, wipeE_get]
      simp only [List.mem_cons]
      by_cases hm : j ∈ vs
      · rw [if_pos hm, if_pos (.inr hm)]
      · rw [if_neg hm, if_neg fun z => z.elim (fun z => hj z.symm) hm]
theorem wipe_get {σ : St} {j : Nat} : ∀ {vs : List Nat}, (wipe σ vs)[j]? = if j ∈ vs then (σ[j]?).map (fun _ => none) else σ[j]?
  | [] => by simp [wipe]
  | v :: vs => by
    unfold wipe
    by_cases hj : v = j
    · subst hj
      rw [List.getElem?_set, if_pos rfl, if_pos List.mem_cons_self]
      have ih := wipe_get (σ := σ) (j := v) (vs := vs)
      split
      · rename_i h
        have : (wipe σ vs)[v]? ≠ none := fun z => by rw [List.getElem?_eq_none_iff] at z; omega
        cases q : σ[v]? with
        | none => rw [q] at ih; simp at ih; exact absurd (List.getElem?_eq_none_iff.mpr ih) this
        | some s => rfl
      · rename_i h
        have : (wipe σ vs)[v]? = none := List.getElem?_eq_none_iff.mpr (by omega)
        rw [this] at ih
        cases q : σ[v]? with
        | none => rfl
        | some s =>
          rw [q] at ih
          split at ih <;> cases ih
    · rw [List.getElem?_set_ne hj, wipe_get]
      simp only [List.mem_cons]
      by_cases hm : j ∈ vs
      · rw [if_pos hm, if_pos (.inr hm)]
      · rw [if_neg hm, if_neg fun z => z.elim (fun z => hj z.symm) hm]
theorem wipeE_wipeE {env : En} {vs : List Nat} : wipeE (wipeE env vs) vs = wipeE env vs := by
  apply List.ext_getElem?
  intro j
  rw [wipeE_get, wipeE_get]
  by_cases h : j ∈ vs
  · simp only [if_pos h]; cases env[j]? <;> rfl
  · simp only [if_neg h]
theorem wipe_wipe {σ : St} {vs : List Nat} : wipe (wipe σ vs) vs = wipe σ vs := by
  apply List.ext_getElem?
  intro j
  rw [wipe_get, wipe_get]
  by_cases h : j ∈ vs
  · simp only [if_pos h]; cases σ[j]? <;> rfl
  · simp only [if_neg h]
def resE (env env' : En) : List Nat → En
  | [] => env'
  | v :: vs => (resE env env' vs).set v ((env[v]?).getD .un)
theorem resE_len {env env' : En} : ∀ {vs : List Nat}, (resE env env' vs).length = env'.length
  | [] => rfl
  | v :: vs => by unfold resE; rw [List.length_set, resE_len]
theorem resE_get {env env' : En} {j : Nat} (hl : env'.length = env.length) : ∀ {vs : List Nat}, (resE env env' vs)[j]? = if j ∈ vs then env[j]? else env'[j]?
  | [] => by simp [resE]
  | v :: vs => by
    unfold resE
    by_cases hj : v = j
    · subst hj
      rw [List.getElem?_set, if_pos rfl, if_pos List.mem_cons_self, resE_len]
      split
      · rename_i h
        rw [hl] at h
        rw [List.getElem?_eq_getElem h]; rfl
      · rename_i h
        rw [List.getElem?_eq_none (by omega)]
    · rw [List.getElem?_set_ne hj, resE_get hl]
      simp only [List.mem_cons]
      by_cases hm : j ∈ vs
      · rw [if_pos hm, if_pos (.inr hm)]
      · rw [if_neg hm, if_neg fun z => z.elim (fun z => hj z.symm) hm]
theorem resE_wipe {env : En} {vs : List Nat} (hl : (wipeE env vs).length = env.length) : resE env (wipeE env vs) vs = env := by
  apply List.ext_getElem?
  intro j
  rw [resE_get hl, wipeE_get]
  by_cases h : j ∈ vs
  · simp only [if_pos h]
  · simp only [if_neg h]
theorem wipeE_len {env : En} : ∀ {vs : List Nat}, (wipeE env vs).length = env.length
  | [] => rfl
  | v :: vs => by unfold wipeE; rw [List.length_set, wipeE_len]
def noOw (env : En) (vs : List Nat) : Bool := vs.all fun j => !isOw env j
theorem noOw_of {env : En} {vs : List Nat} (h : noOw env vs = true) {j : Nat} (hj : j ∈ vs) : isOw env j = false := by
  unfold noOw at h
  rw [List.all_eq_true] at h
  simpa using h j hj
theorem isOw_get {env env' : En} {j : Nat} (h : env[j]? = env'[j]?) : isOw env j = isOw env' j := by unfold isOw; rw [h]
theorem isOw_wipe {env : En} {vs : List Nat} (no : ∀ j ∈ vs, isOw env j = false) (j : Nat) : isOw (wipeE env vs) j = isOw env j := by
  by_cases h : j ∈ vs
  · rw [no j h]
    unfold isOw
    rw [wipeE_get, if_pos h]
    cases env[j]? <;> rfl
  · exact isOw_get (by rw [wipeE_get, if_neg h])
theorem owns_blk {env env' : En} {σ σ' : St} {vs : List Nat} (no : ∀ j ∈ vs, isOw env j = false) (hA : ∀ j, isOw env' j = isOw env j) (hw : wipe σ' vs = wipe σ vs) : Owns env' σ' = Owns env σ := by
  have at_ : ∀ j, isOw env j = true → σ'[j]? = σ[j]? := fun j h => by
    have hj : j ∉ vs := fun z => by rw [no j z] at h; cases h
    have := congrArg (·[j]?) hw
    simp only [wipe_get, if_neg hj] at this
    exact this
  funext a
  apply propext
  constructor
  · rintro ⟨j, d, h1, h2⟩
    have hj := (hA j).symm.trans (isOw_of h1)
    obtain ⟨e, he⟩ := of_isOw hj
    exact ⟨j, e, he, by rw [← at_ j hj]; exact h2⟩
  · rintro ⟨j, d, h1, h2⟩
    have hj := isOw_of h1
    obtain ⟨e, he⟩ := of_isOw ((hA j).trans hj)
    exact ⟨j, e, he, by rw [at_ j hj]; exact h2⟩
section
variable {c : Cc} {xs xs' : Addr → Prop} {env env' : En} {σ σ' : St} {H H' : Hp} {vs : List Nat}
theorem StOk.wipe (S : StOk c xs env σ H) : ∀ vs : List Nat, StOk c xs (wipeE env vs) (L2.wipe σ vs) H
  | [] => S
  | v :: vs => by unfold wipeE L2.wipe; exact (StOk.wipe S vs).setUn v none
theorem StOk.lessX (h : ∀ a, xs a → xs' a) (S : StOk c xs' env σ H) : StOk c xs env σ H := by
  have sub : Same (hide H (Hid xs' env σ)) (hide H (Hid xs env σ)) := hide_sub fun a z => z.elim .inl fun z => .inr (h a z)
  exact ⟨S.len, fun a z => S.xb a (h a z), fun i d q => let ⟨v, h1, h2⟩ := S.va i d q; ⟨v, h1, h2.same sub⟩, fun i d q => let ⟨a, o, h1, h2, h3⟩ := S.ow i d q; ⟨a, o, h1, h2, h3.same sub⟩, S.inj⟩
/-- a foreign object changed -/
theorem StOk.updX (S : StOk c xs env σ H) {a : Addr} {o : HO} (h : xs a) : StOk c xs env σ (upd H a o) := by
  have hid : ∀ b u, hide H (Hid xs env σ) b = some u → hide (upd H a o) (Hid xs env σ) b = some u := fun b u hb => by
    obtain ⟨h1, h2⟩ := hide_some hb
    rw [hide_of h1, upd_ne fun z : b = a => h1 (.inr (by rw [z]; exact h))]
    exact h2
  refine ⟨S.len, fun b hb => ⟨fun z => ?_, (S.xb b hb).2⟩, fun i d q => let ⟨v, h1, h2⟩ := S.va i d q; ⟨v, h1, h2.same hid⟩, fun i d q => ?_, S.inj⟩
  · by_cases e : b = a
    · subst e; rw [upd_same] at z; cases z
    · rw [upd_ne e] at z; exact (S.xb b hb).1 z
  · obtain ⟨b, u, h1, h2, h3⟩ := S.ow i d q
    have ne : b ≠ a := fun z => (S.xb a h).2 ⟨i, d, q, z ▸ h1⟩
    exact ⟨b, u, h1, by rw [upd_ne ne]; exact h2, h3.same hid⟩
/-- the slots given back -/
theorem StOk.res (S : StOk c xs env σ H) (S' : StOk c xs' env' (L2.wipe σ vs) H') (no : ∀ j ∈ vs, isOw env j = false) (hl : env'.length = env.length) (hA : ∀ j, isOw env' j = isOw env j)
    (sm : Same (hide H (Hid xs env σ)) (hide H' (Hid xs' env σ))) : StOk c xs' (resE env env' vs) σ H' := by
  have hA' : ∀ j, isOw (resE env env' vs) j = isOw env j := fun j => by
    by_cases h : j ∈ vs
    · exact isOw_get (by rw [resE_get hl, if_pos h])
    · exact (isOw_get (by rw [resE_get hl, if_neg h])).trans (hA j)
  have o1 : Owns (resE env env' vs) σ = Owns env σ := owns_shape hA'
  have o2 : Owns env' (L2.wipe σ vs) = Owns env σ := owns_blk no hA wipe_wipe
  have hh : Hid xs' (resE env env' vs) σ = Hid xs' env' (L2.wipe σ vs) := by funext a; unfold Hid; rw [o1, o2]
  have h3 : Hid xs' (resE env env' vs) σ = Hid xs' env σ := by funext a; unfold Hid; rw [o1]
  have out : ∀ {i d}, (resE env env' vs)[i]? = some (Sl.ow d) → i ∉ vs ∧ env'[i]? = some (Sl.ow d) := fun {i d} q => by
    by_cases h : i ∈ vs
    · rw [resE_get hl, if_pos h] at q
      have := no i h
      rw [isOw_of q] at this; cases this
    · rw [resE_get hl, if_neg h] at q
      exact ⟨h, q⟩
  have at_ : ∀ {i}, i ∉ vs → (L2.wipe σ vs)[i]? = σ[i]? := fun {i} h => by rw [wipe_get, if_neg h]
  refine ⟨by rw [resE_len, hl, S.len], fun a h => ⟨(S'.xb a h).1, fun z => (S'.xb a h).2 (by rw [o2, ← o1]; exact z)⟩, fun i d q => ?_, fun i d q => ?_, fun i j d e a h1 h2 q1 q2 => ?_⟩
  · by_cases h : i ∈ vs
    · rw [resE_get hl, if_pos h] at q
      obtain ⟨v, h1, h2⟩ := S.va i d q
      rw [h3]
      exact ⟨v, h1, h2.same sm⟩
    · rw [resE_get hl, if_neg h] at q
      obtain ⟨v, h1, h2⟩ := S'.va i d q
      rw [hh]
      exact ⟨v, by rw [← at_ h]; exact h1, h2⟩
  · obtain ⟨h, q'⟩ := out q
    obtain ⟨a, o, h1, h2, h3⟩ := S'.ow i d q'
    rw [hh]
    exact ⟨a, o, by rw [← at_ h]; exact h1, h2, h3⟩
  · obtain ⟨n1, h1⟩ := out h1
    obtain ⟨n2, h2⟩ := out h2
    exact S'.inj i j d e a h1 h2 (by rw [at_ n1]; exact q1) (by rw [at_ n2]; exact q2)
end

/-! ### the comprehension -/
def lcL (mt : Gv) (tt : Tv) (te : Ev) (vs : List Nat) : List D → En → M (List D × En)
  | [], env => .ok ([], env)
  | d :: r, env => bnd (mt d env) fun env1 => bnd (tt env1) fun p => if p.1 = true then bnd (te p.2) fun q => bnd (lcL mt tt te vs r (wipeE q.2 vs)) fun z => .ok (q.1 :: z.1, z.2) else lcL mt tt te vs r (wipeE p.2 vs)
def dLc (mi : Iv) (mt : Gv) (tt : Tv) (te : Ev) (vs : List Nat) : Ev := fun env => bnd (mi env) fun p => if noOw p.2 vs = true then bnd (ns (lcL mt tt te vs p.1 (wipeE p.2 vs))) fun q => if q.1.length ≤ maxSeq then .ok (.lst q.1, resE p.2 q.2 vs) else stuck else stuck
def dYes : Tv := fun env => .ok (true, env)
abbrev W0 : WX := fun _ _ _ _ => False
section
variable {X : Cx} {g : Ce} {W : WX} {pu pu1 pu2 : Bool} {e elt tg iter : Expr} {ifs : List Expr} {scope : Scope} {own : List (Str × Nat)} {pos : Pos} {mi : Iv} {mt : Gv} {tt : Tv} {me : Ev} {vs : List Nat}
theorem t_lc {σ : St} {H : Hp} {Q : VK} (h : tF (cc X g) (pu && (pu1 && pu2)) (dLc mi mt tt me vs) W σ H Q) : tLc (tI (cc X g) pu mi W) (tG (cc X g) mt vs) (tT (cc X g) pu1 tt W0) (tE (cc X g) pu2 false me W0) vs σ H Q := by
  obtain ⟨xs, env, S, w⟩ := h
  refine ⟨xs, env, S, w.bind fun ds env1 J H1 e1 s r w1 => ?_⟩
  intro A hA
  dsimp only at w1
  split at w1
  case isFalse => exact w1.elim
  rename_i hno
  have no : ∀ j ∈ vs, isOw env1 j = false := fun j hj => noOw_of hno hj
  cases qf : lcL mt tt me vs ds (wipeE env1 vs) with
  | error x => rw [qf] at w1; exact w1.elim
  | ok pf =>
  obtain ⟨total, envF⟩ := pf
  rw [qf] at w1
  simp only [ns_ok, bnd_ok] at w1
  split at w1
  case isFalse => exact w1.elim
  rename_i hsz
  have hA0 : H A = none := s.free S hA
  obtain ⟨G, Y, hw, hG, hY⟩ := r
  rw [← s.hid] at hG hY
  -- what stands through the loop
  have hS1 : StOk (cc X g) (fun b => xs b ∨ b = A) env1 σ (upd H1 A (.lst [])) := s.st.newX (same_new hA) hA upd_same
  have eqO : ∀ {env' σ'}, (∀ j, isOw env' j = isOw env1 j) → wipe σ' vs = wipe σ vs → Owns env' σ' = Owns env1 σ := fun a b => owns_blk no a b
  refine lc_it hw (fun i H2 => ∃ env2 accD acc rest, StOk (cc X g) (fun b => xs b ∨ b = A) env2 (wipe σ vs) H2 ∧ env2.length = env1.length ∧ (∀ j, isOw env2 j = isOw env1 j) ∧ H2 A = some (.lst acc) ∧
    IsDs (cc X g) (hide H2 (fun b => Owns env1 σ b ∨ (xs b ∨ b = A))) accD acc ∧ Same (hide H1 (Owns env1 σ)) (hide H2 (Owns env1 σ)) ∧ ((pu && (pu1 && pu2)) = true → env2 = wipeE env1 vs ∧ Same H1 H2) ∧
    lcL mt tt me vs (ds.drop i) env2 = .ok (rest, envF) ∧ accD ++ rest = total) ?_ ?_ ?_ ?_
  · refine ⟨wipeE env1 vs, [], [], total, hS1.wipe vs, wipeE_len, isOw_wipe no, upd_same, IsDs.nil, hide_same (same_new hA), fun _ => ⟨rfl, same_new hA⟩, qf, rfl⟩
  · rintro i H2 _ ⟨env2, accD, acc, rest, S2, hl, hA2, hD, hacc, sm, hp, hr, ht⟩
    refine hG H2 fun b o hb => ?_
    obtain ⟨h1, h2⟩ := hide_some hb
    exact (hide_some (sm b o (by rw [hide_of fun z => h1 (.inl z)]; exact h2))).2
  · rintro i x H2 H3 hlt ⟨env2, accD, acc, rest, S2, hl, hA2, hD, hacc, sm, hp, hr, ht⟩ y
    have o2 : Owns env2 (wipe σ vs) = Owns env1 σ := eqO hA2 wipe_wipe
    have hid2 : Hid (fun b => xs b ∨ b = A) env2 (wipe σ vs) = fun b => Owns env1 σ b ∨ (xs b ∨ b = A) := by funext b; unfold Hid; rw [o2]
    have up : Same (hide H1 (Hid xs env1 σ)) (hide H2 (Hid (fun b => xs b ∨ b = A) env2 (wipe σ vs))) := fun b o hb => by
      obtain ⟨h1, h2⟩ := hide_some hb
      have h3 := (hide_some (sm b o (by rw [hide_of fun z => h1 (.inl z)]; exact h2))).2
      rw [hid2, hide_of fun z => z.elim (fun z => h1 (.inl z)) fun z => z.elim (fun z => h1 (.inr z)) (ne_of_none h2 hA)]
      exact h3
    have hd : ds[i]? = some ds[i] := by simp [hlt]
    obtain ⟨k1, k2⟩ := hY i x H2 H3 _ hd (up.trans hide_full) y
    have rd := k2 _ up fun a ha => S2.hid ha
    have S3 := S2.same k1
    refine ⟨_, env2, ds[i], S3, rd, ?_⟩
    rw [List.drop_eq_getElem_cons hlt] at hr
    unfold lcL at hr
    cases q2 : mt ds[i] env2 with
    | error z => rw [q2] at hr; cases hr
    | ok env3 =>
    rw [q2] at hr
    simp only [bnd_ok] at hr
    intro σ3 S4 k3 hw3 hwE how
    have hw3' : wipe σ3 vs = wipe σ vs := hw3.trans wipe_wipe
    have hA3 : ∀ j, isOw env3 j = isOw env1 j := fun j => by
      cases q : isOw env1 j with
      | true =>
        have hj : j ∉ vs := fun z => by rw [no j z] at q; cases q
        have := congrArg (·[j]?) hwE
        simp only [wipeE_get, if_neg hj] at this
        rw [isOw_get this, hA2 j, q]
      | false =>
        cases q3 : isOw env3 j with
        | false => rfl
        | true => have := how j q3; rw [hA2 j, q] at this; cases this
    have o3 : Owns env3 σ3 = Owns env1 σ := eqO hA3 hw3'
    refine ⟨hw3', _, env3, S4, ?_⟩
    cases q4 : tt env3 with
    | error z => rw [q4] at hr; cases hr
    | ok p4 =>
    obtain ⟨b4, env4⟩ := p4
    rw [q4] at hr
    simp only [bnd_ok] at hr
    intro b H4 s4 hb
    subst hb
    have D4 : H4 A = some (.lst acc) := by
      have h3 : H3 A = some (.lst acc) := k1 _ _ hD
      have na : ¬ Owns env3 σ3 A := fun z => (S4.xb A (.inr rfl)).2 z
      exact (hide_some (s4.sm A _ (by rw [hide_of na]; exact h3))).2
    have o4 : Owns env4 σ3 = Owns env1 σ := s4.own.trans o3
    have sm4 : Same (hide H1 (Owns env1 σ)) (hide H4 (Owns env1 σ)) := sm.trans ((hide_same k1).trans (by have := s4.sm; rw [o3] at this; exact this))
    have acc4 : IsDs (cc X g) (hide H4 (fun b => Owns env1 σ b ∨ (xs b ∨ b = A))) accD acc := by
      refine hacc.same (Same.trans (hide_same k1) ?_)
      have := s4.smH
      unfold Hid at this
      rw [o3] at this
      exact this
    have len3 : env3.length = env1.length := by rw [S4.len, ← wipe_length σ3 vs, hw3', wipe_length, ← s.st.len]
    have len4 : env4.length = env1.length := by rw [s4.st.len, ← wipe_length σ3 vs, hw3', wipe_length, ← s.st.len]
    cases b with
    | false =>
      rw [if_neg Bool.false_ne_true] at hr
      rw [if_neg Bool.false_ne_true]
      have S5 := s4.st.wipe vs
      rw [hw3'] at S5
      refine ⟨wipeE env4 vs, accD, acc, rest, S5, by rw [wipeE_len]; exact len4, fun j => ?_, D4, acc4, sm4, fun hpu => ?_, hr, ht⟩
      · rw [isOw_wipe (fun j hj => by rw [s4.shp, hA3, no j hj]), s4.shp, hA3]
      · obtain ⟨p1, p2⟩ := hp hpu
        have : pu1 = true := by simp only [Bool.and_eq_true] at hpu; exact hpu.2.1
        obtain ⟨r1, r2⟩ := s4.pr this
        refine ⟨?_, p2.trans (k1.trans r2)⟩
        rw [r1, hwE, p1, wipeE_wipeE]
    | true =>
      rw [if_pos rfl] at hr
      rw [if_pos rfl]
      refine ⟨_, env4, s4.st, ?_⟩
      cases q5 : me env4 with
      | error z => rw [q5] at hr; cases hr
      | ok p5 =>
      obtain ⟨d5, env5⟩ := p5
      rw [q5] at hr
      simp only [bnd_ok] at hr
      cases q6 : lcL mt tt me vs (ds.drop (i + 1)) (wipeE env5 vs) with
      | error z => rw [q6] at hr; cases hr
      | ok p6 =>
      obtain ⟨r6, env6⟩ := p6
      rw [q6] at hr
      simp only [bnd_ok, Except.ok.injEq, Prod.mk.injEq] at hr
      obtain ⟨hr1, hr2⟩ := hr
      subst hr1 hr2
      intro v5 H5 s5 r5
      have D5 : H5 A = some (.lst acc) := by
        have na : ¬ Owns env4 σ3 A := fun z => (s4.st.xb A (.inr rfl)).2 z
        exact (hide_some (s5.sm A _ (by rw [hide_of na]; exact D4))).2
      have hzl : acc.length < sizeLine := by
        rw [← hacc.len]
        have := congrArg List.length ht
        rw [List.length_append, List.length_cons] at this
        have h2 : sizeLine = maxSeq := maxSeq_eq
        omega
      refine ⟨acc, D5, hzl, ?_⟩
      have o5 : Owns env5 σ3 = Owns env1 σ := s5.own.trans o4
      have acc5 : IsDs (cc X g) (hide H5 (fun b => Owns env1 σ b ∨ (xs b ∨ b = A))) accD acc := by
        refine acc4.same ?_
        have := s5.smH
        unfold Hid at this
        rw [o4] at this
        exact this
      have r5' : IsD (cc X g) (hide H5 (fun b => Owns env1 σ b ∨ (xs b ∨ b = A))) d5 v5 := by
        have : IsD (cc X g) (hide H5 (Hid (fun b => xs b ∨ b = A) env4 σ3)) d5 v5 := r5
        unfold Hid at this
        rw [o4] at this
        exact this
      have kU : Same (hide H5 (fun b => Owns env1 σ b ∨ (xs b ∨ b = A))) (hide (upd H5 A (.lst (acc ++ [v5]))) (fun b => Owns env1 σ b ∨ (xs b ∨ b = A))) := fun b o hb => by
        obtain ⟨h1, h2⟩ := hide_some hb
        rw [hide_of h1, upd_ne fun z => h1 (.inr (.inr z))]
        exact h2
      have S6 := (s5.st.updX (o := .lst (acc ++ [v5])) (a := A) (.inr rfl)).wipe vs
      rw [hw3'] at S6
      have hno5 : ∀ j ∈ vs, isOw env5 j = false := fun j hj => by rw [s5.shp, s4.shp, hA3, no j hj]
      have nA : ∀ {b o}, H1 b = some o → b ≠ A := fun h => ne_of_none h hA
      refine ⟨wipeE env5 vs, accD ++ [d5], acc ++ [v5], r6, S6, by rw [wipeE_len, s5.st.len, ← wipe_length σ3 vs, hw3', wipe_length, ← s.st.len], fun j => ?_, upd_same, IsDs.append (acc5.same kU) (IsDs.cons (r5'.same kU) IsDs.nil), fun b o hb => ?_, fun hpu => ?_, q6, by rw [List.append_assoc]; exact ht⟩
      · rw [isOw_wipe hno5, s5.shp, s4.shp, hA3]
      · have h1 := (sm4.trans (by have := s5.sm; rw [o4] at this; exact this)) b o hb
        obtain ⟨h2, h3⟩ := hide_some h1
        rw [hide_of h2, upd_ne (nA (hide_some hb).2)]
        exact h3
      · obtain ⟨p1, p2⟩ := hp hpu
        have h1 : pu1 = true := by simp only [Bool.and_eq_true] at hpu; exact hpu.2.1
        have h2 : pu2 = true := by simp only [Bool.and_eq_true] at hpu; exact hpu.2.2
        obtain ⟨r1, r2⟩ := s4.pr h1
        obtain ⟨r3, r4⟩ := s5.pr h2
        refine ⟨by rw [r3, r1, hwE, p1, wipeE_wipeE], fun b o hb => ?_⟩
        rw [upd_ne (nA hb)]
        exact r4 _ _ (r2 _ _ (k1 _ _ (p2 _ _ hb)))
  · rintro H2 ⟨env2, accD, acc, rest, S2, hl, hA2, hD, hacc, sm, hp, hr, ht⟩
    rw [List.drop_length] at hr
    unfold lcL at hr
    simp only [Except.ok.injEq, Prod.mk.injEq] at hr
    obtain ⟨hr1, hr2⟩ := hr
    subst hr1 hr2
    rw [List.append_nil] at ht
    subst ht
    have SX : StOk (cc X g) (fun b => xs b ∨ b = A) (resE env1 env2 vs) σ H2 := by
      refine StOk.res s.st S2 no hl hA2 fun b o hb => ?_
      obtain ⟨h1, h2⟩ := hide_some hb
      have h3 := (hide_some (sm b o (by rw [hide_of fun z => h1 (.inl z)]; exact h2))).2
      rw [hide_of fun z => z.elim (fun z => h1 (.inl z)) fun z => z.elim (fun z => h1 (.inr z)) (ne_of_none h2 hA)]
      exact h3
    have shpR : ∀ j, isOw (resE env1 env2 vs) j = isOw env1 j := fun j => by
      by_cases h : j ∈ vs
      · exact isOw_get (by rw [resE_get hl, if_pos h])
      · exact (isOw_get (by rw [resE_get hl, if_neg h])).trans (hA2 j)
    have oR : Owns (resE env1 env2 vs) σ = Owns env1 σ := owns_shape shpR
    refine w1 (.ref A) H2 ⟨SX.lessX fun a h => .inl h, fun j => (shpR j).trans (s.shp j), s.sm.trans (by rw [← s.own]; exact sm), fun hpu => ?_⟩ ⟨A, .lst acc, rfl, hA0, hD, SX, acc, rfl, ?_⟩
    · obtain ⟨p1, p2⟩ := hp hpu
      have h1 : pu = true := by simp only [Bool.and_eq_true] at hpu; exact hpu.1
      obtain ⟨r1, r2⟩ := s.pr h1
      refine ⟨?_, r2.trans p2⟩
      rw [p1, resE_wipe wipeE_len, r1]
    · refine hacc.same (hide_sub fun b z => ?_)
      unfold Hid at z
      rw [oR] at z
      rcases z with (z | z) | z
      · exact .inl z
      · exact .inr (.inl z)
      · exact .inr (.inr z)
end
end Dn

/-! Dn13 -/
set_option Elab.async false
set_option linter.all false
set_option maxRecDepth 100000
set_option maxHeartbeats 1000000
/-! Dn13: a comprehension's block; the rules. -/
namespace Dn
open PySem PySem.Spec L2
open PyProof.Rows hiding St

section
variable {X : Cx} {P : Program} {w : World} {K : PySem.W.Frag} {mg : Str → Option Value} {base : Heap} {N : List Str} {sc : Scope} {k : Nat} {bk nn : Bool} {g : Ce} {W : WX}
variable {pu pu1 pu2 : Bool} {e elt tg iter c1 : Expr} {ifs : List Expr} {scope : Scope} {own : List (Str × Nat)} {pos p pos' : Pos} {mi : Iv} {mt : Gv} {tt : Tv} {me : Ev} {vs : List Nat} {x : Str} {i : Nat}
theorem Cok.blk (C : Cok nn X W P w K mg base N sc k bk) (s : Shared) (H : Hp) (scope : Scope) (A : Addr) (cl : List (Str × Addr)) (fp : List Addr) : Cok nn (X.blk s H scope (compEnvC scope cl A X.env) fp) W0 P w K mg base N (relS scope sc) k true where
  eP := C.eP
  ew := C.ew
  eK := C.eK
  em := C.em
  eb := C.eb
  eN := C.eN
  es := by have := C.es; subst this; rfl
  calm := C.calm
  room := C.room
  nd := C.nd
  fn := fun z => nomatch z
  tk := by cases nn <;> (intro _ _ x; obtain ⟨_, _, _, _, _, _, _, _, _, _, _, _, _, _, _, _, z⟩ := x; exact z.elim)
  own := fun z => nomatch z
  sf := fun z => nomatch z
/-- a target's name within a block -/
def tgB (sc scope : Scope) (x : Str) : Bool := match (relS scope sc).names.lookup x with
  | some .local => true
  | some .cell => scope.names.lookup x == some .cell
  | _ => false
theorem n_tg (C : Cok nn X W P w K mg base N sc k bk) (s : Shared) (H : Hp) (A : Addr) (cl : List (Str × Addr)) (fp : List Addr) (i : Nat) (hi : N[i]? = some x) (hv : tgB sc scope x = true) : PG (X.blk s H scope (compEnvC scope cl A X.env) fp) (.Name x pos) (gName i) := by
  have B := C.blk s H scope A cl fp
  unfold tgB at hv
  split at hv
  · rename_i q
    exact pg_name (by rw [B.eN]; exact C.nd) (by rw [B.eN]; exact hi) (by rw [B.es]; exact .inl q) (.inr (by rw [B.es]; exact q))
  · rename_i q
    exact pg_name (by rw [B.eN]; exact C.nd) (by rw [B.eN]; exact hi) (by rw [B.es]; exact .inr q) (.inl hv)
  · cases hv
abbrev DC (X : Cx) (g : Ce) (pu : Bool) (es : List Expr) (t : Tv) : Prop := PTs X es (tT (cc X g) pu t W0)
theorem PTs.imp {X : Cx} {e : List Expr} {t t' : TT} (h : PTs X e t) (k : ∀ σ H Q, t' σ H Q → t σ H Q) : PTs X e t' := ⟨fun pins s σ H Q I w => h.run pins s σ H Q I (k _ _ _ w)⟩
theorem c_nil : DC X g true [] dYes := PTs.imp pts_nil fun σ H Q ⟨xs, env, S, w⟩ => w true H (.refl S) rfl
theorem c_one (h : DT X g pu e tt W0) : DC X g pu [e] tt := pts_one h
theorem blk_ok (C : Cok nn X W P w K mg base N sc k bk) (h : blkC N sc scope own = true) : BlkOk X.N X.env.scope scope own := by
  rw [C.eN, C.es]; exact blkOk_by h
abbrev AllB (X : Cx) (scope : Scope) (φ : Cx → Prop) : Prop := ∀ (s : Shared) (H : Hp) (A : Addr) (cl : List (Str × Addr)) (fp : List Addr), φ (X.blk s H scope (compEnvC scope cl A X.env) fp)
theorem f_lc (C : Cok nn X W P w K mg base N sc k bk) (own : List (Str × Nat)) (ok : blkC N sc scope own = true) (hi : DI X g tg pu iter mi W) (hg : AllB X scope fun X' => DG X' g (own.map (·.2)) tg mt) (ht : AllB X scope fun X' => DC X' g pu1 ifs tt) (he : AllB X scope fun X' => DE X' g pu2 false elt me W0)
    (hs : ∀ x, foldedSetIterable iter X.env x = pure x := by intro _; rfl) : DF X g (pu && (pu1 && pu2)) (.ListComp elt [⟨tg, iter, ifs, 0⟩] scope pos) (dLc mi mt tt me (own.map (·.2))) W :=
  PE.imp (pe_lc C.calm (by rw [C.eN]; exact C.nd) hi (blk_ok C ok) hg ht he hs) fun σ H Q h => t_lc h
/-- y = [..] on one line: does the model swap -/
def swB (sc scope : Scope) (y : Str) (l l' : Nat) : Bool := (sc.names.lookup y == some .local && l == l') && !(scope.names.any fun (n, k) => n == y && (k == .local || k == .cell))
theorem sw_eq (C : Cok nn X W P w K mg base N sc k bk) {gs : List Comprehension} {l : Nat} (h : swB sc scope x p.line pos.line = false) : swapsWith (.ListComp elt gs scope pos) (some (.Name x p)) l X.env = pure false := by
  have e : swapsWith (.ListComp elt gs scope pos) (some (.Name x p)) l X.env = pure (X.env.blockKind == .function && X.env.kindOf x == some .local && p.line == pos.line && !(scope.names.any fun (n, k) => n == x && (k == .local || k == .cell))) := rfl
  have e2 : X.env.kindOf x = sc.names.lookup x := by have := C.es; subst this; rfl
  rw [e, e2, Bool.and_assoc (X.env.blockKind == .function), Bool.and_assoc (X.env.blockKind == .function)]
  unfold swB at h
  rw [h, Bool.and_false]
theorem sw_eqT (C : Cok nn X W P w K mg base N sc k bk) (hk : (match sc.kind with | .function => true | _ => false) = true) {gs : List Comprehension} {l : Nat} (h : swB sc scope x p.line pos.line = true) : swapsWith (.ListComp elt gs scope pos) (some (.Name x p)) l X.env = pure true := by
  have es := C.es
  unfold swB at h
  simp only [Bool.and_eq_true, Bool.not_eq_true', beq_iff_eq] at h
  obtain ⟨⟨h1, h2⟩, h3⟩ := h
  have h0 : sc.kind = .function := by
    split at hk
    · assumption
    · cases hk
  exact sw_true (by rw [es]; exact h0) (by rw [es]; exact h1) (by rw [h2]; exact beq_self_eq_true _) h3
theorem swB_loc {l l' : Nat} (h : swB sc scope x l l' = true) : sc.names.lookup x = some .local := by
  unfold swB at h
  simp only [Bool.and_eq_true, Bool.not_eq_true', beq_iff_eq] at h
  exact h.1.1
/-- the store of a comprehension, swapped or not -/
theorem setLc_pe (C : Cok nn X W P w K mg base N sc k false) (own : List (Str × Nat)) (ok : blkC N sc scope own = true) (hk : (match sc.kind with | .function => true | _ => false) = true) (i : Nat) (hx : N[i]? = some x) (hl : locB sc x = true) (hi : DI X g tg pu iter mi W) (hg : AllB X scope fun X' => DG X' g (own.map (·.2)) tg mt) (ht : AllB X scope fun X' => DC X' g pu1 ifs tt) (he : AllB X scope fun X' => DE X' g pu2 false elt me W0)
    (hs : ∀ x, foldedSetIterable iter X.env x = pure x) : PS X (.Assign [.Name x p] (.ListComp elt [⟨tg, iter, ifs, 0⟩] scope pos) pos') (tAsg (tLc (tI (cc X g) pu mi W) (tG (cc X g) mt (own.map (·.2))) (tT (cc X g) pu1 tt W0) (tE (cc X g) pu2 false me W0) (own.map (·.2))) (gName i)) := by
  cases h : swB sc scope x p.line pos.line with
  | true => exact ps_setLc C.calm (by rw [C.eN]; exact C.nd) (by rw [C.eN]; exact hx) (by rw [C.es]; exact swB_loc h) (sw_eqT C hk h) hi (blk_ok C ok) hg ht he hs
  | false => exact set_pe C i hx hl (pe_lc C.calm (by rw [C.eN]; exact C.nd) hi (blk_ok C ok) hg ht he hs) (sw_eq C h)
theorem s_setLc (C : Cok nn X W P w K mg base N sc k false) (own : List (Str × Nat)) (ok : blkC N sc scope own = true) (hk : (match sc.kind with | .function => true | _ => false) = true) (i : Nat) (hx : N[i]? = some x) (hl : locB sc x = true) (hi : DI X g tg pu iter mi W) (hg : AllB X scope fun X' => DG X' g (own.map (·.2)) tg mt) (ht : AllB X scope fun X' => DC X' g pu1 ifs tt) (he : AllB X scope fun X' => DE X' g pu2 false elt me W0)
    (hs : ∀ x, foldedSetIterable iter X.env x = pure x := by intro _; rfl) : DS X g (.Assign [.Name x p] (.ListComp elt [⟨tg, iter, ifs, 0⟩] scope pos) pos') (sSet i (dLc mi mt tt me (own.map (·.2)))) W :=
  PS.imp (setLc_pe C own ok hk i hx hl hi hg ht he hs) fun E σ H h => by
    obtain ⟨xs, env, S, w⟩ := h
    exact t_lc (W := W) ⟨xs, env, S, WantS.bindE w fun d env' v H' e s r w' => by
      obtain ⟨a, o, rfl, n, h1, _, h2⟩ := r
      rw [s.hid] at h2
      have r' : IsD (cc X g) (hide H' (Hid xs env σ)) d (.ref a) := h2.isD h1 (S.newHid n)
      rw [← s.hid] at r'
      dsimp only at w'
      rcases put_cases i (.va d) env' with q | ⟨q, h0⟩ <;> rw [q] at w'
      · exact w'.elim
      · exact w' _ H' (s.st.setVa i r') (kept_va s h0)⟩
theorem s_setOLc (C : Cok nn X W P w K mg base N sc k false) (own : List (Str × Nat)) (ok : blkC N sc scope own = true) (hk : (match sc.kind with | .function => true | _ => false) = true) (i : Nat) (hx : N[i]? = some x) (hl : locB sc x = true) (hi : DI X g tg pu iter mi W) (hg : AllB X scope fun X' => DG X' g (own.map (·.2)) tg mt) (ht : AllB X scope fun X' => DC X' g pu1 ifs tt) (he : AllB X scope fun X' => DE X' g pu2 false elt me W0)
    (hs : ∀ x, foldedSetIterable iter X.env x = pure x := by intro _; rfl) : DS X g (.Assign [.Name x p] (.ListComp elt [⟨tg, iter, ifs, 0⟩] scope pos) pos') (sSetO i (dLc mi mt tt me (own.map (·.2)))) W :=
  PS.imp (setLc_pe C own ok hk i hx hl hi hg ht he hs) fun E σ H h => by
    obtain ⟨xs, env, S, w⟩ := h
    exact t_lc (W := W) ⟨xs, env, S, WantS.bindE w fun d env' v H' e s r w' => by
      dsimp only at w'
      rcases put_cases i (.ow d) env' with q | ⟨q, h0⟩ <;> rw [q] at w'
      · exact w'.elim
      · obtain ⟨h1, h2⟩ := s.setOw S i h0 r
        exact w' _ H' h1 h2⟩
end
end Dn

/-! Dn14 -/
set_option Elab.async false
set_option linter.all false
set_option maxRecDepth 100000
set_option maxHeartbeats 1000000
/-! Dn14: built-ins of data. -/
namespace Dn
open PySem PySem.Spec L2
open PyProof.Rows hiding St

section
variable {X : Cx} {P : Program} {w : World} {K : PySem.W.Frag} {mg : Str → Option Value} {base : Heap} {N : List Str} {sc : Scope} {k : Nat} {bk nn : Bool} {g : Ce} {W : WX}
variable {pu pu1 pu2 sh sh1 : Bool} {e e1 a b : Expr} {es : List Expr} {pos p p2 pos' apos cpos : Pos} {m m1 m2 : Ev} {ma : Av} {shs : List Bool} {x : Str} {c : Cc} {T : String}

/-! ### isinstance with one built-in type -/
def D.ty : D → Option String
  | .non => some "NoneType"
  | .bl _ => some "bool"
  | .int _ => some "int"
  | .str _ => some "str"
  | .tup _ => some "tuple"
  | .lst _ => some "list"
  | .dct _ _ => none
  | .scr _ => some "list"
  | .fn _ => none
/-- is a value of type t one of T -/
def isTy (t T : String) : Bool := t == T || (t == "bool" && T == "int")
def dIsi (T : String) (m : Ev) : Ev := fun env => bnd (m env) fun p => match p.1.ty with
  | some t => .ok (.bl (isTy t T), p.2)
  | none => stuck
theorem RepS.ty {Z : Addr → Prop} {H : Hp} {d : D} {v : V} {t : String} (r : RepS c Z H d v) (h : d.ty = some t) : TyX c.K H v (.type t) := by
  cases d with
  | non => cases h; rw [r.non]; exact .base .non
  | bl b => cases h; rw [r.bl]; exact .base (.bl _)
  | int i => cases h; rw [r.int]; exact .base (.int _)
  | str s => cases h; rw [r.str]; exact .base (.str _)
  | tup ds =>
    cases h
    obtain ⟨a, vs, rfl, h1, _⟩ := r.tup
    rcases h1 with (h1 | ⟨o, h1⟩) | ⟨o, its, n, h1, h2, _⟩
    · exact .base (.tup h1)
    · exact .fTuple h1
    · exact .kTuple h1 h2
  | lst ds =>
    cases h
    obtain ⟨a, vs, rfl, h1, _⟩ := r.lst
    exact .base (.lst h1)
  | dct ks ws => cases h
  | scr ns =>
    cases h
    unfold RepS IsD at r
    obtain ⟨a, rfl, h1⟩ := r
    rcases h1 with (h1 | ⟨o, h1⟩) | ⟨o, its, n, h1, h2, _⟩
    · exact .base (.lst (hide_full _ _ h1))
    · exact .base (.frz (hide_full _ _ h1))
    · exact .kList h1 h2
  | fn i => cases h
def KitT (T : String) : Prop := ∀ (K : PySem.W.Frag) (d : D) (t : String), d.ty = some t → PySem.W.kitOne K (.type t) (.type T) = some (isTy t T)
theorem kitT_int : KitT "int" := fun K d t h => by cases d <;> cases h <;> rfl
theorem kitT_bool : KitT "bool" := fun K d t h => by cases d <;> cases h <;> rfl
theorem kitT_str : KitT "str" := fun K d t h => by cases d <;> cases h <;> rfl
theorem kitT_tuple : KitT "tuple" := fun K d t h => by cases d <;> cases h <;> rfl
theorem kitT_list : KitT "list" := fun K d t h => by cases d <;> cases h <;> rfl
theorem kitT_dict : KitT "dict" := fun K d t h => by cases d <;> cases h <;> rfl
theorem e_isi (kt : KitT T) (hg : Gl X "isinstance") (hm : X.mg "isinstance" = none) (hg2 : Gl X x) (hm2 : X.mg x = none) (hv : bootBuiltins x = some (.type T)) (he : DE X g pu sh e m W) (hn : x ≠ "__name__" := by decide) (hdb : (x == ("__debug__" : Str)) = false := by decide)
    (hs : starEach [e, .Name x p2] X.env = (false, eval e X.env) :: starEach [.Name x p2] X.env := by rfl) (hs2 : starEach [.Name x p2] X.env = (false, eval (.Name x p2) X.env) :: starEach [] X.env := by rfl) (hpl : (backTo pos (starEach [.Name x p2] X.env)).any (·.1) = false := by rfl) :
    DE X g pu false (.Call (.Name "isinstance" p) [e, .Name x p2] [] pos) (dIsi T m) W :=
  PE.imp (pe_callB call_isi hg hm rfl (pa_cons he (pa_cons (pe_bltn (v := .ty T) hg2 hm2 hv rfl hn hdb) pa_nil hs2) hs) (by decide) (by decide) hs hpl) fun σ H Q ⟨xs, env, S, w⟩ => ⟨xs, env, S, Want.bind w fun d env' v H' e s r w' => by
    dsimp only at w'
    split at w'
    · rename_i t ht
      exact ⟨v, .ty T, .type t, .type T, _, rfl, .ty T, RepS.ty (c := cc X g) (Rep.shell r) ht, kt _ _ _ ht, w' _ H' s (Rep.of isBl)⟩
    · exact w'.elim⟩

/-! ### built-ins by values -/
def bLen : List D → M D
  | [.lst xs] => .ok (.int xs.length)
  | [.tup xs] => .ok (.int xs.length)
  | [.scr xs] => .ok (.int xs.length)
  | [.str x] => if x.length ≤ maxSeq then .ok (.int x.length) else stuck
  | _ => stuck
theorem bLen_nr : NoRL bLen := fun ds k p h => by
  unfold bLen at h
  split at h <;> (try split at h) <;> cases h
theorem vc_len : VC c (fun xs H Q => ∃ x n, xs = [x] ∧ LenV c.K x H n ∧ Q (.int n) H) bLen := fun Z H vs ds d Q hP r e k => by
  unfold bLen at e
  split at e
  · obtain ⟨v, rfl, r1⟩ := r.one
    obtain ⟨a, ws, rfl, h1, h2⟩ := r1.lst
    cases e
    exact ⟨.ref a, ws.length, rfl, .inl ⟨ws, SqL.of h1, rfl⟩, by rw [← h2.len]; exact k _ H (Same.refl _) isInt⟩
  · obtain ⟨v, rfl, r1⟩ := r.one
    obtain ⟨a, ws, rfl, h1, h2⟩ := r1.tup
    cases e
    exact ⟨.ref a, ws.length, rfl, .inr ⟨ws, h1, rfl⟩, by rw [← h2.len]; exact k _ H (Same.refl _) isInt⟩
  · obtain ⟨v, rfl, r1⟩ := r.one
    unfold RepS IsD at r1
    obtain ⟨a, rfl, h1⟩ := r1
    cases e
    exact ⟨.ref a, _, rfl, .inl ⟨_, SqL.hid h1, rfl⟩, by rw [List.length_map]; exact k _ H (Same.refl _) isInt⟩
  · split at e
    · rename_i hz
      obtain ⟨v, rfl, r1⟩ := r.one
      rw [r1.str]
      cases e
      exact ⟨.str _, _, rfl, ⟨by rw [maxSeq_eq]; exact hz, rfl⟩, k _ H (Same.refl _) isInt⟩
    · cases e
  · cases e
def bList : List D → M D
  | [.lst xs] => .ok (.lst xs)
  | [.tup xs] => .ok (.lst xs)
  | [.scr xs] => .ok (.lst (xs.map D.int))
  | _ => stuck
theorem bList_nr : NoRL bList := fun ds k p h => by
  unfold bList at h
  split at h <;> cases h
theorem repV_lst {Z : Addr → Prop} {H : Hp} {ds : List D} {vs : List V} {p : Addr} (hp : H p = none) (r : IsDs c (hide H Z) ds vs) : RepV c Z H (upd H p (.lst vs)) (.lst ds) (.ref p) := by
  refine ⟨p, _, rfl, hp, upd_same, vs, rfl, r.same fun b o hb => ?_⟩
  obtain ⟨h1, h2⟩ := hide_some hb
  have ne : b ≠ p := ne_of_none h2 hp
  rw [hide_of fun z => z.elim h1 ne, upd_ne ne]
  exact h2
theorem vcf_list : VCF c (fun xs H Q => ∃ p ys, xs = [.ref p] ∧ (SqL c.K H p ys ∨ SqT c.K H p ys) ∧ ∀ l, H l = none → Q (.ref l) (upd H l (.lst ys))) bList := fun Z H vs ds d Q hP r e k => by
  unfold bList at e
  split at e
  · obtain ⟨v, rfl, r1⟩ := r.one
    obtain ⟨a, ws, rfl, h1, h2⟩ := r1.lst
    cases e
    exact ⟨a, ws, rfl, .inl (SqL.of h1), fun l hl => k _ _ (same_new hl) (repV_lst hl h2)⟩
  · obtain ⟨v, rfl, r1⟩ := r.one
    obtain ⟨a, ws, rfl, h1, h2⟩ := r1.tup
    cases e
    exact ⟨a, ws, rfl, .inr h1, fun l hl => k _ _ (same_new hl) (repV_lst hl h2)⟩
  · obtain ⟨v, rfl, r1⟩ := r.one
    unfold RepS IsD at r1
    obtain ⟨a, rfl, h1⟩ := r1
    cases e
    exact ⟨a, _, rfl, .inl (SqL.hid h1), fun l hl => k _ _ (same_new hl) (repV_lst hl (isDs_ints _))⟩
  · cases e
def bTuple : List D → M D
  | [.lst xs] => .ok (.tup xs)
  | [.tup xs] => .ok (.tup xs)
  | _ => stuck
theorem bTuple_nr : NoRL bTuple := fun ds k p h => by
  unfold bTuple at h
  split at h <;> cases h
theorem vc_tuple : VC c (fun xs H Q => ∃ p ys, xs = [.ref p] ∧ ((SqL c.K H p ys ∧ ∀ l, H l = none → Q (.ref l) (upd H l (.tup ys))) ∨ (SqT c.K H p ys ∧ Q (.ref p) H))) bTuple := fun Z H vs ds d Q hP r e k => by
  unfold bTuple at e
  split at e
  · obtain ⟨v, rfl, r1⟩ := r.one
    obtain ⟨a, ws, rfl, h1, h2⟩ := r1.lst
    cases e
    exact ⟨a, ws, rfl, .inl ⟨SqL.of h1, fun l hl => k _ _ (same_new hl) (isNewT hl hP h2)⟩⟩
  · obtain ⟨v, rfl, r1⟩ := r.one
    have r0 := r1
    obtain ⟨a, ws, rfl, h1, h2⟩ := r1.tup
    cases e
    exact ⟨a, ws, rfl, .inr ⟨h1, k _ H (Same.refl _) r0⟩⟩
  · cases e
def bools : List D → Option (List Bool)
  | [] => some []
  | .bl b :: r => (bools r).map (b :: ·)
  | _ => none
theorem bools_rep {H : Hp} : ∀ {ds : List D} {vs : List V} {bs : List Bool}, bools ds = some bs → IsDs c H ds vs → vs = bs.map V.bl
  | [], vs, bs, h, r => by unfold IsDs at r; cases h; exact r
  | d :: ds, vs, bs, h, r => by
    unfold IsDs at r
    obtain ⟨v, ws, rfl, h1, h2⟩ := r
    cases d <;> simp only [bools] at h <;> try (cases h; done)
    rename_i b
    cases q : bools ds with
    | none => rw [q] at h; cases h
    | some cs =>
      rw [q] at h
      cases h
      rw [bools_rep q h2]
      unfold IsD at h1
      rw [h1]; rfl
def bAll : List D → M D
  | [.lst xs] => match bools xs with
    | some bs => .ok (.bl (bs.all id))
    | none => stuck
  | _ => stuck
def bAny : List D → M D
  | [.lst xs] => match bools xs with
    | some bs => .ok (.bl (bs.any id))
    | none => stuck
  | _ => stuck
theorem bAll_nr : NoRL bAll := fun ds k p h => by
  unfold bAll at h
  split at h <;> (try split at h) <;> cases h
theorem bAny_nr : NoRL bAny := fun ds k p h => by
  unfold bAny at h
  split at h <;> (try split at h) <;> cases h
theorem vc_all : VC c (rAll c.K) bAll := fun Z H vs ds d Q hP r e k => by
  unfold bAll at e
  split at e
  · split at e
    · rename_i bs hb
      obtain ⟨v, rfl, r1⟩ := r.one
      obtain ⟨a, ws, rfl, h1, h2⟩ := r1.lst
      cases e
      exact ⟨a, bs, rfl, by rw [← bools_rep hb h2]; exact SqL.of h1, k _ H (Same.refl _) isBl⟩
    · cases e
  · cases e
theorem vc_any : VC c (rAny c.K) bAny := fun Z H vs ds d Q hP r e k => by
  unfold bAny at e
  split at e
  · split at e
    · rename_i bs hb
      obtain ⟨v, rfl, r1⟩ := r.one
      obtain ⟨a, ws, rfl, h1, h2⟩ := r1.lst
      cases e
      exact ⟨a, bs, rfl, by rw [← bools_rep hb h2]; exact SqL.of h1, k _ H (Same.refl _) isBl⟩
    · cases e
  · cases e
def intsOf : List D → Option (List Int)
  | [] => some []
  | .int i :: r => (intsOf r).map (i :: ·)
  | _ => none
theorem intsOf_rep {H : Hp} : ∀ {ds : List D} {vs : List V} {bs : List Int}, intsOf ds = some bs → IsDs c H ds vs → vs = bs.map V.int
  | [], vs, bs, h, r => by unfold IsDs at r; cases h; exact r
  | d :: ds, vs, bs, h, r => by
    unfold IsDs at r
    obtain ⟨v, ws, rfl, h1, h2⟩ := r
    cases d <;> simp only [intsOf] at h <;> try (cases h; done)
    rename_i b
    cases q : intsOf ds with
    | none => rw [q] at h; cases h
    | some cs =>
      rw [q] at h
      cases h
      rw [intsOf_rep q h2]
      unfold IsD at h1
      rw [h1]; rfl
def bAbs : List D → M D
  | [.int i] => .ok (.int (if i < 0 then -i else i))
  | _ => stuck
theorem bAbs_nr : NoRL bAbs := fun ds k p h => by
  unfold bAbs at h
  split at h <;> cases h
theorem vc_abs : VC c (fun xs H Q => ∃ i, xs = [.int i] ∧ Q (.int (if i < 0 then -i else i)) H) bAbs := fun Z H vs ds d Q hP r e k => by
  unfold bAbs at e
  split at e
  · obtain ⟨v, rfl, r1⟩ := r.one
    rw [r1.int]
    cases e
    exact ⟨_, rfl, k _ H (Same.refl _) isInt⟩
  · cases e
def bInt : List D → M D
  | [.int i] => .ok (.int i)
  | [.bl b] => .ok (.int (if b = true then 1 else 0))
  | _ => stuck
theorem bInt_nr : NoRL bInt := fun ds k p h => by
  unfold bInt at h
  split at h <;> cases h
theorem vc_int : VC c (fun xs H Q => (∃ i, xs = [.int i] ∧ Q (.int i) H) ∨ ∃ k, xs = [.bl k] ∧ Q (.int (if k then 1 else 0)) H) bInt := fun Z H vs ds d Q hP r e k => by
  unfold bInt at e
  split at e
  · obtain ⟨v, rfl, r1⟩ := r.one
    rw [r1.int]
    cases e
    exact .inl ⟨_, rfl, k _ H (Same.refl _) isInt⟩
  · obtain ⟨v, rfl, r1⟩ := r.one
    rw [r1.bl]
    cases e
    exact .inr ⟨_, rfl, k _ H (Same.refl _) isInt⟩
  · cases e
/-- the least, the greatest -/
def leastOf : List Int → Option Int
  | [] => none
  | i :: r => match leastOf r with
    | some j => some (if j < i then j else i)
    | none => some i
def mostOf : List Int → Option Int
  | [] => none
  | i :: r => match mostOf r with
    | some j => some (if i < j then j else i)
    | none => some i
theorem leastOf_le : ∀ {ns : List Int} {m : Int}, leastOf ns = some m → m ∈ ns ∧ ∀ y ∈ ns, m ≤ y
  | [], m, h => by cases h
  | i :: r, m, h => by
    unfold leastOf at h
    cases q : leastOf r with
    | none =>
      rw [q] at h; cases h
      cases r with
      | nil => simp
      | cons j r => unfold leastOf at q; split at q <;> cases q
    | some j =>
      rw [q] at h; cases h
      obtain ⟨h1, h2⟩ := leastOf_le q
      split
      · refine ⟨List.mem_cons_of_mem _ h1, fun y hy => ?_⟩
        rcases List.mem_cons.mp hy with rfl | hy
        · omega
        · exact h2 y hy
      · refine ⟨List.mem_cons_self, fun y hy => ?_⟩
        rcases List.mem_cons.mp hy with rfl | hy
        · omega
        · have := h2 y hy; omega
theorem mostOf_le : ∀ {ns : List Int} {m : Int}, mostOf ns = some m → m ∈ ns ∧ ∀ y ∈ ns, y ≤ m
  | [], m, h => by cases h
  | i :: r, m, h => by
    unfold mostOf at h
    cases q : mostOf r with
    | none =>
      rw [q] at h; cases h
      cases r with
      | nil => simp
      | cons j r => unfold mostOf at q; split at q <;> cases q
    | some j =>
      rw [q] at h; cases h
      obtain ⟨h1, h2⟩ := mostOf_le q
      split
      · refine ⟨List.mem_cons_of_mem _ h1, fun y hy => ?_⟩
        rcases List.mem_cons.mp hy with rfl | hy
        · omega
        · exact h2 y hy
      · refine ⟨List.mem_cons_self, fun y hy => ?_⟩
        rcases List.mem_cons.mp hy with rfl | hy
        · omega
        · have := h2 y hy; omega
def bMin : List D → M D
  | [.int i, .int j] => .ok (.int (if j < i then j else i))
  | [.lst xs] => match (intsOf xs).bind leastOf with
    | some m => .ok (.int m)
    | none => stuck
  | [.tup xs] => match (intsOf xs).bind leastOf with
    | some m => .ok (.int m)
    | none => stuck
  | _ => stuck
def bMax : List D → M D
  | [.int i, .int j] => .ok (.int (if j > i then j else i))
  | [.lst xs] => match (intsOf xs).bind mostOf with
    | some m => .ok (.int m)
    | none => stuck
  | [.tup xs] => match (intsOf xs).bind mostOf with
    | some m => .ok (.int m)
    | none => stuck
  | _ => stuck
def bSum : List D → M D
  | [.lst xs] => match intsOf xs with
    | some ns => .ok (.int ns.sum)
    | none => stuck
  | [.tup xs] => match intsOf xs with
    | some ns => .ok (.int ns.sum)
    | none => stuck
  | _ => stuck
theorem bMin_nr : NoRL bMin := fun ds k p h => by
  unfold bMin at h
  split at h <;> (try split at h) <;> cases h
theorem bMax_nr : NoRL bMax := fun ds k p h => by
  unfold bMax at h
  split at h <;> (try split at h) <;> cases h
theorem bSum_nr : NoRL bSum := fun ds k p h => by
  unfold bSum at h
  split at h <;> (try split at h) <;> cases h
end
end Dn

/-! Dn15 -/
set_option Elab.async false
set_option linter.all false
set_option maxRecDepth 100000
set_option maxHeartbeats 1000000
/-! Dn15: sum, min, max of tuples; enumerate over tuples. -/
namespace Dn
open PySem PySem.Spec L2
open PyProof.Rows hiding St

/-! ### walks of a tuple of ints -/
section
variable {prog : Program} {w : World} {A : Around} {E : Value → Shared → Prop} {s : Shared} {l : Addr} {xs : Array (Int × Tok)}
theorem iter_tupI {items : Array Value} {Q : Value → Shared → Prop} (hl : s.heap.IsTuple l items)
    (h : ∀ s2 : Shared, s2 = { s with heap := s.heap.push { cls := .type "tuple_iterator", data := .fields #[.ref l, .int 0 0] } } →
      (s2.heap.IsTupleIter s.heap.objs.size l 0 ∧ s2.heap.IsTuple l items) → (∀ b ∈ [s.heap.objs.size, l], b < s2.heap.objs.size) → l ≠ s.heap.objs.size → Q (.ref s.heap.objs.size) s2) :
    wpAny (model prog w) A (pyIter (.ref l)) Q E s := by
  have hlt : l < s.heap.objs.size := by obtain ⟨_, e, _⟩ := hl; exact Heap.lt_size e
  refine wpAny_pyIter_tuple hl (h _ rfl ⟨⟨_, Heap.get?_push_size _ rfl, rfl, rfl⟩, hl.push _⟩ (fun b hb => ?_) (Nat.ne_of_lt hlt))
  show b < (s.heap.push _).objs.size
  rw [Heap.size_push]
  rcases List.mem_cons.mp hb with rfl | hb
  · exact Nat.lt_succ_self _
  · rw [List.mem_singleton.mp hb]; exact Nat.lt_succ_of_lt hlt
theorem kept_old {h' : Heap} {o : Obj} (hk : ∀ b u, b ∉ [s.heap.objs.size] → (s.heap.push o).get? b = some u → h'.get? b = some u) (b : Addr) (u : Obj) (e : s.heap.get? b = some u) : h'.get? b = some u :=
  hk b u (fun z => by rw [List.mem_singleton] at z; subst z; exact absurd (Heap.lt_size e) (Nat.lt_irrefl _)) (Heap.get?_push_of_some _ e)
theorem sum_tupI {Q : Value → Shared → Prop} (hh : A.handled = none) (hl : s.heap.IsTuple l (intItems xs))
    (h : ∀ h' tk t', (∀ b o, s.heap.get? b = some o → h'.get? b = some o) → Q (.int (preSum (numAt xs) xs.size) t') { s with heap := h', toks := tk }) :
    wpAny (model prog w) A (call (.builtin "sum") [.ref l]) Q E s := by
  refine call_sum_walkG (iter_tupI hl fun s2 e st hfp hlI => ?_)
  subst e
  refine ⟨_, _, _, _, _, _, numAt xs, rfl, Walks.tuple (A := A.in1) hh _ l hlI (intItems xs), st, hfp, (fun _ _ => intItems_at), fun h' tk t' hk => ?_⟩
  have := h h' tk t' (kept_old hk)
  simpa [intItems] using this
theorem max_tupI {Q : Value → Shared → Prop} (hh : A.handled = none) (hl : s.heap.IsTuple l (intItems xs)) (hne : 0 < xs.size)
    (h : ∀ v h' tk, (intItems xs)[argBest (fun i j => decide (numAt xs i > numAt xs j)) (xs.size - 1)]? = some v → (∀ b o, s.heap.get? b = some o → h'.get? b = some o) → Q v { s with heap := h', toks := tk }) :
    wpAny (model prog w) A (call (.builtin "max") [.ref l]) Q E s := by
  refine call_max_walk (iter_tupI hl fun s2 e st hfp hlI => ?_)
  subst e
  refine ⟨_, _, _, _, _, _, _, rfl, Walks.tuple (A := A.in1) hh _ l hlI (intItems xs), st, hfp, by simpa [intItems] using hne, CmpOf.ints_gt (numAt xs) (fun _ _ => intItems_at), fun v h' tk hP hk => ?_⟩
  exact h v h' tk (by simpa [intItems] using hP) (kept_old hk)
theorem min_tupI {Q : Value → Shared → Prop} (hh : A.handled = none) (hl : s.heap.IsTuple l (intItems xs)) (hne : 0 < xs.size)
    (h : ∀ v h' tk, (intItems xs)[argBest (fun i j => decide (numAt xs i < numAt xs j)) (xs.size - 1)]? = some v → (∀ b o, s.heap.get? b = some o → h'.get? b = some o) → Q v { s with heap := h', toks := tk }) :
    wpAny (model prog w) A (call (.builtin "min") [.ref l]) Q E s := by
  refine call_min_walk (iter_tupI hl fun s2 e st hfp hlI => ?_)
  subst e
  refine ⟨_, _, _, _, _, _, _, rfl, Walks.tuple (A := A.in1) hh _ l hlI (intItems xs), st, hfp, by simpa [intItems] using hne, CmpOf.ints_lt (numAt xs) (fun _ _ => intItems_at), fun v h' tk hP hk => ?_⟩
  exact h v h' tk (by simpa [intItems] using hP) (kept_old hk)
end
section
variable {X : Cx} {c : Cc}
def rSumT (K : PySem.W.Frag) : RC := fun vs H Q => ∃ (a : Addr) (ns : List Int), vs = [V.ref a] ∧ SqT K H a (ns.map V.int) ∧ Q (.int ns.sum) H
def rMaxT (K : PySem.W.Frag) : RC := fun vs H Q => ∃ (a : Addr) (ns : List Int), vs = [V.ref a] ∧ SqT K H a (ns.map V.int) ∧ 0 < ns.length ∧ ∀ m, m ∈ ns → (∀ y, y ∈ ns → y ≤ m) → Q (.int m) H
def rMinT (K : PySem.W.Frag) : RC := fun vs H Q => ∃ (a : Addr) (ns : List Int), vs = [V.ref a] ∧ SqT K H a (ns.map V.int) ∧ 0 < ns.length ∧ ∀ m, m ∈ ns → (∀ y, y ∈ ns → m ≤ y) → Q (.int m) H
theorem cr_sumT (hc : X.calm = true) : CallR X (.builtin "sum") (rSumT X.K) := by
  intro pins s σ H vs us Q I r h
  obtain ⟨a, ns, rfl, hs, q⟩ := h
  obtain ⟨its, rv, hl, _⟩ := I.tuple hs
  rw [Vals.ref1 r]
  obtain ⟨xs, e⟩ := rv.ints.allInts.items
  have hn : numsOf (intItems xs).toList = ns := by rw [← e]; exact rv.ints.numsOf
  rw [nums_intItems] at hn
  have hl' : s.heap.IsTuple a its.toArray := hl
  rw [e] at hl'
  refine sum_tupI (I.ok.hd hc) hl' fun h' tk t' hk => ?_
  rw [preSum_eq, List.take_of_length_le (by simp), hn]
  exact ⟨.int _, H, I.kept hk, ⟨_, rfl⟩, q⟩
theorem cr_maxT (hc : X.calm = true) : CallR X (.builtin "max") (rMaxT X.K) := by
  intro pins s σ H vs us Q I r h
  obtain ⟨a, ns, rfl, hs, hne, q⟩ := h
  obtain ⟨its, rv, hl, _⟩ := I.tuple hs
  rw [Vals.ref1 r]
  obtain ⟨xs, e⟩ := rv.ints.allInts.items
  have hn : numsOf (intItems xs).toList = ns := by rw [← e]; exact rv.ints.numsOf
  rw [nums_intItems] at hn
  subst hn
  have hl' : s.heap.IsTuple a its.toArray := hl
  rw [e] at hl'
  have hsz : 0 < xs.size := by simpa using hne
  refine max_tupI (I.ok.hd hc) hl' hsz fun v h' tk hv hk => ?_
  obtain ⟨t, rfl⟩ := intItems_at hv
  obtain ⟨h1, h2⟩ := argBest_gt (numAt xs) (xs.size - 1)
  refine ⟨.int _, H, I.kept hk, ⟨_, rfl⟩, q _ ?_ fun y hy => ?_⟩
  · rw [numAt_eq]; exact PySem.getD_mem (by rw [List.length_map, Array.length_toList]; omega)
  · obtain ⟨j, hj, rfl⟩ := mem_getD hy
    rw [List.length_map, Array.length_toList] at hj
    rw [← numAt_eq]; exact h2 j (by omega)
theorem cr_minT (hc : X.calm = true) : CallR X (.builtin "min") (rMinT X.K) := by
  intro pins s σ H vs us Q I r h
  obtain ⟨a, ns, rfl, hs, hne, q⟩ := h
  obtain ⟨its, rv, hl, _⟩ := I.tuple hs
  rw [Vals.ref1 r]
  obtain ⟨xs, e⟩ := rv.ints.allInts.items
  have hn : numsOf (intItems xs).toList = ns := by rw [← e]; exact rv.ints.numsOf
  rw [nums_intItems] at hn
  subst hn
  have hl' : s.heap.IsTuple a its.toArray := hl
  rw [e] at hl'
  have hsz : 0 < xs.size := by simpa using hne
  refine min_tupI (I.ok.hd hc) hl' hsz fun v h' tk hv hk => ?_
  obtain ⟨t, rfl⟩ := intItems_at hv
  obtain ⟨h1, h2⟩ := argBest_lt (numAt xs) (xs.size - 1)
  refine ⟨.int _, H, I.kept hk, ⟨_, rfl⟩, q _ ?_ fun y hy => ?_⟩
  · rw [numAt_eq]; exact PySem.getD_mem (by rw [List.length_map, Array.length_toList]; omega)
  · obtain ⟨j, hj, rfl⟩ := mem_getD hy
    rw [List.length_map, Array.length_toList] at hj
    rw [← numAt_eq]; exact h2 j (by omega)
def rSumA (K : PySem.W.Frag) : RC := fun vs H Q => rSum K vs H Q ∨ rSumT K vs H Q
def rMinA (K : PySem.W.Frag) : RC := fun vs H Q => (∃ i j, vs = [.int i, .int j] ∧ Q (.int (if j < i then j else i)) H) ∨ rMin K vs H Q ∨ rMinT K vs H Q
def rMaxA (K : PySem.W.Frag) : RC := fun vs H Q => (∃ i j, vs = [.int i, .int j] ∧ Q (.int (if j > i then j else i)) H) ∨ rMax K vs H Q ∨ rMaxT K vs H Q
theorem cr_sumA (hc : X.calm = true) : CallR X (.builtin "sum") (rSumA X.K) := CallR.or (cr_sum hc) (cr_sumT hc)
theorem cr_minA (hc : X.calm = true) : CallR X (.builtin "min") (rMinA X.K) := CallR.or (call_min2 hc) (CallR.or (cr_min hc) (cr_minT hc))
theorem cr_maxA (hc : X.calm = true) : CallR X (.builtin "max") (rMaxA X.K) := CallR.or (call_max2 hc) (CallR.or (cr_max hc) (cr_maxT hc))
theorem vc_sum : VC c (rSumA c.K) bSum := fun Z H vs ds d Q hP r e k => by
  unfold bSum at e
  split at e
  · split at e
    · rename_i ns hb
      obtain ⟨v, rfl, r1⟩ := r.one
      obtain ⟨a, ws, rfl, h1, h2⟩ := r1.lst
      cases e
      exact .inl ⟨a, ns, rfl, by rw [← intsOf_rep hb h2]; exact SqL.of h1, k _ H (Same.refl _) isInt⟩
    · cases e
  · split at e
    · rename_i ns hb
      obtain ⟨v, rfl, r1⟩ := r.one
      obtain ⟨a, ws, rfl, h1, h2⟩ := r1.tup
      cases e
      exact .inr ⟨a, ns, rfl, by rw [← intsOf_rep hb h2]; exact h1, k _ H (Same.refl _) isInt⟩
    · cases e
  · cases e
theorem least_uniq {ns : List Int} {m m' : Int} (h : leastOf ns = some m) (h1 : m' ∈ ns) (h2 : ∀ y ∈ ns, m' ≤ y) : m' = m := by
  obtain ⟨a, b⟩ := leastOf_le h
  have := b _ h1
  have := h2 _ a
  omega
theorem most_uniq {ns : List Int} {m m' : Int} (h : mostOf ns = some m) (h1 : m' ∈ ns) (h2 : ∀ y ∈ ns, y ≤ m') : m' = m := by
  obtain ⟨a, b⟩ := mostOf_le h
  have := b _ h1
  have := h2 _ a
  omega
theorem vc_min : VC c (rMinA c.K) bMin := fun Z H vs ds d Q hP r e k => by
  unfold bMin at e
  split at e
  · obtain ⟨v, v2, rfl, r1, r2⟩ := r.two
    rw [r1.int, r2.int]
    cases e
    exact .inl ⟨_, _, rfl, k _ H (Same.refl _) isInt⟩
  · split at e
    · rename_i m hb
      obtain ⟨v, rfl, r1⟩ := r.one
      obtain ⟨a, ws, rfl, h1, h2⟩ := r1.lst
      cases e
      obtain ⟨ns, q1, q2⟩ := Option.bind_eq_some_iff.mp hb
      refine .inr (.inl ⟨a, ns, rfl, by rw [← intsOf_rep q1 h2]; exact SqL.of h1, List.length_pos_of_mem (leastOf_le q2).1, fun m' h3 h4 => ?_⟩)
      rw [least_uniq q2 h3 h4]
      exact k _ H (Same.refl _) isInt
    · cases e
  · split at e
    · rename_i m hb
      obtain ⟨v, rfl, r1⟩ := r.one
      obtain ⟨a, ws, rfl, h1, h2⟩ := r1.tup
      cases e
      obtain ⟨ns, q1, q2⟩ := Option.bind_eq_some_iff.mp hb
      refine .inr (.inr ⟨a, ns, rfl, by rw [← intsOf_rep q1 h2]; exact h1, List.length_pos_of_mem (leastOf_le q2).1, fun m' h3 h4 => ?_⟩)
      rw [least_uniq q2 h3 h4]
      exact k _ H (Same.refl _) isInt
    · cases e
  · cases e
theorem vc_max : VC c (rMaxA c.K) bMax := fun Z H vs ds d Q hP r e k => by
  unfold bMax at e
  split at e
  · obtain ⟨v, v2, rfl, r1, r2⟩ := r.two
    rw [r1.int, r2.int]
    cases e
    exact .inl ⟨_, _, rfl, k _ H (Same.refl _) isInt⟩
  · split at e
    · rename_i m hb
      obtain ⟨v, rfl, r1⟩ := r.one
      obtain ⟨a, ws, rfl, h1, h2⟩ := r1.lst
      cases e
      obtain ⟨ns, q1, q2⟩ := Option.bind_eq_some_iff.mp hb
      refine .inr (.inl ⟨a, ns, rfl, by rw [← intsOf_rep q1 h2]; exact SqL.of h1, List.length_pos_of_mem (mostOf_le q2).1, fun m' h3 h4 => ?_⟩)
      rw [most_uniq q2 h3 h4]
      exact k _ H (Same.refl _) isInt
    · cases e
  · split at e
    · rename_i m hb
      obtain ⟨v, rfl, r1⟩ := r.one
      obtain ⟨a, ws, rfl, h1, h2⟩ := r1.tup
      cases e
      obtain ⟨ns, q1, q2⟩ := Option.bind_eq_some_iff.mp hb
      refine .inr (.inr ⟨a, ns, rfl, by rw [← intsOf_rep q1 h2]; exact h1, List.length_pos_of_mem (mostOf_le q2).1, fun m' h3 h4 => ?_⟩)
      rw [most_uniq q2 h3 h4]
      exact k _ H (Same.refl _) isInt
    · cases e
  · cases e
end

/-! ### enumerate over a tuple -/
theorem meets_enumT (l : Addr) (items : Array Value) (n : Nat) (dct : Option Addr) (sl : Array (Option Value)) :
    Meets (Builtin.«enumerate.__new__» ⟨[.type "enumerate", .ref l], []⟩) (fun _ R s => s.heap.get? l = some { cls := .type "tuple", dict := dct, data := .seq items n, slots := sl } ∧
      R (.ok (.ret (.ref (s.heap.push { cls := .type "tuple_iterator", data := .fields #[.ref l, .int 0 0] }).objs.size)))
        { s with heap := (s.heap.push { cls := .type "tuple_iterator", data := .fields #[.ref l, .int 0 0] }).push { cls := .type "enumerate", data := .fields #[.none, .bool false, .ref s.heap.objs.size, rawInt 0, .none, .none] } }) :=
  .of_wp fun prog w A R s h => by
    obtain ⟨hp, g, d, tk, os⟩ := s; obtain ⟨h1, h⟩ := h
    have hsub := sub_enumerate
    have hl : (⟨hp, g, d, tk, os⟩ : Shared).heap.IsTuple l items := ⟨_, h1, rfl, _, rfl⟩
    have q1 : ∀ {A' : Around} {E : Value → Shared → Prop} {Q : Value → Shared → Prop}, Q (.ref hp.objs.size) ⟨hp.push { cls := .type "tuple_iterator", data := .fields #[.ref l, .int 0 0] }, g, d, tk, os⟩ → wpAny (model prog w) A' (pyIter (.ref l)) Q E ⟨hp, g, d, tk, os⟩ :=
      fun q => wpAny_pyIter_tuple hl q
    wp_walk using q1
    refine wpAny_stack_any fun st => wpAny_pure ?_
    split
    · rename_i c _ _ _ _ _
      cases (c == Value.type "enumerate")
      · wp_walk using q1
        exact ⟨_, rfl, h⟩
      · wp_walk using q1
        exact ⟨_, rfl, h⟩
    · wp_walk using q1
      exact ⟨_, rfl, h⟩
theorem call_enumT {prog : Program} {w : World} {A : Around} {E : Value → Shared → Prop} {s : Shared} {l : Addr} {items : Array Value} {Q : Value → Shared → Prop} (hL : s.heap.IsTuple l items)
    (h : ∀ h', IsEnum h' (s.heap.objs.size + 1) s.heap.objs.size 0 .none → h'.IsTupleIter s.heap.objs.size l 0 → h'.objs.size = s.heap.objs.size + 2 →
      (∀ b o, s.heap.get? b = some o → h'.get? b = some o) → Q (.ref (s.heap.objs.size + 1)) { s with heap := h' }) :
    wpAny (model prog w) A (call (.type "enumerate") [.ref l]) Q E s := by
  obtain ⟨⟨c, dct, dt, sl⟩, hl, hc, n, hd⟩ := hL
  simp only at hc hd
  subst hc hd
  refine callType_new F.called_enumerate (by decide) (F.typeCall_enumerate_1 _) (F.newCall_enumerate_1 _) (fun obj => F.args_object_init_2 obj _) F.entry_enumerate_new
    (meets_enumT l items n dct sl) ⟨hl, ?_⟩
  have hz : (s.heap.push { cls := .type "tuple_iterator", data := .fields #[.ref l, .int 0 0] }).objs.size = s.heap.objs.size + 1 := Heap.size_push ..
  show _ ∧ _
  rw [hz]
  have he : IsEnum ((s.heap.push { cls := .type "tuple_iterator", data := .fields #[.ref l, .int 0 0] }).push { cls := .type "enumerate", data := .fields #[.none, .bool false, .ref s.heap.objs.size, rawInt 0, .none, .none] }) (s.heap.objs.size + 1) s.heap.objs.size 0 .none := by
    have := Heap.get?_push_size (s.heap.push { cls := .type "tuple_iterator", data := .fields #[.ref l, .int 0 0] }) (o := { cls := .type "enumerate", data := .fields #[.none, .bool false, .ref s.heap.objs.size, rawInt 0, .none, .none] }) rfl
    rw [hz] at this; exact this
  exact ⟨⟨_, he, rfl⟩, h _ he ⟨_, Heap.get?_push_of_some _ (Heap.get?_push_size _ rfl), rfl, rfl⟩ (by rw [Heap.size_push, hz]) fun b o x => Heap.get?_push_of_some _ (Heap.get?_push_of_some _ x)⟩
/-- the tuple at a, each item in a new pair -/
def IteT (K : PySem.W.Frag) (a : Addr) : It :=
  ⟨fun i H => ∃ (xs : List V) (x : V), SqT K H a xs ∧ xs[i]? = some x, fun i H v H' => ∃ T x, v = .ref T ∧ H T = none ∧ H' = upd H T (.tup [.int (i : Nat), x]) ∧ ∀ xs, SqT K H a xs → xs[i]? = some x, fun i H => ∃ xs : List V, SqT K H a xs ∧ xs.length = i⟩
theorem turn_enumT {P : Program} {w : World} {K : PySem.W.Frag} {elts : List Expr} {kk : Nat} {tpos : Pos} (a e it : Addr) (hea : e ≠ a) (hia : it ≠ a) :
    Turn P w K (.Tuple elts kk tpos) (IteT K a) [e, it] e (fun i h => (∃ old, IsEnum h e it ((i : Nat) : Int) old) ∧ h.IsTupleIter it a i ∧ e ≠ it) where
  mem := by simp
  obj := fun i h st b hb => by
    obtain ⟨⟨old, he⟩, ⟨o, ho, hc, hd⟩, _⟩ := st
    have e' : b = e ∨ b = it := by simpa using hb
    rcases e' with z | z
    · rw [z]; exact ⟨_, he, fun v q => nomatch q⟩
    · rw [z]; exact ⟨o, ho, fun v q => by rw [hd] at q; cases q⟩
  keep := fun i h h' st k => let ⟨⟨old, he⟩, hi, hne⟩ := st; ⟨⟨old, k e (by simp) _ he⟩, hi.at fun o q => k it (by simp) o q, hne⟩
  item := by
    intro X hP hw hK hc i pins s σ H E I hf st hg
    subst hP hw hK
    obtain ⟨⟨old, he⟩, hit, hne⟩ := st
    obtain ⟨xs, x, hq, hx⟩ := hg
    obtain ⟨its, rv, pl, hz⟩ := I.tuple hq
    have pl' : s.heap.IsTuple a its.toArray := pl
    obtain ⟨u, hu, ru⟩ := rv.get hx
    have hel : e < s.heap.objs.size := Heap.lt_size he
    have hil : it < s.heap.objs.size := by obtain ⟨_, q, _⟩ := hit; exact Heap.lt_size q
    have hlt : i < its.toArray.size := by simpa using (List.getElem?_eq_some_iff.mp hu).1
    refine wpAny_pyNext_enum_itemC (c := ((i : Nat) : Int)) (Draws.tuple (A := X.A.in1) (I.ok.hd hc) it a (Ne.symm hia) its.toArray) he ⟨hit, pl'⟩ hlt hne (by simp [hne, hea]) fun x' h' tk hP ho st' hT hsz hk => ?_
    have ex : x' = u := by
      have : its[i]? = some x' := by simpa using hP
      rw [hu] at this; cases this; rfl
    subst ex
    refine ⟨_, rfl, wpAny_letOwnedTupleGo_enum (s := { s with heap := h', toks := tk + 1 }) ho fun h'' he' sb => ?_⟩
    have hT2 : h''.get? s.heap.objs.size = some { cls := .type "tuple", data := .seq #[.int i tk, x'] } := (sb.2 _ (Nat.ne_of_gt hel)).trans hT
    have new : ObjOk X.prog X.w (upd H s.heap.objs.size (.tup [.int (i : Nat), x])) h'' s.heap.objs.size (.tup [.int (i : Nat), x]) :=
      ⟨by show 2 ≤ sizeLine; decide, [.int i tk, x'], .cons ⟨_, rfl⟩ (.cons ru .nil), ⟨_, hT2, rfl, _, rfl⟩⟩
    have I1 : Inv X pins σ (upd H s.heap.objs.size (.tup [.int (i : Nat), x])) { s with heap := h'', toks := tk + 1 } :=
      I.turnedNew (ch := [e, it]) (fun b ob hb q => (sb.2 b (fun z => hb (by simp [z]))).trans (hk b ob (fun z => hb (by simp [z])) (fun z => hb (by simp [z])) q)) hf (Nat.le_refl _) new
    refine ⟨.ref s.heap.objs.size, _, I1, rfl, ⟨_, x, rfl, I.hok.fresh (Nat.le_refl _), rfl, fun ys hy => ?_⟩, ⟨⟨x', ?_⟩, st'.1.at fun o q => (sb.2 it (Ne.symm hne)).trans q, hne⟩, fun b hb => ?_⟩
    · rw [I.tuple_inj hy hq]; exact hx
    · have e1 : ((i + 1 : Nat) : Int) = (i : Int) + 1 := by omega
      rw [e1]; exact he'
    · have hb' : b < s.heap.objs.size := by
        have e' : b = e ∨ b = it := by simpa using hb
        rcases e' with z | z
        · rw [z]; exact hel
        · rw [z]; exact hil
      rw [upd_ne (Nat.ne_of_lt hb')]
      exact (hf b hb).1
  done := by
    intro X hP hw hK hc i pins s σ H E I hf st hg
    subst hP hw hK
    obtain ⟨⟨old, he⟩, hit, hne⟩ := st
    obtain ⟨xs, hq, hx⟩ := hg
    obtain ⟨its, rv, pl, hz⟩ := I.tuple hq
    have pl' : s.heap.IsTuple a its.toArray := pl
    obtain ⟨f0, f1, f2, f3, f4, f5⟩ := hf it (by simp)
    have hl := rv.length
    have hi : i = its.toArray.size := by rw [List.size_toArray, ← hl, hx]
    subst hi
    exact wpAny_pyNext_enum_endD (Draws.tuple (A := X.A.in1) (I.ok.hd hc) it a (Ne.symm hia) its.toArray) he ⟨hit, pl'⟩ fun h' eb => ⟨rfl, I.turned (t' := s.toks) (fun b o hb q => eb b o hb q) f0 f1 f3 f4 f5⟩
  self := fun A i s Q E st h => let ⟨⟨_, he⟩, _⟩ := st; wpAny_pyIter_enum he h
def iEnumT (K : PySem.W.Frag) (ta : TA) : TI := fun σ H R => ta σ H fun vs H1 => ∃ a xs, vs = [.ref a] ∧ SqT K H1 a xs ∧ R (IteT K a) H1
theorem pi_enumT {X : Cx} {e : Expr} {ta : TA} {p pos tpos : Pos} {elts : List Expr} {kk : Nat} (hg : Gl X "enumerate") (hm : X.mg "enumerate" = none) (ha : PA X [e] ta) (hs : starEach [e] X.env = [(false, eval e X.env)] := by rfl) :
    PI X (.Tuple elts kk tpos) (.Call (.Name "enumerate" p) [e] [] pos) (iEnumT X.K ta) := by
  refine ⟨fun pins s σ H R I h => ?_⟩
  refine Call_ (ld_blt I hg hm boot_enumerate (PyProof.Rows.callWith_type1 (thn (ha.run pos pins s σ H _ I h) fun us s1 ⟨vs, H1, I1, r1, q1⟩ => ?_) hs rfl))
  obtain ⟨a, xs, ex, hq, q⟩ := q1
  subst ex
  cases r1 with
  | cons r rr =>
    cases rr
    cases r
    obtain ⟨its, rv, p', hz⟩ := I1.tuple hq
    have pl' : s1.heap.IsTuple a its.toArray := p'
    have al : a < s1.heap.objs.size := by obtain ⟨_, e, _⟩ := pl'; exact Heap.lt_size e
    refine call_enumT pl' fun h' he hit hsz hk => wpAny_pyIter_enum he ?_
    have I2 : Inv X pins σ H1 { s1 with heap := h' } := I1.kept (t' := s1.toks) hk
    refine ⟨s1.heap.objs.size + 1, [s1.heap.objs.size + 1, s1.heap.objs.size], _, _, H1, rfl, I2, turn_enumT a (s1.heap.objs.size + 1) s1.heap.objs.size (Nat.ne_of_gt (Nat.lt_succ_of_lt al)) (Nat.ne_of_gt al), ⟨⟨.none, he⟩, hit, Nat.succ_ne_self _⟩, fun b hb => ?_, q⟩
    have e' : b = s1.heap.objs.size + 1 ∨ b = s1.heap.objs.size := by simpa using hb
    have hle : s1.heap.objs.size ≤ b := by
      rcases e' with z | z
      · rw [z]; exact Nat.le_add_right _ _
      · rw [z]; exact Nat.le_refl _
    exact I1.fpOk hle (I1.hok.fresh hle)
theorem walk_enumT {K : PySem.W.Frag} {a : Addr} {xs : List V} : Walk (IteT K a) xs.length (fun H => SqT K H a xs) (YPair (fun i => some (.int (i : Nat))) (fun i => xs[i]?)) := by
  refine ⟨fun i _ hi q => ⟨xs, xs[i], q, by simp [hi]⟩, fun _ q => ⟨xs, q, rfl⟩, fun i H v H' _ q y => ?_⟩
  obtain ⟨T, x, h1, h2, h3, h4⟩ := y
  exact ⟨T, .int (i : Nat), x, h1, h2, h3, rfl, h4 xs q⟩

/-! ### enumerate, zip of data -/
def enumD (ds : List D) : List D := ds.zipIdx.map fun p => .tup [.int (p.2 : Nat), p.1]
theorem enumD_get {ds : List D} {i : Nat} {d : D} (h : (enumD ds)[i]? = some d) : ∃ x, ds[i]? = some x ∧ d = .tup [.int (i : Nat), x] := by
  unfold enumD at h
  rw [List.getElem?_map, List.getElem?_zipIdx] at h
  cases q : ds[i]? with
  | none => rw [q] at h; cases h
  | some x => rw [q] at h; cases h; exact ⟨x, rfl, by simp⟩
theorem enumD_len {ds : List D} : (enumD ds).length = ds.length := by unfold enumD; simp
theorem isNewT' {c : Cc} {Z : Addr → Prop} {H : Hp} {T : Addr} {ds : List D} {vs : List V} (hT : H T = none) (hZ : ∀ a, Z a → H a ≠ none) (r : IsDs c (hide H Z) ds vs) : Same H (upd H T (.tup vs)) ∧ IsD c (hide (upd H T (.tup vs)) Z) (.tup ds) (.ref T) :=
  ⟨same_new hT, isNewT hT hZ r⟩
theorem itok_enum {c : Cc} {G0 : Hp} {a : Addr} {ds : List D} {vs : List V} (h : SqL c.K G0 a vs) (r : IsDs c G0 ds vs) : ItOk c G0 (Ite c.K a) (enumD ds) := by
  refine ⟨fun H => SqL c.K H a vs, _, by rw [enumD_len, r.len]; exact walk_enum, fun H z => z.seq h, fun i x H H' d e z y => ?_⟩
  obtain ⟨T, u, v, rfl, hT, rfl, h1, h2⟩ := y
  obtain ⟨x, e1, rfl⟩ := enumD_get e
  cases h1
  refine ⟨same_new hT, fun Z k hZ => ?_⟩
  obtain ⟨v', h3, h4⟩ := r.getD e1
  rw [show vs[i]? = some v from h2] at h3; cases h3
  exact isNewT hT hZ (IsDs.cons isInt (IsDs.cons (h4.same k) IsDs.nil))
theorem itok_enumT {c : Cc} {G0 : Hp} {a : Addr} {ds : List D} {vs : List V} (h : SqT c.K G0 a vs) (r : IsDs c G0 ds vs) : ItOk c G0 (IteT c.K a) (enumD ds) := by
  refine ⟨fun H => SqT c.K H a vs, _, by rw [enumD_len, r.len]; exact walk_enumT, fun H z => SqT.same z h, fun i x H H' d e z y => ?_⟩
  obtain ⟨T, u, v, rfl, hT, rfl, h1, h2⟩ := y
  obtain ⟨x, e1, rfl⟩ := enumD_get e
  cases h1
  refine ⟨same_new hT, fun Z k hZ => ?_⟩
  obtain ⟨v', h3, h4⟩ := r.getD e1
  rw [show vs[i]? = some v from h2] at h3; cases h3
  exact isNewT hT hZ (IsDs.cons isInt (IsDs.cons (h4.same k) IsDs.nil))
def dEnum (m : Ev) : Iv := fun env => bnd (m env) fun p => match p.1 with
  | .lst xs => .ok (enumD xs, p.2)
  | .tup xs => .ok (enumD xs, p.2)
  | _ => stuck
theorem i_enum {X : Cx} {g : Ce} {W : WX} {pu : Bool} {m : Ev} {e : Expr} {p pos tpos : Pos} {elts : List Expr} {kk : Nat} (hg : Gl X "enumerate") (hm : X.mg "enumerate" = none) (h : DE X g pu false e m W)
    (hs : starEach [e] X.env = [(false, eval e X.env)] := by rfl) (hs2 : starEach [e] X.env = (false, eval e X.env) :: starEach [] X.env := by rfl) : DI X g (.Tuple elts kk tpos) pu (.Call (.Name "enumerate" p) [e] [] pos) (dEnum m) W :=
  PI.imp (PI.or (pi_enum hg hm (pa_cons h pa_nil hs2) hs) (pi_enumT hg hm (pa_cons h pa_nil hs2) hs)) fun σ H Q ⟨xs, env, S, w⟩ => by
    have w0 := w
    unfold dEnum at w0
    cases q : m env with
    | error x =>
      rw [q] at w0
      refine .inl ⟨xs, env, S, ?_⟩
      rw [q]
      cases x with
      | raise k p => exact w0
      | stuck => exact w0.elim
    | ok p =>
      obtain ⟨d, env'⟩ := p
      have key : ∀ {R' : V → Hp → Prop}, (∀ v H', Stp (cc X g) xs pu env env' σ H H' → IsD (cc X g) (hide H' (Hid xs env σ)) d v → R' v H') → tE (cc X g) pu false m W σ H R' := fun k => ⟨xs, env, S, by
        rw [q]; exact fun v H' s r => k v H' s r⟩
      rw [q] at w0
      simp only [bnd_ok] at w0
      split at w0
      · rename_i ds
        refine .inl (key fun v H' s r => ?_)
        unfold IsD at r
        obtain ⟨l, vs, e1, e2, e3⟩ := r
        have hq : SqL X.K (hide H' (Hid xs env σ)) l vs := SqL.of e2
        exact ⟨l, vs, by rw [e1], SqL.hid hq, w0 _ H' s (itok_enum hq e3)⟩
      · rename_i ds
        refine .inr (key fun v H' s r => ?_)
        unfold IsD at r
        obtain ⟨l, vs, e1, e2, e3⟩ := r
        exact ⟨l, vs, by rw [e1], SqT.hid e2, w0 _ H' s (itok_enumT e2 e3)⟩
      · exact w0.elim
end Dn

/-! Dn16 -/
set_option Elab.async false
set_option linter.all false
set_option maxRecDepth 100000
set_option maxHeartbeats 1000000
/-! Dn16: products, slices, stores in subscripts, methods of lists, stores of pairs, augmented stores. -/
namespace Dn
open PySem PySem.Spec L2
open PyProof.Rows hiding St

section
variable {c : Cc}
/-! ### products -/
def repD (k : Int) (ds : List D) : List D := (List.replicate k.toNat ds).flatten
def dMul : D → D → M D
  | .int i, .int j => if mulOk i j = true then .ok (.int (i * j)) else stuck
  | .lst ds, .int k => if (decide (k ≤ 16777216) && decide (-16777216 ≤ k) && decide (ds.length * k.toNat ≤ maxSeq)) = true then .ok (.lst (repD k ds)) else stuck
  | .tup ds, .int k => if (decide (2 ≤ k) && decide (k ≤ 1000) && decide (0 < ds.length) && decide (ds.length ≤ 1000)) = true then .ok (.tup (repD k ds)) else stuck
  | _, _ => stuck
theorem dMul_nr : NoR2 dMul := fun d1 d2 k p h => by
  unfold dMul at h
  split at h <;> (try split at h) <;> cases h
theorem IsDs.rep {H : Hp} {ds : List D} {vs : List V} (r : IsDs c H ds vs) : ∀ n : Nat, IsDs c H (List.replicate n ds).flatten (List.replicate n vs).flatten
  | 0 => IsDs.nil
  | n + 1 => by rw [List.replicate_succ, List.replicate_succ, List.flatten_cons, List.flatten_cons]; exact IsDs.append r (IsDs.rep r n)
def rMulD (K : PySem.W.Frag) : R2 := fun x y H Q => rI CMulW (fun i j => .int (i * j)) x y H Q ∨ rRep x y H Q ∨ rRepT K x y H Q
theorem op_mulD {X : Cx} : OpR X (binaryOp .Mult) (rMulD X.K) := OpR.or op_mulW (OpR.or op_rep op_repT)
theorem vb_mul : VB c (rMulD c.K) dMul := by
  intro P H x y d1 d2 d Q hP r1 r2 e k
  unfold dMul at e
  split at e
  · split at e
    · rename_i h
      cases e
      unfold mulOk at h
      rw [decide_eq_true_eq] at h
      exact .inl ⟨_, _, r1.int, r2.int, h, k _ H (Same.refl _) isInt⟩
    · cases e
  · split at e
    · rename_i h
      simp only [Bool.and_eq_true, decide_eq_true_eq] at h
      cases e
      obtain ⟨a, vs, rfl, h1, h2⟩ := r1.lst
      exact .inr (.inl ⟨a, _, vs, rfl, r2.int, h1, by omega, by omega, by rw [maxSeq_eq, ← h2.len]; exact h.2, fun p hp => k _ _ (same_new hp) (isNewL hp hP (h2.rep _))⟩)
    · cases e
  · split at e
    · rename_i h
      simp only [Bool.and_eq_true, decide_eq_true_eq] at h
      cases e
      obtain ⟨a, vs, rfl, h1, h2⟩ := r1.tup
      have hl := h2.len
      exact .inr (.inr ⟨a, _, vs, rfl, r2.int, h1, fun z => by rw [z, List.length_nil] at hl; omega, h.1.1.1, h.1.1.2, by omega, fun p hp => k _ _ (same_new hp) (isNewT hp hP (h2.rep _))⟩)
    · cases e
  · cases e
end

section
variable {X : Cx} {P : Program} {w : World} {K : PySem.W.Frag} {mg : Str → Option Value} {base : Heap} {N : List Str} {sc : Scope} {k : Nat} {bk nn : Bool} {g : Ce} {W : WX}
variable {pu pu1 pu2 pu3 sh sh1 sh2 : Bool} {e e1 a b lo hi : Expr} {es : List Expr} {pos p p2 pos' apos cpos : Pos} {m m1 m2 : Ev} {ma : Av} {shs : List Bool} {x y : Str} {T : String} {ol oh : Option Expr} {ml mh : Ov} {i j : Nat}

/-! ### slices -/
def dSlice (m : Ev) (ml mh : Ov) : Ev := fun env => bnd (m env) fun p => bnd (ml p.2) fun q => bnd (mh q.2) fun r => bnd (dSlice1 p.1 q.1 r.1) fun d => .ok (d, r.2)
theorem cut_rep {c : Cc} {H : Hp} {ds : List D} {vs : List V} (r : IsDs c H ds vs) (lo hi : Option Int) : IsDs c H (cutD ds lo hi) (cutV vs lo hi) := by
  unfold cutD cutV
  rw [r.len]
  exact (r.drop _).take _
theorem cut_whole {ds : List D} {lo hi : Option Int} (h : HT.sIx ds.length 0 lo = 0 ∧ HT.sIx ds.length ds.length hi = ds.length) : cutD ds lo hi = ds := by
  unfold cutD
  rw [h.1, h.2]
  simp
theorem e_slice (hc : (sh = false ∨ pu2 = true) ∧ (sh = false ∨ pu3 = true)) (he : DE X g pu1 sh e m W) (hl : DO X g pu2 ol ml W) (hh : DO X g pu3 oh mh W) : DE X g (pu1 && (pu2 && pu3)) false (.Subscript e (.Slice ol oh none p2) pos) (dSlice m ml mh) W :=
  PE.imp (pe_slice (SlR.or sl_list (SlR.or sl_tupA sl_str)) he hl hh) fun σ H Q ⟨xs, env, S, w⟩ => ⟨xs, env, S, Want.bind w fun d env1 v H1 e1 s1 r1 w1 => by
    refine ⟨xs, env1, s1.st, Want.bind (pu' := pu2 && pu3) (Want.after s1 w1) fun o1 env2 v2 H2 e2 s2 r2 w2 => ?_⟩
    refine ⟨xs, env2, s2.st, Want.bind (pu' := pu3) (Want.after s2 w2) fun o2 env3 v3 H3 e3 s3 r3 w3 => ?_⟩
    have r2' : v2 = o1 := r2
    have r3' : v3 = o2 := r3
    subst r2' r3'
    have r1a : Rep (cc X g) sh (Hid xs env1 σ) H1 d v := by rw [s1.hid]; exact r1
    have r1b := s2.rep hc.1 r1a
    rw [← s2.hid] at r1b
    have r1c := (s3.rep hc.2 r1b).shell
    have hP : ∀ a, Hid xs env2 σ a → H3 a ≠ none := fun a ha => s3.st.hid (by rw [s3.hid]; exact ha)
    dsimp only at w3
    cases q : dSlice1 d v2 v3 with
    | error z =>
      exfalso
      rw [q] at w3
      cases z with
      | raise kk pp => unfold dSlice1 at q; split at q <;> (try split at q) <;> cases q
      | stuck => exact w3
    | ok d' =>
      rw [q] at w3
      simp only [bnd_ok] at w3
      have fin : ∀ u H4, Same H3 H4 → IsD (cc X g) (hide H4 (Hid xs env2 σ)) d' u → Q u H4 := fun u H4 kk hd => w3 u H4 (s3.grow kk) (by rw [s2.hid, s1.hid] at hd; exact Rep.of hd)
      unfold dSlice1 at q
      split at q
      · cases q
        obtain ⟨l, vs, rfl, h1, h2⟩ := r1c.lst
        exact .inl ⟨l, vs, rfl, SqL.of h1, fun p hp => fin _ _ (same_new hp) (isNewL hp hP (cut_rep h2 _ _))⟩
      · cases q
        have r0 := r1c
        obtain ⟨l, vs, rfl, h1, h2⟩ := r1c.tup
        refine .inr (.inl ⟨l, vs, rfl, h1, fun hw => ?_, fun _ p hp => fin _ _ (same_new hp) (isNewT hp hP (cut_rep h2 _ _))⟩)
        rw [← h2.len] at hw
        rw [cut_whole hw] at fin
        exact fin _ H3 (Same.refl _) r0
      · split at q
        · rename_i hz
          cases q
          exact .inr (.inr ⟨_, r1c.str, by rw [maxSeq_eq]; exact hz, fin _ H3 (Same.refl _) isStr⟩)
        · cases q
      · cases q⟩

/-! ### a store in an own list -/
def sSub (i : Nat) (mi m : Ev) : Sv := fun env => bnd (m env) fun p => match p.2[i]? with
  | some (.ow _) => bnd (mi p.2) fun q => match q.2[i]?, q.1 with
    | some (.ow (.lst ds)), .int k => match ixN ds.length k with
      | some j => .ok (.nx, q.2.set i (.ow (.lst (ds.set j p.1))))
      | none => stuck
    | _, _ => stuck
  | _ => stuck
theorem ObjRep.upd {c : Cc} {G : Addr → Prop} {H : Hp} {a : Addr} {d : D} {o u : HO} (ha : G a) (h : ObjRep c (hide H G) d o) : ObjRep c (hide (upd H a u) G) d o := h.same fun b v hb => by
  obtain ⟨h1, h2⟩ := hide_some hb
  rw [hide_of h1, upd_ne fun z : b = a => h1 (by rw [z]; exact ha)]
  exact h2
theorem IsD.upd {c : Cc} {G : Addr → Prop} {H : Hp} {a : Addr} {d : D} {v : V} {u : HO} (ha : G a) (h : IsD c (hide H G) d v) : IsD c (hide (upd H a u) G) d v := h.same fun b v hb => by
  obtain ⟨h1, h2⟩ := hide_some hb
  rw [hide_of h1, upd_ne fun z : b = a => h1 (by rw [z]; exact ha)]
  exact h2
theorem IsDs.upd {c : Cc} {G : Addr → Prop} {H : Hp} {a : Addr} {d : List D} {v : List V} {u : HO} (ha : G a) (h : IsDs c (hide H G) d v) : IsDs c (hide (upd H a u) G) d v := h.same fun b v hb => by
  obtain ⟨h1, h2⟩ := hide_some hb
  rw [hide_of h1, upd_ne fun z : b = a => h1 (by rw [z]; exact ha)]
  exact h2
theorem hide_at {H : Hp} {a : Addr} {u : HO} : Same (hide H (· = a)) (hide (upd H a u) (· = a)) := fun b v hb => by
  obtain ⟨h1, h2⟩ := hide_some hb
  rw [hide_of (P := (· = a)) h1, upd_ne h1]
  exact h2
/-- the list in slot i written -/
theorem StOk.write {c : Cc} {xs : Addr → Prop} {env : En} {σ : St} {H : Hp} {i : Nat} {d : D} {a : Addr} {ds' : List D} {vs' : List V} (S : StOk c xs env σ H) (hi : env[i]? = some (Sl.ow d)) (ha : σ[i]? = some (some (V.ref a))) (r : IsDs c (hide H (Hid xs env σ)) ds' vs') :
    Stp c xs false env (env.set i (.ow (.lst ds'))) σ H (upd H a (.lst vs')) :=
  S.change hi ha hide_at upd_same ⟨vs', rfl, r.upd (.inl ⟨i, d, hi, ha⟩)⟩
theorem own_lst {c : Cc} {xs : Addr → Prop} {env : En} {σ : St} {H : Hp} {i : Nat} {ds : List D} (S : StOk c xs env σ H) (hi : env[i]? = some (Sl.ow (.lst ds))) : ∃ a vs, σ[i]? = some (some (V.ref a)) ∧ H a = some (.lst vs) ∧ IsDs c (hide H (Hid xs env σ)) ds vs := by
  obtain ⟨a, o, h1, h2, vs, rfl, h3⟩ := S.ow i _ hi
  exact ⟨a, vs, h1, h2, h3⟩
theorem s_sub (hx : PE X (.Name x p) (tVar i)) (hi : DE X g pu1 sh1 b m1 W) (he : DE X g pu false e m W) (ha : ∀ v, assign (.Subscript (.Name x p) b pos') X.env v = (do
      let ov ← holding [v] (eval (.Name x p) X.env)
      let iv ← holding [v, ov] (eval b X.env)
      standAt pos'
      holding [v, ov, iv] (setItem ov iv v)
      release [v, ov, iv] []) := by intro _; rfl)
    (hs : swapsWithSole [.Subscript (.Name x p) b pos'] e pos.line X.env = pure false := by rfl) (hw : swappedStores [.Subscript (.Name x p) b pos'] e X.env = pure none := by rfl)
    (h1 : (assignEach [.Subscript (.Name x p) b pos'] X.env).map (·.2) = [assign (.Subscript (.Name x p) b pos') X.env] := by rfl) : DS X g (.Assign [.Subscript (.Name x p) b pos'] e pos) (sSub i m1 m) W :=
  PS.imp (ps_asg he (pg_sub hx hi set_list ha) hs hw h1) fun E σ H ⟨xs, env, S, w⟩ => ⟨xs, env, S, WantS.bindE w fun d env1 v H1 e1 s1 r1 w1 => by
    dsimp only at w1
    split at w1
    case h_2 => exact w1.elim
    rename_i d0 hi0
    obtain ⟨a, o0, ha0, ho0, hr0⟩ := s1.st.ow i d0 hi0
    refine ⟨.ref a, ha0, xs, env1, s1.st, WantS.bindE (WantS.after s1.kept w1) fun dk env2 vk H2 e2 s2 r2 w2 => ?_⟩
    dsimp only at w2
    split at w2
    case h_2 => exact w2.elim
    rename_i ds kk hi2
    split at w2
    case h_2 => exact w2.elim
    rename_i j hj
    obtain ⟨a', vs, ha2, ho2, hr2⟩ := own_lst s2.st hi2
    rw [ha0] at ha2; cases ha2
    rw [s2.hid, s1.hid] at hr2
    have r1' : IsD (cc X g) (hide H1 (Hid xs env1 σ)) d v := by rw [s1.hid]; exact r1
    have r2' := r1'.same s2.smH
    rw [s1.hid] at r2'
    have hst := s2.st.write hi2 ha0 (ds' := ds.set j d) (vs' := vs.set j v) (by rw [s2.hid, s1.hid]; exact hr2.set j r2')
    exact ⟨a, vs, kk, j, rfl, (Rep.shell r2).int, ho2, by rw [← hr2.len]; exact hj, w2 σ _ hst.st (s2.kept.trans hst.kept)⟩⟩

/-! ### methods that change an own list -/
/-- such a method, of data -/
def VMt (c : Cc) (r : V → List V → Hp → VK → Prop) (f : List D → List D → M (D × List D)) : Prop := ∀ (Z : Addr → Prop) (H : Hp) (a : Addr) (vs avs : List V) (ds ads : List D) (d : D) (ds' : List D) (Q : VK), Z a → H a = some (.lst vs) →
  IsDs c (hide H Z) ds vs → IsDs c (hide H Z) ads avs → f ds ads = .ok (d, ds') → (∀ v vs', IsDs c (hide H Z) ds' vs' → IsD c (hide H Z) d v → Q v (upd H a (.lst vs'))) → r (.ref a) avs H Q
def NoRM (f : List D → List D → M (D × List D)) : Prop := ∀ a b k p, f a b ≠ .error (.raise k p)
def dMeth (f : List D → List D → M (D × List D)) (i : Nat) (ms : Av) : Ev := fun env => match env[i]? with
  | some (.ow (.lst _)) => bnd (ms env) fun p => match p.2[i]? with
    | some (.ow (.lst ds)) => bnd (f ds p.1) fun q => .ok (q.1, p.2.set i (.ow (.lst q.2)))
    | _ => stuck
  | _ => stuck
theorem meth_end {c : Cc} {xs : Addr → Prop} {env env1 : En} {σ : St} {H H1 : Hp} {Q : VK} {r : V → List V → Hp → VK → Prop} {f : List D → List D → M (D × List D)} {a : Addr} {ads : List D} {avs : List V} (hv : VMt c r f) (nr : NoRM f) (s : Stp c xs pu env env1 σ H H1) (ha : σ[i]? = some (some (V.ref a)))
    (ra : IsDs c (hide H1 (Hid xs env σ)) ads avs) (w : Want c xs false env σ H (fun d _ v H' => Rep c false (Hid xs env σ) H' d v) W Q (match env1[i]? with
    | some (.ow (.lst ds)) => bnd (f ds ads) fun q => .ok (q.1, env1.set i (.ow (.lst q.2)))
    | _ => stuck)) : r (.ref a) avs H1 Q := by
  split at w
  · rename_i ds hi
    obtain ⟨a', vs, ha2, ho2, hr2⟩ := own_lst s.st hi
    rw [ha] at ha2; cases ha2
    cases q : f ds ads with
    | error z =>
      rw [q] at w
      cases z with
      | raise kk pp => exact absurd q (nr _ _ _ _)
      | stuck => exact w.elim
    | ok pr =>
      obtain ⟨d, ds'⟩ := pr
      rw [q] at w
      have hid := s.hid
      refine hv (Hid xs env σ) H1 a vs avs ds ads d ds' Q (by rw [← hid]; exact .inl ⟨i, _, hi, ha⟩) ho2 (by rw [← hid]; exact hr2) ra q fun v vs' h1 h2 => ?_
      have st := s.st.write hi ha (ds' := ds') (vs' := vs') (by rw [hid]; exact h1)
      refine w v _ ((s.trans st).weak fun z => nomatch z) (h2.upd (by rw [← hid]; exact .inl ⟨i, _, hi, ha⟩))
  · exact w.elim
theorem e_meth {id : String} {name : Str} {r : V → List V → Hp → VK → Prop} {f : List D → List D → M (D × List D)} (pa : PlainAttrs "list") (slot : Slot "list" name id) (hty : typeOf (.builtin id) = pure (.type "method_descriptor")) (hm : MtR X id r) (hv : VMt (cc X g) r f) (nr : NoRM f) (hs : shs.all (!·) = true)
    (hx : PE X (.Name x p) (tVar i)) (ha : DA X g pu shs (e :: es) ma W)
    (hbase : attributeBase (.Name x p) name X.env (eval (.Name x p) X.env) = eval (.Name x p) X.env := by rfl)
    (hfew : ((backTo cpos (starEach (e :: es) X.env)).all (fun x => !x.1) && (backToKw cpos (keywordEach [] X.env)).all (fun x => x.1.isSome)
      && decide ((e :: es).length + ([] : List Keyword).length + (if ([] : List Keyword).isEmpty then 0 else 1) < 30)) = true := by rfl)
    (hline : (apos.endLine == cpos.line) = true := by rfl) (hst : starEach (e :: es) X.env = (false, eval e X.env) :: starEach es X.env := by rfl) (hplain : (backTo cpos (starEach es X.env)).any (·.1) = false := by rfl) :
    DE X g false false (.Call (.Attribute (.Name x p) name apos) (e :: es) [] cpos) (dMeth f i ma) W :=
  PE.imp (pe_bm pa slot hty hm hx ha hbase hfew hline hst hplain) fun σ H Q ⟨xs, env, S, w⟩ => by
    unfold dMeth at w
    split at w
    · rename_i ds0 hi0
      obtain ⟨a, vs, h1, h2, h3⟩ := own_lst S hi0
      refine ⟨.ref a, h1, .inl ⟨rfl, vs, SqL.of h2⟩, xs, env, S, Want.bind w fun ads env1 avs H1 e1 s1 r1 w1 => ?_⟩
      exact meth_end hv nr s1 h1 (r1.clean hs) w1
    · exact w.elim
theorem e_meth0 {id : String} {name : Str} {r : V → List V → Hp → VK → Prop} {f : List D → List D → M (D × List D)} (pa : PlainAttrs "list") (slot : Slot "list" name id) (hty : typeOf (.builtin id) = pure (.type "method_descriptor")) (hm : MtR X id r) (hv : VMt (cc X g) r f) (nr : NoRM f)
    (hx : PE X (.Name x p) (tVar i))
    (hbase : attributeBase (.Name x p) name X.env (eval (.Name x p) X.env) = eval (.Name x p) X.env := by rfl) (hline : (apos.endLine == cpos.line) = true := by rfl) :
    DE X g false false (.Call (.Attribute (.Name x p) name apos) [] [] cpos) (dMeth f i dNil) W :=
  PE.imp (pe_bm0 pa slot hty hm hx hbase hline) fun σ H Q ⟨xs, env, S, w⟩ => by
    unfold dMeth at w
    split at w
    · rename_i ds0 hi0
      obtain ⟨a, vs, h1, h2, h3⟩ := own_lst S hi0
      exact ⟨.ref a, h1, .inl ⟨rfl, vs, SqL.of h2⟩, meth_end (pu := true) hv nr (.refl S) h1 IsDs.nil w⟩
    · exact w.elim
def fApp : List D → List D → M (D × List D)
  | ds, [d] => if ds.length < maxSeq then .ok (.non, ds ++ [d]) else stuck
  | _, _ => stuck
def fExt : List D → List D → M (D × List D)
  | ds, [.lst es] => if ds.length + es.length ≤ maxSeq then .ok (.non, ds ++ es) else stuck
  | _, _ => stuck
def fPop : List D → List D → M (D × List D)
  | ds, [] => match ds[ds.length - 1]? with
    | some d => .ok (d, ds.dropLast)
    | none => stuck
  | _, _ => stuck
theorem fApp_nr : NoRM fApp := fun a b k p h => by
  unfold fApp at h
  split at h <;> (try split at h) <;> cases h
theorem fExt_nr : NoRM fExt := fun a b k p h => by
  unfold fExt at h
  split at h <;> (try split at h) <;> cases h
theorem fPop_nr : NoRM fPop := fun a b k p h => by
  unfold fPop at h
  split at h <;> (try split at h) <;> cases h
theorem IsDs.one {c : Cc} {H : Hp} {d : D} {vs : List V} (r : IsDs c H [d] vs) : ∃ v, vs = [v] ∧ IsD c H d v := by
  unfold IsDs at r
  obtain ⟨v, r', rfl, h1, h2⟩ := r
  unfold IsDs at h2
  subst h2
  exact ⟨v, rfl, h1⟩
theorem vm_app {c : Cc} : VMt c rAppend fApp := by
  intro Z H a vs avs ds ads d ds' Q hZ ho r ra q k
  unfold fApp at q
  split at q
  · split at q
    · rename_i hz
      cases q
      obtain ⟨v, rfl, h1⟩ := ra.one
      exact ⟨a, vs, v, rfl, rfl, ho, by rw [maxSeq_eq, ← r.len]; exact hz, k _ _ (r.append (IsDs.cons h1 IsDs.nil)) isNon⟩
    · cases q
  · cases q
theorem vm_ext {c : Cc} : VMt c rExtend fExt := by
  intro Z H a vs avs ds ads d ds' Q hZ ho r ra q k
  unfold fExt at q
  split at q
  · split at q
    · rename_i hz
      cases q
      obtain ⟨v, rfl, h1⟩ := ra.one
      unfold IsD at h1
      obtain ⟨b, ws, rfl, h2, h3⟩ := h1
      exact ⟨a, b, vs, ws, rfl, rfl, ho, hide_full _ _ h2, by rw [maxSeq_eq, ← r.len, ← h3.len]; exact hz, k _ _ (r.append h3) isNon⟩
    · cases q
  · cases q
theorem vm_pop {c : Cc} : VMt c rPop fPop := by
  intro Z H a vs avs ds ads d ds' Q hZ ho r ra q k
  unfold fPop at q
  split at q
  · split at q
    · rename_i d' hd
      cases q
      have := ra
      unfold IsDs at this
      subst this
      obtain ⟨v, h1, h2⟩ := r.getD hd
      exact ⟨a, vs, v, rfl, rfl, ho, by rw [← r.len]; exact h1, k _ _ r.dropLast h2⟩
    · cases q
  · cases q

/-! ### pairs stored -/
def dumE (sc : Scope) : Env := { scope := sc, locals := 0, globals := 0, cells := [] }
theorem sws_eq {env : Env} (h : env.scope = sc) (ts : List Expr) (v : Expr) : swappedStores ts v env = swappedStores ts v (dumE sc) := by
  unfold swappedStores Env.blockKind Env.kindOf dumE
  rw [h]
theorem swp_eq {env : Env} (h : env.scope = sc) (t : Option Expr) (v : Expr) (l : Nat) : swapsWith v t l env = swapsWith v t l (dumE sc) := by
  unfold swapsWith Env.blockKind Env.kindOf dumE
  rw [h]
def sPar (i j : Nat) (ms : Av) : Sv := fun env => bnd (ms env) fun p => match p.1 with
  | [d1, d2] => bnd (put i (.va d1) p.2) fun e1 => bnd (put j (.va d2) e1) fun e2 => .ok (.nx, e2)
  | _ => stuck
theorem IsDs.two {c : Cc} {H : Hp} {d d2 : D} {vs : List V} (r : IsDs c H [d, d2] vs) : ∃ v v2, vs = [v, v2] ∧ IsD c H d v ∧ IsD c H d2 v2 := by
  unfold IsDs at r
  obtain ⟨v, r', rfl, h1, h2⟩ := r
  obtain ⟨v2, rfl, h3⟩ := h2.one
  exact ⟨v, v2, rfl, h1, h3⟩
def locL (sc : Scope) (x : Str) : Bool := sc.names.lookup x == some .local
theorem s_par {px py pt pt2 : Pos} {kt k2 : Nat} (C : Cok nn X W P w K mg base N sc k false) (i j : Nat) (hi : N[i]? = some x) (hj : N[j]? = some y) (hij : i ≠ j) (hx : locL sc x = true) (hy : locL sc y = true) (hsh : shs.all (!·) = true) (ha : DA X g pu shs [a, b] ma W)
    (hw : swappedStores [.Tuple [.Name x px, .Name y py] kt pt] (.Tuple [a, b] k2 pt2) (dumE sc) = pure (some [x, y]))
    (hs : swapsWithSole [.Tuple [.Name x px, .Name y py] kt pt] (.Tuple [a, b] k2 pt2) pos.line X.env = pure false := by rfl) :
    DS X g (.Assign [.Tuple [.Name x px, .Name y py] kt pt] (.Tuple [a, b] k2 pt2) pos) (sPar i j ma) W :=
  PS.imp (ps_par C.calm (by rw [C.eN]; exact C.nd) (by rw [C.eN]; exact hi) (by rw [C.eN]; exact hj) hij (by rw [C.es]; exact eq_of_beq hx) (by rw [C.es]; exact eq_of_beq hy) ha (by rw [sws_eq C.es]; exact hw) hs) fun E σ H ⟨xs, env, S, w⟩ =>
    ⟨xs, env, S, WantS.bindE w fun ds env1 vs H1 e1 s1 r1 w1 => by
      have rc := r1.clean hsh
      dsimp only at w1
      split at w1
      · rename_i d1 d2
        obtain ⟨v1, v2, rfl, h1, h2⟩ := rc.two
        rw [← s1.hid] at h1 h2
        have S1 := s1.st.setVa i h1
        rcases put_cases i (.va d1) env1 with q | ⟨q, h0⟩ <;> rw [q] at w1
        · exact w1.elim
        rw [bnd_ok] at w1
        rcases put_cases j (.va d2) (env1.set i (.va d1)) with q | ⟨q, h3⟩ <;> rw [q] at w1
        · exact w1.elim
        have k1 := kept_va (i := i) (d := d1) (v := v1) s1 h0
        have h2' := h2.same (Kept.smH (kept_set_va (env := env1) (σ := σ) (H := H1) (i := i) (d := d1) (v := v1) h0))
        exact ⟨v1, v2, rfl, w1 _ H1 (S1.setVa j h2') (k1.trans (kept_set_va h3))⟩
      · exact w1.elim⟩

/-! ### augmented stores -/
def sAug (i : Nat) (f : D → D → M D) (m : Ev) : Sv := fun env => match env[i]? with
  | some (.va d) => bnd (m env) fun p => bnd (f d p.1) fun z => bnd (put i (.va z) p.2) fun e => .ok (.nx, e)
  | _ => stuck
theorem s_aug {op : Operator} {r : R2} {f : D → D → M D} (C : Cok nn X W P w K mg base N sc k false) (ho : OpR X (inplaceOp op) r) (hv : VB (cc X g) r f) (nr : NoR2 f) (i : Nat) (hi : N[i]? = some x) (hl : locB sc x = true) (he : DE X g pu sh e m W) : DS X g (.AugAssign (.Name x pos') op e pos) (sAug i f m) W := by
  have hl' := locB_of hl
  refine PS.imp (ps_aug (by rw [C.eN]; exact C.nd) (by rw [C.eN]; exact hi) (by rw [C.es]; exact hl') he ho ?_) fun E σ H ⟨xs, env, S, w⟩ => ?_
  · rcases hl' with h | h
    · exact .inr (by rw [C.es]; exact h)
    · exact .inl (C.fn rfl x)
  · unfold sAug at w
    split at w
    · rename_i d hd
      obtain ⟨v, h1, h2⟩ := S.va i d hd
      refine ⟨v, h1, xs, env, S, WantS.bindE w fun d2 env1 u H1 e1 s1 r1 w1 => ?_⟩
      dsimp only at w1
      cases q : f d d2 with
      | error z =>
        rw [q] at w1
        cases z with
        | raise kk pp => exact absurd q (nr _ _ _ _)
        | stuck => exact w1.elim
      | ok z =>
        rw [q] at w1
        refine hv (Hid xs env σ) H1 v u d d2 z _ (fun a ha => s1.st.hid (by rw [s1.hid]; exact ha)) (RepS.of (h2.same s1.smH)) (Rep.shell r1) q fun t H2 k2 hd2 => ?_
        have s2 := s1.grow k2
        rw [bnd_ok] at w1
        rcases put_cases i (.va z) env1 with q | ⟨q, h0⟩ <;> rw [q] at w1
        · exact w1.elim
        · exact w1 _ H2 (s2.st.setVa i (by rw [s2.hid]; exact hd2)) (kept_va s2 h0)
    · exact w.elim
def aMul : D → D → M D := dIntOp (fun i j => decide (i.natAbs < 18446744073709551616) || decide (j.natAbs < 18446744073709551616)) fun i j => i * j
theorem aMul_nr : NoR2 aMul := fun d1 d2 k p h => by
  unfold aMul dIntOp at h
  split at h <;> (try split at h) <;> cases h
theorem va_mul {c : Cc} : VB c (rI CMul fun i j => .int (i * j)) aMul := vb_int fun i j h => by
  rw [Bool.or_eq_true, decide_eq_true_eq, decide_eq_true_eq] at h
  unfold CMul
  have e : (2 : Int) ^ 64 = 18446744073709551616 := by decide
  omega
abbrev aAdd : D → D → M D := dIntOp (fun _ _ => true) fun i j => i + j
abbrev aSub : D → D → M D := dIntOp (fun _ _ => true) fun i j => i - j
abbrev aOr : D → D → M D := dIntOp (fun _ _ => true) Builtin.bitOr
theorem va_add {c : Cc} : VB c (rI0 fun i j => .int (i + j)) aAdd := vb_int0
theorem va_sub {c : Cc} : VB c (rI0 fun i j => .int (i - j)) aSub := vb_int0
theorem va_or {c : Cc} : VB c (rI0 fun i j => .int (Builtin.bitOr i j)) aOr := vb_int0
end
end Dn

/-! Dn17 -/
set_option Elab.async false
set_option linter.all false
set_option maxRecDepth 100000
set_option maxHeartbeats 2000000
/-! Dn17: own errors over ValueError, made by super().__init__(text); self.reason = reason. -/
namespace Dn
namespace Sup
open PySem PySem.W PySem.Calls PyProof.Rows PySem.HandSPX
/-! ### ValueError.__init__ bound to an error -/
abbrev bv (x : Addr) : Obj := { cls := .type "method-wrapper", dict := none, data := .fields #[.builtin "ValueError.__init__", .ref x], slots := #[] }
theorem type_vi : typeOf (.builtin "ValueError.__init__") = pure (.type "wrapper_descriptor") := by show builtinType _ = _; rw [builtinType_eq_fast]; kernel_rfl
theorem nav : (kfb_private% "nameAndClass") (Value.builtin "ValueError.__init__") = (pure (("__init__" : Str), Value.type "ValueError") : Sem (Str × Value)) := by kernel_rfl
section
variable {prog : Program} {w : World} {M : Model} {A : Around} {E : Value → Shared → Prop} {h : Heap} {g : Array GenState} {d : Drawn} {t : Nat} {os : OsState}
theorem run_v {x C : Addr} {P : Fin → Shared → Prop} (hin : Looks M h (isInstance (.ref x) (.type "ValueError")) true) (hq : P (.done (.ret (.ref h.objs.size))) ⟨h.push (bv x), g, d, t, os⟩) :
    wpAny M A (Builtin.«wrapper_descriptor.__get__» ⟨[.builtin "ValueError.__init__", .ref x, .ref C], []⟩) P E ⟨h, g, d, t, os⟩ := by
  unfold Builtin.«wrapper_descriptor.__get__»
  refine wpAny_bind (wpAny_of_eq (a := (.builtin "ValueError.__init__", some (.ref x), some (.ref C))) (by first | rfl | kernel_rfl) ?_)
  show wpAny M A ((kfb_private% "checkInstance") (.builtin "ValueError.__init__") (.ref x) >>= fun _ => newFields "method-wrapper" [.builtin "ValueError.__init__", .ref x] >>= fun r => ret r) P E _
  refine wpAny_bind ?_
  show wpAny M A ((kfb_private% "nameAndClass") (.builtin "ValueError.__init__") >>= _) _ E _
  refine wpAny_bind (wpAny_of_eq nav ?_)
  show wpAny M A (isInstance (.ref x) (.type "ValueError") >>= _) _ E _
  refine wpAny_bind (hin.at ?_)
  refine KFB.if_not rfl ?_
  refine wpAny_pure ?_
  exact wpAny_bind (wpAny_newObj_type (wpAny_pure hq))
theorem ga_v {so D x C : Addr} {l₀ l : List Value} {K : Frag} {name : Str} {tk : Tok} {Q : Fin → Shared → Prop}
    (hso : h.get? so = some { cls := .type "super", dict := none, data := .fields #[.ref D, .ref x, .ref C], slots := #[] }) (hno : Looks (model prog w) h (opaqueClassAbove (.ref C)) none)
    (hC : Looks (model prog w) h (mroOf (.ref C)) l₀) (hl : (l₀.dropWhile (· != .ref D)).drop 1 = l) (X : K.In h)
    (hf : alongIn K name l = some (some (.builtin "ValueError.__init__"))) (hxC : x ≠ C) (hn : (name == ("__class__" : Str)) = false) (hin : Looks (model prog w) h (isInstance (.ref x) (.type "ValueError")) true)
    (hq : Q (.done (.ret (.ref h.objs.size))) ⟨h.push (bv x), g, d, t, os⟩) :
    wpAny (model prog w) A (Builtin.«super.__getattribute__» ⟨[.ref so, .str name tk], []⟩) Q E ⟨h, g, d, t, os⟩ := by
  have hlk := ESX.slot_wd.lookup
  have hne : (Value.ref x == Value.ref C) = false := by simp [hxC]
  have hTf := type_vi
  have hTi : Shared.TypeIs ⟨h, g, d, t, os⟩ (.builtin "ValueError.__init__") "wrapper_descriptor" := type_vi
  have hdt : ({ cls := .type "super", dict := none, data := .fields #[.ref D, .ref x, .ref C], slots := #[] } : Obj).data = .fields #[.ref D, .ref x, .ref C] := rfl
  have f0 : (#[.ref D, .ref x, .ref C] : Array Value)[0]? = some (.ref D) := rfl
  have f1 : (#[.ref D, .ref x, .ref C] : Array Value)[1]? = some (.ref x) := rfl
  have f2 : (#[.ref D, .ref x, .ref C] : Array Value)[2]? = some (.ref C) := rfl
  unfold Builtin.«super.__getattribute__»
  repeat (first
    | (with_reducible refine wpAny_field hso hdt f0 ?_) | (with_reducible refine wpAny_field hso hdt f1 ?_) | (with_reducible refine wpAny_field hso hdt f2 ?_)
    | (with_reducible refine ks_wpAny_notOpaque hno ?_)
    | (with_reducible refine Looks.at hC ?_; rw [hl])
    | (refine ks_forIn_along X (fun _ _ => rfl) rfl ?_ hf)
    | (with_reducible refine wpAny_call_entry ESX.slot_wd hTi ESX.entry_wd ?_ (ESX.args_wd _ _ _))
    | (with_reducible refine run_v hin ?_)
    | (with_reducible refine ⟨_, rfl, ?_⟩)
    | (simp only [hn, hne, Bool.or_false, Bool.false_eq_true, if_false])
    | wp_step
    | dsimp only)
  all_goals exact hq
theorem getMethod_v {so D x C : Addr} {l₀ l : List Value} {K : Frag} {name : Str} {pl : Sem Bool} {Q : Value × List Value → Shared → Prop}
    (hso : h.get? so = some { cls := .type "super", dict := none, data := .fields #[.ref D, .ref x, .ref C], slots := #[] }) (hno : Looks (model prog w) h (opaqueClassAbove (.ref C)) none)
    (hC : Looks (model prog w) h (mroOf (.ref C)) l₀) (hl : (l₀.dropWhile (· != .ref D)).drop 1 = l) (X : K.In h)
    (hf : alongIn K name l = some (some (.builtin "ValueError.__init__"))) (hxC : x ≠ C) (hn : (name == ("__class__" : Str)) = false) (hin : Looks (model prog w) h (isInstance (.ref x) (.type "ValueError")) true)
    (hq : Q (.ref h.objs.size, []) ⟨h.push (bv x), g, d, t + 1, os⟩) :
    wpAny (model prog w) A (getMethod (.ref so) name pl) Q E ⟨h, g, d, t, os⟩ := by
  have hlk := F.ks_slot_super_ga.lookup
  have hcan := F.ks_canon_super_ga
  have hT : ∀ t', (⟨h, g, d, t', os⟩ : Shared).TypeIs (.ref so) "super" := fun _ => ⟨_, hso, rfl⟩
  unfold getMethod
  refine wpAny_bind (wpAny_specialOf (hT _) hlk ?_)
  show wpAny _ _ (if (Manifest.canonical "super.__getattribute__" != "object.__getattribute__") = true then _ else _) _ _ _
  rw [if_pos hcan]
  unfold getAttr getAttrBy
  refine wpAny_bind (wpAny_bind (wpAny_mkText (wpAny_holding (wpAny_bind (wpAny_typeOf (hT _) (wpAny_bind (wpAny_of_eq hlk ?_)))))))
  show wpAny _ _ (getAttrByItsOwn (.ref so) (.str name t) (.type "super") (.builtin "super.__getattribute__") true false) _ _ _
  unfold getAttrByItsOwn hookBefore callGetattribute boundAndCalled
  refine wpAny_bind (wpAny_of_eq (show (if onTheHeap (.type "super") then typeLookup (.type "super") "__getattr__" else pure none) = pure none from rfl) ?_)
  refine wpAny_bind (wpAny_attempt (wpAny_holding ?_))
  show wpAny _ _ (bindSpecial (.builtin "super.__getattribute__") (.ref so) >>= _) _ _ _
  refine wpAny_bind (wpAny_of_eq (F.ks_slot_super_ga.bind _) ?_)
  refine wpAny_mono (Q := fun v s' => v = .ref h.objs.size ∧ s' = ⟨h.push (bv x), g, d, t + 1, os⟩) (E := fun _ _ => False)
    (wpAny_call_entry F.ks_slot_super_ga (hT _) F.ks_entry_super_ga (ga_v hso hno hC hl X hf hxC hn hin ⟨_, rfl, rfl, rfl⟩) (F.ks_gaArgs_super _ _)) (fun v s' hv => ?_) fun _ _ z => z.elim
  obtain ⟨rfl, rfl⟩ := hv
  exact wpAny_pure (wpAny_pure hq)
end
section
variable {prog : Program} {w : World} {M : Model} {A : Around} {E : Value → Shared → Prop} {s : Shared}
theorem callWith_v {pos : Pos} {u x : Addr} {args : List (Bool × Sem Value)} {Q : Value → Shared → Prop} (hplain : args.any (·.1) = false)
    (h : wpAny M A (evalArgs (.ref u) true args []) (fun a s₁ => s₁.heap.get? u = some (bv x) ∧ wpAny M A (call (.ref u) ([] ++ a.pos) a.kw) Q E s₁) E s) : wpAny M A (callWith pos (.ref u) [] args []) Q E s := by
  unfold callWith
  refine wpAny_bind (wpAny_holding (wpAny_mono h (fun a s₁ h₁ => wpAny_bind (wpAny_standAt ?_)) fun _ _ x => x))
  obtain ⟨ho, hcall⟩ := h₁
  simp only [hplain, List.any_nil, Bool.or_false]
  refine wpAny_bind (m := keeperOf (.ref u)) ?_
  unfold keeperOf
  refine wpAny_bind (wpAny_load ho ?_)
  simp only [bv, show (Value.type "method-wrapper" != Value.type "method") = true by decide, show (Value.type "method-wrapper" == Value.type "builtin_function_or_method" || Value.type "method-wrapper" == Value.type "method-wrapper") = true by decide, if_true]
  refine wpAny_pure ?_
  exact wpAny_bind (wpAny_mono hcall (fun r s₂ hr => wpAny_bind (wpAny_holding (wpAny_point (wpAny_pure hr)))) fun _ _ x => x)
end
section
variable {prog : Program} {w : World} {A : Around} {E : Value → Shared → Prop} {h : Heap} {g : Array GenState} {d : Drawn} {t : Nat} {os : OsState}
variable {nm q : Str} {C N : Addr} {bs bm : List Value} {hdct : Bool} {sn : List Str} {sub : List Value} {ab : Bool} {col : Option Bool} {dd : Option Addr} {k0 k1 k2 k3 k5 : Option Value}
theorem call_v {u e t0 : Addr} {rest : List Value} {Q : Value → Shared → Prop}
    (hC : h.get? C = some (excClassObj nm q C N bs bm hdct sn sub ab col dd k0 k1 k2 k3 k5 "ValueError.__new__")) (he : h.get? e = some (excO C t0)) (hu : h.get? u = some (bv e)) (hrest : rest.length ≤ sizeLine)
    (hq : ∀ h' t1, (∀ b o, b ≠ e → h.get? b = some o → h'.get? b = some o) → h'.get? e = some (excO C t1) → Q .none ⟨h', g, d, t, os⟩) :
    wpAny (model prog w) A (call (.ref u) rest) Q E ⟨h, g, d, t, os⟩ := by
  refine wpAny_call (codeAny_of_tree ?_)
  show wpAny _ A.in1 (callAny (.ref u) ⟨rest, []⟩) _ _ _
  simp only [callAny]
  refine wpAny_bind (wpAny_load hu ?_)
  simp only [bv, show (Value.type "method-wrapper" == Value.type "method" || Value.type "method-wrapper" == Value.type "builtin_function_or_method" || Value.type "method-wrapper" == Value.type "method-wrapper") = true by decide, if_true]
  refine W.KFB.if_so (by decide) ?_
  refine wpAny_bind (ESX.check_bound F.excBase_ValueError hC he rfl ?_)
  refine wpAny_bind (wpAny_pure (wpAny_pure ?_))
  refine ⟨Code.quiet_builtin _ (by decide +kernel), codeAny_builtin F.excBase_ValueError.initEntry ?_⟩
  rw [Around.under_plainId F.excBase_ValueError.init.plain _]
  wp_walk
  refine hq _ h.objs.size (fun b o hb ho => ?_) ?_
  · rw [Heap.get?_update_other _ _ (Ne.symm hb)]
    exact Heap.get?_push_of_some _ ho
  · rw [Heap.get?_update_self _ (Heap.get?_push_of_some _ he) rfl]
    rfl
end

end Sup
end Dn

/-! Dn18 -/
set_option Elab.async false
set_option linter.all false
set_option maxRecDepth 100000
set_option maxHeartbeats 2000000
/-! Dn18: the __init__ of such an error; raising it. -/
namespace Dn
namespace Sup
open PySem PySem.W PySem.Calls PyProof.Rows PySem.HandSPX
/-! ### the text of __init__ -/
def iA (p1 p2 : Pos) : Arguments := { posonlyargs := [], args := [{ arg := "self", annotation := none, pos := p1 }, { arg := "reason", annotation := none, pos := p2 }], vararg := none, kwonlyargs := [], kw_defaults := [], kwarg := none, defaults := [] }
def iB (txt : Str) (j : Nat) (a1 a2 a3 a4 a5 a6 q1 q2 q3 q4 : Pos) : List Stmt :=
  [.Expr (.Call (.Attribute (.Call (.Name "super" a1) [] [] a2) "__init__" a3) [.Constant (.str txt) j a4] [] a5) a6, .Assign [.Attribute (.Name "self" q1) "reason" q2] (.Name "reason" q3) q4]
def iS : Scope := { kind := .function, names := [(PySem.Str.ofString "self", .local), (PySem.Str.ofString "reason", .local), (PySem.Str.ofString "__class__", .free), (PySem.Str.ofString "super", .globalImplicit)], isGenerator := false, isCoroutine := false, more := [] }
/-- what the written part says of such a class, at C, and of its __init__, at fI -/
structure Txt (P : Program) (K : Frag) (mg : Str → Option Value) (C fI : Addr) : Prop where
  cls : ∃ nm q N bs bm sn sub ab col dd k0 k1 k2 k3 k5, K.lookup C = some (excClassObj nm q C N bs bm true sn sub ab col dd k0 k1 k2 k3 k5 "ValueError.__new__") ∧ refsVE bm = true
  sa : findIn K (.ref C) "__setattr__" = some (some (.builtin "object.__setattr__"))
  noR : findIn K (.ref C) "reason" = some none
  iC : findIn K (.ref C) "__init__" = some (some (.ref fI))
  tI : typeIn K (.ref fI) = some (.type "function")
  kC : keepIn K (.ref C) = true
  exC : subIn K (.ref C) (.type "BaseException") = some true
  tyC : typeIn K (.ref C) = some (.type "type")
  ms : mroIn K C (.ref C) = some true
  mv : mroIn K C (.type "ValueError") = some true
  si : ks_superIn K C C "__init__" = some (some (.builtin "ValueError.__init__"))
  st : nsIn K cStatics "thirdparty.any" = some none
  ns : mg "super" = none
  top : (P.main.scope.names.lookup ("super" : Str)).isSome = false
  fn : ∃ (oc : Value) (od : Option Addr) (qual : Str) (doc pm : Value) (an : Option Addr) (cda : Addr) (ct : Value) (cc : Addr) (osl : Array (Option Value)) (txt : Str) (j : Nat) (p1 p2 a1 a2 a3 a4 a5 a6 q1 q2 q3 q4 : Pos),
    K.lookup fI = some ⟨oc, od, .func (ksFn "__init__" qual (iA p1 p2) (iB txt j a1 a2 a3 a4 a5 a6 q1 q2 q3 q4) iS .none .none doc pm an (.ref cda) ct cc), osl⟩ ∧ codeIn K (.ref cda) qual = true ∧ (a3.endLine == a5.line) = true ∧
      (∃ (ccl : Value) (cdd : Option Addr) (vs : Array Value) (ccs : Array (Option Value)) (file : Str) (tf : Tok), K.lookup cda = some ⟨ccl, cdd, .fields vs, ccs⟩ ∧ vs[2]? = some (.str file tf) ∧ ((P.main.file : Str) == file) = true) ∧
      ∃ (cl : Value) (cld : Option Addr) (csl : Array (Option Value)), K.lookup cc = some ⟨cl, cld, .cell (some (.ref C)), csl⟩
/-- what __init__ leaves of a new error at x -/
structure End (h h' : Heap) (x C dx t1 : Addr) (v : Value) : Prop where
  keep : ∀ b o, b ≠ x → h.get? b = some o → h'.get? b = some o
  obj : h'.get? x = some { cls := .ref C, dict := some dx, data := .fields #[.ref t1, .none, .none, .none, .bool false, .none] }
  dbig : h.objs.size ≤ dx
  dne : dx ≠ x
  ns : h'.Ns1 dx (fun y => if y = "reason" then some v else none)
theorem call_eq {o e : Expr} {name : Str} {apos pos : Pos} {env : Env} (hline : (apos.endLine == pos.line) = true) (hs : starEach [e] env = [(false, eval e env)]) : eval (.Call (.Attribute o name apos) [e] [] pos) env = (do
      let ov ← attributeBase o name env (eval o env)
      standAt apos.atName
      let (f, first) ← holding [ov] (getMethod ov name (do return (← importBound o env).getD true))
      callWith pos f first (backTo pos (starEach [e] env)) []) := by
  rw [arm_eval_Call]
  have hp : methodCallPos true o env apos pos = pure pos := by unfold methodCallPos; simp [hline]
  have hf : methodCallForm ([e].length + ([] : List Keyword).length) (backTo pos (starEach [e] env)) (backToKw pos (keywordEach [] env)) = true := by rw [hs]; rfl
  unfold methodCall
  rw [hf, hp]
  simp only [pure_bind]
  rfl
theorem kept_but {K : Frag} {h h' : Heap} {x : Addr} (X : K.In h) (hx : K.lookup x = none) (k : ∀ b o, b ≠ x → h.get? b = some o → h'.get? b = some o) : K.In h' := fun a o e =>
  k a o (fun z => by rw [z, hx] at e; cases e) (X a o e)
section
variable {prog : Program} {w : World} {A : Around} {E : Value → Shared → Prop} {R : Result → Shared → Prop} {s : Shared} {K : Frag} {mg mb : Str → Option Value} {C fI : Addr}
theorem sup_init (T : Txt prog K mg C fI) {x t0 : Addr} {v : Value} (X : K.In s.heap) (hlim : s.heap.NoLimit) (hG : s.heap.Ns mainGlobals mg) (hB : s.heap.Ns builtinsNs mb) (hb : mb "super" = some (.type "super")) (hx : s.heap.get? x = some (excO C t0)) (hnx : K.lookup x = none) (hroom : A.depth < recursionLimit)
    (hq : ∀ h' tk dx t1, End s.heap h' x C dx t1 v → R (.ok (.ret .none)) { s with heap := h', toks := tk }) :
    codeAny (model prog w) A (.call (.ref fI) ⟨[.ref x, v], []⟩) R s := by
  obtain ⟨oc, od, qual, doc, pm, an, cda, ct, cc, osl, txt, j, p1, p2, a1, a2, a3, a4, a5, a6, q1, q2, q3, q4, ho, hcd, hline, ⟨ccl, cdd, vs, ccs, file, tf, hcda, hvs, hfile⟩, cl, cld, csl, hcc⟩ := T.fn
  obtain ⟨nm, q, N, bs, bm, sn, sub, ab, col, dd, k0, k1, k2, k3, k5, hC, hbm⟩ := T.cls
  have hcl : clsIn K C = some { name := nm, bases := bs, mro := .ref C :: bm, ns := N, qualname := q, hasDict := true, slotNames := sn, subclasses := sub, abstract := ab, collection := col, hasDel := false } := by unfold clsIn; rw [hC] <;> rfl
  refine ks_codeAny_call_defAt (body := iB txt j a1 a2 a3 a4 a5 a6 q1 q2 q3 q4) (binds := [("self", .ref x), ("reason", v)]) hroom (X _ _ ho) rfl hlim (codeRec_of X hcd) rfl (BindsTo.of_eq (by first | rfl | with_unfolding_all rfl)) (show ∀ y ∈ iS.names, y.2 ≠ .cell by decide) (fun y hy => ?_) (fun h₁ hn k => ?_)
  · rcases List.mem_cons.mp hy with rfl | hy
    · rfl
    · rw [List.mem_singleton.mp hy]; rfl
  have X₁ : K.In h₁ := X.keeps k
  have hxL : s.heap.objs.size ≠ x := Nat.ne_of_gt (Heap.lt_size hx)
  have hxC : x ≠ C := fun z => by rw [z, hC] at hnx; cases hnx
  have hx₁ := k _ _ hx
  obtain ⟨s0, gg, dr, tk0, os⟩ := s
  show _root_.PySem.wpAt (model prog w) _ (.func (iB txt j a1 a2 a3 a4 a5 a6 q1 q2 q3 q4) (ksEnv qual iS s0.objs.size fI (.ref cda) cc)) (execs (iB txt j a1 a2 a3 a4 a5 a6 q1 q2 q3 q4) (ksEnv qual iS s0.objs.size fI (.ref cda) cc)) _ _ _
  have hD : ∃ oD, h₁.get? C = some oD ∧ oD.data = .cls { name := nm, bases := bs, mro := .ref C :: bm, ns := N, qualname := q, hasDict := true, slotNames := sn, subclasses := sub, abstract := ab, collection := col, hasDel := false } := ⟨_, X₁ _ _ hC, rfl⟩
  obtain ⟨oD, hD1, hD2⟩ := hD
  have I₁ : InstAt h₁ x (excO C t0) C none := ⟨hx₁, rfl, rfl, trivial⟩
  refine ks_wpAt_execs_cons (ks_wpAt_Expr_any (ks_wpAt_MethodCall (ks_wpAt_super_base (env := ksEnv qual iS s0.objs.size fI (.ref cda) cc) rfl rfl rfl rfl (X₁ _ _ ho) rfl rfl rfl (X₁ _ _ hcda) rfl hvs hfile T.top ?_) (call_eq hline rfl)))
  · have hnone : mg "super" = none := T.ns
    refine ks_loadName_global rfl rfl (loadGlobal_builtin (env := ksEnv qual iS s0.objs.size fI (.ref cda) cc) (hG.keeps k) hnone (hB.keeps k) hb ⟨rfl, ?_⟩)
    refine wpAny_loadName_free rfl rfl rfl ⟨_, X₁ _ _ hcc, rfl⟩ ?_
    refine wpAny_loadName_local rfl rfl hn (by first | rfl | with_unfolding_all rfl | kernel_rfl) ?_
    refine ks_wpAny_isType_cls hD1 hD2 ⟨rfl, ?_⟩
    refine ks_wpAny_call_super hD1 hD2 I₁.at_ I₁.cls (fun c e => by cases e) (looks_mroIn X₁ T.ms) (fun h₂ so k₂ => ?_)
    have X₂ : K.In h₂ := X₁.keeps k₂
    have hx₂ := k₂ _ _ hx₁
    have I₂ : InstAt h₂ x (excO C t0) C none := ⟨hx₂, rfl, rfl, trivial⟩
    have hsi : alongIn K "__init__" (((Value.ref C :: bm).dropWhile (· != .ref C)).drop 1) = some (some (.builtin "ValueError.__init__")) := by
      have := T.si
      unfold ks_superIn at this
      rw [hcl] at this
      exact this
    refine getMethod_v so (looks_opaque X₂ T.st) (l₀ := .ref C :: bm) ((looks_clsIn X₂ hcl).andThen .now) rfl X₂ hsi hxC (by decide) (I₂.type.andThen (looks_mroIn X₂ T.mv)) ?_
    have kv : ∀ b o, h₂.get? b = some o → (h₂.push (bv x)).get? b = some o := fun b o e => Heap.get?_push_of_some _ e
    have hu : (h₂.push (bv x)).get? h₂.objs.size = some (bv x) := Heap.get?_push_size _ rfl
    refine callWith_v (x := x) rfl (evalArgs_plain ?_)
    refine spliced_cons (wpAny_Constant_str (k := j) (pos := a4) (spliced_nil ⟨hu, ?_⟩))
    refine call_v (kv _ _ (X₂ _ _ hC)) (kv _ _ hx₂) hu (by rw [sizeLine_eq]; exact (by decide : 1 ≤ 16777216)) fun h₃ t₃ k₃ hx₃ => ?_
    have old : ∀ b o, b ≠ x → h₁.get? b = some o → h₃.get? b = some o := fun b o hb e => k₃ b o hb (kv _ _ (k₂ _ _ e))
    have X₃ : K.In h₃ := kept_but X₁ hnx old
    have hn₃ : h₃.Ns s0.objs.size (fun y => [((PySem.Str.ofString "self"), Value.ref x), ((PySem.Str.ofString "reason"), v)].reverse.lookup y) := by
      obtain ⟨oL, es, ep, hL, r⟩ := hn
      exact ⟨oL, es, ep, old _ _ hxL hL, r⟩
    refine ks_wpAt_execs_cons (ks_wpAt_Assign_Attr ?_)
    refine wpAt_of_wpAny (wpAny_Name (wpAny_loadName_local rfl rfl hn₃ (by first | rfl | with_unfolding_all rfl | kernel_rfl) ?_) (by decide))
    refine wpAny_Name (wpAny_loadName_local rfl rfl hn₃ (by first | rfl | with_unfolding_all rfl | kernel_rfl) ?_) (by decide)
    refine set_plain X₃ (ox := excO C t₃) (od := none) ⟨hx₃, rfl, rfl, trivial⟩ T.sa ?_
    refine exc_osa X₃ hx₃ hcl (show refsVE (.ref C :: bm) = true from hbm) rfl T.noR (fun h₄ tk₄ dx k₄ dn dne hx₄ hn₄ => ?_)
    have z : s0.objs.size < h₁.objs.size := hn.lt
    have z3 : s0.objs.size < h₃.objs.size := hn₃.lt
    exact wpAt_of_wpAny (wpAny_execs_nil (hq h₄ tk₄ dx t₃ ⟨fun b o hb e => k₄ b o hb (old b o hb (k b o e)), hx₄, Nat.le_of_lt (Nat.lt_of_lt_of_le z3 dn), dne, hn₄⟩))
/-- an error just made -/
structure Made (h h' : Heap) (e C d : Addr) (v : Value) : Prop where
  keep : ∀ b o, h.get? b = some o → h'.get? b = some o
  new : h.objs.size ≤ e
  obj : ∃ oe vs, h'.get? e = some oe ∧ oe.cls = .ref C ∧ oe.dict = some d ∧ oe.data = .fields vs ∧ vs[1]? = some .none ∧ vs[2]? = some .none ∧ 4 < vs.size
  dbig : h.objs.size ≤ d
  dne : d ≠ e
  ns : h'.Ns1 d (fun y => if y = "reason" then some v else none)
theorem sup_made (T : Txt prog K mg C fI) {v : Value} (X : K.In s.heap) (hlim : s.heap.NoLimit) (hG : s.heap.Ns mainGlobals mg) (hB : s.heap.Ns builtinsNs mb) (hb : mb "super" = some (.type "super")) (hroom : A.depth + 1 < recursionLimit)
    (hq : ∀ h' tk e d, Made s.heap h' e C d v → R (.ok (.ret (.ref e))) { s with heap := h', toks := tk }) :
    codeAny (model prog w) A (.call (.ref C) ⟨[v], []⟩) R s := by
  obtain ⟨nm, q, N, bs, bm, sn, sub, ab, col, dd, k0, k1, k2, k3, k5, hC, hbm⟩ := T.cls
  obtain ⟨hp, g, dr, tk, os⟩ := s
  have k : ∀ b o, hp.get? b = some o → ((hp.push (kdv_tup [v])).push (excO C hp.objs.size)).get? b = some o := fun b o e => Heap.get?_push_of_some _ (Heap.get?_push_of_some _ e)
  have hget : ((hp.push (kdv_tup [v])).push (excO C hp.objs.size)).get? (hp.objs.size + 1) = some (excO C hp.objs.size) := by heap_get
  have hnx : K.lookup (hp.objs.size + 1) = none := by
    cases e : K.lookup (hp.objs.size + 1) with
    | none => rfl
    | some o =>
      have z : hp.get? (hp.objs.size + 1) = some o := X _ _ e
      exact absurd (Nat.lt_of_succ_lt (Heap.lt_size z)) (Nat.lt_irrefl _)
  refine call_own F.excBase_ValueError (fun Y => refsVE_contains Y bm hbm) (X _ _ hC) (looks_findIn X T.iC) (fun self => bind_fn X self T.tI) (by rw [sizeLine_eq]; exact (by decide : 1 ≤ 16777216)) ?_
  refine sup_init (mb := mb) (s := ⟨(hp.push (kdv_tup [v])).push (excO C hp.objs.size), g, dr, tk, os⟩) T (X.keeps k) (hlim.keeps k) (hG.keeps k) (hB.keeps k) hb hget hnx ?_ fun h' tk' dx t1 ⟨k', hx, dn, dne, hns⟩ => ?_
  · show A.depth + 1 < recursionLimit
    exact hroom
  · have old : ∀ b o, hp.get? b = some o → h'.get? b = some o := fun b o e => k' b o (Nat.ne_of_lt (Nat.lt_succ_of_lt (Heap.lt_size e))) (k b o e)
    have z : hp.objs.size + 1 + 1 ≤ dx := by
      have q := dn
      rw [Heap.size_push, Heap.size_push] at q
      exact q
    exact ⟨rfl, hq h' tk' (hp.objs.size + 1) dx ⟨old, Nat.le_succ _, ⟨_, _, hx, rfl, rfl, rfl, rfl, rfl, show 4 < 6 by decide⟩, Nat.le_trans (Nat.le_trans (Nat.le_succ _) (Nat.le_succ _)) z, dne, hns⟩⟩
end
end Sup

open PySem PySem.Spec L2
open PyProof.Rows hiding St
theorem relO_reason {v : V} {v' : Value} (r : RelV v v') (f : Str) : RelO (List.lookup f [(("reason" : Str), v)]) (if f = "reason" then some v' else none) := by
  by_cases hw : f = "reason"
  · subst hw
    rw [if_pos rfl]
    have q : List.lookup ("reason" : Str) [(("reason" : Str), v)] = some v := by simp [List.lookup]
    rw [q]
    exact r
  · rw [if_neg hw]
    have qw : (f == ("reason" : Str)) = false := by simpa using hw
    have q2 : List.lookup f [(("reason" : Str), v)] = none := by simp [List.lookup, qw]
    rw [q2]
    trivial
section
variable {X : Cx} {P : Program} {w : World} {K : PySem.W.Frag} {mg : Str → Option Value} {base : Heap} {N : List Str} {sc : Scope} {k : Nat} {bk nn : Bool} {g : Ce} {W : WX}
variable {pu sh : Bool} {e : Expr} {pos p pos' : Pos} {m : Ev} {x : Str} {C fI : Addr}
/-- C(e) -/
def tMkS (C : Addr) (ta : TA) : L2.St → Hp → XK → Prop := fun σ H Q => ta σ H fun vs H1 => ∃ v, vs = [v] ∧ ∀ d, H1 d = none → Q (.ref C) (some d) (upd H1 d (.xd [(("reason" : Str), v)]))
theorem pmk5_sup {te : TE} (T : Sup.Txt X.prog X.K X.mg C fI) (hr : X.A.depth + 1 < recursionLimit) (hg : Gl X x) (hm : X.mg x = some (.ref C)) (ha : PE X e te) (hdb : (x == ("__debug__" : Str)) = false)
    (he : starEach (e :: []) X.env = (false, eval e X.env) :: starEach [] X.env := by rfl) (hpl : (backTo pos (starEach [] X.env)).any (·.1) = false := by rfl) :
    L2H.PMk5 X (.Call (.Name x p) [e] [] pos) (tMkS C (tCons te tNil)) := by
  intro pins s σ H Q I h
  refine wpAny_Call_Name_kw (ld_glob I hg hm ?_ hdb)
  refine PySem.W.callWith_K (h₀ := X.base) I.ok.mod.kin T.kC (thn ((pa_cons ha pa_nil he).run pos pins s σ H _ I h) fun us s1 hh => ?_) he hpl
  obtain ⟨vs, H1, I1, r1, v, ev, q1⟩ := hh
  subst ev
  refine ⟨I1.kIn, ?_⟩
  cases r1 with
  | cons rv rn =>
    rename_i v' us'
    cases rn
    show wpAny _ _ (call (.ref C) [v']) _ _ _
    have hlim := I1.nolimit
    have hG := I1.mod.glob.keeps I1.bk
    obtain ⟨mb, hB0, hb0⟩ := I1.mod.blt
    have hB := hB0.keeps I1.bk
    have hb : mb "super" = some (.type "super") := (hb0 "super" (by decide)).trans rfl
    obtain ⟨hp, gg, dr, tk, os⟩ := s1
    refine wpAny_call (Sup.sup_made T I1.kIn hlim hG hB hb hr fun h' tk' e d M => ?_)
    show L2N.MkP X pins σ Q (.ref e) ⟨h', gg, dr, tk', os⟩ ∧ L2H.Six (.ref e) ⟨h', gg, dr, tk', os⟩
    obtain ⟨oe, fv, hoe, hc, hd, hdat, h1, h2, h4⟩ := M.obj
    have hns := M.ns
    obtain ⟨G', g1, g2⟩ := restrict h' fun b => decide (b ≠ e)
    have gk : ∀ b, b ≠ e → G'.get? b = h'.get? b := fun b hb => g1 b (decide_eq_true hb)
    have ge : G'.get? e = none := g2 e (by simp)
    have old : ∀ b o, hp.get? b = some o → G'.get? b = some o := fun b o q => (gk b (Nat.ne_of_lt (Nat.lt_of_lt_of_le (Heap.lt_size q) M.new))).trans (M.keep b o q)
    have ob : ObjOk X.prog X.w (upd H1 d (.xd [(("reason" : Str), v)])) G' d (.xd [(("reason" : Str), v)]) :=
      ⟨_, hns.at (fun o q => (gk d M.dne).trans q), fun f => relO_reason rv f⟩
    have J : Inv X pins σ (upd H1 d (.xd [(("reason" : Str), v)])) ⟨G', gg, dr, tk', os⟩ := I1.laid (t' := tk') old M.dbig ob
    refine ⟨⟨e, oe, fv, ⟨G', gg, dr, tk', os⟩, _, .ref C, some d, rfl, J, fun b o q => ?_, ge, hoe, ⟨hc, hd, fun vs ev => by rw [hdat] at ev; cases ev; exact h2⟩, hdat, h1, ?_, rfl, I1.bare, raises_own T.exC T.tyC, q1 d (I1.hok.fresh M.dbig)⟩, fun a' oe' vs' ea eo ed => by
      cases ea
      rw [show h'.get? e = some oe' from eo] at hoe
      cases hoe
      rw [ed] at hdat
      cases hdat
      exact h4⟩
    · by_cases hb : b = e
      · have q' : G'.get? b = some o := q
        rw [hb, ge] at q'; cases q'
      · exact (gk b hb).symm.trans q
    · rw [upd_ne (Ne.symm M.dne)]
      exact I1.hok.fresh M.new
theorem pmk_zc {e : Expr} {t : L2.St → Hp → XK → Prop} (h : L2N.PMk X e t) : PMk X e t := fun pins s σ H Q I w => thn (h pins s σ H Q I w) fun u s1 ⟨a, oe, vs, sI, H', cls, d, e1, e2, e3, e4, e5, e6, e7⟩ => ⟨a, oe, vs, sI, H', cls, d, e1, e2, e3, e4, e5, e6.zc, e7⟩
theorem raiseN {e : Expr} {t : L2.St → Hp → XK → Prop} {nn : Bool} (hc : X.calm = true) (tk : Tk nn X W) (he : L2N.PMk X e t) : PS X (.Raise (some e) none pos) (fun _ σ H => t σ H fun cls d H' => W cls d σ H') := by
  cases nn with
  | true => exact L2N.ps_raise hc tk he
  | false => exact L2.ps_raise hc tk (pmk_zc he)
def sRaise (i : Nat) (m : Ev) : Sv := fun env => bnd (m env) fun p => .error (.raise i p.1)
theorem s_raise (Cc : Cok nn X W P w K mg base N sc k bk) {i j : Nat} (T : Sup.Txt P K mg C fI) (hj : j + 1 ≤ k + 1) (hg : gloB sc x = true) (hm : mg x = some (.ref C)) (hec : g.ec i = some C) (hen : g.en i = "reason") (ha : DE X g pu false e m W) (hdb : (x == ("__debug__" : Str)) = false := by rfl)
    (he : starEach (e :: []) X.env = (false, eval e X.env) :: starEach [] X.env := by rfl) (hpl : (backTo pos (starEach [] X.env)).any (·.1) = false := by rfl) : DS X g (.Raise (some (.Call (.Name x p) [e] [] pos)) none pos') (sRaise i m) W := by
  have hgl := gloB_of Cc hg
  have tk := Cc.tk
  have hr := Cc.room
  have hc := Cc.calm
  obtain ⟨rfl, rfl, rfl, rfl, rfl⟩ := And.intro Cc.eP (And.intro Cc.ew (And.intro Cc.eK (And.intro Cc.em Cc.eb)))
  refine PS.imp (raiseN hc tk (L2H.PMk5.pmk (pmk5_sup T (by have := hr.dp; omega) hgl hm ha hdb he hpl))) fun E σ H ⟨xs, env, S, w⟩ => ?_
  refine ⟨xs, env, S, WantS.bindE w fun d env' v H' e s r w' => ⟨v, rfl, fun d' hd => ?_⟩⟩
  have r' : IsD (cc X g) (hide H' (Hid xs env σ)) d v := r
  refine w' _ _ σ _ rfl (s.sm.trans (hide_full.trans (same_new hd))) ⟨C, d', v, hec, rfl, rfl, ?_, r'.same (hide_full.trans (same_new hd))⟩
  show upd H' d' _ d' = some (.xd [(g.en i, v)])
  rw [hen]; exact upd_same
end
end Dn

/-! Dn19 -/
set_option Elab.async false
set_option linter.all false
set_option maxRecDepth 100000
set_option maxHeartbeats 1000000
/-! Dn19: a def that changes its first argument's list. -/
namespace Dn
open PySem PySem.Spec L2
open PyProof.Rows hiding St

def enterO (n : Nat) (s : D) (ds : List D) : En := Sl.ow s :: enter (n - 1) ds
def finO : M (Fl × En) → M (D × D)
  | .ok (fl, env) => match env[(0 : Nat)]? with
    | some (.ow s) => match fl with
      | .nx => .ok (.non, s)
      | .rt d => .ok (d, s)
      | .rf d => .ok (d, s)
      | _ => stuck
    | _ => stuck
  | .error e => .error e
section
variable {c : Cc} {N : List Str} {ds : List D} {s : D} {a : Addr} {ws : List V} {H : Hp} {xs : Addr → Prop} {o : HO}
theorem startO_eq (hN : ws.length + 1 ≤ N.length) : L2.start N (.ref a :: ws) = some (V.ref a) :: (ws.map some ++ List.replicate (N.length - 1 - ws.length) none) := by
  unfold L2.start
  simp only [List.map_cons, List.length_cons, List.cons_append]
  have : N.length - (ws.length + 1) = N.length - 1 - ws.length := by omega
  rw [this]
theorem enterO_owns (hN : ws.length + 1 ≤ N.length) {b : Addr} : Owns (enterO N.length s ds) (L2.start N (.ref a :: ws)) b ↔ b = a := by
  rw [startO_eq hN]
  constructor
  · rintro ⟨i, d, h1, h2⟩
    cases i with
    | zero => simp at h2; exact h2.symm
    | succ i =>
      have h1' : (enter (N.length - 1) ds)[i]? = some (Sl.ow d) := h1
      rcases enter_get h1' with ⟨e, _, h⟩ | h <;> cases h
  · rintro rfl
    exact ⟨0, s, rfl, rfl⟩
theorem enterO_ok (hN : ds.length + 1 ≤ N.length) (hx : ∀ b, xs b → H b ≠ none ∧ b ≠ a) (ho : H a = some o) (hr : ObjRep c (hide H (fun b => b = a ∨ xs b)) s o) (r : IsDs c (hide H (fun b => b = a ∨ xs b)) ds ws) :
    StOk c xs (enterO N.length s ds) (L2.start N (.ref a :: ws)) H := by
  have hl := r.len
  have hN' : ws.length + 1 ≤ N.length := by omega
  have eq : Hid xs (enterO N.length s ds) (L2.start N (.ref a :: ws)) = fun b => b = a ∨ xs b := by
    funext b; unfold Hid; rw [propext (enterO_owns (s := s) (ds := ds) hN')]
  refine ⟨?_, fun b hb => ⟨(hx b hb).1, fun z => (hx b hb).2 ((enterO_owns hN').mp z)⟩, fun i d h => ?_, fun i d h => ?_, fun i j d e b h1 h2 h3 h4 => ?_⟩
  · rw [startO_eq hN']
    unfold enterO enter
    simp [hl]
  · rw [eq, startO_eq hN']
    cases i with
    | zero => cases h
    | succ i =>
      have h' : (enter (N.length - 1) ds)[i]? = some (Sl.va d) := h
      rcases enter_get h' with ⟨e, h1, h2⟩ | h
      · cases h2
        obtain ⟨v, h3, h4⟩ := r.getD h1
        refine ⟨v, ?_, h4⟩
        show (ws.map some ++ _)[i]? = _
        rw [List.getElem?_append_left (by rw [List.length_map]; exact (List.getElem?_eq_some_iff.mp h3).1), List.getElem?_map, h3]
        rfl
      · cases h
  · rw [eq, startO_eq hN']
    cases i with
    | zero =>
      have : s = d := by
        have h' : some (Sl.ow s) = some (Sl.ow d) := h
        cases h'; rfl
      subst this
      exact ⟨a, o, rfl, ho, hr⟩
    | succ i =>
      have h' : (enter (N.length - 1) ds)[i]? = some (Sl.ow d) := h
      rcases enter_get h' with ⟨e, _, h⟩ | h <;> cases h
  · have z : ∀ {i d}, (enterO N.length s ds)[i]? = some (Sl.ow d) → i = 0 := fun {i d} h => by
      cases i with
      | zero => rfl
      | succ i =>
        have h' : (enter (N.length - 1) ds)[i]? = some (Sl.ow d) := h
        rcases enter_get h' with ⟨e, _, h⟩ | h <;> cases h
    rw [z h1, z h2]
theorem body_endO {Q : VK} {E : XK} {r : M (Fl × En)} (hN : ws.length + 1 ≤ N.length)
    (h : match finO r with
      | .ok (d, s') => ∀ v H' o', Same (hide H (· = a)) (hide H' (· = a)) → H' a = some o' → ObjRep c (hide H' (fun b => b = a ∨ xs b)) s' o' → IsD c (hide H' (fun b => b = a ∨ xs b)) d v → Q v H'
      | .error (.raise k p) => ∀ cls dd H', Same (hide H (· = a)) H' → ExcRep c H' k p cls dd → E cls dd H'
      | .error .stuck => False) :
    WantS c xs (enterO N.length s ds) (L2.start N (.ref a :: ws)) H (fun cls d _ H => E cls d H) { nx := fun _ H' => Q .non H', rt := Q } r := by
  have own : Owns (enterO N.length s ds) (L2.start N (.ref a :: ws)) = (· = a) := by funext b; exact propext (enterO_owns hN)
  have hw0 : isOw (enterO N.length s ds) 0 = true := rfl
  have hs0 : (L2.start N (.ref a :: ws))[0]? = some (some (V.ref a)) := by rw [startO_eq hN]; rfl
  cases r with
  | error e => cases e with
    | raise k p => exact fun cls dd σ' H' _ k' r => h cls dd H' (by rw [← own]; exact k') r
    | stuck => exact h
  | ok p =>
    obtain ⟨fl, env'⟩ := p
    have key : ∀ {σ' : St} {H' : Hp}, StOk c xs env' σ' H' → Kept (enterO N.length s ds) (L2.start N (.ref a :: ws)) H env' σ' H' →
        ∃ s' o', env'[0]? = some (Sl.ow s') ∧ H' a = some o' ∧ Same (hide H (· = a)) (hide H' (· = a)) ∧ ObjRep c (hide H' (fun b => b = a ∨ xs b)) s' o' ∧ Same (hide H' (Hid xs env' σ')) (hide H' (fun b => b = a ∨ xs b)) := fun {σ' H'} S' k => by
      obtain ⟨f1, f2⟩ := k.fx hw0
      obtain ⟨s', hs'⟩ := of_isOw f1
      obtain ⟨b, o', e1, e2, e3⟩ := S'.ow 0 s' hs'
      rw [f2, hs0] at e1; cases e1
      have sub : Same (hide H' (Hid xs env' σ')) (hide H' (fun b => b = a ∨ xs b)) := hide_sub fun b z => by
        rcases z with z | z
        · subst z; exact .inl ⟨0, s', hs', by rw [f2, hs0]⟩
        · exact .inr z
      refine ⟨s', o', hs', e2, fun b u hb => ?_, e3.same sub, sub⟩
      obtain ⟨h1, h2⟩ := hide_some hb
      have := k.sm b u (by rw [own]; exact hb)
      rw [hide_of (P := (· = a)) h1]
      exact (hide_some this).2
    cases fl with
    | nx =>
      intro σ' H' S' k
      obtain ⟨s', o', q1, q2, q3, q4, _⟩ := key S' k
      unfold finO at h
      simp only [q1] at h
      exact h .non H' o' q3 q2 q4 isNon
    | bk =>
      intro σ' H' S' k
      obtain ⟨s', o', q1, _⟩ := key S' k
      unfold finO at h
      simp only [q1] at h
    | ct =>
      intro σ' H' S' k
      obtain ⟨s', o', q1, _⟩ := key S' k
      unfold finO at h
      simp only [q1] at h
    | rt d =>
      intro σ' v H' S' k hd
      obtain ⟨s', o', q1, q2, q3, q4, q5⟩ := key S' k
      unfold finO at h
      simp only [q1] at h
      exact h v H' o' q3 q2 q4 (hd.same q5)
    | rf d =>
      rintro σ' v H' S' k ⟨b, u, e1, e2, e3, e4, e5⟩
      obtain ⟨s', o', q1, q2, q3, q4, q5⟩ := key S' k
      unfold finO at h
      simp only [q1] at h
      subst e1
      have nb : ¬ (b = a ∨ xs b) := fun z => e4 (by
        rcases z with z | z
        · subst z
          obtain ⟨f1, f2⟩ := k.fx hw0
          exact .inl ⟨0, s', q1, by rw [f2, hs0]⟩
        · exact .inr z)
      refine h _ H' o' q3 q2 q4 (ObjRep.isD (e5.same (hide_sub fun c' z => ?_)) e3 nb)
      rcases z with (z | z) | z
      · subst z
        obtain ⟨f1, f2⟩ := k.fx hw0
        exact .inl (.inl ⟨0, s', q1, by rw [f2, hs0]⟩)
      · exact .inl (.inr z)
      · exact .inr z
    | ro i =>
      intro σ' a' H' S' k
      obtain ⟨s', o', q1, _⟩ := key S' k
      unfold finO at h
      simp only [q1] at h
end
section
variable {P : Program} {w : World} {K : PySem.W.Frag} {mg : Str → Option Value} {base : Heap} {g : Ce}
/-- THE RULE for a def that may change its first argument's list -/
theorem def_own {nn : Bool} {x qual : Str} {st : Stmt} {f : Addr} {fd : FuncData} {N ps : List Str} {k n : Nat} {mf : D → List D → M (D × D)} {body : Sv} (F : Fun K x qual st f fd) (S : FnScope N ps (defScope st)) (hn : ps.length = n + 1) (hN : ps.length ≤ N.length) (hf : ∀ s ds, mf s ds = finO (body (enterO N.length s ds)))
    (hbody : ∀ (X : Cx) (W : WX), Cok nn X W P w K mg base N (defScope st) k false → PaOk X → DSs X g (defBody st) body W) :
    FnOk P w K mg base (CXn nn P w) (k + 1) f fd ps (spO (ck K g) n mf) := by
  refine fun_ok F S (fun vs H Q E ⟨xs, a, o, s, ds, ws, h1, h2, h3, h4, h5, h6, _⟩ => by rw [h1, List.length_cons, ← h6.len, h2, hn]) (fun cdv A outer s H vs Q E hr ⟨xs, a, o, st', ds, ws, h1, h2, h3, h4, h5, h6, h⟩ => ?_)
  subst h1
  have hl := h6.len
  refine ⟨_, hbody _ _ (ctx_def S hr) (L2H.passesAt_of rfl), xs, enterO N.length st' ds, enterO_ok (by omega) h3 h4 h5 h6, ?_⟩
  rw [hf] at h
  exact body_endO (by omega) h
end
end Dn

/-! Dn20 -/
set_option Elab.async false
set_option linter.all false
set_option maxRecDepth 100000
set_option maxHeartbeats 2000000
/-! Dn20: a def called on the error that a suite holds. -/
namespace Dn
open PySem PySem.Spec L2
open PyProof.Rows hiding St
open L2H (RoomH PinOk)

/-- what such a def promises: it lets no error out -/
structure FnW (P : Program) (w : World) (K : PySem.W.Frag) (mg : Str → Option Value) (base : Heap) (k : Nat) (f : Addr) (fd : FuncData) (ps : List Str) (sp : Addr → Value → Option Addr → Sp) : Prop where
  len : ∀ a cls d vs H Q E, sp a cls d vs H Q E → vs.length = ps.length
  run : ∀ (A : Around) (outer : List Env) (s : Shared) (H : Hp) (args : Args) (us : List Value) (vs : List V) (Q : VK) (a : Addr) (oe : Obj) (cls : Value) (d : Option Addr), RoomH k A → PinOk outer H s (a, oe) → Zc cls d oe → (∃ vs, oe.data = .fields vs) → Env0 P w K mg base A outer s H → BindsTo s fd args (ps.zip us) → Vals vs us →
    sp a cls d vs H Q (fun _ _ _ => False) → codeAny (model P w) A (.call (.ref f) args) (CR CX0 outer P w H s Q (fun _ _ _ => False)) s
theorem fn_ofW {P : Program} {w : World} {K : PySem.W.Frag} {mg : Str → Option Value} {base : Heap} {k : Nat} {f : Addr} {x qual : Str} {st : Stmt} {fd : FuncData} {N ps : List Str} {sp : Addr → Value → Option Addr → Sp} (F : Fun K x qual st f fd) (S : FnScope N ps (defScope st))
    (len : ∀ a cls d vs H Q E, sp a cls d vs H Q E → vs.length = ps.length)
    (hbody : ∀ (cdv : Value) (A : Around) (outer : List Env) (s : Shared) (H : Hp) (vs : List V) (Q : VK) (a : Addr) (oe : Obj) (cls : Value) (d : Option Addr), Zc cls d oe → (∃ vs, oe.data = .fields vs) → sp a cls d vs H Q (fun _ _ _ => False) →
      ∃ t, PSs (L2H.cxH CX0 P w K mg base N qual (defScope st) f cdv A outer s H (fun _ _ _ => False) (a, oe)) (defBody st) t ∧ t { nx := fun _ H' => Q .non H', rt := Q } (L2.start N vs) H) :
    FnW P w K mg base (k + 1) f fd ps sp := by
  obtain ⟨oc, od, kV, doc, pm, an, cdv, ct, osl, rfl, lk, hcd⟩ := F.ex
  refine ⟨len, fun A outer s H args us vs Q a oe cls d hr hpin hz hf e0 hb r hsp => ?_⟩
  have hl := len _ _ _ _ _ _ _ hsp
  have KX : K.In s.heap := e0.mod.kin.keeps fun b o e => (e0.bs b o e).1
  have lim : s.heap.NoLimit := e0.mod.nolimit.keeps fun b o e => (e0.bs b o e).1
  have hkind : ∀ y ∈ ps.zip us, (defScope st).names.lookup y.1 = some .local ∨ ((defScope st).names.lookup y.1 = some .cell ∧ ((cellsFrom (s.heap.objs.size + 1) (defScope st).names []).lookup y.1).isSome = true) := fun ⟨n, v⟩ hy => by
    rcases S.par n (List.of_mem_zip hy).1 with q | q
    · exact .inl q
    · exact .inr ⟨q, PySem.W.cellsFrom_some _ _ _ (.inl q)⟩
  refine codeAny_call_function hr.depth (KX _ _ lk) rfl S.co S.gen rfl (PySem.W.codeRec_of KX hcd) (hb _ _ _ _ ?_)
  refine wpAny_newFunctionEnv_cells S.kind hkind fun env he s1 x => ?_
  subst he
  refine ⟨lim.keeps x.toInCall.keep, codeAny_func ?_⟩
  obtain ⟨t, ht, hq⟩ := hbody cdv A outer s H vs Q a oe cls d hz hf hsp
  have I : Inv (L2H.cxH CX0 P w K mg base N qual (defScope st) f cdv A outer s H (fun _ _ _ => False) (a, oe)) [] (L2.start N vs) H s1 := L2H.inv_startH S hpin e0 hl r x
  refine wpAny_mono (ht.run [] s1 (L2.start N vs) H _ I hq) (fun fl s' hs => ?_) fun e s' hs => hs
  have fin : ∀ {σ' : St} {H' : Hp} {v : V} {u : Value}, Inv (L2H.cxH CX0 P w K mg base N qual (defScope st) f cdv A outer s H (fun _ _ _ => False) (a, oe)) [] σ' H' s' → RelV v u → Q v H' → CE outer P w H s Q u s' :=
    fun {σ' H' v u} J rv q => ⟨v, H', J.os, J.bare, J.base, J.hok, rv, q⟩
  cases fl with
  | ret u =>
    obtain ⟨v, σ', H', J, rv, q⟩ := hs
    exact fin J rv q
  | next =>
    obtain ⟨σ', H', J, q⟩ := hs
    exact fin (v := V.non) (u := Value.none) J rfl q
  | brk =>
    obtain ⟨_, _, _, q⟩ := hs
    exact False.elim q
  | cont =>
    obtain ⟨_, _, _, q⟩ := hs
    exact False.elim q
section
variable {X : Cx} {k : Nat} {f : Addr} {fd : FuncData} {ps : List Str} {sp : Addr → Value → Option Addr → Sp} {x : Str} {q pos : Pos} {e : Expr} {es : List Expr} {t : TA} {a : Addr} {oe : Obj} {cls : Value} {d : Option Addr}
def tCallW (a : Addr) (cls : Value) (d : Option Addr) (sp : Addr → Value → Option Addr → Sp) (t : TA) : TE := fun σ H Q => t σ H fun vs H1 => sp a cls d vs H1 Q (fun _ _ _ => False)
theorem pe_callW (F : FnW X.prog X.w X.K X.mg X.base k f fd ps sp) (hr : RoomH k X.A) (hp : (a, oe) ∈ X.pn) (hz : Zc cls d oe) (hf : ∃ vs, oe.data = .fields vs) (hg : Gl X x) (hm : X.mg x = some (.ref f)) (hk : PySem.W.keepIn X.K (.ref f) = true) (hb : Binds X.K fd ps [])
    (ha : PA X (e :: es) t) (hdb : (x == ("__debug__" : Str)) = false := by decide) (he : starEach (e :: es) X.env = (false, eval e X.env) :: starEach es X.env := by rfl) (hpl : (backTo pos (starEach es X.env)).any (·.1) = false := by rfl) :
    PE X (.Call (.Name x q) (e :: es) [] pos) (tCallW a cls d sp t) := by
  refine ⟨fun pins s σ H Q I h => ?_⟩
  refine wpAny_Call_Name_kw (ld_glob I hg hm ?_ hdb)
  refine PySem.W.callWith_K (h₀ := X.base) I.ok.mod.kin hk (thn (ha.run pos pins s σ H _ I h) fun us s1 ⟨vs, H1, I1, r, q⟩ => ⟨I1.kIn, ?_⟩) he hpl
  have hl : us.length = ps.length := by rw [← r.length]; exact F.len _ _ _ _ _ _ _ q
  have b := hb s1 us I1.kIn (by rw [List.append_nil]; exact hl)
  rw [List.append_nil] at b
  have P1 := I1.pin (a, oe) (List.mem_append_left _ hp)
  have hpin : PinOk X.stack H1 s1 (a, oe) := ⟨P1.1, P1.2.1, fun hm => (List.mem_cons.mp (I1.stkSub a hm)).elim P1.2.2.1 P1.2.2.2.1, P1.2.2.2.2⟩
  show wpAny _ _ (call (.ref f) us) _ _ _
  refine wpAny_call (codeAny_mono (F.run X.A X.stack s1 H1 ⟨us, []⟩ us vs Q a oe cls d hr hpin hz hf I1.env0 b r q) fun r s' hq => ?_)
  cases r with
  | error e => exact False.elim hq
  | ok fl =>
    cases fl with
    | ret u => exact I1.after hq
    | next => exact False.elim hq
    | brk => exact False.elim hq
    | cont => exact False.elim hq
end

/-! ### asking the error -/
section
variable {X : Cx} {a : Addr} {oe : Obj} {cls : Value} {d : Option Addr}
theorem inst_of {pins : List (Addr × Obj)} {σ : St} {H : Hp} {s : Shared} {D dd : Addr} {fs : List (Str × V)} (I : Inv X pins σ H s) (hp : (a, oe) ∈ X.pn) (hz : Zc (.ref D) (some dd) oe) (hf : ∃ vs, oe.data = .fields vs) (hd : H dd = some (.xd fs)) :
    ∃ od, PySem.W.InstAt s.heap a oe D (some od) ∧ s.heap.get? dd = some od := by
  obtain ⟨hget, _⟩ := I.pin (a, oe) (List.mem_append_left _ hp)
  obtain ⟨vs, hv⟩ := hf
  have hx : ObjOk X.prog X.w H s.heap dd (.xd fs) := I.hok dd _ hd
  obtain ⟨mA, hns, hr⟩ := hx
  obtain ⟨od, ho, hl⟩ := L2.lookIn_ns hns
  exact ⟨od, ⟨hget, hz.1, by unfold PySem.W.notCls; rw [hv] <;> rfl, by rw [hz.2]; exact ho⟩, ho⟩
/-- isinstance(e, c) -/
def rIsX (K : PySem.W.Frag) (a : Addr) (cls : Value) (d : Option Addr) : RC := fun xs H Q => ∃ (D dd : Addr) (fs : List (Str × V)) (c : V) (cv : Value) (b : Bool), cls = .ref D ∧ d = some dd ∧ H dd = some (.xd fs) ∧ ExcC K D ∧ xs = [.ref a, c] ∧ (∀ u, RelV c u → u = cv) ∧ PySem.W.kitOne K (.ref D) cv = some b ∧ Q (.bl b) H
theorem call_isX (hp : (a, oe) ∈ X.pn) (hz : Zc cls d oe) (hf : ∃ vs, oe.data = .fields vs) : CallR X (.builtin "isinstance") (rIsX X.K a cls d) := by
  intro pins s σ H xs us Q I r h
  obtain ⟨D, dd, fs, c, cv, b, rfl, rfl, hd, C, rfl, hcv, e, q⟩ := h
  cases r with
  | cons rx rr =>
    cases rr with
    | cons rt rr =>
      cases rr
      cases rx
      have ec := hcv _ rt
      subst ec
      obtain ⟨od, J, _⟩ := inst_of I hp hz hf hd
      have hcl : (PySem.W.clsIn X.K D).isSome = true := by obtain ⟨cd, hc, _⟩ := PySem.W.any_some C.hd; rw [hc]; rfl
      exact PySem.W.kia_one (PySem.W.kitx_exc hcl C.hg C.hk C.hs C.ha C.hn C.ht C.hm) I.kIn J e (fun z => nomatch z) fun tk => ⟨.bl b, H, I.kept (t' := tk) fun _ _ z => z, rfl, q⟩
/-- e.f -/
def tXg (a : Addr) (cls : Value) (d : Option Addr) (K : PySem.W.Frag) (f : Str) (te : TE) : TE := fun σ H Q => te σ H fun x H1 => ∃ (D dd : Addr) (fs : List (Str × V)) (v : V), x = .ref a ∧ cls = .ref D ∧ d = some dd ∧ XfC K D ∧ PySem.W.findIn K (.ref D) f = some none ∧ H1 dd = some (.xd fs) ∧ fs.lookup f = some v ∧ Q v H1
theorem pe_xg {e : Expr} {te : TE} {pos : Pos} {n : Str} (hp : (a, oe) ∈ X.pn) (hz : Zc cls d oe) (hf : ∃ vs, oe.data = .fields vs) (he : PE X e te) (hb : attributeBase e n X.env (eval e X.env) = eval e X.env := by rfl) :
    PE X (.Attribute e n pos) (tXg a cls d X.K n te) := by
  refine ⟨fun pins s σ H Q I h => ?_⟩
  refine attr_of hb (thn (he.run pins s σ H _ I h) fun u s1 hh => ?_)
  obtain ⟨x, H1, I1, rx, D, dd, fs, v, ex, ec, ed, T, hno, ea, l, q⟩ := hh
  subst ex
  obtain rfl : u = Value.ref a := rx
  subst ec
  subst ed
  obtain ⟨ha, _⟩ := I1.pin (a, oe) (List.mem_append_left _ hp)
  obtain ⟨vs, hd⟩ := hf
  have hx : ObjOk X.prog X.w H1 s1.heap dd (.xd fs) := I1.hok dd _ ea
  obtain ⟨mA, hns, hr⟩ := hx
  obtain ⟨od, ho, hl⟩ := L2.lookIn_ns hns
  obtain ⟨u, hu, ru⟩ := RelO.some_of (v := v) (o := mA n) (by rw [← l]; exact hr n)
  have J : PySem.W.InstAt s1.heap a oe D (some od) := ⟨ha, hz.1, by unfold PySem.W.notCls; rw [hd] <;> rfl, by rw [hz.2]; exact ho⟩
  exact HandSPX.exc_get I1.kIn J T.ga T.gg T.exC (PySem.W.findObj_own T.hdC hno rfl (by rw [hl, hu])) (handed_of ru) ⟨v, H1, I1.tok _, ru, q⟩
end

/-! ### list.count, flat items -/
section
variable {X : Cx}
def rCountV (K : PySem.W.Frag) : V → List V → Hp → VK → Prop := fun x xs H Q => ∃ (a : Addr) (ys : List V) (y : V), x = V.ref a ∧ xs = [y] ∧ SqL K H a ys ∧ flatV y = true ∧ ys.all flatV = true ∧ Q (.int (ys.countP fun z => eqV z y : Nat)) H
theorem count_eqU {y : V} : ∀ {ys : List V} {us : List Value}, Vals ys us → ys.all flatV = true → us.countP (eqU y) = ys.countP fun z => eqV z y
  | _, _, .nil, _ => rfl
  | _, _, .cons r t, f => by
    rw [List.all_cons, Bool.and_eq_true] at f
    rw [List.countP_cons, List.countP_cons, count_eqU t f.2, eqU_of r f.1]
theorem mt_countV : MtR X "list.count" (rCountV X.K) := by
  intro pins s σ H x xs v us Q I rx rxs h
  obtain ⟨a, ys, y, rfl, rfl, hs, fy, fys, q⟩ := h
  cases rx
  cases rxs with
  | cons ry rt =>
    rename_i uy ut
    cases rt
    obtain ⟨its, rv, ⟨⟨cls, dd, data, sl⟩, n, ho, hc, hdn, hd⟩, hlen⟩ := I.list hs
    simp only at hc hd
    subst hc hd
    refine call_meets PySem.F.slot_list_count ⟨_, ho, rfl⟩ PySem.F.entry_list_count (PySem.F.args_list_count_2 _ _)
      (SeqAt.list_countAt a its.toArray n dd sl uy (eqU y)) ⟨ho, fun u' hu' => mem_eqAt ry fy rv fys u' (by simpa using hu'), ?_⟩
    refine ⟨.int (ys.countP fun z => eqV z y : Nat), H, I.tok _, ⟨s.toks, ?_⟩, q⟩
    show Value.int ((its.toArray.toList.countP (eqU y) : Nat) : Int) s.toks = _
    rw [show its.toArray.toList = its from rfl, count_eqU rv fys]
end
end Dn

/-! Dn21 -/
set_option Elab.async false
set_option linter.all false
set_option maxRecDepth 100000
set_option maxHeartbeats 2000000
/-! Dn21: _law_word. -/
namespace Dn
open PySem PySem.Spec L2
open PyProof.Rows hiding St

/-! ### the text -/
def wHeads : List Str := ["flow ", "argument ", "paper ", "many "]
def wNames : List Str := ["FlowError", "ArgumentError", "PaperError", "TooMany"]
def wIs (x : Str) (a b c d : Pos) : Expr := .Call (.Name "isinstance" a) [.Name "error" b, .Name x c] [] d
def wBody (j0 j1 j2 j3 j4 j5 j6 j7 : Nat) (p : Nat → Pos) : List Stmt :=
  [.Assign [.Name "heads" (p 0)] (.List [.Constant (.str "flow ") j0 (p 1), .Constant (.str "argument ") j1 (p 2), .Constant (.str "paper ") j2 (p 3), .Constant (.str "many ") j3 (p 4)] (p 5)) (p 6),
   .Assign [.Name "found" (p 7)] (.List [wIs "FlowError" (p 8) (p 9) (p 10) (p 11), wIs "ArgumentError" (p 12) (p 13) (p 14) (p 15), wIs "PaperError" (p 16) (p 17) (p 18) (p 19), wIs "TooMany" (p 20) (p 21) (p 22) (p 23)] (p 24)) (p 25),
   .Return (some (.IfExp (.BoolOp .And [.Compare (.Call (.Attribute (.Name "found" (p 26)) "count" (p 27)) [.Constant (.bool true) j4 (p 28)] [] (p 29)) [.Eq] [.Constant (.int 1) j5 (p 30)] (p 31), wIs "ValueError" (p 32) (p 33) (p 34) (p 35)] (p 36))
     (.BinOp (.Subscript (.Name "heads" (p 37)) (.Call (.Attribute (.Name "found" (p 38)) "index" (p 39)) [.Constant (.bool true) j6 (p 40)] [] (p 41)) (p 42)) .Add (.Attribute (.Name "error" (p 43)) "reason" (p 44)) (p 45))
     (.Constant (.str "other") j7 (p 46)) (p 47))) (p 48)]
def wS : Scope := { kind := .function, names := [("error", .local), ("heads", .local), ("found", .local), ("isinstance", .globalImplicit), ("FlowError", .globalImplicit), ("ArgumentError", .globalImplicit), ("PaperError", .globalImplicit), ("TooMany", .globalImplicit), ("ValueError", .globalImplicit)], isGenerator := false, isCoroutine := false, more := [] }
def wN : List Str := ["error", "heads", "found"]
/-- the four classes -/
structure WCls (K : PySem.W.Frag) (mg : Str → Option Value) (g : Ce) (C : Nat → Addr) : Prop where
  ec : ∀ i, i < 4 → g.ec i = some (C i)
  m0 : mg "FlowError" = some (.ref (C 0))
  m1 : mg "ArgumentError" = some (.ref (C 1))
  m2 : mg "PaperError" = some (.ref (C 2))
  m3 : mg "TooMany" = some (.ref (C 3))
  mi : mg "isinstance" = none
  mv : mg "ValueError" = none
  ex : ∀ i, i < 4 → ExcC K (C i)
  xf : ∀ i, i < 4 → XfC K (C i)
  no : ∀ i, i < 4 → PySem.W.findIn K (.ref (C i)) "reason" = some none
  is : ∀ i j, i < 4 → j < 4 → PySem.W.kitOne K (.ref (C i)) (.ref (C j)) = some (i == j)
  iv : ∀ i, i < 4 → PySem.W.kitOne K (.ref (C i)) (.type "ValueError") = some true
/-- the word for the error i with that reason -/
def wordOf : Nat → D → M D
  | i, .str x => match wHeads[i]? with
    | some h => if x.length ≤ 1000 then .ok (.str (h ++ x)) else stuck
    | none => stuck
  | _, _ => stuck
def spWord (C : Nat → Addr) (a : Addr) (cls : Value) (d : Option Addr) : Sp := fun vs H Q _ => vs = [V.ref a] ∧ ∃ (i : Nat) (h x : Str) (dd : Addr), i < 4 ∧ wHeads[i]? = some h ∧ x.length ≤ 1000 ∧ cls = .ref (C i) ∧ d = some dd ∧ H dd = some (.xd [("reason", .str x)]) ∧
  ∀ H', Same H H' → Q (.str (h ++ x)) H'
section
variable {X : Cx} {K : PySem.W.Frag} {mg : Str → Option Value} {g : Ce} {C : Nat → Addr} {a : Addr} {oe : Obj} {cls : Value} {d : Option Addr}
/-- the reading of isinstance(error, c) -/
def tIsX (K : PySem.W.Frag) (a : Addr) (cls : Value) (d : Option Addr) (cv : V) : TE := tCB (rIsX K a cls d) (tCons (tVar 0) (tCons (tC cv) tNil))
theorem pe_wIs {x : Str} {cv : V} {p1 p2 p3 p4 : Pos} (hp : (a, oe) ∈ X.pn) (hz : Zc cls d oe) (hf : ∃ vs, oe.data = .fields vs) (hN : X.N = wN) (hs : X.env.scope = wS) (hm : X.mg "isinstance" = none) (hc : PE X (.Name x p3) (tC cv)) (h1 : starEach [.Name x p3] X.env = (false, eval (.Name x p3) X.env) :: starEach [] X.env := by rfl) : PE X (wIs x p1 p2 p3 p4) (tIsX X.K a cls d cv) :=
  pe_callB (call_isX hp hz hf) (by show X.env.scope.names.lookup _ = _; rw [hs]; rfl) hm rfl (pa_cons (pe_var (by rw [hN]; rfl) (.inl (by rw [hs]; rfl))) (pa_cons hc pa_nil))
theorem word_ok {P : Program} {w : World} {base : Heap} {f : Addr} {fd : FuncData} {x qual : Str} {st : Stmt} {k : Nat} {j0 j1 j2 j3 j4 j5 j6 j7 : Nat} {p : Nat → Pos} (T : WCls K mg g C) (F : Fun K x qual st f fd) (hB : defBody st = wBody j0 j1 j2 j3 j4 j5 j6 j7 p) (hS : defScope st = wS)
    (l1 : ((p 27).endLine == (p 29).line) = true) (l2 : ((p 39).endLine == (p 41).line) = true) (S : FnScope wN ["error"] (defScope st)) : FnW P w K mg base (k + 1) f fd ["error"] (spWord C) := by
  refine fn_ofW F S (fun a cls d vs H Q E ⟨e, _⟩ => by rw [e]; rfl) (fun cdv A outer s H vs Q a oe cls d hz hf hsp => ?_)
  obtain ⟨ev, i, h, x, dd, hi, hh, hx, ec, ed, hd, q⟩ := hsp
  subst ev ec ed
  generalize hX : L2H.cxH CX0 P w K mg base wN qual (defScope st) f cdv A outer s H (fun _ _ _ => False) (a, oe) = X
  have eN : X.N = wN := by rw [← hX]; rfl
  have es : X.env.scope = wS := by rw [← hX, ← hS]; rfl
  have eK : X.K = K := by rw [← hX]; rfl
  have em : X.mg = mg := by rw [← hX]; rfl
  have ef : ∀ y, X.fn y = true := by rw [← hX]; exact fun _ => rfl
  have hp : (a, oe) ∈ X.pn := by rw [← hX]; exact List.mem_cons_self
  have gl : ∀ y : Str, wS.names.lookup y = some .globalImplicit → Gl X y := fun y e => by show X.env.scope.names.lookup y = _; rw [es]; exact e
  have vr : ∀ (n : Nat) (y : Str) (pos : Pos), wN[n]? = some y → wS.names.lookup y = some .local → (y == ("__debug__" : Str)) = false → (y == ("__classdict__" : Str)) = false → PE X (.Name y pos) (tVar n) := fun n y pos h1 h2 h3 h4 => pe_var (by rw [eN]; exact h1) (.inl (by rw [es]; exact h2)) h3 h4
  have cl : ∀ (y : Str) (n : Nat) (pos : Pos), wS.names.lookup y = some .globalImplicit → mg y = some (.ref (C n)) → (y == ("__debug__" : Str)) = false → PE X (.Name y pos) (tC (.ref (C n))) := fun y n pos h1 h2 h3 => pe_glob (gl y h1) (by rw [em]; exact h2) rfl h3
  have hmi : X.mg "isinstance" = none := by rw [em]; exact T.mi
  have s1 : PS X (.Assign [.Name "heads" (p 0)] (.List [.Constant (.str "flow ") j0 (p 1), .Constant (.str "argument ") j1 (p 2), .Constant (.str "paper ") j2 (p 3), .Constant (.str "many ") j3 (p 4)] (p 5)) (p 6)) _ :=
    ps_set (i := 1) (by rw [eN]; decide) (by rw [eN]; rfl) (.inl (by rw [es]; rfl)) (pe_lst (pa_cons pe_str (pa_cons pe_str (pa_cons pe_str (pa_cons pe_str pa_nil))))) rfl (.inl (ef _))
  have s2 : PS X (.Assign [.Name "found" (p 7)] (.List [wIs "FlowError" (p 8) (p 9) (p 10) (p 11), wIs "ArgumentError" (p 12) (p 13) (p 14) (p 15), wIs "PaperError" (p 16) (p 17) (p 18) (p 19), wIs "TooMany" (p 20) (p 21) (p 22) (p 23)] (p 24)) (p 25)) _ :=
    ps_set (i := 2) (by rw [eN]; decide) (by rw [eN]; rfl) (.inl (by rw [es]; rfl)) (pe_lst (pa_cons (pe_wIs hp hz hf eN es hmi (cl _ 0 _ rfl T.m0 rfl)) (pa_cons (pe_wIs hp hz hf eN es hmi (cl _ 1 _ rfl T.m1 rfl)) (pa_cons (pe_wIs hp hz hf eN es hmi (cl _ 2 _ rfl T.m2 rfl)) (pa_cons (pe_wIs hp hz hf eN es hmi (cl _ 3 _ rfl T.m3 rfl)) pa_nil))))) rfl (.inl (ef _))
  have s3 : PS X (.Return (some (.IfExp (.BoolOp .And [.Compare (.Call (.Attribute (.Name "found" (p 26)) "count" (p 27)) [.Constant (.bool true) j4 (p 28)] [] (p 29)) [.Eq] [.Constant (.int 1) j5 (p 30)] (p 31), wIs "ValueError" (p 32) (p 33) (p 34) (p 35)] (p 36))
     (.BinOp (.Subscript (.Name "heads" (p 37)) (.Call (.Attribute (.Name "found" (p 38)) "index" (p 39)) [.Constant (.bool true) j6 (p 40)] [] (p 41)) (p 42)) .Add (.Attribute (.Name "error" (p 43)) "reason" (p 44)) (p 45))
     (.Constant (.str "other") j7 (p 46)) (p 47))) (p 48)) _ :=
    ps_ret (pe_ifExp (pw_and (pt_cmpR op_eq (pe_bm PySem.F.plainAttrs_list PySem.F.slot_list_count PySem.F.type_list_count mt_countV (vr 2 "found" _ rfl rfl rfl rfl) (pa_cons pe_bl pa_nil) rfl rfl l1) pe_int rfl)
        (pw_and1 (pt_val (pe_wIs hp hz hf eN es hmi (pe_bltn (v := .ty "ValueError") (gl _ rfl) (by rw [em]; exact T.mv) PyProof.Rows.Boot.«ValueError» rfl))))).pt
      (pe_op op_add_str (pe_ix ix_list (vr 1 "heads" _ rfl rfl rfl rfl) (pe_bm PySem.F.plainAttrs_list PySem.F.slot_list_index PySem.F.type_list_index mt_index (vr 2 "found" _ rfl rfl rfl rfl) (pa_cons pe_bl pa_nil) rfl rfl l2) fun _ _ => rfl) (pe_xg hp hz hf (vr 0 "error" _ rfl rfl rfl rfl))) pe_str)
  refine ⟨_, by rw [hB]; exact pss_cons s1 (pss_cons s2 (pss_one s3)), ?_⟩
  have hst : L2.start wN [V.ref a] = [some (V.ref a), none, none] := rfl
  rw [hst]
  -- isinstance(error, C j), anywhere that keeps the error's dict
  have isj : ∀ (j : Nat) (σ : L2.St) (H' : Hp) (Q' : VK), j < 4 → σ[0]? = some (some (V.ref a)) → Same H H' → Q' (.bl (i == j)) H' → tIsX X.K a (.ref (C i)) (some dd) (.ref (C j)) σ H' Q' := fun j σ H' Q' hj h0 k q' =>
    ⟨.ref a, h0, C i, dd, _, .ref (C j), .ref (C j), (i == j), rfl, rfl, k _ _ hd, by rw [eK]; exact T.ex i hi, rfl, fun u r => r, by rw [eK]; exact T.is i j hi hj, q'⟩
  -- heads
  refine ⟨by show 4 ≤ sizeLine; rw [sizeLine_eq]; decide, fun b1 hb1 => ?_⟩
  have k1 : Same H (upd H b1 (.lst [.str "flow ", .str "argument ", .str "paper ", .str "many "])) := same_new hb1
  generalize hH1 : upd H b1 (.lst [.str "flow ", .str "argument ", .str "paper ", .str "many "]) = H1 at k1
  have hd1 : H1 b1 = some (.lst [.str "flow ", .str "argument ", .str "paper ", .str "many "]) := by rw [← hH1]; exact upd_same
  -- found
  refine isj 0 _ _ _ (by decide) rfl k1 (isj 1 _ _ _ (by decide) rfl k1 (isj 2 _ _ _ (by decide) rfl k1 (isj 3 _ _ _ (by decide) rfl k1 ?_)))
  refine ⟨by show 4 ≤ sizeLine; rw [sizeLine_eq]; decide, fun b2 hb2 => ?_⟩
  have k2 : Same H1 (upd H1 b2 (.lst [.bl (i == 0), .bl (i == 1), .bl (i == 2), .bl (i == 3)])) := same_new hb2
  generalize hH2 : upd H1 b2 (.lst [.bl (i == 0), .bl (i == 1), .bl (i == 2), .bl (i == 3)]) = H2 at k2
  have hd2 : H2 b2 = some (.lst [.bl (i == 0), .bl (i == 1), .bl (i == 2), .bl (i == 3)]) := by rw [← hH2]; exact upd_same
  have k3 := k1.trans k2
  have he : ∃ h0 : Str, wHeads[i]? = some h0 ∧ h0.length ≤ 10 := by
    have : i = 0 ∨ i = 1 ∨ i = 2 ∨ i = 3 := by omega
    rcases this with rfl | rfl | rfl | rfl <;> exact ⟨_, rfl, by decide⟩
  obtain ⟨h0, e0, z0⟩ := he
  rw [hh] at e0
  cases e0
  have hcount : ([V.bl (i == 0), .bl (i == 1), .bl (i == 2), .bl (i == 3)].countP fun z => eqV z (.bl true)) = 1 := by
    have : i = 0 ∨ i = 1 ∨ i = 2 ∨ i = 3 := by omega
    rcases this with rfl | rfl | rfl | rfl <;> rfl
  have hidx : ∃ z, [V.bl (i == 0), .bl (i == 1), .bl (i == 2), .bl (i == 3)][i]? = some z ∧ eqV z (.bl true) = true ∧ ∀ (m : Nat) (z' : V), m < i → [V.bl (i == 0), .bl (i == 1), .bl (i == 2), .bl (i == 3)][m]? = some z' → eqV z' (.bl true) = false := by
    have : i = 0 ∨ i = 1 ∨ i = 2 ∨ i = 3 := by omega
    rcases this with rfl | rfl | rfl | rfl <;> refine ⟨_, rfl, rfl, fun m z' hm e => ?_⟩
    · omega
    · obtain rfl : m = 0 := by omega
      cases e; rfl
    · have : m = 0 ∨ m = 1 := by omega
      rcases this with rfl | rfl <;> (cases e; rfl)
    · have : m = 0 ∨ m = 1 ∨ m = 2 := by omega
      rcases this with rfl | rfl | rfl <;> (cases e; rfl)
  obtain ⟨z, i1, i2, i3⟩ := hidx
  refine ⟨.ref b2, rfl, .inl ⟨rfl, _, SqL.of hd2⟩, b2, _, .bl true, rfl, rfl, SqL.of hd2, rfl, rfl, ?_⟩
  rw [hcount]
  refine ⟨rfl, true, rfl, ?_⟩
  simp only [↓reduceIte]
  refine ⟨.ref a, rfl, C i, dd, _, .ty "ValueError", .type "ValueError", true, rfl, rfl, k3 _ _ hd, by rw [eK]; exact T.ex i hi, rfl, fun u r => r, by rw [eK]; exact T.iv i hi, true, rfl, ?_⟩
  simp only [↓reduceIte]
  refine ⟨.ref b1, rfl, .ref b2, rfl, .inl ⟨rfl, _, SqL.of hd2⟩, b2, _, .bl true, i, z, rfl, rfl, SqL.of hd2, rfl, rfl, i1, i2, i3, ?_⟩
  refine ⟨b1, _, (i : Int), .str h, rfl, rfl, SqL.of (k2 _ _ hd1), ?_, ?_⟩
  · have : i = 0 ∨ i = 1 ∨ i = 2 ∨ i = 3 := by omega
    rcases this with rfl | rfl | rfl | rfl <;> (cases hh; rfl)
  refine ⟨.ref a, rfl, C i, dd, _, .str x, rfl, rfl, rfl, by rw [eK]; exact T.xf i hi, by rw [eK]; exact T.no i hi, k3 _ _ hd, ?_, h, x, rfl, rfl, by rw [sizeLine_eq]; omega, q _ k3⟩
  simp [List.lookup]
end
end Dn

/-! Dn22 -/
set_option Elab.async false
set_option linter.all false
set_option maxRecDepth 100000
set_option maxHeartbeats 1000000
/-! Dn22: calls of def values; try. -/
namespace Dn
open PySem PySem.Spec L2
open PyProof.Rows hiding St

section
variable {X : Cx} {P : Program} {w : World} {K : PySem.W.Frag} {mg : Str → Option Value} {base : Heap} {N : List Str} {sc : Scope} {k : Nat} {bk nn : Bool} {g : Ce} {W : WX}
variable {pu sh : Bool} {e : Expr} {es : List Expr} {pos p : Pos} {m : Ev} {ma : Av} {shs : List Bool} {x y : Str} {sts : List Stmt} {ms : Sv}

/-! ### calls of defs that are values -/
abbrev Tbl := Nat → Option (Nat × (List D → M D))
def TblOk (nn : Bool) (P : Program) (w : World) (K : PySem.W.Frag) (mg : Str → Option Value) (base : Heap) (k : Nat) (g : Ce) (tbl : Tbl) : Prop :=
  ∀ i n mf, tbl i = some (n, mf) → ∃ (f : Addr) (fd : FuncData) (ps : List Str), g.fa i = some f ∧ FnOk P w K mg base (CXn nn P w) k f fd ps (spP (ck K g) n mf) ∧ PySem.W.keepIn K (.ref f) = true ∧ Binds K fd ps []
def dCallV (tbl : Tbl) (i : Nat) (ms : Av) : Ev := fun env => match env[i]? with
  | some (.va (.fn j)) => match tbl j with
    | some (n, mf) => bnd (ms env) fun p => if p.1.length = n then bnd (mf p.1) fun d => .ok (d, p.2) else stuck
    | none => stuck
  | _ => stuck
theorem e_callV (C : Cok nn X W P w K mg base N sc k bk) {tbl : Tbl} {j i : Nat} (T : TblOk nn P w K mg base j g tbl) (hj : j ≤ k) (hi : N[i]? = some x) (hv : visB sc x = true) (hs : shs.all (!·) = true) (ha : DA X g pu shs (e :: es) ma W)
    (hdb : (x == ("__debug__" : Str)) = false := by rfl) (hcd : (x == ("__classdict__" : Str)) = false := by rfl) (he : starEach (e :: es) X.env = (false, eval e X.env) :: starEach es X.env := by rfl) (hpl : (backTo pos (starEach es X.env)).any (·.1) = false := by rfl) :
    DE X g pu false (.Call (.Name x p) (e :: es) [] pos) (dCallV tbl i ma) W := by
  have hN : X.N[i]? = some x := by rw [C.eN]; exact hi
  have hvis : Vis X.env.scope x := by rw [C.es]; exact visB_of hv
  have tk := C.tk
  have hr := C.room.mono hj
  obtain ⟨rfl, rfl, rfl, rfl, rfl⟩ := And.intro C.eP (And.intro C.ew (And.intro C.eK (And.intro C.em C.eb)))
  refine ⟨fun pins s σ H Q I h => ?_⟩
  obtain ⟨xs, env, S, wn⟩ := h
  unfold dCallV at wn
  split at wn
  case h_2 => exact wn.elim
  rename_i jf hjf
  obtain ⟨v, hv1, hv2⟩ := S.va i _ hjf
  unfold IsD at hv2
  obtain ⟨f, hf, rfl⟩ := hv2
  refine wpAny_Call_Name_kw (thn ((pe_var (pos := p) hN hvis hdb hcd).run pins s σ H (fun v H1 => v = .ref f ∧ H1 = H) I ⟨.ref f, hv1, rfl, rfl⟩) fun u s1 ⟨v, H1, I1, r1, q1⟩ => ?_)
  obtain ⟨rfl, rfl⟩ := q1
  cases r1
  cases ht : tbl jf with
  | none => rw [ht] at wn; exact wn.elim
  | some t =>
  obtain ⟨n0, mf0⟩ := t
  rw [ht] at wn
  obtain ⟨f', fd, ps, h1, G, hk, hb⟩ := T jf n0 mf0 ht
  rw [show g.fa jf = some f from hf] at h1
  cases h1
  refine PySem.W.callWith_K (h₀ := X.base) I.ok.mod.kin hk (thn (ha.run pos pins s1 σ _ (fun vs H2 => spP (ck X.K g) n0 mf0 vs H2 Q (WE W σ)) I1 ⟨xs, env, S, Want.bind wn fun ds env' vs H' e s r w' => ?_⟩) fun us s2 ⟨vs, H2, I2, r, q⟩ => ⟨I2.kIn, ?_⟩) he hpl
  · dsimp only at w'
    split at w'
    case isFalse => exact w'.elim
    rename_i hl
    have hP : ∀ a, Hid xs env σ a → H' a ≠ none := fun a ha => s.st.hid (by rw [s.hid]; exact ha)
    refine ⟨Hid xs env σ, ds, hl, hP, r.clean hs, ?_⟩
    cases q : mf0 ds with
    | error x =>
      rw [q] at w'
      cases x with
      | raise kk pp => exact fun cls dd H2 k2 hx => w' cls dd H2 (s.sm.trans (Same.trans hide_full k2)) hx
      | stuck => exact w'.elim
    | ok d =>
      rw [q] at w'
      intro v H2 k2 hd
      exact w' v H2 (s.grow k2) hd
  · exact run_fnS G hr hb (passAtN tk σ) I2 r q

/-! ### try: .. except C as n: return word(n) -/
def noOwE (env : En) : Bool := env.all fun s => match s with
  | .ow _ => false
  | _ => true
theorem noOwE_of {env : En} (h : noOwE env = true) {σ : St} {a : Addr} : ¬ Owns env σ a := fun ⟨i, d, h1, _⟩ => by
  unfold noOwE at h
  rw [List.all_eq_true] at h
  have := h _ (List.mem_of_getElem? h1)
  cases this
def sHeard (ms : Sv) (i : Nat) : Sv := fun env => if (noOwE env && decide (i < env.length)) = true then (match ms env with
  | .error (.raise k p) => bnd (wordOf k p) fun d => .ok (.rt d, env)
  | .error .stuck => stuck
  | .ok p => .ok p) else stuck
theorem Cok.tr (C : Cok false X W P w K mg base N sc k false) {W' : WX} {pn : List (Addr × Obj)} {xe : Value → Shared → Prop} (tk : L2.Takes (X.tr pn xe) W') (ow : PassesOwn (model X.prog X.w) X.A X.env xe) : Cok false (X.tr pn xe) W' P w K mg base N sc k false :=
  ⟨C.eP, C.ew, C.eK, C.em, C.eb, C.eN, C.es, C.calm, C.room, C.nd, C.fn, tk, fun _ => ow, C.sf⟩
theorem Cok.trN (C : Cok false X W P w K mg base N sc k false) {W' : WX} {pn : List (Addr × Obj)} {xe : Value → Shared → Prop} (tk : L2N.Takes (X.tr pn xe) W') (ow : PassesOwn (model X.prog X.w) X.A X.env xe) : Cok true (X.tr pn xe) W' P w K mg base N sc k false :=
  ⟨C.eP, C.ew, C.eK, C.em, C.eb, C.eN, C.es, C.calm, C.room, C.nd, C.fn, tk, fun _ => ow, C.sf⟩
theorem wordOf_ok {i : Nat} {p d : D} (h : wordOf i p = .ok d) : ∃ x hd, p = .str x ∧ i < 4 ∧ wHeads[i]? = some hd ∧ x.length ≤ 1000 ∧ d = .str (hd ++ x) := by
  unfold wordOf at h
  split at h
  · split at h
    · rename_i hd hh
      split at h
      · rename_i hx
        cases h
        exact ⟨_, hd, rfl, (List.getElem?_eq_some_iff.mp hh).1, hh, hx, rfl⟩
      · cases h
    · cases h
  · cases h
/-- a word function: on the error that a suite holds -/
structure WordOk (P : Program) (w : World) (K : PySem.W.Frag) (mg : Str → Option Value) (base : Heap) (k : Nat) (C : Nat → Addr) (x : Str) : Prop where
  ex : ∃ (f : Addr) (fd : FuncData), mg x = some (.ref f) ∧ FnW P w K mg base k f fd ["error"] (spWord C) ∧ PySem.W.keepIn K (.ref f) = true ∧ Binds K fd ["error"] []
theorem s_heard {xw n xc : Str} {i j : Nat} {AW : Addr} {np p1 p2 p3 pos' : Pos} {Ca : Nat → Addr} (C : Cok false X W P w K mg base N sc k false) (T : WCls K mg g Ca) (hen : ∀ i, i < 4 → g.en i = "reason") (FW : WordOk P w K mg base j Ca xw) (hj : j ≤ k) (hi : N[i]? = some n) (hln : locL sc n = true) (hc : gloB sc xc = true) (hmc : mg xc = some (.ref AW)) (hxm : ∀ i, i < 4 → PySem.W.exmOne K (.ref (Ca i)) (.ref AW) = some true)
    (hgw : gloB sc xw = true) (hb : ∀ (X' : Cx) (W' : WX), Cok false X' W' P w K mg base N sc k false → DSs X' g sts ms W') (hd1 : (xc == ("__debug__" : Str)) = false := by rfl) (hd2 : (xw == ("__debug__" : Str)) = false := by rfl) (hd3 : (n == ("__debug__" : Str)) = false := by rfl) (hd4 : (n == ("__classdict__" : Str)) = false := by rfl)
    (he : ∀ Y : Cx, starEach [.Name n p2] Y.env = (false, eval (.Name n p2) Y.env) :: starEach [] Y.env := by intro _; rfl) (hpl : ∀ Y : Cx, (backTo p3 (starEach [] Y.env)).any (·.1) = false := by intro _; rfl) :
    DS X g (.Try sts [.ExceptHandler (some (.Name xc np)) (some n) [.Return (some (.Call (.Name xw p1) [.Name n p2] [] p3)) pos'] p] [] [] pos) (sHeard ms i) W := by
  obtain ⟨f, fd, hmw, G, hk, hbd⟩ := FW.ex
  have hgl := gloB_of C hgw
  have hgc := gloB_of C hc
  have hl : X.env.scope.names.lookup n = some .local := by rw [C.es]; exact eq_of_beq hln
  have hN : X.N[i]? = some n := by rw [C.eN]; exact hi
  have hNd : X.N.Nodup := by rw [C.eN]; exact C.nd
  have hr : L2H.RoomH j X.A := L2H.roomH_of (C.room.mono hj)
  obtain ⟨sf1, sf2⟩ := C.sf rfl
  have tkW : L2.Takes X W := C.tk
  have hbt := fun (W' : WX) (pn : List (Addr × Obj)) (xe : Value → Shared → Prop) (tk : L2.Takes (X.tr pn xe) W') (ow : PassesOwn (model X.prog X.w) X.A X.env xe) => hb (X.tr pn xe) W' (C.tr tk ow)
  obtain ⟨rfl, rfl, rfl, rfl, rfl⟩ := And.intro C.eP (And.intro C.ew (And.intro C.eK (And.intro C.em C.eb)))
  refine PS.imp (ps_try_as (c := .ref AW) (tb := fun W' => tS (cc X g) ms W') (ts := fun a cls d => tRet (tCallW a cls d (spWord Ca) (tCons (tVar i) tNil))) sf1 sf2 hNd hN hl ⟨hgc, hd1, .inl hmc⟩ tkW hbt fun a oe cls d pn hz hf => ?_) fun E σ H ⟨xs, env, S, w⟩ => ?_
  · exact pss_one (ps_ret (pe_callW (X := X.suite a ((a, oe) :: pn)) G ⟨hr.dp, hr.un⟩ List.mem_cons_self hz hf hgl hmw hk hbd (pa_cons (pe_var hN (.inl hl) hd3 hd4) pa_nil (he _)) hd2 (he _) (hpl _)))
  · unfold sHeard at w
    split at w
    case isFalse => exact w.elim
    rename_i hno
    rw [Bool.and_eq_true, decide_eq_true_eq] at hno
    refine ⟨xs, env, S, ?_⟩
    generalize hr0 : ms env = r at w ⊢
    cases r with
    | ok p =>
      obtain ⟨fl, env'⟩ := p
      cases fl <;> exact w
    | error x =>
      cases x with
      | stuck => exact w.elim
      | raise kk pp =>
        intro cls dd σ' H' hlen q hx
        dsimp only at w
        cases hw : wordOf kk pp with
        | error z =>
          exfalso
          rw [hw] at w
          cases z with
          | raise k1 p1 =>
            unfold wordOf at hw
            split at hw
            · split at hw
              · split at hw <;> cases hw
              · cases hw
            · cases hw
          | stuck => exact w
        | ok d =>
          rw [hw] at w
          obtain ⟨x, hd, rfl, hk4, hh, hxl, rfl⟩ := wordOf_ok hw
          obtain ⟨C0, d0, v, e1, e2, e3, e4, e5⟩ := hx
          have e1' := e1.symm.trans (T.ec kk hk4)
          cases e1'
          unfold IsD at e5
          subst e2 e3 e5
          have own : ∀ a, ¬ Owns env σ a := fun a => noOwE_of hno.1
          have k0 : Same H H' := fun b o hb => q b o (by rw [hide_of (own b)]; exact hb)
          refine ⟨true, hxm kk hk4, fun _ a ha => ?_, fun z => nomatch z⟩
          have hset : (σ'.set i (some (V.ref a)))[i]? = some (some (V.ref a)) := by
            rw [List.getElem?_set, if_pos rfl, if_pos (by rw [hlen, ← S.len]; exact hno.2)]
          refine ⟨.ref a, hset, rfl, kk, hd, x, d0, hk4, hh, hxl, rfl, rfl, ?_, fun H2 k2 => ?_⟩
          · rw [← hen kk hk4]; exact e4
          · have kk2 := k0.trans k2
            exact w σ _ H2 (S.same kk2) ⟨hide_same kk2, Same.th kk2, fun h => ⟨h, rfl⟩, rfl⟩ isStr

/-! ### try: .. except C: raise C'(text) from None -/
def sReraise (ms : Sv) (f : Nat → Bool) (k' : Nat) (txt : Str) : Sv := fun env => match ms env with
  | .error (.raise k p) => if k < 4 then (if f k = true then .error (.raise k' (.str txt)) else .error (.raise k p)) else stuck
  | .error .stuck => stuck
  | .ok p => .ok p
theorem s_reraise {xc xr txt : Str} {i' j jj : Nat} {AC AR fR : Addr} {f : Nat → Bool} {np p1 p2 p3 pos' cp : Pos} {Ca : Nat → Addr} (C : Cok false X W P w K mg base N sc k false) (pa : PaOk X) (T : WCls K mg g Ca) (TR : Sup.Txt P K mg AR fR) (hc : gloB sc xc = true) (hmc : mg xc = some (.ref AC)) (hxm : ∀ i, i < 4 → PySem.W.exmOne K (.ref (Ca i)) (.ref AC) = some (f i))
    (hgr : gloB sc xr = true) (hmr : mg xr = some (.ref AR)) (her : g.ec i' = some AR) (hen : g.en i' = "reason") (hb : ∀ (X' : Cx) (W' : WX), Cok true X' W' P w K mg base N sc k false → DSs X' g sts ms W') (hd1 : (xc == ("__debug__" : Str)) = false := by rfl) (hd2 : (xr == ("__debug__" : Str)) = false := by rfl)
    (he : ∀ Y : Cx, starEach [.Constant (.str txt) jj p2] Y.env = (false, eval (.Constant (.str txt) jj p2) Y.env) :: starEach [] Y.env := by intro _; rfl) (hpl : ∀ Y : Cx, (backTo p3 (starEach [] Y.env)).any (·.1) = false := by intro _; rfl) :
    DS X g (.Try sts [.ExceptHandler (some (.Name xc np)) none [.Raise (some (.Call (.Name xr p1) [.Constant (.str txt) jj p2] [] p3)) (some (.Constant .none j cp)) pos'] p] [] [] pos) (sReraise ms f i' txt) W := by
  have hgl := gloB_of C hgr
  have hgc := gloB_of C hc
  have hdp : X.A.depth + 1 < recursionLimit := by have := C.room.dp; omega
  obtain ⟨sf1, sf2⟩ := C.sf rfl
  have tkW : L2.Takes X W := C.tk
  have hbt := fun (W' : WX) (pn : List (Addr × Obj)) (xe : Value → Shared → Prop) (tk : L2N.Takes (X.tr pn xe) W') (_ : L2.Takes (X.tr pn xe) (L2H.wPass X.K (.ref AC) W)) (ow : PassesOwn (model X.prog X.w) X.A X.env xe) => hb (X.tr pn xe) W' (C.trN tk ow)
  obtain ⟨rfl, rfl, rfl, rfl, rfl⟩ := And.intro C.eP (And.intro C.ew (And.intro C.eK (And.intro C.em C.eb)))
  refine PS.imp (L2H.ps_try_onlyX (c := .ref AC) (Wout := W) (tb := fun W' => tS (cc X g) ms W') (ts := fun a cls d => fun _ σ H => tMkS AR (tCons (tC (.str txt)) tNil) σ H fun cls d H' => W cls d σ H') sf1 sf2 ⟨hgc, hd1, .inl hmc⟩ pa tkW hbt fun a oe cls d pn hz hf tk2 hot => ?_) fun E σ H ⟨xs, env, S, w⟩ => ?_
  · exact pss_one (L2H.ps_raiseHN hot tk2 (pmk5_sup (X := L2H.suiteX X a ((a, oe) :: pn)) TR hdp hgl hmr pe_str hd2 (he _) (hpl _)))
  · unfold sReraise at w
    refine ⟨xs, env, S, ?_⟩
    generalize hr0 : ms env = r at w ⊢
    cases r with
    | ok p =>
      obtain ⟨fl, env'⟩ := p
      cases fl <;> exact w
    | error x =>
      cases x with
      | stuck => exact w.elim
      | raise kk pp =>
        intro cls dd σ' H' hlen q hx
        dsimp only at w
        split at w
        case isFalse => exact w.elim
        rename_i hk4
        have hx' := hx
        obtain ⟨C0, d0, v, e1, e2, e3, e4, e5⟩ := hx'
        have e1' := e1.symm.trans (T.ec kk hk4)
        cases e1'
        subst e2 e3
        refine ⟨f kk, hxm kk hk4, fun hf a ha => ⟨.str txt, rfl, fun d' hd' => ?_⟩, fun hf => ?_⟩
        · rw [if_pos hf] at w
          refine w _ _ σ' _ hlen (q.trans (same_new hd')) ⟨AR, d', .str txt, her, rfl, rfl, ?_, isStr⟩
          show upd H' d' _ d' = some (.xd [(g.en i', V.str txt)])
          rw [hen]; exact upd_same
        · rw [hf, if_neg Bool.false_ne_true] at w
          exact w _ _ σ' H' hlen q hx
end
end Dn

/-! Dn23 -/
set_option Elab.async false
set_option linter.all false
set_option maxRecDepth 100000
set_option maxHeartbeats 1000000
/-! Dn23: short rules for the printer. -/
namespace Dn
open PySem PySem.Spec L2
open PyProof.Rows hiding St

/-! ### code that is never come to -/
def sNever : Sv := fun _ => stuck
def eNever : Ev := fun _ => stuck
section
variable {X : Cx} {P : Program} {w : World} {K : PySem.W.Frag} {mg : Str → Option Value} {base : Heap} {N : List Str} {sc : Scope} {k : Nat} {bk nn : Bool} {g : Ce} {W : WX}
variable {pu pu1 pu2 sh sh1 sh2 : Bool} {e a b : Expr} {es : List Expr} {pos p : Pos} {m m1 m2 : Ev} {ma : Av} {shs : List Bool} {x y : Str} {st : Stmt} {sts : List Stmt} {ms : Sv}
theorem s_never : DS X g st sNever W := ⟨fun _ _ _ _ _ _ ⟨_, _, _, w⟩ => w.elim⟩
theorem ss_never : DSs X g sts sNever W := ⟨fun _ _ _ _ _ _ ⟨_, _, _, w⟩ => w.elim⟩
theorem e_never : DE X g pu sh e eNever W := ⟨fun _ _ _ _ _ _ ⟨_, _, _, w⟩ => w.elim⟩

/-! ### unary minus -/
def dNeg (m : Ev) : Ev := fun env => bnd (m env) fun p => match p.1 with
  | .int i => .ok (.int (-i), p.2)
  | _ => stuck
theorem e_neg (h : DE X g pu sh a m W) : DE X g pu false (.UnaryOp .USub a pos) (dNeg m) W := PE.imp (pe_un un_neg h) fun σ H Q ⟨xs, env, S, w⟩ => ⟨xs, env, S, Want.bind w fun d env' v H' e s r w' => by
  have r' := Rep.shell r
  dsimp only at w'
  split at w'
  · exact ⟨_, r'.int, w' _ H' s (Rep.of isInt)⟩
  · exact w'.elim⟩

/-! ### operators -/
theorem un_room (C : Cok nn X W P w K mg base N sc k bk) : X.A.units + 65 < cLine := by have := C.room.un; omega
theorem un_roomE (C : Cok nn X W P w K mg base N sc k bk) : X.A.units + 64 < cLine := by have := C.room.un; omega
theorem eAdd (hc : sh1 = false ∨ pu2 = true) (ha : DE X g pu1 sh1 a m1 W) (hb : DE X g pu2 sh2 b m2 W) : DE X g (pu1 && pu2) false (.BinOp a .Add b pos) (dBin dAdd m1 m2) W := e_bin op_addD vb_add dAdd_nr hc ha hb
theorem eSub (hc : sh1 = false ∨ pu2 = true) (ha : DE X g pu1 sh1 a m1 W) (hb : DE X g pu2 sh2 b m2 W) : DE X g (pu1 && pu2) false (.BinOp a .Sub b pos) (dBin dSub m1 m2) W := e_bin op_sub vb_sub dIntOp_nr hc ha hb
theorem eMul (hc : sh1 = false ∨ pu2 = true) (ha : DE X g pu1 sh1 a m1 W) (hb : DE X g pu2 sh2 b m2 W) : DE X g (pu1 && pu2) false (.BinOp a .Mult b pos) (dBin dMul m1 m2) W := e_bin op_mulD vb_mul dMul_nr hc ha hb
theorem eFdiv (hc : sh1 = false ∨ pu2 = true) (ha : DE X g pu1 sh1 a m1 W) (hb : DE X g pu2 sh2 b m2 W) : DE X g (pu1 && pu2) false (.BinOp a .FloorDiv b pos) (dBin dFdiv m1 m2) W := e_bin op_fdivW vb_fdiv dIntOp_nr hc ha hb
theorem eMod (hc : sh1 = false ∨ pu2 = true) (ha : DE X g pu1 sh1 a m1 W) (hb : DE X g pu2 sh2 b m2 W) : DE X g (pu1 && pu2) false (.BinOp a .Mod b pos) (dBin dMod m1 m2) W := e_bin op_mod vb_mod dIntOp_nr hc ha hb
theorem ePow (hc : sh1 = false ∨ pu2 = true) (ha : DE X g pu1 sh1 a m1 W) (hb : DE X g pu2 sh2 b m2 W) : DE X g (pu1 && pu2) false (.BinOp a .Pow b pos) (dBin dPow m1 m2) W := e_bin op_pow vb_pow dIntOp_nr hc ha hb
theorem eIx (hc : sh1 = false ∨ pu2 = true) (ha : DE X g pu1 sh1 a m1 W) (hb : DE X g pu2 sh2 b m2 W) (hs : PlainIx b := by intro _ _; rfl) : DE X g (pu1 && pu2) false (.Subscript a b pos) (dBin dIx m1 m2) W := e_ix ix_seq vb_ix dIx_nr hc ha hb hs
theorem eEq (C : Cok nn X W P w K mg base N sc k bk) (hc : sh1 = false ∨ pu2 = true) (ha : DE X g pu1 sh1 a m1 W) (hb : DE X g pu2 sh2 b m2 W) (hm : behindInMarks .Eq b = false := by rfl) : DE X g (pu1 && pu2) false (.Compare a [.Eq] [b] pos) (dBin dEq m1 m2) W := e_cmp (op_eqD (un_roomE C)) vb_eq dEq_nr hc hm ha hb
theorem eNe (C : Cok nn X W P w K mg base N sc k bk) (hc : sh1 = false ∨ pu2 = true) (ha : DE X g pu1 sh1 a m1 W) (hb : DE X g pu2 sh2 b m2 W) (hm : behindInMarks .NotEq b = false := by rfl) : DE X g (pu1 && pu2) false (.Compare a [.NotEq] [b] pos) (dBin dNe m1 m2) W := e_cmp (op_neD (un_roomE C)) vb_ne dNe_nr hc hm ha hb
theorem eLt (hc : sh1 = false ∨ pu2 = true) (ha : DE X g pu1 sh1 a m1 W) (hb : DE X g pu2 sh2 b m2 W) (hm : behindInMarks .Lt b = false := by rfl) : DE X g (pu1 && pu2) false (.Compare a [.Lt] [b] pos) (dBin dLt m1 m2) W := e_cmp op_ltD vb_cmpI dCmpI_nr hc hm ha hb
theorem eLe (hc : sh1 = false ∨ pu2 = true) (ha : DE X g pu1 sh1 a m1 W) (hb : DE X g pu2 sh2 b m2 W) (hm : behindInMarks .LtE b = false := by rfl) : DE X g (pu1 && pu2) false (.Compare a [.LtE] [b] pos) (dBin dLe m1 m2) W := e_cmp op_leD vb_cmpI dCmpI_nr hc hm ha hb
theorem eGt (hc : sh1 = false ∨ pu2 = true) (ha : DE X g pu1 sh1 a m1 W) (hb : DE X g pu2 sh2 b m2 W) (hm : behindInMarks .Gt b = false := by rfl) : DE X g (pu1 && pu2) false (.Compare a [.Gt] [b] pos) (dBin dGt m1 m2) W := e_cmp op_gtD vb_cmpI dCmpI_nr hc hm ha hb
theorem eGe (hc : sh1 = false ∨ pu2 = true) (ha : DE X g pu1 sh1 a m1 W) (hb : DE X g pu2 sh2 b m2 W) (hm : behindInMarks .GtE b = false := by rfl) : DE X g (pu1 && pu2) false (.Compare a [.GtE] [b] pos) (dBin dGe m1 m2) W := e_cmp op_geD vb_cmpI dCmpI_nr hc hm ha hb
theorem eIn (C : Cok nn X W P w K mg base N sc k bk) (hc : sh1 = false ∨ pu2 = true) (ha : DE X g pu1 sh1 a m1 W) (hb : DE X g pu2 sh2 b m2 W) (hm : behindInMarks .In b = false := by rfl) : DE X g (pu1 && pu2) false (.Compare a [.In] [b] pos) (dBin dIn m1 m2) W := e_cmp (op_inS (un_room C)) vb_in dIn_nr hc hm ha hb
theorem eNotIn (C : Cok nn X W P w K mg base N sc k bk) (hc : sh1 = false ∨ pu2 = true) (ha : DE X g pu1 sh1 a m1 W) (hb : DE X g pu2 sh2 b m2 W) (hm : behindInMarks .NotIn b = false := by rfl) : DE X g (pu1 && pu2) false (.Compare a [.NotIn] [b] pos) (dBin dNotIn m1 m2) W := e_cmp (op_notInS (un_room C)) vb_notIn dNotIn_nr hc hm ha hb
theorem tEq (C : Cok nn X W P w K mg base N sc k bk) (hc : sh1 = false ∨ pu2 = true) (ha : DE X g pu1 sh1 a m1 W) (hb : DE X g pu2 sh2 b m2 W) (hm : behindInMarks .Eq b = false := by rfl) : DT X g (pu1 && pu2) (.Compare a [.Eq] [b] pos) (dTb (dBin dEq m1 m2)) W := t_cmp (op_eqD (un_roomE C)) vb_eq dEq_nr hc hm ha hb
theorem tNe (C : Cok nn X W P w K mg base N sc k bk) (hc : sh1 = false ∨ pu2 = true) (ha : DE X g pu1 sh1 a m1 W) (hb : DE X g pu2 sh2 b m2 W) (hm : behindInMarks .NotEq b = false := by rfl) : DT X g (pu1 && pu2) (.Compare a [.NotEq] [b] pos) (dTb (dBin dNe m1 m2)) W := t_cmp (op_neD (un_roomE C)) vb_ne dNe_nr hc hm ha hb
theorem tLt (hc : sh1 = false ∨ pu2 = true) (ha : DE X g pu1 sh1 a m1 W) (hb : DE X g pu2 sh2 b m2 W) (hm : behindInMarks .Lt b = false := by rfl) : DT X g (pu1 && pu2) (.Compare a [.Lt] [b] pos) (dTb (dBin dLt m1 m2)) W := t_cmp op_ltD vb_cmpI dCmpI_nr hc hm ha hb
theorem tLe (hc : sh1 = false ∨ pu2 = true) (ha : DE X g pu1 sh1 a m1 W) (hb : DE X g pu2 sh2 b m2 W) (hm : behindInMarks .LtE b = false := by rfl) : DT X g (pu1 && pu2) (.Compare a [.LtE] [b] pos) (dTb (dBin dLe m1 m2)) W := t_cmp op_leD vb_cmpI dCmpI_nr hc hm ha hb
theorem tGt (hc : sh1 = false ∨ pu2 = true) (ha : DE X g pu1 sh1 a m1 W) (hb : DE X g pu2 sh2 b m2 W) (hm : behindInMarks .Gt b = false := by rfl) : DT X g (pu1 && pu2) (.Compare a [.Gt] [b] pos) (dTb (dBin dGt m1 m2)) W := t_cmp op_gtD vb_cmpI dCmpI_nr hc hm ha hb
theorem tGe (hc : sh1 = false ∨ pu2 = true) (ha : DE X g pu1 sh1 a m1 W) (hb : DE X g pu2 sh2 b m2 W) (hm : behindInMarks .GtE b = false := by rfl) : DT X g (pu1 && pu2) (.Compare a [.GtE] [b] pos) (dTb (dBin dGe m1 m2)) W := t_cmp op_geD vb_cmpI dCmpI_nr hc hm ha hb
theorem tIn (C : Cok nn X W P w K mg base N sc k bk) (hc : sh1 = false ∨ pu2 = true) (ha : DE X g pu1 sh1 a m1 W) (hb : DE X g pu2 sh2 b m2 W) (hm : behindInMarks .In b = false := by rfl) : DT X g (pu1 && pu2) (.Compare a [.In] [b] pos) (dTb (dBin dIn m1 m2)) W := t_cmp (op_inS (un_room C)) vb_in dIn_nr hc hm ha hb
theorem tNotIn (C : Cok nn X W P w K mg base N sc k bk) (hc : sh1 = false ∨ pu2 = true) (ha : DE X g pu1 sh1 a m1 W) (hb : DE X g pu2 sh2 b m2 W) (hm : behindInMarks .NotIn b = false := by rfl) : DT X g (pu1 && pu2) (.Compare a [.NotIn] [b] pos) (dTb (dBin dNotIn m1 m2)) W := t_cmp (op_notInS (un_room C)) vb_notIn dNotIn_nr hc hm ha hb
theorem tTruth (ha : DE X g pu sh a m W) (he : ∀ whole, isTrue a X.env whole = (do let v ← whole; standAt a.pos; holding [v] (truthy v)) := by intro _; rfl) : DT X g pu a (dTr m) W := t_truth he ha

/-! ### zip -/
def zipD (xs ys : List D) : List D := List.zipWith (fun x y => D.tup [x, y]) xs ys
theorem zipD_get : ∀ {xs ys : List D} {i : Nat} {d : D}, (zipD xs ys)[i]? = some d → ∃ x y, xs[i]? = some x ∧ ys[i]? = some y ∧ d = .tup [x, y]
  | [], ys, i, d, h => by simp [zipD] at h
  | x :: xs, [], i, d, h => by simp [zipD] at h
  | x :: xs, y :: ys, 0, d, h => by simp [zipD] at h; exact ⟨x, y, rfl, rfl, h.symm⟩
  | x :: xs, y :: ys, i + 1, d, h => by
    have h' : (zipD xs ys)[i]? = some d := by simpa [zipD] using h
    obtain ⟨x', y', h1, h2, h3⟩ := zipD_get h'
    exact ⟨x', y', by simpa using h1, by simpa using h2, h3⟩
theorem zipD_len (xs ys : List D) : (zipD xs ys).length = min xs.length ys.length := by unfold zipD; exact List.length_zipWith
theorem walk_zipT {K : PySem.W.Frag} {a b : Addr} {xs ys : List V} {n : Nat} (hn : n = min xs.length ys.length) : Walk (RZ.ItzT K a b) n (fun H => SqT K H a xs ∧ SqT K H b ys) (YPair (fun i => xs[i]?) (fun i => ys[i]?)) := by
  subst hn
  refine ⟨fun i _ hi q => ?_, fun _ q => ⟨xs, ys, q.1, q.2, by omega⟩, fun i H v H' _ q y => ?_⟩
  · have h1 : i < xs.length := by omega
    have h2 : i < ys.length := by omega
    exact ⟨xs, ys, xs[i], ys[i], q.1, q.2, by simp [h1], by simp [h2]⟩
  · obtain ⟨T, x, z, h1, h2, h3, h4, h5⟩ := y
    exact ⟨T, x, z, h1, h2, h3, h4 xs q.1, h5 ys q.2⟩
theorem itok_zipT {c : Cc} {G0 : Hp} {a b : Addr} {ds es : List D} {vs ws : List V} (h : SqT c.K G0 a vs) (h' : SqT c.K G0 b ws) (r : IsDs c G0 ds vs) (r' : IsDs c G0 es ws) : ItOk c G0 (RZ.ItzT c.K a b) (zipD ds es) := by
  refine ⟨fun H => SqT c.K H a vs ∧ SqT c.K H b ws, _, walk_zipT (by rw [zipD_len, r.len, r'.len]), fun H z => ⟨SqT.same z h, SqT.same z h'⟩, fun i x H H' d e z y => ?_⟩
  obtain ⟨T, u, v, rfl, hT, rfl, h1, h2⟩ := y
  obtain ⟨d1, d2, e1, e2, rfl⟩ := zipD_get e
  refine ⟨same_new hT, fun Z k hZ => ?_⟩
  obtain ⟨v1, h3, h4⟩ := r.getD e1
  obtain ⟨v2, h5, h6⟩ := r'.getD e2
  rw [show vs[i]? = some u from h1] at h3; cases h3
  rw [show ws[i]? = some v from h2] at h5; cases h5
  exact isNewT hT hZ (IsDs.cons (h4.same k) (IsDs.cons (h6.same k) IsDs.nil))
theorem itok_zipL {c : Cc} {G0 : Hp} {a b : Addr} {ds es : List D} {vs ws : List V} (h : SqL c.K G0 a vs) (h' : SqL c.K G0 b ws) (r : IsDs c G0 ds vs) (r' : IsDs c G0 es ws) : ItOk c G0 (Itz c.K a b) (zipD ds es) := by
  refine ⟨fun H => SqL c.K H a vs ∧ SqL c.K H b ws, _, walk_zip (by rw [zipD_len, r.len, r'.len]), fun H z => ⟨z.seq h, z.seq h'⟩, fun i x H H' d e z y => ?_⟩
  obtain ⟨T, u, v, rfl, hT, rfl, h1, h2⟩ := y
  obtain ⟨d1, d2, e1, e2, rfl⟩ := zipD_get e
  refine ⟨same_new hT, fun Z k hZ => ?_⟩
  obtain ⟨v1, h3, h4⟩ := r.getD e1
  obtain ⟨v2, h5, h6⟩ := r'.getD e2
  rw [show vs[i]? = some u from h1] at h3; cases h3
  rw [show ws[i]? = some v from h2] at h5; cases h5
  exact isNewT hT hZ (IsDs.cons (h4.same k) (IsDs.cons (h6.same k) IsDs.nil))
def dZip (ms : Av) : Iv := fun env => bnd (ms env) fun p => match p.1 with
  | [.lst xs, .lst ys] => .ok (zipD xs ys, p.2)
  | [.tup xs, .tup ys] => .ok (zipD xs ys, p.2)
  | _ => stuck
theorem i_zip {elts : List Expr} {kk : Nat} {tpos : Pos} (hg : Gl X "zip") (hm : X.mg "zip" = none) (h : DA X g pu [false, false] [a, b] ma W) (hs : starEach [a, b] X.env = (false, eval a X.env) :: starEach [b] X.env := by rfl) (hpl : (backTo pos (starEach [b] X.env)).any (·.1) = false := by rfl) : DI X g (.Tuple elts kk tpos) pu (.Call (.Name "zip" p) [a, b] [] pos) (dZip ma) W :=
  PI.imp (RZ.pi_zipA hg hm h hs hpl) fun σ H Q ⟨xs, env, S, w⟩ => ⟨xs, env, S, Want.bind w fun ds env' vs H' e s r w' => by
    have rc := r.clean rfl
    dsimp only at w'
    split at w'
    · obtain ⟨v1, v2, rfl, h1, h2⟩ := rc.two
      unfold IsD at h1 h2
      obtain ⟨a1, vs1, rfl, q1, r1⟩ := h1
      obtain ⟨a2, vs2, rfl, q2, r2⟩ := h2
      have z1 : SqL X.K (hide H' (Hid xs env σ)) a1 vs1 := SqL.of q1
      have z2 : SqL X.K (hide H' (Hid xs env σ)) a2 vs2 := SqL.of q2
      exact ⟨a1, a2, vs1, vs2, rfl, .inl ⟨SqL.hid z1, SqL.hid z2, w' _ H' s (itok_zipL z1 z2 r1 r2)⟩⟩
    · obtain ⟨v1, v2, rfl, h1, h2⟩ := rc.two
      unfold IsD at h1 h2
      obtain ⟨a1, vs1, rfl, q1, r1⟩ := h1
      obtain ⟨a2, vs2, rfl, q2, r2⟩ := h2
      exact ⟨a1, a2, vs1, vs2, rfl, .inr ⟨SqT.hid q1, SqT.hid q2, w' _ H' s (itok_zipT q1 q2 r1 r2)⟩⟩
    · exact w'.elim⟩

/-! ### defs by name -/
/-- the written part holds this def, as it stands in the text -/
def FunAt (K : PySem.W.Frag) (mg : Str → Option Value) (x : Str) (st : Stmt) (ps : List Str) : Prop := ∃ (f : Addr) (fd : FuncData), mg x = some (.ref f) ∧ Fun K x x st f fd ∧ PySem.W.keepIn K (.ref f) = true ∧ Binds K fd ps []
theorem fok_pure {N ps : List Str} {n : Nat} {mf : List D → M D} {body : Sv} (F : FunAt K mg x st ps) (S : FnScope N ps (defScope st)) (hl : ps.length = n) (hN : ps.length ≤ N.length) (hf : ∀ ds, mf ds = fin (body (enter N.length ds)))
    (hbody : ∀ (X : Cx) (W : WX), Cok nn X W P w K mg base N (defScope st) k false → PaOk X → DSs X g (defBody st) body W) : Fok nn P w K mg base (k + 1) x (spP (ck K g) n mf) := by
  obtain ⟨f, fd, h1, h2, h3, h4⟩ := F
  subst hl
  exact ⟨f, fd, ps, h1, def_pure h2 S hN hf hbody, h3, h4⟩
theorem fok_own {N ps : List Str} {n : Nat} {mf : D → List D → M (D × D)} {body : Sv} (F : FunAt K mg x st ps) (S : FnScope N ps (defScope st)) (hn : ps.length = n + 1) (hN : ps.length ≤ N.length) (hf : ∀ s ds, mf s ds = finO (body (enterO N.length s ds)))
    (hbody : ∀ (X : Cx) (W : WX), Cok nn X W P w K mg base N (defScope st) k false → PaOk X → DSs X g (defBody st) body W) : Fok nn P w K mg base (k + 1) x (spO (ck K g) n mf) := by
  obtain ⟨f, fd, h1, h2, h3, h4⟩ := F
  exact ⟨f, fd, ps, h1, def_own h2 S hn hN hf hbody, h3, h4⟩
/-- out of a body that hands back a new object -/
def finF : M (Fl × En) → M D
  | .ok (.rf d, _) => .ok d
  | .ok (.ro i, env) => match env[i]? with
    | some (.ow d) => .ok d
    | _ => stuck
  | .ok _ => stuck
  | .error e => .error e
theorem fok_fresh {N ps : List Str} {n : Nat} {mf : List D → M D} {body : Sv} (F : FunAt K mg x st ps) (S : FnScope N ps (defScope st)) (hl : ps.length = n) (hN : ps.length ≤ N.length) (hf : ∀ ds, mf ds = finF (body (enter N.length ds)))
    (hbody : ∀ (X : Cx) (W : WX), Cok nn X W P w K mg base N (defScope st) k false → PaOk X → DSs X g (defBody st) body W) : Fok nn P w K mg base (k + 1) x (spF (ck K g) n mf) := by
  obtain ⟨f, fd, h1, h2, h3, h4⟩ := F
  subst hl
  refine ⟨f, fd, ps, h1, ?_, h3, h4⟩
  refine fun_ok h2 S (fun vs H Q E ⟨xs, ds, h1, h2, h3, _⟩ => by rw [← h3.len, h1]) (fun cdv A outer s H vs Q E hr ⟨xs, ds, h1, h2, h3, h⟩ => ?_)
  refine ⟨_, hbody _ _ (ctx_def S hr) (L2H.passesAt_of rfl), xs, enter N.length ds, enter_ok (by rw [h1]; exact hN) h2 h3, ?_⟩
  rw [hf] at h
  cases hb : body (enter N.length ds) with
  | error e =>
    rw [hb] at h
    refine body_endF (fun d env z => nomatch z) (fun env z => nomatch z) ?_
    cases e <;> exact h
  | ok p =>
    obtain ⟨fl, env'⟩ := p
    rw [hb] at h
    cases fl with
    | nx => exact h.elim
    | rt d => exact h.elim
    | bk => exact h.elim
    | ct => exact h.elim
    | rf d => exact body_endF (fun d env z => nomatch z) (fun env z => nomatch z) h
    | ro i => exact body_endF (fun d env z => nomatch z) (fun env z => nomatch z) h
/-- a def as a value -/
theorem tbl_of {i n : Nat} {mf : List D → M D} {f : Addr} (F : Fok nn P w K mg base k x (spP (ck K g) n mf)) (hm : mg x = some (.ref f)) (hf : g.fa i = some f) : ∃ (f : Addr) (fd : FuncData) (ps : List Str), g.fa i = some f ∧ FnOk P w K mg base (CXn nn P w) k f fd ps (spP (ck K g) n mf) ∧ PySem.W.keepIn K (.ref f) = true ∧ Binds K fd ps [] := by
  obtain ⟨f', fd, ps, h1, h2, h3, h4⟩ := F.ex
  rw [hm] at h1
  cases h1
  exact ⟨f, fd, ps, hf, h2, h3, h4⟩
theorem Fok.mono {j k : Nat} {sp : Sp} (F : Fok nn P w K mg base j x sp) (h : j ≤ k) : Fok nn P w K mg base k x sp := by
  obtain ⟨f, fd, ps, h1, h2, h3, h4⟩ := F.ex
  exact ⟨f, fd, ps, h1, h2.mono h, h3, h4⟩
end
end Dn

/-! Dn24 -/
set_option Elab.async false
set_option linter.all false
set_option maxRecDepth 100000
set_option maxHeartbeats 1000000
/-! Dn24: plain laws: what an evaluation gives. -/
namespace Dn
open PySem
/-- it ends well, and Q holds of what it gives -/
def wm {β : Type} (r : M β) (Q : β → Prop) : Prop := match r with
  | .ok b => Q b
  | .error _ => False
@[simp] theorem wm_ok {β : Type} (b : β) (Q : β → Prop) : wm (.ok b) Q = Q b := rfl
@[simp] theorem wm_stuck {β : Type} (x : Exn) (Q : β → Prop) : wm (.error x) Q = False := rfl
theorem wm_bnd {α β : Type} (m : M α) (f : α → M β) (Q : β → Prop) : wm (bnd m f) Q = wm m (fun a => wm (f a) Q) := by
  cases m <;> rfl
theorem wm_mono {β : Type} {r : M β} {Q Q' : β → Prop} (h : wm r Q) (k : ∀ b, Q b → Q' b) : wm r Q' := by
  cases r with
  | ok b => exact k b h
  | error x => exact h
theorem wm_eq {β : Type} {r : M β} {b : β} {Q : β → Prop} (h : r = .ok b) (q : Q b) : wm r Q := by rw [h]; exact q
theorem wm_out {β : Type} {r : M β} {Q : β → Prop} (h : wm r Q) : ∃ b, r = .ok b ∧ Q b := by
  cases r with
  | ok b => exact ⟨b, rfl, h⟩
  | error x => exact h.elim
theorem wm_ite {β : Type} {c : Prop} [Decidable c] {a b : M β} {Q : β → Prop} : wm (if c then a else b) Q = if c then wm a Q else wm b Q := by split <;> rfl
/-- a for loop by an invariant -/
theorem forL_inv {mt : Gv} {mb : Sv} {Q : Fl × En → Prop} (I : Nat → En → Prop) : ∀ (ds : List D) (i : Nat) (env : En), I i env →
    (∀ (j : Nat) (d : D) (e : En), ds[j]? = some d → I (i + j) e → wm (ns (mt d e)) fun e1 => wm (mb e1) fun q => match q.1 with
      | .nx => I (i + j + 1) q.2
      | .ct => I (i + j + 1) q.2
      | .bk => Q (.nx, q.2)
      | f => Q (f, q.2)) → (∀ e, I (i + ds.length) e → Q (.nx, e)) → wm (forL mt mb ds env) Q
  | [], i, env, h, _, hd => hd env (by simpa using h)
  | d :: r, i, env, h, hs, hd => by
    unfold forL
    rw [wm_bnd]
    refine wm_mono (hs 0 d env rfl (by simpa using h)) fun e1 h1 => ?_
    rw [wm_bnd]
    refine wm_mono h1 fun q hq => ?_
    obtain ⟨fl, e2⟩ := q
    have next : I (i + 1) e2 → wm (forL mt mb r e2) Q := fun hI => forL_inv I r (i + 1) e2 hI (fun j d' e he hi => by
      have := hs (j + 1) d' e (by simpa using he) (by rw [← Nat.add_assoc, Nat.add_right_comm]; exact hi)
      rw [← Nat.add_assoc, Nat.add_right_comm i j 1] at this
      exact this) fun e he => hd e (by rw [List.length_cons, ← Nat.add_assoc, Nat.add_right_comm]; exact he)
    cases fl with
    | nx => exact next hq
    | ct => exact next hq
    | bk => exact hq
    | rt d => exact hq
    | rf d => exact hq
    | ro i => exact hq
theorem bitsOf_lt {i : Int} {n : Nat} (h : i.natAbs < 2 ^ n) : bitsOf i ≤ n := by
  unfold bitsOf
  by_cases z : i.natAbs = 0
  · rw [z]; exact Nat.zero_le _
  · exact Nat.le_of_lt ((Nat.log2_lt z).mpr h)
theorem mulOk_of {i j : Int} {m n : Nat} (h1 : i.natAbs < 2 ^ m) (h2 : j.natAbs < 2 ^ n) (h : m + n < 1000000) : mulOk i j = true := by
  unfold mulOk
  have := bitsOf_lt h1
  have := bitsOf_lt h2
  exact decide_eq_true (by omega)
theorem divOk_of {i j : Int} {n : Nat} (h0 : 0 < j) (h2 : j.natAbs < 2 ^ n) (h : n < 9000) : divOk i j = true := by
  unfold divOk
  have := bitsOf_lt h2
  rw [decide_eq_true h0, decide_eq_true (show bitsOf j < 9000 by omega)]; rfl
end Dn

/-! Dn25 -/
set_option Elab.async false
set_option linter.all false
set_option maxRecDepth 100000
set_option maxHeartbeats 1000000
/-! Dn25: from a law's mirror to the row. -/
namespace Dn
open PySem PySem.Spec L2
open PyProof.Rows hiding St
/-- what the law's def promises -/
def spL (K : PySem.W.Frag) : Sp := fun vs H Q _ => ∃ (a : Addr) (ns : List Int), vs = [.ref a] ∧ SqL K H a (ns.map V.int) ∧ ∀ H', Q (.bl true) H'
theorem FnOk.weaken {P : Program} {w : World} {K : PySem.W.Frag} {mg : Str → Option Value} {base : Heap} {CX : CXT} {k : Nat} {f : Addr} {fd : FuncData} {ps : List Str} {sp sp' : Sp} (F : FnOk P w K mg base CX k f fd ps sp) (h : ∀ vs H Q E, sp' vs H Q E → sp vs H Q E) : FnOk P w K mg base CX k f fd ps sp' :=
  ⟨fun vs H Q E z => F.len vs H Q E (h _ _ _ _ z), fun A outer s H args us vs Q E hr e0 b r z => F.run A outer s H args us vs Q E hr e0 b r (h _ _ _ _ z)⟩
theorem law_fn {P : Program} {w : World} {K : PySem.W.Frag} {mg : Str → Option Value} {base : Heap} {k : Nat} {g : Ce} {f : Addr} {fd : FuncData} {ps : List Str} {mf : List D → M D} (F : FnOk P w K mg base (CXn false P w) k f fd ps (spP (ck K g) 1 mf)) (hl : ∀ ns : List Int, mf [.scr ns] = .ok (.bl true)) :
    FnOk P w K mg base (L2.CX P w) k f fd ps (spL K) := by
  refine FnOk.weaken F fun vs H Q E ⟨a, ns, e, hs, q⟩ => ⟨fun _ => False, [.scr ns], rfl, fun _ z => z.elim, ?_, ?_⟩
  · subst e
    refine IsDs.cons ?_ IsDs.nil
    unfold IsD
    exact ⟨a, rfl, Same.seq (fun b o hb => by rw [hide_of (fun z => z)]; exact hb) hs⟩
  · rw [hl ns]
    intro v H' _ hv
    unfold IsD at hv
    subst hv
    exact q H'
theorem walkD {l : PySem.W.OpenLaw} {k : Nat} {q : Program} {loose : List Str} {XP : (Str → Option Value) → Heap → Prop} {YP : World → Heap → Prop} {d : DefRec} {K : Params → PySem.W.Frag} (hn : l.most = some 63) (hdf : d.params.defaults = []) (hr : Room k callerA)
    (hY : ∀ (w : World) (h : Heap), YP w h → (K w.params).In h)
    (F : ∀ (w : World) (mg : Str → Option Value) (fa : Addr) (h : Heap), (K w.params).In h → h.Ns mainGlobals mg → mg d.name = some (.ref fa) →
      ∃ fd : FuncData, (∀ (s : Shared) (u : Value), BindsTo s fd ⟨[u], []⟩ [("script", u)]) ∧ ∀ base : Heap, (K w.params).In base → base.Ns mainGlobals mg → FnOk l.prog w (K w.params) mg base (L2.CX l.prog w) k fa fd ["script"] (spL (K w.params))) :
    PySem.W.WalkO q loose XP YP l.row.toRowW d [] (fun f vs => PySem.call f vs) :=
  L2.walk_of (n := 63) (k := k) (x := "script") (CX := fun w => L2.CX l.prog w) (sp := fun w => spL (K w.params)) hn (by decide) hdf hr hY F (fun _ _ a ns hl _ hS => ⟨a, ns, rfl, hS, fun _ => rfl⟩) fun _ _ _ _ _ ⟨_, _, _, _, _, _, _, _, _, _, _, _, z⟩ => z.elim
end Dn

/-! Dn26 -/
set_option Elab.async false
set_option linter.all false
set_option maxRecDepth 100000
set_option maxHeartbeats 1000000
/-! Dn26: several targets, of which some are places of own lists. -/
namespace Dn
open PySem PySem.Spec L2
open PyProof.Rows hiding St

section
variable {X : Cx} {P : Program} {w : World} {K : PySem.W.Frag} {mg : Str → Option Value} {base : Heap} {N : List Str} {sc : Scope} {k : Nat} {bk nn : Bool} {g : Ce} {W : WX}
variable {pu pu1 pu2 sh sh1 sh2 : Bool} {m m1 m2 : Ev} {a b e tg : Expr} {es : List Expr} {pos p pos' : Pos} {x : Str} {mg1 : Gv} {mgs : Gsv} {i : Nat}

def WantG2 (c : Cc) (xs : Addr → Prop) (env : En) (σ : St) (H : Hp) (Q : St → Hp → Prop) : M En → Prop
  | .ok env' => ∀ σ' H', StOk c xs env' σ' H' → Kept env σ H env' σ' H' → Q σ' H'
  | .error _ => False
def tG2 (c : Cc) (m : Gv) : TG := fun v σ H Q => ∃ xs env d, StOk c xs env σ H ∧ IsD c (hide H (Hid xs env σ)) d v ∧ WantG2 c xs env σ H Q (m d env)
def tG2s (c : Cc) (m : Gsv) : TGs := fun v σ H Q => ∃ xs env d, StOk c xs env σ H ∧ IsDs c (hide H (Hid xs env σ)) d v ∧ WantG2 c xs env σ H Q (m d env)
abbrev DG2 (X : Cx) (g : Ce) (e : Expr) (m : Gv) : Prop := PG X e (tG2 (cc X g) m)
abbrev DG2s (X : Cx) (g : Ce) (e : List Expr) (m : Gsv) : Prop := PGs X e (tG2s (cc X g) m)
theorem g2_name (h : PG X e (gName i)) : DG2 X g e (gSet i) := PG.imp h fun v σ H Q ⟨xs, env, d, S, r, w⟩ => by
  unfold gSet at w
  rcases put_cases i (.va d) env with q | ⟨q, h0⟩ <;> rw [q] at w
  · exact w.elim
  · exact w _ H (S.setVa i r) (kept_set_va h0)
theorem g2_nil : DG2s X g [] gsNil := PGs.imp pgs_nil fun v σ H Q ⟨xs, env, ds, S, r, w⟩ => by
  cases ds with
  | nil => unfold IsDs at r; exact ⟨r, w σ H S .refl⟩
  | cons _ _ => exact w.elim
theorem g2_cons (h1 : DG2 X g e mg1) (h2 : DG2s X g es mgs) (hs : (assignEach (e :: es) X.env).map (·.2) = assign e X.env :: (assignEach es X.env).map (·.2) := by rfl) : DG2s X g (e :: es) (gsCons mg1 mgs) :=
  PGs.imp (pgs_cons h1 h2 hs) fun v σ H Q ⟨xs, env, ds, S, r, w⟩ => by
    cases ds with
    | nil => exact w.elim
    | cons d ds =>
      unfold IsDs at r
      obtain ⟨v1, vr, e1, r1, r2⟩ := r
      refine ⟨v1, vr, e1, xs, env, d, S, r1, ?_⟩
      have w' : WantG2 (cc X g) xs env σ H Q (bnd (mg1 d env) fun env1 => mgs ds env1) := w
      cases q : mg1 d env with
      | error x => rw [q] at w'; exact w'.elim
      | ok env1 =>
        rw [q] at w'
        intro σ1 H1 S1 k1
        refine ⟨xs, env1, ds, S1, r2.same k1.smH, ?_⟩
        dsimp only [bnd] at w'
        cases q2 : mgs ds env1 with
        | error x => rw [q2] at w'; exact w'.elim
        | ok env2 =>
          rw [q2] at w'
          exact fun σ2 H2 S2 k2 => w' σ2 H2 S2 (k1.trans k2)
theorem g2_tup {kk : Nat} (hc : X.calm = true) (h : DG2s X g es mgs) (hst : (assignEach es X.env).findIdx? (·.1) = none := by rfl) (hl : (assignEach es X.env).length = es.length := by rfl) : DG2 X g (.Tuple es kk pos) (gTupD (lenOf es.length mgs)) :=
  PG.imp (pg_tup hc h hl hst) fun v σ H Q ⟨xs, env, d, S, r, w⟩ => by
    unfold gTupD at w
    split at w
    · rename_i ds
      unfold IsD at r
      obtain ⟨a, ws, e1, e2, e3⟩ := r
      unfold lenOf at w
      split at w
      · rename_i hz
        exact ⟨a, ws, e1, SqT.hid e2, by rw [← e3.len]; exact hz, xs, env, ds, S, e3, w⟩
      · exact w.elim
    · exact w.elim
def gSubT (i : Nat) (mi : Ev) : Gv := fun d env => match env[i]? with
  | some (.ow _) => bnd (ns (mi env)) fun q => match q.2[i]?, q.1 with
    | some (.ow (.lst ds)), .int k => match ixN ds.length k with
      | some j => .ok (q.2.set i (.ow (.lst (ds.set j d))))
      | none => stuck
    | _, _ => stuck
  | _ => stuck
theorem g2_sub (hx : PE X (.Name x p) (tVar i)) (hi : DE X g pu1 sh1 b m1 W) (ha : ∀ v, assign (.Subscript (.Name x p) b pos') X.env v = (do
      let ov ← holding [v] (eval (.Name x p) X.env)
      let iv ← holding [v, ov] (eval b X.env)
      standAt pos'
      holding [v, ov, iv] (setItem ov iv v)
      release [v, ov, iv] []) := by intro _; rfl) : DG2 X g (.Subscript (.Name x p) b pos') (gSubT i m1) :=
  PG.imp (pg_sub hx hi set_list ha) fun v σ H Q ⟨xs, env, d, S, r, w⟩ => by
    unfold gSubT at w
    split at w
    case h_2 => exact w.elim
    rename_i d0 hi0
    obtain ⟨a, o0, ha0, ho0, hr0⟩ := S.ow i d0 hi0
    refine ⟨.ref a, ha0, xs, env, S, ?_⟩
    cases e2 : m1 env with
    | error z => rw [e2] at w; exact w.elim
    | ok pr =>
      obtain ⟨dk, env2⟩ := pr
      rw [e2] at w
      intro vk H2 s2 r2
      rw [ns_ok, bnd_ok] at w
      dsimp only at w
      split at w
      case h_2 => exact w.elim
      rename_i ds kk hi2
      split at w
      case h_2 => exact w.elim
      rename_i j hj
      obtain ⟨a', vs, ha2, ho2, hr2⟩ := own_lst s2.st hi2
      rw [ha0] at ha2; cases ha2
      have r2' := IsD.same s2.smH _ _ r
      rw [s2.hid] at hr2
      have hst := s2.st.write hi2 ha0 (ds' := ds.set j d) (vs' := vs.set j v) (by rw [s2.hid]; exact hr2.set j r2')
      exact ⟨a, vs, kk, j, rfl, (Rep.shell r2).int, ho2, by rw [← hr2.len]; exact hj, w σ _ hst.st (s2.kept.trans hst.kept)⟩
theorem s_asg2 (he : DE X g pu false e m W) (hg : DG2 X g tg mg1) (hs : swapsWithSole [tg] e pos.line X.env = pure false := by rfl) (hw : swappedStores [tg] e X.env = pure none := by rfl)
    (h1 : (assignEach [tg] X.env).map (·.2) = [assign tg X.env] := by rfl) : DS X g (.Assign [tg] e pos) (sAsg m mg1) W := PS.imp (ps_asg he hg hs hw h1) fun E σ H ⟨xs, env, S, w⟩ =>
  ⟨xs, env, S, WantS.bindE w fun d env' v H' e s r w' => by
    have r' : IsD (cc X g) (hide H' (Hid xs env σ)) d v := r
    rw [← s.hid] at r'
    refine ⟨xs, env', d, s.st, r', ?_⟩
    dsimp only at w'
    cases q : mg1 d env' with
    | error x =>
      rw [q] at w'
      exact w'.elim
    | ok env2 =>
      rw [q] at w'
      exact fun σ2 H2 S2 k2 => w' σ2 H2 S2 (s.kept.trans k2)⟩

/-! ### operators that make a new list -/
def VBF (c : Cc) (r : R2) (f : D → D → M D) : Prop := ∀ (P : Addr → Prop) (H : Hp) (x y : V) (d1 d2 d : D) (Q : VK), (∀ a, P a → H a ≠ none) → RepS c P H d1 x → RepS c P H d2 y →
  f d1 d2 = .ok d → (∀ v H', Same H H' → RepV c P H H' d v → Q v H') → r x y H Q
theorem t_binF {r : R2} {f : D → D → M D} (hv : VBF (cc X g) r f) (nr : NoR2 f) (hc : sh1 = false ∨ pu2 = true) {σ : St} {H : Hp} {Q : VK} (h : tF (cc X g) (pu1 && pu2) (dBin f m1 m2) W σ H Q) :
    tOp r (tE (cc X g) pu1 sh1 m1 W) (tE (cc X g) pu2 sh2 m2 W) σ H Q := by
  obtain ⟨xs, env, S, w⟩ := h
  refine ⟨xs, env, S, w.bind fun d1 env1 x H1 e1 s1 r1 w1 => ?_⟩
  refine ⟨xs, env1, s1.st, Want.bind (pu' := pu2) (w1.after s1) fun d2 env2 y H2 e2 s2 r2 w2 => ?_⟩
  rw [← s1.hid] at r1
  have r1' := (s2.rep hc r1).shell
  have r2' := r2.shell
  cases q : f d1 d2 with
  | error e => cases e with
    | raise k p => exact absurd q (nr _ _ _ _)
    | stuck => rw [q] at w2; exact w2.elim
  | ok d =>
    rw [q] at w2
    refine hv (Hid xs env1 σ) H2 x y d1 d2 d Q (fun a ha => s2.st.hid (by rw [s2.hid]; exact ha)) r1' r2' q fun v H' k hd => ?_
    rw [s1.hid] at hd
    have ss := s1.trans s2
    exact w2 v H' (s2.grow k) (hd.step ss S k fun p hp => ss.free S hp)
theorem f_bin {op : Operator} {r : R2} {f : D → D → M D} (ho : OpR X (binaryOp op) r) (hv : VBF (cc X g) r f) (nr : NoR2 f) (hc : sh1 = false ∨ pu2 = true) (ha : DE X g pu1 sh1 a m1 W) (hb : DE X g pu2 sh2 b m2 W) :
    DF X g (pu1 && pu2) (.BinOp a op b pos) (dBin f m1 m2) W := PE.imp (pe_op ho ha hb) fun _ _ _ h => t_binF hv nr hc h
def dMulL : D → D → M D
  | .lst ds, .int k => if (decide (k ≤ 16777216) && decide (-16777216 ≤ k) && decide (ds.length * k.toNat ≤ maxSeq)) = true then .ok (.lst (repD k ds)) else stuck
  | _, _ => stuck
theorem dMulL_nr : NoR2 dMulL := fun d1 d2 k p h => by
  unfold dMulL at h
  split at h <;> (try split at h) <;> cases h
theorem vbf_mulL {c : Cc} : VBF c (rMulD c.K) dMulL := by
  intro P H x y d1 d2 d Q hP r1 r2 e k
  unfold dMulL at e
  split at e
  · split at e
    · rename_i h
      simp only [Bool.and_eq_true, decide_eq_true_eq] at h
      cases e
      obtain ⟨a, vs, rfl, h1, h2⟩ := r1.lst
      exact .inr (.inl ⟨a, _, vs, rfl, r2.int, h1, by omega, by omega, by rw [maxSeq_eq, ← h2.len]; exact h.2, fun p hp => k _ _ (same_new hp) (repV_lst hp (h2.rep _))⟩)
    · cases e
  · cases e
theorem fMulL (hc : sh1 = false ∨ pu2 = true) (ha : DE X g pu1 sh1 a m1 W) (hb : DE X g pu2 sh2 b m2 W) : DF X g (pu1 && pu2) (.BinOp a .Mult b pos) (dBin dMulL m1 m2) W := f_bin op_mulD vbf_mulL dMulL_nr hc ha hb
end
end Dn

/-! Dn27 -/
set_option Elab.async false
set_option linter.all false
set_option maxRecDepth 100000
set_option maxHeartbeats 1000000
/-! Dn27: zip over a tuple and a list, in any mix. -/
namespace Dn
open PySem PySem.Spec L2
open PyProof.Rows hiding St

/-- t: a tuple; else a list -/
def SqB (K : PySem.W.Frag) (t : Bool) (H : Hp) (a : Addr) (xs : List V) : Prop := match t with
  | true => SqT K H a xs
  | false => SqL K H a xs
def ItB (h : Heap) (t : Bool) (it a : Addr) (i : Nat) : Prop := match t with
  | true => h.IsTupleIter it a i
  | false => h.IsListIter it a i
def StB (h : Heap) (t : Bool) (a : Addr) (its : Array Value) : Prop := match t with
  | true => h.IsTuple a its
  | false => h.IsList a its
def obB (t : Bool) (a : Addr) : Obj := match t with
  | true => { cls := .type "tuple_iterator", data := .fields #[.ref a, .int 0 0] }
  | false => { cls := .type "list_iterator", data := .fields #[.ref a, .int 0 0] }
theorem begB (t : Bool) (a : Addr) (its : Array Value) : Begins (.ref a) (obB t a) (fun h => StB h t a its) := by
  cases t
  · exact begins_list a its
  · exact begins_tuple a its
theorem drawB {prog : Program} {w : World} {A : Around} (hh : A.handled = none) (t : Bool) {it a : Addr} (ne : a ≠ it) (its : Array Value) : Draws prog w A it [it, a] its.size (fun i v => its[i]? = some v) (fun i h => ItB h t it a i ∧ StB h t a its) := by
  cases t
  · exact Draws.list hh it a ne its
  · exact Draws.tuple hh it a ne its
theorem ItB.at' {h h' : Heap} {t : Bool} {it a : Addr} {i : Nat} (x : ItB h t it a i) (k : ∀ o, h.get? it = some o → h'.get? it = some o) : ItB h' t it a i := by
  cases t
  · exact Heap.IsListIter.at x k
  · exact Heap.IsTupleIter.at x k
theorem ItB.obj {h : Heap} {t : Bool} {it a : Addr} {i : Nat} (x : ItB h t it a i) : ∃ o, h.get? it = some o ∧ ∀ v, o.data ≠ .cell v := by
  cases t <;>
  · obtain ⟨o, e, _, d⟩ := x
    exact ⟨o, e, fun v z => by rw [d] at z; cases z⟩
theorem ItB.of {h : Heap} {t : Bool} {it a : Addr} (x : h.get? it = some (obB t a)) : ItB h t it a 0 := by
  cases t <;> exact ⟨_, x, rfl, rfl⟩
theorem SqB.of_inv {X : Cx} {pins : List (Addr × Obj)} {σ : L2.St} {H : Hp} {s : Shared} {t : Bool} {a : Addr} {xs : List V} (I : Inv X pins σ H s) (h : SqB X.K t H a xs) : ∃ its : List Value, Vals xs its ∧ StB s.heap t a its.toArray := by
  cases t
  · obtain ⟨its, r, p, _⟩ := I.list h
    exact ⟨its, r, p.isList⟩
  · obtain ⟨its, r, p, _⟩ := I.tuple h
    exact ⟨its, r, p⟩
theorem StB.lt {h : Heap} {t : Bool} {a : Addr} {its : Array Value} (x : StB h t a its) : a < h.objs.size := by
  cases t <;>
  · obtain ⟨o, e, _⟩ := x
    exact Heap.lt_size e
theorem SqB.inj {X : Cx} {pins : List (Addr × Obj)} {σ : L2.St} {H : Hp} {s : Shared} {t : Bool} {a : Addr} {xs ys : List V} (I : Inv X pins σ H s) (h : SqB X.K t H a xs) (h' : SqB X.K t H a ys) : xs = ys := by
  cases t
  · exact I.list_inj h h'
  · exact I.tuple_inj h h'
theorem SqB.same {K : PySem.W.Frag} {t : Bool} {H H' : Hp} {a : Addr} {xs : List V} (k : Same H H') (h : SqB K t H a xs) : SqB K t H' a xs := by
  cases t
  · exact k.seq h
  · exact SqT.same k h
theorem SqB.unhide {K : PySem.W.Frag} {t : Bool} {H : Hp} {P : Addr → Prop} {a : Addr} {xs : List V} (h : SqB K t (hide H P) a xs) : SqB K t H a xs := by
  cases t
  · exact SqL.hid h
  · exact SqT.hid h

def ItzB (K : PySem.W.Frag) (t1 t2 : Bool) (a b : Addr) : It where
  go := fun i H => ∃ (xs ys : List V), SqB K t1 H a xs ∧ SqB K t2 H b ys ∧ i < min xs.length ys.length
  yld := fun i H v H' => ∃ T x y, v = .ref T ∧ H T = none ∧ H' = upd H T (.tup [x, y]) ∧ (∀ xs, SqB K t1 H a xs → xs[i]? = some x) ∧ ∀ ys, SqB K t2 H b ys → ys[i]? = some y
  stop := fun i H => ∃ xs ys : List V, SqB K t1 H a xs ∧ SqB K t2 H b ys ∧ i = min xs.length ys.length
/-- what stands while it turns -/
def TnB (z TI TO i1 i2 a b : Addr) (t1 t2 : Bool) (i : Nat) (h : Heap) : Prop := IsZip h z TI TO .none ∧ IsTupOf2 h TI (.ref i1) (.ref i2) ∧ (∃ x y, IsTupOf2 h TO x y) ∧ ItB h t1 i1 a i ∧ ItB h t2 i2 b i
theorem turn_zipB {P : Program} {w : World} {K : PySem.W.Frag} {elts : List Expr} {kk : Nat} {tpos : Pos} {t1 t2 : Bool} {a b z TI TO i1 i2 : Addr} (S : ZipSep2 z TI TO i1 i2 [i1, a] [i2, b]) :
    Turn P w K (.Tuple elts kk tpos) (ItzB K t1 t2 a b) [z, TI, TO, i1, i2] z (TnB z TI TO i1 i2 a b t1 t2) where
  mem := List.mem_cons_self
  obj := by
    rintro i h ⟨q1, q2, ⟨x, y, q3⟩, q4, q5⟩ c hc
    simp only [List.mem_cons, List.not_mem_nil, or_false] at hc
    rcases hc with rfl | rfl | rfl | rfl | rfl
    · exact ⟨_, q1, fun v q => nomatch q⟩
    · exact ⟨_, q2, fun v q => nomatch q⟩
    · exact ⟨_, q3, fun v q => nomatch q⟩
    · exact q4.obj
    · exact q5.obj
  keep := by
    rintro i h h' ⟨q1, q2, ⟨x, y, q3⟩, q4, q5⟩ k
    have m : ∀ c, c ∈ [z, TI, TO, i1, i2] → ∀ o, h.get? c = some o → h'.get? c = some o := k
    exact ⟨m z (by simp) _ q1, m TI (by simp) _ q2, ⟨x, y, m TO (by simp) _ q3⟩, q4.at' (m i1 (by simp)), q5.at' (m i2 (by simp))⟩
  item := by
    intro X hP hw hK hc i pins s σ H E I hf st hg
    subst hP hw hK
    obtain ⟨xs, ys, hx, hy, hi⟩ := hg
    obtain ⟨its, rv, p⟩ := hx.of_inv I
    obtain ⟨its2, rv2, p2⟩ := hy.of_inv I
    have l1 := rv.length
    have l2 := rv2.length
    obtain ⟨q1, q2, q3, q4, q5⟩ := st
    have n1 : a ≠ i1 := fun e => by
      obtain ⟨o, ho, _⟩ := q4.obj
      subst e
      cases t1
      · obtain ⟨o1, e1, c1, _⟩ := p
        obtain ⟨o2, e2, c2, _⟩ := q4
        rw [e1] at e2; cases e2; rw [c1] at c2; simp at c2
      · obtain ⟨o1, e1, c1, _⟩ := p
        obtain ⟨o2, e2, c2, _⟩ := q4
        rw [e1] at e2; cases e2; rw [c1] at c2; simp at c2
    have n2 : b ≠ i2 := fun e => by
      subst e
      cases t2
      · obtain ⟨o1, e1, c1, _⟩ := p2
        obtain ⟨o2, e2, c2, _⟩ := q5
        rw [e1] at e2; cases e2; rw [c1] at c2; simp at c2
      · obtain ⟨o1, e1, c1, _⟩ := p2
        obtain ⟨o2, e2, c2, _⟩ := q5
        rw [e1] at e2; cases e2; rw [c1] at c2; simp at c2
    have hh : X.A.in1.handled = none := I.ok.hd hc
    have W := GoesN.zip2 (prog := X.prog) (w := X.w) (A := X.A) (elts := elts) (x1 := kk) (pos := tpos) S (drawB hh t1 n1 its.toArray) (drawB hh t2 n2 its2.toArray)
    have hi' : i < min its.toArray.size its2.toArray.size := by simp only [List.size_toArray]; omega
    refine W.goes i s _ E hi' ⟨q1, q2, q3, ⟨q4, p⟩, ⟨q5, p2⟩⟩ fun v h' tk hY st' hk _ => ?_
    obtain ⟨T, u, u2, rfl, hT, hu, hu2, hpair⟩ := hY
    have hx1 : xs[i]? = some xs[i] := List.getElem?_eq_getElem (by omega)
    have hy1 : ys[i]? = some ys[i] := List.getElem?_eq_getElem (by omega)
    obtain ⟨u', hu', ru⟩ := rv.get hx1
    obtain ⟨u2', hu2', ru2⟩ := rv2.get hy1
    have hu3 : its[i]? = some u := by simpa using hu
    have hu4 : its2[i]? = some u2 := by simpa using hu2
    rw [hu3] at hu'; cases hu'
    rw [hu4] at hu2'; cases hu2'
    have new : ObjOk X.prog X.w (upd H T (.tup [xs[i], ys[i]])) h' T (.tup [xs[i], ys[i]]) := ⟨by show 2 ≤ sizeLine; decide, [u, u2], .cons ru (.cons ru2 .nil), hpair⟩
    have I1 : Inv X pins σ (upd H T (.tup [xs[i], ys[i]])) { s with heap := h', toks := tk } :=
      I.turnedNew (t' := tk) (ch := [z, TI, TO, i1, i2]) (fun c o hb q => hk c o (fun q' => hb (by
        simp only [List.mem_cons, List.not_mem_nil, or_false] at q' ⊢
        rcases q' with e | e | e | e
        · exact .inl e
        · exact .inr (.inr (.inl e))
        · exact .inr (.inr (.inr (.inl e)))
        · exact .inr (.inr (.inr (.inr e))))) q) hf hT new
    refine ⟨.ref T, _, I1, rfl, ⟨T, _, _, rfl, I.hok.fresh hT, rfl, fun l hl => by rw [hl.inj I hx]; exact hx1, fun l hl => by rw [hl.inj I hy]; exact hy1⟩, ?_, fun c hcm => ?_⟩
    · obtain ⟨r1, r2, r3, r4, r5⟩ := st'
      exact ⟨r1, r2, r3, r4.1, r5.1⟩
    · have hlt : c < s.heap.objs.size := by
        simp only [List.mem_cons, List.not_mem_nil, or_false] at hcm
        obtain ⟨x, y, q3⟩ := q3
        rcases hcm with rfl | rfl | rfl | rfl | rfl
        · exact Heap.lt_size q1
        · exact Heap.lt_size q2
        · exact Heap.lt_size q3
        · obtain ⟨o, e, _⟩ := q4.obj; exact Heap.lt_size e
        · obtain ⟨o, e, _⟩ := q5.obj; exact Heap.lt_size e
      rw [upd_ne (Nat.ne_of_lt (Nat.lt_of_lt_of_le hlt hT))]
      exact (hf c hcm).1
  done := by
    intro X hP hw hK hc i pins s σ H E I hf st hg
    subst hP hw hK
    obtain ⟨xs, ys, hx, hy, hi⟩ := hg
    obtain ⟨its, rv, p⟩ := hx.of_inv I
    obtain ⟨its2, rv2, p2⟩ := hy.of_inv I
    have l1 := rv.length
    have l2 := rv2.length
    obtain ⟨q1, q2, q3, q4, q5⟩ := st
    have n1 : a ≠ i1 := fun e => by
      subst e
      cases t1
      · obtain ⟨o1, e1, c1, _⟩ := p
        obtain ⟨o2, e2, c2, _⟩ := q4
        rw [e1] at e2; cases e2; rw [c1] at c2; simp at c2
      · obtain ⟨o1, e1, c1, _⟩ := p
        obtain ⟨o2, e2, c2, _⟩ := q4
        rw [e1] at e2; cases e2; rw [c1] at c2; simp at c2
    have n2 : b ≠ i2 := fun e => by
      subst e
      cases t2
      · obtain ⟨o1, e1, c1, _⟩ := p2
        obtain ⟨o2, e2, c2, _⟩ := q5
        rw [e1] at e2; cases e2; rw [c1] at c2; simp at c2
      · obtain ⟨o1, e1, c1, _⟩ := p2
        obtain ⟨o2, e2, c2, _⟩ := q5
        rw [e1] at e2; cases e2; rw [c1] at c2; simp at c2
    have hh : X.A.in1.handled = none := I.ok.hd hc
    have W := GoesN.zip2 (prog := X.prog) (w := X.w) (A := X.A) (elts := elts) (x1 := kk) (pos := tpos) S (drawB hh t1 n1 its.toArray) (drawB hh t2 n2 its2.toArray)
    have hi' : i = min its.toArray.size its2.toArray.size := by simp only [List.size_toArray]; omega
    subst hi'
    refine W.stops s _ E ⟨q1, q2, q3, ⟨q4, p⟩, ⟨q5, p2⟩⟩ fun h' tk hk _ => ?_
    exact I.turnedL (t' := tk) (ch := [z, TI, TO, i1, i2]) (fun c o hb q => hk c o (fun q' => hb (by
        simp only [List.mem_cons, List.not_mem_nil, or_false] at q' ⊢
        rcases q' with e | e | e | e
        · exact .inl e
        · exact .inr (.inr (.inl e))
        · exact .inr (.inr (.inr (.inl e)))
        · exact .inr (.inr (.inr (.inr e))))) q) hf
  self := fun A i s Q E st h => wpAny_pyIter_zip st.1 h
def iZipB (K : PySem.W.Frag) (ta : TA) : TI := fun σ H R => ta σ H fun vs H1 => ∃ t1 t2 a b xs ys, vs = [.ref a, .ref b] ∧ SqB K t1 H1 a xs ∧ SqB K t2 H1 b ys ∧ R (ItzB K t1 t2 a b) H1
theorem pi_zipB {X : Cx} {e e2 : Expr} {ta : TA} {p pos tpos : Pos} {elts : List Expr} {kk : Nat} (hg : Gl X "zip") (hm : X.mg "zip" = none) (ha : PA X [e, e2] ta)
    (hs : starEach [e, e2] X.env = (false, eval e X.env) :: starEach [e2] X.env := by rfl) (hpl : (backTo pos (starEach [e2] X.env)).any (·.1) = false := by rfl) :
    PI X (.Tuple elts kk tpos) (.Call (.Name "zip" p) [e, e2] [] pos) (iZipB X.K ta) := by
  refine ⟨fun pins s σ H R I h => ?_⟩
  refine Call_ (ld_blt I hg hm PyProof.Rows.boot_zip (PyProof.Rows.callWith_type1 (thn (ha.run pos pins s σ H _ I h) fun us s1 ⟨vs, H1, I1, r1, q1⟩ => ?_) hs hpl))
  obtain ⟨t1, t2, a, b, xs, ys, rfl, hx, hy, q⟩ := q1
  cases r1 with
  | cons r rr =>
  cases rr with
  | cons r' rr =>
  cases rr
  cases r
  cases r'
  obtain ⟨its, rv, p1⟩ := hx.of_inv I1
  obtain ⟨its2, rv2, p2⟩ := hy.of_inv I1
  refine zip_begins2 (begB t1 a its.toArray) (begB t2 b its2.toArray) p1 p2 fun h' hz hTI hTO h1 h2 _ hk => wpAny_pyIter_zip hz ?_
  have I2 : Inv X pins σ H1 { s1 with heap := h' } := I1.kept (t' := s1.toks) hk
  have la := p1.lt
  have lb := p2.lt
  refine ⟨_, [s1.heap.objs.size + 4, s1.heap.objs.size + 2, s1.heap.objs.size + 3, s1.heap.objs.size, s1.heap.objs.size + 1], TnB (s1.heap.objs.size + 4) (s1.heap.objs.size + 2) (s1.heap.objs.size + 3) s1.heap.objs.size (s1.heap.objs.size + 1) a b t1 t2, ItzB X.K t1 t2 a b, H1, rfl, I2,
    turn_zipB (zip_sep2 (fun c hc => by rw [List.mem_singleton.mp hc]; exact la) fun c hc => by rw [List.mem_singleton.mp hc]; exact lb), ⟨hz, hTI, ⟨_, _, hTO⟩, .of h1, .of h2⟩, fun c hcm => ?_, q⟩
  have le : s1.heap.objs.size ≤ c := by
    simp only [List.mem_cons, List.not_mem_nil, or_false] at hcm
    rcases hcm with rfl | rfl | rfl | rfl | rfl <;> first | exact Nat.le_refl _ | exact Nat.le_add_right _ _
  exact I1.fpOk le (I1.hok.fresh le)
theorem walk_zipB {K : PySem.W.Frag} {t1 t2 : Bool} {a b : Addr} {xs ys : List V} {n : Nat} (hn : n = min xs.length ys.length) : Walk (ItzB K t1 t2 a b) n (fun H => SqB K t1 H a xs ∧ SqB K t2 H b ys) (YPair (fun i => xs[i]?) (fun i => ys[i]?)) := by
  subst hn
  refine ⟨fun i H hi q => ⟨xs, ys, q.1, q.2, hi⟩, fun H q => ⟨xs, ys, q.1, q.2, rfl⟩, fun i H v H' _ q y => ?_⟩
  obtain ⟨T, x, z, h1, h2, h3, h4, h5⟩ := y
  exact ⟨T, x, z, h1, h2, h3, h4 xs q.1, h5 ys q.2⟩
theorem itok_zipB {c : Cc} {G0 : Hp} {t1 t2 : Bool} {a b : Addr} {ds es : List D} {vs ws : List V} (h : SqB c.K t1 G0 a vs) (h' : SqB c.K t2 G0 b ws) (r : IsDs c G0 ds vs) (r' : IsDs c G0 es ws) : ItOk c G0 (ItzB c.K t1 t2 a b) (zipD ds es) := by
  refine ⟨fun H => SqB c.K t1 H a vs ∧ SqB c.K t2 H b ws, _, walk_zipB (by rw [zipD_len, r.len, r'.len]), fun H z => ⟨h.same z, h'.same z⟩, fun i x H H' d e z y => ?_⟩
  obtain ⟨T, u, v, rfl, hT, rfl, h1, h2⟩ := y
  obtain ⟨d1, d2, e1, e2, rfl⟩ := zipD_get e
  refine ⟨same_new hT, fun Z k hZ => ?_⟩
  obtain ⟨v1, h3, h4⟩ := r.getD e1
  obtain ⟨v2, h5, h6⟩ := r'.getD e2
  rw [show vs[i]? = some u from h1] at h3; cases h3
  rw [show ws[i]? = some v from h2] at h5; cases h5
  exact isNewT hT hZ (IsDs.cons (h4.same k) (IsDs.cons (h6.same k) IsDs.nil))
/-- what zip takes -/
def seqD : D → Option (List D)
  | .lst xs => some xs
  | .tup xs => some xs
  | _ => none
theorem seqD_sq {c : Cc} {H : Hp} {d : D} {xs : List D} {v : V} (h : seqD d = some xs) (r : IsD c H d v) : ∃ t a vs, v = .ref a ∧ SqB c.K t H a vs ∧ IsDs c H xs vs := by
  cases d <;> first | cases h; done | skip
  all_goals
    cases h
    unfold IsD at r
    obtain ⟨a, vs, rfl, q, r⟩ := r
  · exact ⟨true, a, vs, rfl, q, r⟩
  · exact ⟨false, a, vs, rfl, SqL.of q, r⟩
def dZipB (ms : Av) : Iv := fun env => bnd (ms env) fun p => match p.1 with
  | [a, b] => match seqD a, seqD b with
    | some xs, some ys => .ok (zipD xs ys, p.2)
    | _, _ => stuck
  | _ => stuck
section
variable {X : Cx} {g : Ce} {W : WX} {pu : Bool} {a b : Expr} {pos p : Pos} {ma : Av}
theorem i_zipB {elts : List Expr} {kk : Nat} {tpos : Pos} (hg : Gl X "zip") (hm : X.mg "zip" = none) (h : DA X g pu [false, false] [a, b] ma W) (hs : starEach [a, b] X.env = (false, eval a X.env) :: starEach [b] X.env := by rfl) (hpl : (backTo pos (starEach [b] X.env)).any (·.1) = false := by rfl) : DI X g (.Tuple elts kk tpos) pu (.Call (.Name "zip" p) [a, b] [] pos) (dZipB ma) W :=
  PI.imp (pi_zipB hg hm h hs hpl) fun σ H Q ⟨xs, env, S, w⟩ => ⟨xs, env, S, Want.bind w fun ds env' vs H' e s r w' => by
    have rc := r.clean rfl
    dsimp only at w'
    split at w'
    · rename_i d1 d2
      obtain ⟨v1, v2, rfl, h1, h2⟩ := rc.two
      cases q1 : seqD d1 with
      | none => rw [q1] at w'; exact w'.elim
      | some xs1 =>
        cases q2 : seqD d2 with
        | none => rw [q1, q2] at w'; exact w'.elim
        | some xs2 =>
          rw [q1, q2] at w'
          obtain ⟨t1, a1, vs1, rfl, z1, r1⟩ := seqD_sq q1 h1
          obtain ⟨t2, a2, vs2, rfl, z2, r2⟩ := seqD_sq q2 h2
          exact ⟨t1, t2, a1, a2, vs1, vs2, rfl, z1.unhide, z2.unhide, w' _ H' s (itok_zipB z1 z2 r1 r2)⟩
    · exact w'.elim⟩
end
end Dn

/-! Dn28 -/
set_option Elab.async false
set_option linter.all false
set_option maxRecDepth 100000
set_option maxHeartbeats 1000000
/-! Dn28: bit operators, [::-1], augmented stores in own lists, list(range). -/
namespace Dn
open PySem PySem.Spec L2
open PyProof.Rows hiding St

section
variable {X : Cx} {P : Program} {w : World} {K : PySem.W.Frag} {mg : Str → Option Value} {base : Heap} {N : List Str} {sc : Scope} {k : Nat} {bk nn : Bool} {g : Ce} {W : WX}
variable {pu pu1 pu2 sh sh1 sh2 : Bool} {m m1 m2 : Ev} {a b e tg : Expr} {es : List Expr} {pos p pos' : Pos} {x : Str} {i : Nat}
theorem eShl (hc : sh1 = false ∨ pu2 = true) (ha : DE X g pu1 sh1 a m1 W) (hb : DE X g pu2 sh2 b m2 W) : DE X g (pu1 && pu2) false (.BinOp a .LShift b pos) (dBin dShl m1 m2) W := e_bin op_shl vb_shl dIntOp_nr hc ha hb
theorem eShr (hc : sh1 = false ∨ pu2 = true) (ha : DE X g pu1 sh1 a m1 W) (hb : DE X g pu2 sh2 b m2 W) : DE X g (pu1 && pu2) false (.BinOp a .RShift b pos) (dBin dShr m1 m2) W := e_bin op_shr vb_shr dIntOp_nr hc ha hb
theorem eAnd (hc : sh1 = false ∨ pu2 = true) (ha : DE X g pu1 sh1 a m1 W) (hb : DE X g pu2 sh2 b m2 W) : DE X g (pu1 && pu2) false (.BinOp a .BitAnd b pos) (dBin dAnd2 m1 m2) W := e_bin op_and vb_and dIntOp_nr hc ha hb
theorem eOr (hc : sh1 = false ∨ pu2 = true) (ha : DE X g pu1 sh1 a m1 W) (hb : DE X g pu2 sh2 b m2 W) : DE X g (pu1 && pu2) false (.BinOp a .BitOr b pos) (dBin dOr2 m1 m2) W := e_bin op_or vb_or dIntOp_nr hc ha hb
end

/-! ### t[::-1], t a tuple -/
section
variable {prog : Program} {w : World} {A : Around} {E : Value → Shared → Prop} {s : Shared}
theorem adj_rev (n : Int) : Builtin.Slice.sliceAdjust none none (-1) n = (n - 1, -1) := rfl
theorem plc_rev (n : Nat) : Builtin.Slice.slicePlaces ((n : Int) - 1) (-1) (-1) = n := by
  unfold Builtin.Slice.slicePlaces
  rw [if_neg (by decide)]
  by_cases h : ((n : Int) - 1) > -1
  · rw [if_pos h]
    have e : ((n : Int) - 1 - -1 - 1) / (- -1) = n - 1 := by
      rw [show (- -1 : Int) = 1 from rfl, Int.ediv_one]; omega
    rw [e]; omega
  · rw [if_neg h]; omega
theorem applied_rev {sl : Addr} {n : Nat} {t : Tok} {Q : Int × Int × Nat → Shared → Prop} (hs : s.heap.IsSliceOf sl .none .none (.int (-1) t)) (h : Q ((n : Int) - 1, -1, n) s) :
    wpAny (model prog w) A (Builtin.Slice.sliceApplied (.ref sl) (pure (n : Int))) Q E s := by
  obtain ⟨o, e1, e2, e3⟩ := id hs
  unfold Builtin.Slice.sliceApplied Builtin.Slice.sliceFields
  have f0 := fun (Q : Value → Shared → Prop) (q : Q .none s) => wpAny_field (M := model prog w) (A := A) (E := E) (Q := Q) e1 e3 (x := .none) (i := 0) rfl q
  have f1 := fun (Q : Value → Shared → Prop) (q : Q .none s) => wpAny_field (M := model prog w) (A := A) (E := E) (Q := Q) e1 e3 (x := .none) (i := 1) rfl q
  have f2 := fun (Q : Value → Shared → Prop) (q : Q (.int (-1) t) s) => wpAny_field (M := model prog w) (A := A) (E := E) (Q := Q) e1 e3 (x := .int (-1) t) (i := 2) rfl q
  refine wpAny_bind (wpAny_bind (f0 _ (wpAny_bind (f1 _ (wpAny_bind (f2 _ (wpAny_pure ?_)))))))
  refine wpAny_bind (slicePart_int ?_)
  show wpAny _ _ (if ((-1 : Int) == 0) = true then _ else _) _ _ s
  rw [if_neg (by decide)]
  refine wpAny_bind (slicePart_none (wpAny_bind (slicePart_none (wpAny_bind (wpAny_pure ?_)))))
  show wpAny _ _ (pure ((n : Int) - 1, (-1 : Int), Builtin.Slice.slicePlaces ((n : Int) - 1) (-1) (-1))) _ _ s
  rw [plc_rev]
  exact wpAny_pure h
theorem pick_rev (xs : List Value) : ((List.range xs.length).filterMap fun (m : Nat) => xs.toArray[((xs.length : Int) - 1 + (m : Int) * -1).toNat]?) = xs.reverse := by
  have key : ∀ (l : List Nat), (∀ m, m ∈ l → m < xs.length) → (l.filterMap fun (m : Nat) => xs.toArray[((xs.length : Int) - 1 + (m : Int) * -1).toNat]?) = l.map fun m => (xs.reverse[m]?).getD .none := by
    intro l
    induction l with
    | nil => exact fun _ => rfl
    | cons m r ih =>
      intro h
      have hm := h m List.mem_cons_self
      have e : ((xs.length : Int) - 1 + (m : Int) * -1).toNat = xs.length - 1 - m := by omega
      have hv : xs.toArray[((xs.length : Int) - 1 + (m : Int) * -1).toNat]? = some ((xs.reverse[m]?).getD .none) := by
        rw [e, List.getElem?_toArray, List.getElem?_reverse hm, List.getElem?_eq_getElem (by omega)]
        rfl
      rw [List.filterMap_cons, hv, List.map_cons, ih fun y hy => h y (List.mem_cons_of_mem _ hy)]
  rw [key _ fun m hm => List.mem_range.mp hm]
  apply List.ext_getElem?
  intro j
  rw [List.getElem?_map]
  by_cases hj : j < xs.length
  · have hj2 : j < xs.reverse.length := by simpa using hj
    rw [List.getElem?_range hj, Option.map_some, List.getElem?_eq_getElem hj2, Option.getD_some]
  · rw [List.getElem?_eq_none (by simp; omega), List.getElem?_eq_none (by simp; omega)]
    rfl
theorem item_rev {t sl : Addr} {xs : List Value} {tk : Tok} {Q : Value → Shared → Prop} (ht : IsTup s.heap t xs.toArray) (hs : s.heap.IsSliceOf sl .none .none (.int (-1) tk))
    (h : Q (.ref s.heap.objs.size) { s with heap := s.heap.push { cls := .type "tuple", data := .seq xs.reverse.toArray } }) (hz : xs.length ≤ sizeLine) : wpAny (model prog w) A (getItem (.ref t) (.ref sl)) Q E s := by
  have room : sizeOk (.seq xs.reverse.toArray) := by show xs.reverse.toArray.size ≤ sizeLine; rw [List.size_toArray, List.length_reverse]; exact hz
  obtain ⟨o, e1, e2, e3⟩ := id hs
  have ty : s.TypeIs (.ref sl) "slice" := ⟨o, e1, e2⟩
  unfold getItem
  try with_reducible refine wpAny_holding ?_
  first | refine wpAny_bind (wpAny_pure ?_) | skip
  refine wpAny_bind (wpAny_sequenceKey ht.typeIs (by decide) (wpAny_bind (wpAny_callSpecial?_slot (name := Str.ofString "__getitem__") ht.typeIs PyProof.Rows.slot_tuple_getitem
    (wpAny_call_entry PyProof.Rows.slot_tuple_getitem ht.typeIs entry_tuple_getitem ?_ (args_tuple_getitem _ _)))))
  show wpAny _ _ (Builtin.Tuple.tupleItemsOf (.ref t) >>= _) _ _ s
  refine wpAny_bind (tupleItemsOf_ ht (wpAny_bind (wpAny_typeOf ty ?_)))
  rw [if_pos (by decide)]
  refine wpAny_bind ?_
  rw [show (pure (xs.toArray.size : Int) : Sem Int) = pure ((xs.length : Nat) : Int) by rw [List.size_toArray]]
  refine applied_rev hs ?_
  have no : ¬ (((xs.length : Int) - 1 == 0 && (-1 : Int) == 1 && xs.length == xs.toArray.size) = true) := by
    rw [show ((-1 : Int) == 1) = false from rfl, Bool.and_false, Bool.false_and]; exact Bool.false_ne_true
  show wpAny _ _ (if ((xs.length : Int) - 1 == 0 && (-1 : Int) == 1 && xs.length == xs.toArray.size) = true then _ else _) _ _ s
  rw [if_neg no, pick_rev]
  first
    | exact wpAny_bind (m := Builtin.Tuple.tupleExact _) (wpAny_newObj_type (wpAny_pure ⟨_, rfl, wpAny_pure h⟩) room)
    | exact wpAny_bind (m := Builtin.Tuple.tupleExact _) (wpAny_newObj_type (wpAny_bind (wpAny_pure (wpAny_pure ⟨_, rfl, wpAny_pure h⟩))) room)
    | exact wpAny_bind (wpAny_bind (m := Builtin.Tuple.tupleExact _) (wpAny_newObj_type (wpAny_pure (wpAny_pure ⟨_, rfl, wpAny_pure h⟩)) room))
    | exact wpAny_bind (wpAny_bind (m := Builtin.Tuple.tupleExact _) (wpAny_newObj_type (wpAny_pure ⟨_, rfl, wpAny_pure h⟩) room))
end
section
variable {X : Cx}
/-- x[::-1], x a list or a tuple -/
def tRevB (K : PySem.W.Frag) (te : TE) : TE := fun σ H Q => te σ H fun x H1 => ∃ a xs, x = .ref a ∧ ((SqL K H1 a xs ∧ ∀ p, H1 p = none → Q (.ref p) (upd H1 p (.lst xs.reverse))) ∨ (SqT K H1 a xs ∧ ∀ p, H1 p = none → Q (.ref p) (upd H1 p (.tup xs.reverse))))
theorem pe_revB {e : Expr} {te : TE} {k : Nat} {p1 p2 p3 pos : Pos} (he : PE X e te) : PE X (.Subscript e (.Slice none none (some (.UnaryOp .USub (.Constant (.int 1) k p1) p2)) p3) pos) (tRevB X.K te) := by
  refine ⟨fun pins s σ H Q I h => Subscript_ (thn (he.run pins s σ H _ I h) fun v s1 ⟨x, H1, I1, r1, a, xs, ex, q⟩ => ?_)⟩
  subst ex
  cases r1
  have hst : PO X (some (.UnaryOp .USub (.Constant (.int 1) k p1) p2)) (tPart (tUn (rU fun i => .int (-i)) (tC (.int 1)))) := po_some (pe_un un_neg pe_int)
  refine wpAny_Slice (thn (po_none.run pins s1 σ H1 (fun o z => o = none ∧ z = H1) I1 ⟨rfl, rfl⟩) fun vl s2 ⟨o2, z2, I2, pl, eo2, ez2⟩ => thn (po_none.run pins s2 σ z2 (fun o z => o = none ∧ z = H1) I2 ⟨rfl, ez2⟩) fun vu s3 ⟨o3, z3, I3, pu', eo3, ez3⟩ =>
    thn (hst.run pins s3 σ z3 (fun o z => o = some (-1) ∧ z = H1) I3 ⟨1, rfl, -1, rfl, rfl, ez3⟩) fun vs s4 ⟨o4, z4, I4, ps, eo4, ez4⟩ => ?_)
  rw [ez4] at I4
  rw [eo2] at pl
  rw [eo3] at pu'
  rw [eo4] at ps
  clear ez2 ez3 ez4 I2 I3
  have I5 : Inv X pins σ H1 { s4 with heap := s4.heap.push { cls := .type "slice", data := .fields #[vl, vu, vs] } } := I4.kept (t' := s4.toks) fun b ob z => Heap.get?_push_of_some _ z
  have hsl : Heap.IsSliceOf (s4.heap.push { cls := .type "slice", data := .fields #[vl, vu, vs] }) s4.heap.objs.size vl vu vs := Heap.IsSliceOf.new _ vl vu vs
  show wpAny (model X.prog X.w) X.A (subscriptTail e (.Slice none none (some (.UnaryOp .USub (.Constant (.int 1) k p1) p2)) p3) (.ref a) (.ref s4.heap.objs.size)) (EP X pins σ Q) X.xe { s4 with heap := s4.heap.push { cls := .type "slice", data := .fields #[vl, vu, vs] } }
  rcases q with ⟨hx, q⟩ | ⟨hx, q⟩
  · obtain ⟨its, r, ht, hz⟩ := I5.list hx
    have hlen := r.length
    refine tail_any (ops := [.ref a, .ref s4.heap.objs.size]) ht.isList.typeIs (PySem.slot_list_getitem.lookup) ?_ (by with_unfolding_all rfl)
    refine wpAny_getItem_list_slice ht.isList hsl pl pu' ps (by decide) ?_ (by rw [List.size_toArray]; omega)
    rw [PySem.W.krv_pick]
    refine ⟨.ref _, _, I5.laid (t' := s4.toks) (o := .lst xs.reverse) (fun b ob z => Heap.get?_push_of_some _ z) (Nat.le_refl _) ⟨by rw [List.length_reverse]; exact hz, _, 0, r.reverse, Heap.get?_push_size _ rfl⟩, rfl, q _ (I5.hok.fresh (Nat.le_refl _))⟩
  · obtain ⟨its, r, ht, hz⟩ := I5.tuple hx
    have hlen := r.length
    cases pl
    cases pu'
    cases ps
    refine tail_any (ops := [.ref a, .ref s4.heap.objs.size]) ht.typeIs PyProof.Rows.slot_tuple_getitem.lookup ?_ (by with_unfolding_all rfl)
    refine item_rev ht hsl ?_ (by rw [← hlen]; exact hz)
    refine ⟨.ref _, _, I5.laid (t' := s4.toks) (o := .tup xs.reverse) (fun b ob z => Heap.get?_push_of_some _ z) (Nat.le_refl _) ⟨by rw [List.length_reverse]; exact hz, _, r.reverse, ⟨_, Heap.get?_push_size _ rfl, rfl, _, rfl⟩⟩, rfl, q _ (I5.hok.fresh (Nat.le_refl _))⟩
end
def dRev (m : Ev) : Ev := fun env => bnd (m env) fun p => match p.1 with
  | .lst xs => .ok (.lst xs.reverse, p.2)
  | .tup xs => .ok (.tup xs.reverse, p.2)
  | _ => stuck
section
variable {X : Cx} {g : Ce} {W : WX} {pu sh : Bool} {m : Ev} {e : Expr} {pos p1 p2 p3 : Pos} {k : Nat}
theorem e_rev (h : DE X g pu false e m W) : DE X g pu false (.Subscript e (.Slice none none (some (.UnaryOp .USub (.Constant (.int 1) k p1) p2)) p3) pos) (dRev m) W :=
  PE.imp (pe_revB h) fun σ H Q ⟨xs, env, S, w⟩ => ⟨xs, env, S, Want.bind w fun d env1 v H1 e1 s1 r1 w1 => by
    have r1c : IsD (cc X g) (hide H1 (Hid xs env σ)) d v := r1
    have hP : ∀ a, Hid xs env σ a → H1 a ≠ none := fun a ha => s1.st.hid (by rw [s1.hid]; exact ha)
    dsimp only at w1
    split at w1
    · unfold IsD at r1c
      obtain ⟨a, vs, rfl, q1, q2⟩ := r1c
      exact ⟨a, vs, rfl, .inl ⟨SqL.hid (SqL.of q1), fun p hp => w1 _ _ (s1.grow (same_new hp)) (isNewL hp hP q2.reverse)⟩⟩
    · unfold IsD at r1c
      obtain ⟨a, vs, rfl, q1, q2⟩ := r1c
      exact ⟨a, vs, rfl, .inr ⟨SqT.hid q1, fun p hp => w1 _ _ (s1.grow (same_new hp)) (isNewT hp hP q2.reverse)⟩⟩
    · exact w1.elim⟩
end
end Dn

/-! Dn29 -/
set_option Elab.async false
set_option linter.all false
set_option maxRecDepth 100000
set_option maxHeartbeats 1000000
/-! Dn29: xs[i] op= e, xs an own list. -/
namespace Dn
open PySem PySem.Spec L2
open PyProof.Rows hiding St

/-- xs[k], a list that stands in H, k not below nought -/
def rGet0 : V → V → Hp → VK → Prop := fun o i H Q => ∃ p xs k v, o = .ref p ∧ i = .int k ∧ H p = some (.lst xs) ∧ 0 ≤ k ∧ xs[k.toNat]? = some v ∧ Q v H
theorem get0 {X : Cx} : PGet X rGet0 := by
  intro pins s σ H o i ov iv Q I ro ri h
  obtain ⟨p, xs, k, v, rfl, rfl, hp, h0, hv, q⟩ := h
  cases ro
  obtain ⟨t, rfl⟩ := ri
  obtain ⟨its, r, pl, hz⟩ := I.list (SqL.of hp)
  obtain ⟨u, eu, ru⟩ := r.get hv
  have hlt := (List.getElem?_eq_some_iff.mp hv).1
  have hn := line63
  exact wpAny_getItem_list pl.isList h0 (by omega) (by simpa using eu) ⟨v, H, I, ru, q⟩
def sAugSub (i : Nat) (f : D → D → M D) (mi m : Ev) : Sv := fun env => match env[i]? with
  | some (.ow _) => bnd (mi env) fun q => match q.2[i]?, q.1 with
    | some (.ow (.lst ds)), .int k => match (if 0 ≤ k then ds[k.toNat]? else none) with
      | some d => bnd (m q.2) fun r => match r.2[i]? with
        | some (.ow (.lst ds')) => bnd (f d r.1) fun z => if k.toNat < ds'.length then .ok (.nx, r.2.set i (.ow (.lst (ds'.set k.toNat z)))) else stuck
        | _ => stuck
      | none => stuck
    | _, _ => stuck
  | _ => stuck
section
variable {X : Cx} {g : Ce} {W : WX} {pu1 pu2 sh1 sh2 : Bool} {m m1 : Ev} {b e : Expr} {pos p pos' : Pos} {x : Str} {i : Nat}
theorem s_augSub {op : Operator} {r : R2} {f : D → D → M D} (ho : OpR X (inplaceOp op) r) (hv : VB (cc X g) r f) (nr : NoR2 f) (hx : PE X (.Name x p) (tVar i)) (hi : DE X g pu1 sh1 b m1 W) (he : DE X g pu2 sh2 e m W)
    (ha : ∀ ov iv new, augStore b ov iv new = (do holding [new, ov, iv] (setItem ov iv new); release [new, ov, iv] []; pure .next) := by intros; rfl) : DS X g (.AugAssign (.Subscript (.Name x p) b pos') op e pos) (sAugSub i f m1 m) W :=
  PS.imp (ps_augS hx hi get0 he ho set_list ha) fun E σ H ⟨xs, env, S, w⟩ => by
    unfold sAugSub at w
    split at w
    case h_2 => exact w.elim
    rename_i d0 hi0
    obtain ⟨a, o0, ha0, ho0, hr0⟩ := S.ow i d0 hi0
    refine ⟨.ref a, ha0, xs, env, S, WantS.bindE w fun dk env1 vk H1 e1 s1 r1 w1 => ?_⟩
    dsimp only at w1
    split at w1
    case h_2 => exact w1.elim
    rename_i ds kk hi1
    split at w1
    case h_2 => exact w1.elim
    rename_i d hd
    split at hd
    case isFalse => cases hd
    rename_i h0
    obtain ⟨a', vs, ha1, ho1, hr1⟩ := own_lst s1.st hi1
    rw [ha0] at ha1; cases ha1
    obtain ⟨v, hvv, hdv⟩ := hr1.getD hd
    refine ⟨a, vs, kk, v, rfl, (Rep.shell r1).int, ho1, h0, hvv, xs, env1, s1.st, WantS.bindE (WantS.after s1.kept w1) fun d2 env2 u H2 e2 s2 r2 w2 => ?_⟩
    dsimp only at w2
    split at w2
    case h_2 => exact w2.elim
    rename_i ds' hi2
    cases q : f d d2 with
    | error z =>
      rw [q] at w2
      cases z with
      | raise kk pp => exact absurd q (nr _ _ _ _)
      | stuck => exact w2.elim
    | ok z =>
      rw [q, bnd_ok] at w2
      split at w2
      case isFalse => exact w2.elim
      rename_i hlt
      have hdv' := hdv.same s2.smH
      refine hv (Hid xs env1 σ) H2 v u d d2 z _ (fun y hy => s2.st.hid (by rw [s2.hid]; exact hy)) (RepS.of hdv') (Rep.shell r2) q fun t H3 k3 hd3 => ?_
      have s3 := s2.grow k3
      obtain ⟨a', vs', ha3, ho3, hr3⟩ := own_lst s3.st hi2
      rw [ha0] at ha3; cases ha3
      have hst := s3.st.write hi2 ha0 (ds' := ds'.set kk.toNat z) (vs' := vs'.set kk.toNat t) (hr3.set _ (by rw [s3.hid]; exact hd3))
      refine ⟨a, vs', kk, kk.toNat, rfl, (Rep.shell r1).int, ho3, ?_, w2 σ _ hst.st (s3.kept.trans hst.kept)⟩
      have hl := hr3.len
      unfold L2.ixN
      rw [if_pos h0, if_pos (by omega)]
end
end Dn

/-! Dn30 -/
set_option Elab.async false
set_option linter.all false
set_option maxRecDepth 100000
set_option maxHeartbeats 1000000
/-! Dn30: list(range(n)), sorted of integers (a list or a tuple). -/
namespace Dn
open PySem PySem.Spec L2
open PyProof.Rows hiding St

/-! ### list(range(n)) -/
def dLstRg (m : Ev) : Ev := fun env => bnd (m env) fun p => match p.1 with
  | .int j => if (decide (0 ≤ j) && decide (j ≤ 16777216)) = true then .ok (.lst (rngD 0 1 j.toNat), p.2) else stuck
  | _ => stuck
theorem isDs_rg {c : Cc} {H : Hp} (j : Int) : IsDs c H (rngD 0 1 j.toNat) (rgV 0 j) := by
  unfold rngD rgV
  rw [Int.sub_zero]
  generalize List.range j.toNat = l
  induction l with
  | nil => exact IsDs.nil
  | cons n r ih =>
    rw [List.map_cons, List.map_cons]
    refine IsDs.cons ?_ ih
    rw [Int.mul_one]
    exact isInt
section
variable {X : Cx} {P : Program} {w : World} {K : PySem.W.Frag} {mg : Str → Option Value} {base : Heap} {N : List Str} {sc : Scope} {k : Nat} {bk nn : Bool} {g : Ce} {W : WX}
variable {pu sh : Bool} {m : Ev} {a : Expr} {pos p p2 pos2 : Pos}
theorem f_lstRg (hc : X.calm = true) (hg : Gl X "list") (hm : X.mg "list" = none) (hgr : Gl X "range") (hmr : X.mg "range" = none) (ha : DE X g pu sh a m W)
    (na : starEach [.Call (.Name "range" p2) [a] [] pos2] X.env = (false, eval (.Call (.Name "range" p2) [a] [] pos2) X.env) :: starEach [] X.env := by rfl) (na2 : starEach [a] X.env = (false, eval a X.env) :: starEach [] X.env := by rfl) :
    DF X g pu (.Call (.Name "list" p) [.Call (.Name "range" p2) [a] [] pos2] [] pos) (dLstRg m) W :=
  PE.imp (pe_listRg hc hg hm (prg_1 hgr hmr ha na2) na) fun σ H Q ⟨xs, env, S, w⟩ => ⟨xs, env, S, Want.bind w fun d env' v H' e s r w' => by
    dsimp only at w'
    split at w'
    · rename_i j
      split at w'
      · rename_i hz
        rw [Bool.and_eq_true, decide_eq_true_eq, decide_eq_true_eq] at hz
        exact ⟨j, (Rep.shell r).int, .of_le (by omega) hz.2 (by omega) hz.1, fun q hq => w' _ _ (s.grow (same_new hq)) (RepF.lst s (isDs_rg j) hq (s.free S hq))⟩
      · exact w'.elim
    · exact w'.elim⟩
end

/-! ### sorted -/
def insI (x : Int) : List Int → List Int
  | [] => [x]
  | y :: r => if x ≤ y then x :: y :: r else y :: insI x r
def sortI : List Int → List Int
  | [] => []
  | x :: r => insI x (sortI r)
theorem insI_perm (x : Int) : ∀ l : List Int, (insI x l).Perm (x :: l)
  | [] => .refl _
  | y :: r => by
    unfold insI
    split
    · exact .refl _
    · exact ((insI_perm x r).cons y).trans (.swap x y r)
theorem sortI_perm : ∀ l : List Int, (sortI l).Perm l
  | [] => .refl _
  | x :: r => (insI_perm x (sortI r)).trans ((sortI_perm r).cons x)
theorem insI_le {x : Int} : ∀ {l : List Int}, l.Pairwise (· ≤ ·) → (insI x l).Pairwise (· ≤ ·)
  | [], _ => List.pairwise_singleton _ _
  | y :: r, h => by
    unfold insI
    rw [List.pairwise_cons] at h
    split
    · rename_i hx
      rw [List.pairwise_cons, List.pairwise_cons]
      exact ⟨fun z hz => by
        rcases List.mem_cons.mp hz with rfl | hz
        · exact hx
        · exact Int.le_trans hx (h.1 z hz), h⟩
    · rename_i hx
      rw [List.pairwise_cons]
      exact ⟨fun z hz => by
        rcases List.mem_cons.mp ((insI_perm x r).mem_iff.mp hz) with rfl | hz
        · omega
        · exact h.1 z hz, insI_le h.2⟩
theorem sortI_le : ∀ l : List Int, (sortI l).Pairwise (· ≤ ·)
  | [] => List.Pairwise.nil
  | _ :: r => insI_le (sortI_le r)
theorem sorted_one : ∀ {l l' : List Int}, l.Perm l' → l.Pairwise (· ≤ ·) → l'.Pairwise (· ≤ ·) → l = l'
  | [], l', p, _, _ => p.nil_eq
  | a :: r, [], p, _, _ => absurd p.symm.nil_eq (by simp)
  | a :: r, b :: r', p, h, h' => by
    rw [List.pairwise_cons] at h h'
    have e : a = b := by
      have h1 : a = b ∨ b ≤ a := by
        rcases List.mem_cons.mp (p.mem_iff.mp List.mem_cons_self) with e | e
        · exact .inl e
        · exact .inr (h'.1 a e)
      have h2 : b = a ∨ a ≤ b := by
        rcases List.mem_cons.mp (p.mem_iff.mpr List.mem_cons_self) with e | e
        · exact .inl e
        · exact .inr (h.1 b e)
      omega
    subst e
    rw [sorted_one p.cons_inv h.2 h'.2]
theorem sortI_of {ns ns' : List Int} (p : ns'.Perm ns) (h : ns'.Pairwise (· ≤ ·)) : ns' = sortI ns := sorted_one (p.trans (sortI_perm ns).symm) h (sortI_le ns)
section
variable {prog : Program} {w : World} {A : Around} {E : Value → Shared → Prop} {s : Shared}
/-- the items of a tuple collected -/
theorem col_tup {t : Addr} {vs : List Value} {Q : List Value → Shared → Prop} (ht : s.heap.IsTuple t vs.toArray) (hz : vs.length ≤ sizeLine)
    (h : Q vs { s with heap := (s.heap.push (seqObj "list" #[] 0)).update s.heap.objs.size (Obj.mapSeq (· ++ vs.toArray)) }) : wpAny (model prog w) A (collect (.ref t)) Q E s := by
  obtain ⟨o, e1, e2, n, e3⟩ := id ht
  have old : (s.heap.push (seqObj "list" #[] 0)).get? t = some o := Heap.get?_push_of_some _ e1
  have mine : (s.heap.push (seqObj "list" #[] 0)).get? s.heap.objs.size = some (seqObj "list" #[] 0) := Heap.get?_push_size _ rfl
  have room : ((#[] : Array Value) ++ vs.toArray).size ≤ sizeLine + 1 := by simp only [Array.size_append, List.size_toArray, List.length_nil]; omega
  unfold collect
  refine wpAny_bind (wpAny_runValue (codeAny_builtin entry_proto_collect' ?_))
  show wpAny _ _ (do again (.builtin "list.__iadd__" ⟨[← newList [], .ref t], []⟩)) _ _ s
  refine wpAny_bind (wpAny_newList (wpAny_pure ⟨Code.quiet_builtin _ (by decide +kernel), codeAny_builtin entry_list_iadd' ?_⟩))
  show wpAny _ _ (Builtin.List.listExtendWith (.ref s.heap.objs.size) (.ref t) (.ref s.heap.objs.size)) _ _ { s with heap := s.heap.push (seqObj "list" #[] 0) }
  unfold Builtin.List.listExtendWith
  refine wpAny_bind (wpAny_typeOf (T := "tuple") ⟨o, old, e2⟩ ?_)
  rw [if_pos (by rw [show (Value.type "tuple" == Value.type "tuple") = true from rfl, Bool.or_true])]
  refine wpAny_bind (listItems_at old e3 (wpAny_bind (listItems_at (xs := #[]) (n := 0) mine rfl ?_)))
  rw [if_neg (by simp)]
  refine wpAny_bind (listUpdate_at (xs := #[]) (n := 0) mine rfl (wpAny_pure ?_) (Nat.zero_le _) room)
  show wpAny (model prog w) A (do
      let o ← load s.heap.objs.size
      match o.data with
      | .seq xs _ => pure xs.toList
      | _ => unsupported "internal:collect") Q E { s with heap := (s.heap.push (seqObj "list" #[] 0)).update s.heap.objs.size (Obj.mapSeq (· ++ vs.toArray)) }
  refine wpAny_bind (wpAny_load (get?_update_seq mine _) ?_)
  show wpAny _ _ (pure ((#[] : Array Value) ++ vs.toArray).toList) Q E _
  rw [show ((#[] : Array Value) ++ vs.toArray).toList = vs by simp]
  exact wpAny_pure h
/-- sorted(t), t a tuple of integers -/
theorem srt_tup {t : Addr} {vs : List Value} {ns : List Int} {Q : Value → Shared → Prop} (ht : s.heap.IsTuple t vs.toArray) (hi : IntsAre vs ns) (hz : vs.length ≤ sizeLine)
    (h : ∀ out : List Value, SrtO.Srtd SrtO.ltIv out → SrtO.Stb SrtO.ltIv out vs → Q (.ref (s.heap.objs.size + 1)) { s with heap := sortedAll s.heap vs out.toArray }) : wpAny (model prog w) A (call (.builtin "sorted") [.ref t]) Q E s := by
  refine Calls.call_function_entry kind_sorted plain_sorted entry_sorted (args_sorted1 _) ?_
  unfold Builtin.«sorted»
  refine wpAny_bind (m := checkCount "sorted" 1 1 _) (wpAny_pure (wpAny_bind (col_tup ht hz (wpAny_bind (wpAny_newList ?_ hz)))))
  have sz : ((s.heap.push (seqObj "list" #[] 0)).update s.heap.objs.size (Obj.mapSeq (· ++ vs.toArray))).objs.size = s.heap.objs.size + 1 := by
    rw [Heap.size_update, size_push']
  have new : (((s.heap.push (seqObj "list" #[] 0)).update s.heap.objs.size (Obj.mapSeq (· ++ vs.toArray))).push (seqObj "list" vs.toArray 0)).get? (s.heap.objs.size + 1) = some (seqObj "list" vs.toArray 0) := by
    rw [← sz]; exact Heap.get?_push_size _ rfl
  show wpAny _ _ _ _ _ { s with heap := ((s.heap.push (seqObj "list" #[] 0)).update s.heap.objs.size (Obj.mapSeq (· ++ vs.toArray))).push (seqObj "list" vs.toArray 0) }
  rw [sz]
  refine wpAny_bind (wpAny_holding (wpAny_call_entry PyProof.Rows.slot_list_sort ⟨_, new, rfl⟩ PyProof.Rows.entry_list_sort
    (SrtO.list_sort_ord SrtO.swo_int new hz (fun h2 => SrtO.ints_sortable hi h2) fun out h1 h2 => ⟨_, rfl, ?_⟩) (PyProof.Rows.args_list_sort _)))
  exact wpAny_pure ⟨_, rfl, h out h1 h2⟩
end
section
variable {X : Cx}
def rSortB (K : PySem.W.Frag) : List V → Hp → VK → Prop := fun vs H Q => ∃ (a : Addr) (ns : List Int), vs = [V.ref a] ∧ (SqL K H a (ns.map V.int) ∨ SqT K H a (ns.map V.int)) ∧
  ∀ p : Addr, H p = none → Q (.ref p) (upd H p (.lst ((sortI ns).map V.int)))
theorem cr_sortB : CallR X (.builtin "sorted") (rSortB X.K) := by
  intro pins s σ H vs us Q I r h
  obtain ⟨a, ns, rfl, hs, q⟩ := h
  rcases hs with hs | hs
  · exact cr_sortedI pins s σ H _ us Q I r ⟨a, ns, rfl, hs, fun ns' p h1 h2 hp => by rw [sortI_of h1 h2]; exact q p hp⟩
  · obtain ⟨its, rv, ht, hz⟩ := I.tuple hs
    rw [Vals.ref1 r]
    have hi := rv.ints
    refine srt_tup ht hi (by rw [← rv.length]; exact hz) fun out h1 h2 => ?_
    obtain ⟨k1, k2, k3⟩ := SrtO.ints_out hi h1 h2
    obtain ⟨ep, he'⟩ := PyProof.Rows.sortedAll_at s.heap its out.toArray
    have hlen : ((out.map SrtO.iv).map V.int).length ≤ sizeLine := by
      rw [List.length_map, k2.length_eq]
      rw [List.length_map] at hz
      exact hz
    have q' := q (s.heap.objs.size + 1) (I.hok.fresh (Nat.le_succ _))
    rw [← sortI_of k2 k3] at q'
    exact ⟨.ref _, upd H (s.heap.objs.size + 1) (.lst ((out.map SrtO.iv).map V.int)), I.laid (t' := s.toks) (fun _ _ => PyProof.Rows.sortedAll_old) (Nat.le_succ _) ⟨hlen, out, ep, vals_of_ints k1, he'⟩, rfl, q'⟩
end
def bSorted : List D → M D
  | [.lst xs] => match intsOf xs with
    | some ns => .ok (.lst ((sortI ns).map D.int))
    | none => stuck
  | [.tup xs] => match intsOf xs with
    | some ns => .ok (.lst ((sortI ns).map D.int))
    | none => stuck
  | _ => stuck
theorem bSorted_nr : NoRL bSorted := fun ds k p h => by
  unfold bSorted at h
  split at h <;> (try split at h) <;> cases h
theorem vcf_sorted {c : Cc} : VCF c (rSortB c.K) bSorted := fun Z H vs ds d Q hP r e k => by
  unfold bSorted at e
  split at e
  · split at e
    · rename_i xs ns hn
      obtain ⟨v, rfl, r1⟩ := r.one
      obtain ⟨a, ws, rfl, h1, h2⟩ := r1.lst
      cases e
      exact ⟨a, ns, rfl, .inl (by rw [← intsOf_rep hn h2]; exact SqL.of h1), fun l hl => k _ _ (same_new hl) (repV_lst hl (isDs_ints (sortI ns)))⟩
    · cases e
  · split at e
    · rename_i xs ns hn
      obtain ⟨v, rfl, r1⟩ := r.one
      obtain ⟨a, ws, rfl, h1, h2⟩ := r1.tup
      cases e
      exact ⟨a, ns, rfl, .inr (by rw [← intsOf_rep hn h2]; exact h1), fun l hl => k _ _ (same_new hl) (repV_lst hl (isDs_ints (sortI ns)))⟩
    · cases e
  · cases e
end Dn

/-! Dn31 -/
set_option Elab.async false
set_option linter.all false
set_option maxRecDepth 100000
set_option maxHeartbeats 2000000
/-! Dn31: list(enumerate(xs)), xs a list. -/
namespace Dn
open PySem PySem.Spec L2
open PyProof.Rows hiding St

theorem en_nolen : typeLookup (.type "enumerate") "__len__" = pure none := by rw [typeLookup_type, builtinLookup_eq_fast]; kernel_rfl
theorem en_nohint : typeLookup (.type "enumerate") "__length_hint__" = pure none := by rw [typeLookup_type, builtinLookup_eq_fast]; kernel_rfl
abbrev lstO (acc : Array Value) (c : Nat) : Obj := { cls := .type "list", dict := none, data := .seq acc c, slots := #[] }
/-- an enumerate object about to give number i; it may have given tuples out -/
def EnSt (h : Heap) (e it : Addr) (i : Nat) (S : Addr) : Prop :=
  (∃ old, IsEnum h e it ((i : Nat) : Int) old) ∨ ∃ (old : Value) (T : Addr) (f : Bool) (oT : Obj), IsEnumHeld h e it ((i : Nat) : Int) old T f ∧ h.get? T = some oT ∧ T ≠ e ∧ T ≠ it ∧ T ≠ S
/-- the pairs made so far, above lo, rising -/
structure EnG (xs : Array Value) (lo : Addr) (h : Heap) (as : List Addr) : Prop where
  up : as.Pairwise (· < ·)
  lo : ∀ a ∈ as, lo < a
  at' : ∀ (j : Nat) (a : Addr), as[j]? = some a → ∃ (t : Tok) (x : Value), xs[j]? = some x ∧ h.get? a = some { cls := .type "tuple", data := .seq #[.int ((j : Nat) : Int) t, x] }
theorem EnG.lt {xs : Array Value} {lo : Addr} {h : Heap} {as : List Addr} (g : EnG xs lo h as) {a : Addr} (ha : a ∈ as) : a < h.objs.size := by
  obtain ⟨j, hj⟩ := List.mem_iff_getElem?.mp ha
  obtain ⟨_, _, _, q⟩ := g.at' j a hj
  exact Heap.lt_size q
theorem EnG.snoc {xs : Array Value} {lo : Addr} {h h' : Heap} {as : List Addr} {a : Addr} {t : Tok} {x : Value} (g : EnG xs lo h as) (hl : ∀ b ∈ as, b < a) (h0 : lo < a) (hx : xs[as.length]? = some x)
    (ha : h'.get? a = some { cls := .type "tuple", data := .seq #[.int ((as.length : Nat) : Int) t, x] }) (k : ∀ b o, b ∈ as → h.get? b = some o → h'.get? b = some o) : EnG xs lo h' (as ++ [a]) := by
  refine ⟨?_, ?_, ?_⟩
  · rw [List.pairwise_append]
    refine ⟨g.up, List.pairwise_singleton _ _, fun b hb c hc => ?_⟩
    cases List.mem_singleton.mp hc
    exact hl b hb
  · intro b hb
    rw [List.mem_append, List.mem_singleton] at hb
    rcases hb with hb | rfl
    · exact g.lo b hb
    · exact h0
  · intro j b hj
    by_cases h1 : j < as.length
    · rw [List.getElem?_append_left h1] at hj
      obtain ⟨t', x', q1, q2⟩ := g.at' j b hj
      exact ⟨t', x', q1, k b _ (List.mem_of_getElem? hj) q2⟩
    · by_cases h2 : j = as.length
      · subst h2
        rw [List.getElem?_append_right (Nat.le_refl _), Nat.sub_self] at hj
        cases hj
        exact ⟨t, x, hx, ha⟩
      · rw [List.getElem?_eq_none (by rw [List.length_append, List.length_singleton]; omega)] at hj
        cases hj

section
variable {prog : Program} {w : World} {A : Around} {E : Value → Shared → Prop} {s : Shared} {e it l S : Addr} {xs : Array Value}
theorem en_item {i : Nat} {x : Value} {Q : Option Value → Shared → Prop} (st : EnSt s.heap e it i S) (hS : S < s.heap.objs.size) (hit : s.heap.IsListIter it l i) (hl : s.heap.IsList l xs) (hx : xs[i]? = some x) (hne : e ≠ it)
    (hQ : ∀ h', EnSt h' e it (i + 1) S → h'.IsListIter it l (i + 1) → h'.get? s.heap.objs.size = some { cls := .type "tuple", data := .seq #[.int i s.toks, x] } → (∀ b o, b ≠ e → b ≠ it → s.heap.get? b = some o → h'.get? b = some o) → Q (some (.ref s.heap.objs.size)) { s with heap := h', toks := s.toks + 1 }) :
    wpAny (model prog w) A (pyNext (.ref e)) Q E s := by
  have e1 : ((i + 1 : Nat) : Int) = (i : Int) + 1 := by omega
  have nit : s.heap.objs.size ≠ it := let ⟨_, z, _⟩ := hit; Nat.ne_of_gt (Heap.lt_size z)
  rcases st with ⟨old, he⟩ | ⟨old, T, f, oT, he, hT, r1, r2, r3⟩
  · refine wpAny_pyNext_enum_item he hit hl hx hne fun h' ho hi ht _ hk => hQ h' (.inr ⟨x, s.heap.objs.size, false, _, ?_, ht, Nat.ne_of_gt (Heap.lt_size he), nit, Nat.ne_of_gt hS⟩) hi ht hk
    rw [e1]; exact ho
  · refine wpAny_pyNext_enum_item_held he hT r1 r2 hit hl hx hne fun h' ho hi ht _ hk => hQ h' (.inr ⟨old, T, true, oT, ?_, hk T _ r1 r2 hT, r1, r2, r3⟩) hi ht hk
    rw [e1]; exact ho
theorem en_done {i : Nat} {Q : Option Value → Shared → Prop} (hh : A.handled = none) (st : EnSt s.heap e it i S) (hit : s.heap.IsListIter it l i) (hl : s.heap.IsList l xs) (hx : xs[i]? = none)
    (hQ : ∀ h', Heap.ExtBut it s.heap h' → Q none { s with heap := h' }) : wpAny (model prog w) A (pyNext (.ref e)) Q E s := by
  rcases st with ⟨old, he⟩ | ⟨old, T, f, oT, he, _, _, _, _⟩
  · exact wpAny_pyNext_enum_end hh he hit hl hx hQ
  · exact wpAny_pyNext_enum_end_held hh he hit hl hx hQ
theorem en_loop {R : Result → Shared → Prop} (hh : A.handled = none) (heS : e < S) (hiS : it < S) (hlS : l < S) (hne : e ≠ it) (hle : l ≠ e) (hli : l ≠ it) (hn : xs.size ≤ sizeLine) (res : Value) {h₁ : Heap}
    (hR : ∀ h' tk acc c as, (∀ b o, b ≠ S → b ≠ e → b ≠ it → h₁.get? b = some o → h'.get? b = some o) → h'.get? S = some (lstO acc c) → as.length = xs.size → EnG xs S h' as → acc.toList = as.map Value.ref → R (.ok (.ret res)) { s with heap := h', toks := tk }) :
    ∀ (k i : Nat) (h : Heap) (tk c : Nat) (acc : Array Value) (as : List Addr), i + k = xs.size → EnSt h e it i S → h.IsListIter it l i → h.IsList l xs → (∀ b o, b ≠ S → b ≠ e → b ≠ it → h₁.get? b = some o → h.get? b = some o) →
      h.get? S = some (lstO acc c) → acc.toList = as.map Value.ref → as.length = i → EnG xs S h as →
      codeAny (model prog w) A (.builtin "list.extend.loop" ⟨[.ref S, .ref e, res], []⟩) R { s with heap := h, toks := tk }
  | 0, i, h, tk, c, acc, as, hk, st, hit, hl, kp, hS, ha, hal, hG => by
    refine codeAny_builtin PySem.F.entry_extend_loop ?_
    rw [Around.under_plainId PySem.F.plain_extend_loop _]
    show wpAny _ A.in1 (pyNext (.ref e) >>= _) _ _ _
    refine wpAny_bind (en_done (A := A.in1) hh st hit hl (Array.getElem?_eq_none (Nat.le_of_eq (by omega))) fun h' hx => ?_)
    have hxs : ∀ b o, b ≠ it → h.get? b = some o → h'.get? b = some o := hx
    refine wpAny_pure (hR h' tk acc c as (fun b o n1 n2 n3 z => hxs b o n3 (kp b o n1 n2 n3 z)) (hxs S _ (Nat.ne_of_gt hiS) hS) (by omega) ⟨hG.up, hG.lo, fun j a hj => ?_⟩ ha)
    obtain ⟨t, x, q1, q2⟩ := hG.at' j a hj
    exact ⟨t, x, q1, hxs a _ (Nat.ne_of_gt (Nat.lt_trans hiS (hG.lo a (List.mem_of_getElem? hj)))) q2⟩
  | k + 1, i, h, tk, c, acc, as, hk, st, hit, hl, kp, hS, ha, hal, hG => by
    have hlt : i < xs.size := by omega
    have hsz : acc.size = i := by rw [← Array.length_toList, ha, List.length_map, hal]
    have hSl : S < h.objs.size := Heap.lt_size hS
    refine codeAny_builtin PySem.F.entry_extend_loop ?_
    rw [Around.under_plainId PySem.F.plain_extend_loop _]
    show wpAny _ A.in1 (pyNext (.ref e) >>= _) _ _ _
    refine wpAny_bind (en_item (s := { s with heap := h, toks := tk }) (S := S) st hSl hit hl (Array.getElem?_eq_getElem hlt) hne fun h' st' hit' ht hkp => ?_)
    replace hkp : ∀ b o, b ≠ e → b ≠ it → h.get? b = some o → h'.get? b = some o := hkp
    replace ht : h'.get? h.objs.size = some { cls := .type "tuple", data := .seq #[.int i tk, xs[i]] } := ht
    have hS' : h'.get? S = some (lstO acc c) := hkp S _ (Nat.ne_of_gt heS) (Nat.ne_of_gt hiS) hS
    generalize hu : h'.update S (Obj.mapSeq (·.push (Value.ref h.objs.size))) = u
    have up : ∀ b o, b ≠ S → h'.get? b = some o → u.get? b = some o := fun b o hb z => by rw [← hu]; exact (Heap.get?_update_other _ _ (Ne.symm hb)).trans z
    have hSu : ∃ c', u.get? S = some (lstO (acc.push (Value.ref h.objs.size)) c') := ⟨_, by rw [← hu]; exact Heap.get?_update_self _ hS' rfl⟩
    obtain ⟨c', hSu⟩ := hSu
    have st2 : EnSt u e it (i + 1) S := by
      rcases st' with ⟨old, z⟩ | ⟨old, T, f, oT, z, zT, r1, r2, r3⟩
      · exact .inl ⟨old, up e _ (Nat.ne_of_lt heS) z⟩
      · exact .inr ⟨old, T, f, oT, up e _ (Nat.ne_of_lt heS) z, up T _ r3 zT, r1, r2, r3⟩
    have hit2 : u.IsListIter it l (i + 1) := hit'.at fun o z => up it o (Nat.ne_of_lt hiS) z
    have hl2 : u.IsList l xs := hl.at fun o z => up l o (Nat.ne_of_lt hlS) (hkp l o hle hli z)
    have hG2 : EnG xs S u (as ++ [h.objs.size]) := by
      subst hal
      exact hG.snoc (fun b hb => hG.lt hb) hSl (Array.getElem?_eq_getElem hlt) (up _ _ (Nat.ne_of_gt hSl) ht) fun b o hb z => up b o (Nat.ne_of_gt (hG.lo b hb)) (hkp b o (Nat.ne_of_gt (Nat.lt_trans heS (hG.lo b hb))) (Nat.ne_of_gt (Nat.lt_trans hiS (hG.lo b hb))) z)
    show wpAny _ A.in1 (updateSeq S (·.push (Value.ref h.objs.size)) >>= _) _ _ _
    refine wpAny_bind (wpAny_updateSeq hS' rfl ?_ (by rw [hsz]; omega) (by show (acc.push (Value.ref h.objs.size)).size ≤ sizeLine + 1; rw [Array.size_push, hsz]; omega))
    rw [show ({ s with heap := h', toks := tk + 1 } : Shared).heap.update S (Obj.mapSeq (·.push (Value.ref h.objs.size))) = u from hu]
    exact wpAny_pure ⟨plainId_quiet PySem.F.plain_extend_loop _, en_loop hh heS hiS hlS hne hle hli hn res hR k (i + 1) u (tk + 1) _ _ (as ++ [h.objs.size]) (by omega) st2 hit2 hl2 (fun b o n1 n2 n3 z => up b o n1 (hkp b o n2 n3 (kp b o n1 n2 n3 z))) hSu
      (by rw [Array.toList_push, ha, List.map_append]; rfl) (by rw [List.length_append, hal]; rfl) hG2⟩
end

section
variable {prog : Program} {w : World} {A : Around} {E : Value → Shared → Prop} {s : Shared} {e it l : Addr} {xs : Array Value}
theorem en_hint {Q : Bool → Shared → Prop} (hT : s.TypeIs (.ref e) "enumerate") (h : Q true s) : wpAny (model prog w) A (Builtin.List.listLengthHint (.ref e)) Q E s := by
  unfold Builtin.List.listLengthHint
  refine wpAny_bind (wpAny_specialOf hT en_nolen ?_)
  show wpAny _ A (specialOf (Value.ref e) (Str.ofString "__length_hint__") >>= _) _ _ s
  exact wpAny_bind (wpAny_specialOf hT en_nohint (wpAny_pure h))
/-- what the list's object is behind the call -/
def EnOut (xs : Array Value) (S e it : Addr) (h₁ : Heap) (s : Shared) (Q : Value → Shared → Prop) (res : Value) : Prop :=
  ∀ h' tk acc c as, (∀ b o, b ≠ S → b ≠ e → b ≠ it → h₁.get? b = some o → h'.get? b = some o) → h'.get? S = some (lstO acc c) → as.length = xs.size → EnG xs S h' as → acc.toList = as.map Value.ref → Q res { s with heap := h', toks := tk }
theorem en_list {Q : Value → Shared → Prop} (hh : A.handled = none) (hn : xs.size ≤ sizeLine) (he : IsEnum s.heap e it 0 .none) (hit : s.heap.IsListIter it l 0) (hl : s.heap.IsList l xs) (hne : e ≠ it) (hle : l ≠ e) (hli : l ≠ it)
    (hQ : EnOut xs s.heap.objs.size e it s.heap s Q (.ref s.heap.objs.size)) : wpAny (model prog w) A (call (.type "list") [.ref e]) Q E s := by
  generalize hS0 : s.heap.objs.size = S at hQ
  have heS : e < S := by rw [← hS0]; exact Heap.lt_size he
  have hiS : it < S := by rw [← hS0]; obtain ⟨_, z, _⟩ := id hit; exact Heap.lt_size z
  have hlS : l < S := by rw [← hS0]; obtain ⟨_, z, _⟩ := id hl; exact Heap.lt_size z
  refine callType_codes (Q₁ := fun obj s₁ => obj = .ref S ∧ s₁ = { s with heap := s.heap.push (lstO #[] 0) }) PySem.F.called_list (PySem.F.typeCall_list_1 _) PySem.F.entry_list_init (code_list_new _ ⟨by rw [hS0], rfl⟩) ?_
  rintro obj s₁ ⟨rfl, rfl⟩
  have k0 : ∀ b o, s.heap.get? b = some o → (s.heap.push (lstO #[] 0)).get? b = some o := fun b o z => Heap.get?_push_of_some _ z
  have g0 : (s.heap.push (lstO #[] 0)).get? S = some (lstO #[] 0) := by rw [← hS0]; exact Heap.get?_push_size _ rfl
  generalize s.heap.push (lstO #[] 0) = u0 at k0 g0
  refine ⟨⟨_, g0, rfl⟩, PySem.F.args_list_init_2 _ _, ?_⟩
  show wpAny _ _ (do let old ← Builtin.List.listItems (.ref S); Builtin.List.listUpdate (.ref S) (fun _ => #[]); letGo old.toList.reverse; Builtin.List.listExtendWith (.ref S) (.ref e) .none) _ _ _
  refine wpAny_bind ?_
  unfold Builtin.List.listItems
  refine wpAny_bind (wpAny_seqItems g0 rfl (wpAny_pure ?_))
  refine wpAny_bind (m := Builtin.List.listUpdate (.ref S) (fun _ => #[])) ?_
  show wpAny _ _ (updateSeq S (fun _ => #[])) _ _ _
  refine wpAny_updateSeq g0 rfl ?_
  have g1 : ∃ c, (u0.update S (Obj.mapSeq (fun _ => (#[] : Array Value)))).get? S = some (lstO #[] c) := ⟨_, Heap.get?_update_self _ g0 rfl⟩
  have k1 : ∀ b o, b ≠ S → u0.get? b = some o → (u0.update S (Obj.mapSeq (fun _ => (#[] : Array Value)))).get? b = some o := fun b o hb z => (Heap.get?_update_other _ _ (Ne.symm hb)).trans z
  show wpAny _ _ _ _ _ { s with heap := u0.update S (Obj.mapSeq (fun _ => (#[] : Array Value))) }
  generalize u0.update S (Obj.mapSeq (fun _ => (#[] : Array Value))) = u1 at g1 k1
  obtain ⟨c1, g1⟩ := g1
  refine wpAny_bind (wpAny_letGo ?_)
  have k2 : ∀ b o, b ≠ S → s.heap.get? b = some o → u1.get? b = some o := fun b o hb z => k1 b o hb (k0 b o z)
  have he1 : IsEnum u1 e it 0 .none := k2 e _ (Nat.ne_of_lt heS) he
  unfold Builtin.List.listExtendWith
  refine wpAny_bind (wpAny_typeOf (T := "enumerate") ⟨_, he1, rfl⟩ ?_)
  have ns : Builtin.List.listSameRef (.ref S) (.ref e) = false := by simp [Builtin.List.listSameRef, Nat.ne_of_gt heS]
  have nl : (Value.type "enumerate" == Value.type "list") = false := by decide
  have nt : (Value.type "enumerate" == Value.type "tuple") = false := by decide
  simp only [ns, nl, nt, Bool.or_false, Bool.false_eq_true, if_false]
  refine wpAny_bind (wpAny_pyIter_enum he1 ?_)
  refine wpAny_bind (wpAny_holding (en_hint ⟨_, he1, rfl⟩ ?_))
  have fin : ∀ (u : Heap) (c tk : Nat), (∀ b o, b ≠ S → u1.get? b = some o → u.get? b = some o) → u.get? S = some (lstO #[] c) →
      codeAny (model prog w) A.in1 (.builtin "list.extend.loop" ⟨[.ref S, .ref e, .none], []⟩) (wants (fun r s₂ => r = .none ∧ Q (.ref S) s₂) E) { s with heap := u, toks := tk } := fun u c tk ku gu => by
    refine en_loop (prog := prog) (w := w) (A := A.in1) (R := wants (fun r s₂ => r = .none ∧ Q (.ref S) s₂) E) (l := l) (xs := xs) (h₁ := s.heap) (s := s) hh heS hiS hlS hne hle hli hn .none (fun h' tk' acc c' as q1 q2 q3 q4 q5 => ⟨rfl, hQ h' tk' acc c' as q1 q2 q3 q4 q5⟩) xs.size 0 u tk c #[] [] (Nat.zero_add _) (.inl ⟨.none, ?_⟩) (hit.at fun o z => ?_) (hl.at fun o z => ?_) (fun b o n1 _ _ z => ku b o n1 (k2 b o n1 z)) gu rfl rfl
      ⟨List.Pairwise.nil, (fun _ z => nomatch z), (fun j a z => by simp at z)⟩
    · exact ku e _ (Nat.ne_of_lt heS) he1
    · exact ku it o (Nat.ne_of_lt hiS) (k2 it o (Nat.ne_of_lt hiS) z)
    · exact ku l o (Nat.ne_of_lt hlS) (k2 l o (Nat.ne_of_lt hlS) z)
  refine wpAny_ite_split (fun _ => ?_) (fun _ => wpAny_pure ⟨plainId_quiet PySem.F.plain_extend_loop _, fin u1 c1 _ (fun _ _ _ z => z) g1⟩)
  refine wpAny_bind (wpAny_rule (wpAny_bind ?_))
  show wpAny _ _ (updateSeq S (·.push .none) >>= fun _ => updateSeq S (·.pop)) _ _ _
  refine wpAny_bind (wpAny_updateSeq g1 rfl ?_)
  have g2 := Heap.get?_update_self (Obj.mapSeq (·.push Value.none)) g1 rfl
  refine wpAny_updateSeq (hz := by seq_fits) g2 rfl ?_
  refine wpAny_pure ⟨plainId_quiet PySem.F.plain_extend_loop _, fin _ _ _ (fun b o hb z => ?_) (Heap.get?_update_self (Obj.mapSeq (·.pop)) g2 rfl)⟩
  have nb : S ≠ b := Ne.symm hb
  rw [← z]
  exact (Heap.get?_update_other _ _ nb).trans (Heap.get?_update_other _ _ nb)
end
end Dn

/-! Dn32 -/
set_option Elab.async false
set_option linter.all false
set_option maxRecDepth 100000
set_option maxHeartbeats 2000000
/-! Dn32: list(enumerate(e)) as an own list; int dicts in own slots; three names at once. -/
namespace Dn
open PySem PySem.Spec L2
open PyProof.Rows hiding St

/-! ### list(enumerate(e)) -/
def numK : Nat → List V → List (Key × V)
  | _, [] => []
  | n, x :: r => (.inl ((n : Nat) : Int), x) :: numK (n + 1) r
theorem numK_len : ∀ (n : Nat) (xs : List V), (numK n xs).length = xs.length
  | _, [] => rfl
  | n, x :: r => by show (numK (n + 1) r).length + 1 = r.length + 1; rw [numK_len]
theorem numK_get : ∀ {n : Nat} {xs : List V} {j : Nat} {q : Key × V}, (numK n xs)[j]? = some q → ∃ x, xs[j]? = some x ∧ q = (.inl ((n + j : Nat) : Int), x)
  | n, [], j, q, h => by cases h
  | n, x :: r, 0, q, h => by cases h; exact ⟨x, rfl, rfl⟩
  | n, x :: r, j + 1, q, h => by
    obtain ⟨y, h1, h2⟩ := numK_get (n := n + 1) (xs := r) (j := j) h
    exact ⟨y, h1, by rw [h2, show n + 1 + j = n + (j + 1) by omega]⟩
section
variable {X : Cx} {pins : List (Addr × Obj)} {σ : L2.St} {H : Hp} {s : Shared}
theorem en_laid {h' : Heap} {tk c : Nat} {acc : Array Value} {as : List Addr} {S : Addr} {its : List Value} {xs : List V} (I : Inv X pins σ H s) (rv : Vals xs its) (hz : xs.length ≤ sizeLine) (hb : s.heap.objs.size ≤ S)
    (hk : ∀ b o, s.heap.get? b = some o → h'.get? b = some o) (hS : h'.get? S = some (lstO acc c)) (hl : as.length = its.length) (hG : EnG its.toArray S h' as) (ha : acc.toList = as.map Value.ref) :
    ∃ H' : Hp, Same H H' ∧ H S = none ∧ (∀ t ∈ as, H t = none) ∧ H' S = some (.lst (as.map V.ref)) ∧ (∀ (j : Nat) (t : Addr), as[j]? = some t → ∃ x, xs[j]? = some x ∧ H' t = some (.tup [.int ((j : Nat) : Int), x])) ∧ Inv X pins σ H' { s with heap := h', toks := tk } := by
  have hlen := rv.length
  have nS : S ∉ as := fun z => Nat.lt_irrefl _ (hG.lo _ z)
  have nd : as.Nodup := List.Pairwise.imp (fun {a b} (z : a < b) => Nat.ne_of_lt z) hG.up
  have fS : H S = none := I.hok.fresh hb
  have fA : ∀ t ∈ as, H t = none := fun t ht => I.hok.fresh (Nat.le_trans hb (Nat.le_of_lt (hG.lo t ht)))
  generalize eG : LiI.putT (upd H S (.lst (as.map V.ref))) as (numK 0 xs) = G
  have gat : Paired (fun (t : Addr) (p : Key × V) => G t = some (.tup [kV p.1, p.2])) as (numK 0 xs) := by
    rw [← eG]; exact LiI.putT_at as _ _ (by rw [numK_len]; omega) nd
  have goff : ∀ b, b ∉ as → b ≠ S → G b = H b := fun b h1 h2 => by rw [← eG, LiI.putT_off as _ _ h1, upd_ne h2]
  have gS : G S = some (.lst (as.map V.ref)) := by rw [← eG, LiI.putT_off as _ _ nS, upd_same]
  have old : ∀ b o, s.heap.get? b = some o → b ∉ as ∧ b ≠ S := fun b o z => by
    have hb' := Heap.lt_size z
    exact ⟨fun m => Nat.lt_irrefl _ (Nat.lt_trans (Nat.lt_of_lt_of_le hb' hb) (hG.lo b m)), Nat.ne_of_lt (Nat.lt_of_lt_of_le hb' hb)⟩
  have up : Same H G := fun b u z => by
    rw [goff b (fun m => by rw [fA b m] at z; cases z) (ne_of_none z fS)]; exact z
  have each : ∀ (j : Nat) (t : Addr), as[j]? = some t → ∃ x, xs[j]? = some x ∧ G t = some (.tup [.int ((j : Nat) : Int), x]) := fun j t hj => by
    obtain ⟨p, q1, q2⟩ := LiI.paired_get gat hj
    obtain ⟨x, q3, q4⟩ := numK_get q1
    subst q4
    rw [Nat.zero_add] at q2
    exact ⟨x, q3, q2⟩
  refine ⟨G, up, fS, fA, gS, each, ?_⟩
  have un : Un (frs X.stack) [] H G s.heap h' := by
    refine ⟨fun b o q _ _ _ => hk b o q, fun b o q _ _ _ => ⟨o.slots, hk b o q⟩, fun b o q n _ => ?_, fun b o q _ => ⟨o, hk b o q⟩, fun b ys q => up b _ q, fun b o u q => up b _ q, fun b ps q => ⟨#[], by rw [up b _ q]; simp⟩⟩
    rw [goff b (old b o q).1 (old b o q).2]
    exact n
  refine I.call' (ch := []) rfl un (fun b u q => ?_) I.bare (fun b z => nomatch z)
  by_cases m : b ∈ as
  · obtain ⟨j, hj⟩ := List.mem_iff_getElem?.mp m
    obtain ⟨x, q1, q2⟩ := each j b hj
    rw [q2] at q
    cases q
    obtain ⟨t, y, q3, q4⟩ := hG.at' j b hj
    obtain ⟨y', q5, ry⟩ := rv.get q1
    have ey : y' = y := by
      rw [List.getElem?_toArray, q5] at q3
      exact Option.some.inj q3
    subst ey
    exact ⟨by show 2 ≤ sizeLine; decide, [.int ((j : Nat) : Int) t, y'], .cons ⟨t, rfl⟩ (.cons ry .nil), ⟨_, q4, rfl, _, rfl⟩⟩
  · by_cases m2 : b = S
    · subst m2
      rw [gS] at q
      cases q
      refine ⟨by rw [List.length_map]; omega, acc.toList, c, by rw [ha]; exact LiI.vals_refs as, ?_⟩
      rw [Array.toArray_toList]
      exact hS
    · rw [goff b m m2] at q
      exact (I.hok b u q).stay (fun d v _ z => hk d v z) (fun d z => up d _ z) fun d ys z => up d _ z
end
def tLstEn (K : PySem.W.Frag) (te : TE) : TE := fun σ H Q => te σ H fun x H1 => ∃ a xs, x = .ref a ∧ SqL K H1 a xs ∧
  ∀ (H' : Hp) (p : Addr) (ts : List Addr), Same H1 H' → H1 p = none → (∀ t ∈ ts, H1 t = none) → H' p = some (.lst (ts.map V.ref)) → ts.length = xs.length → (∀ (j : Nat) (t : Addr), ts[j]? = some t → ∃ x, xs[j]? = some x ∧ H' t = some (.tup [.int ((j : Nat) : Int), x])) → Q (.ref p) H'
theorem pe_lstEn {X : Cx} {e : Expr} {te : TE} {p p2 pos pos2 : Pos} (hc : X.calm = true) (hg : Gl X "list") (hm : X.mg "list" = none) (hge : Gl X "enumerate") (hme : X.mg "enumerate" = none) (he : PE X e te)
    (na : starEach [.Call (.Name "enumerate" p2) [e] [] pos2] X.env = (false, eval (.Call (.Name "enumerate" p2) [e] [] pos2) X.env) :: starEach [] X.env := by rfl) (hs : starEach [e] X.env = (false, eval e X.env) :: starEach [] X.env := by rfl) :
    PE X (.Call (.Name "list" p) [.Call (.Name "enumerate" p2) [e] [] pos2] [] pos) (tLstEn X.K te) := by
  refine ⟨fun pins s σ H Q I h => ?_⟩
  refine Call_ (ld_blt I hg hm boot_list (PyProof.Rows.callWith_type1 (args_cons ?_ na) na))
  refine Call_ (ld_blt I hge hme boot_enumerate (PyProof.Rows.callWith_type1 (args_cons (thn (he.run pins s σ H _ I h) fun u s1 ⟨x, H1, I1, r1, a, xs, ex, hq, q⟩ => args_nil ?_) hs) hs))
  subst ex
  cases r1
  obtain ⟨its, rv, pl, hz⟩ := I1.list hq
  have al : a < s1.heap.objs.size := by obtain ⟨o, n, ho, _⟩ := id pl; exact Heap.lt_size ho
  refine call_enumerate_list pl.isList fun h1 he1 hit1 hz1 hk1 => args_nil ?_
  have hl1 : h1.IsList a its.toArray := pl.isList.at fun o z => hk1 a o z
  have szl : its.toArray.size ≤ sizeLine := by rw [List.size_toArray, ← rv.length]; exact hz
  refine en_list (l := a) (xs := its.toArray) (s := { s1 with heap := h1 }) (I1.ok.hd hc) szl he1 hit1 hl1 (Nat.succ_ne_self _) (Nat.ne_of_lt (Nat.lt_succ_of_lt al)) (Nat.ne_of_lt al) fun h' tk acc c as q1 q2 q3 q4 q5 => ?_
  have hb : s1.heap.objs.size ≤ h1.objs.size := by rw [hz1]; omega
  obtain ⟨H', k1, k2, k3, k4, k5, J⟩ := en_laid (tk := tk) I1 rv hz hb (fun b o z => by
    have hb' := Heap.lt_size z
    exact q1 b o (Nat.ne_of_lt (Nat.lt_of_lt_of_le hb' hb)) (Nat.ne_of_lt (Nat.lt_succ_of_lt hb')) (Nat.ne_of_lt hb') (hk1 b o z)) q2 (by rw [q3, List.size_toArray]) q4 q5
  exact ⟨.ref _, H', J, rfl, q H' _ as k1 k2 k3 k4 (by rw [q3, List.size_toArray, rv.length]) k5⟩
end Dn

/-! Dn33 -/
set_option Elab.async false
set_option linter.all false
set_option maxRecDepth 100000
set_option maxHeartbeats 2000000
/-! Dn33: list(enumerate(e)) of data; three names at once. -/
namespace Dn
open PySem PySem.Spec L2
open PyProof.Rows hiding St

theorem IsDs.of_get {c : Cc} {G : Hp} : ∀ {ds : List D} {vs : List V}, ds.length = vs.length → (∀ (j : Nat) (d : D) (v : V), ds[j]? = some d → vs[j]? = some v → IsD c G d v) → IsDs c G ds vs
  | [], [], _, _ => IsDs.nil
  | [], _ :: _, h, _ => by cases h
  | _ :: _, [], h, _ => by cases h
  | d :: ds, v :: vs, h, k => IsDs.cons (k 0 d v rfl rfl) (IsDs.of_get (Nat.succ.inj h) fun j e u h1 h2 => k (j + 1) e u h1 h2)
def dLstEn (m : Ev) : Ev := fun env => bnd (m env) fun p => match p.1 with
  | .lst xs => .ok (.lst (enumD xs), p.2)
  | _ => stuck
section
variable {X : Cx} {P : Program} {w : World} {K : PySem.W.Frag} {mg : Str → Option Value} {base : Heap} {N : List Str} {sc : Scope} {k : Nat} {bk nn : Bool} {g : Ce} {W : WX}
variable {pu pu1 pu2 sh sh1 sh2 : Bool} {m m1 m2 m3 : Ev} {a b e : Expr} {pos p p2 pos2 : Pos} {x y z : Str} {ma : Av} {shs : List Bool}
theorem f_lstEn (hc : X.calm = true) (hg : Gl X "list") (hm : X.mg "list" = none) (hge : Gl X "enumerate") (hme : X.mg "enumerate" = none) (he : DE X g pu false e m W)
    (na : starEach [.Call (.Name "enumerate" p2) [e] [] pos2] X.env = (false, eval (.Call (.Name "enumerate" p2) [e] [] pos2) X.env) :: starEach [] X.env := by rfl) (hs : starEach [e] X.env = (false, eval e X.env) :: starEach [] X.env := by rfl) :
    DF X g pu (.Call (.Name "list" p) [.Call (.Name "enumerate" p2) [e] [] pos2] [] pos) (dLstEn m) W :=
  PE.imp (pe_lstEn hc hg hm hge hme he na hs) fun σ H Q ⟨xs, env, S, w⟩ => ⟨xs, env, S, Want.bind w fun d env' v H1 e s r w' => by
    dsimp only at w'
    split at w'
    · rename_i ds
      have r' : IsD (cc X g) (hide H1 (Hid xs env σ)) (.lst ds) v := r
      unfold IsD at r'
      obtain ⟨a, vs, rfl, hq, hr⟩ := r'
      refine ⟨a, vs, rfl, SqL.hid (SqL.of hq), fun H' p ts kk n1 n2 hp hl each => ?_⟩
      have np : ¬ Hid xs env σ p := fun z => s.st.hid (by rw [s.hid]; exact z) n1
      refine w' _ H' (s.grow kk) ⟨p, _, rfl, s.free S n1, hp, s.st.newX kk n1 hp, ts.map V.ref, rfl, ?_⟩
      rw [s.hid]
      refine IsDs.of_get (by rw [enumD_len, List.length_map, hl, hr.len]) fun j d v h1 h2 => ?_
      obtain ⟨x, q1, rfl⟩ := enumD_get h1
      rw [List.getElem?_map] at h2
      obtain ⟨t, q2, rfl⟩ := Option.map_eq_some_iff.mp h2
      obtain ⟨u, q3, q4⟩ := each j t q2
      obtain ⟨u', q5, q6⟩ := hr.getD q1
      rw [q3] at q5; cases q5
      have nt := n2 t (List.mem_of_getElem? q2)
      have ht : hide H' (fun b => Hid xs env σ b ∨ b = p) t = some (.tup [.int ((j : Nat) : Int), u]) := by
        rw [hide_of]
        · exact q4
        · rintro (z | z)
          · exact s.st.hid (by rw [s.hid]; exact z) nt
          · rw [z, hp] at q4; cases q4
      unfold IsD
      refine ⟨t, _, rfl, .inl (Rd.of ht), IsDs.cons isInt (IsDs.cons (q6.same fun b o hb => ?_) IsDs.nil)⟩
      obtain ⟨z1, z2⟩ := hide_some hb
      rw [hide_of fun z => z.elim z1 (ne_of_none z2 n1)]
      exact kk _ _ z2
    · exact w'.elim⟩

/-! ### three names at once -/
def sPar3 (i j l : Nat) (ms : Av) : Sv := fun env => bnd (ms env) fun p => match p.1 with
  | [d1, d2, d3] => bnd (put i (.va d1) p.2) fun e1 => bnd (put j (.va d2) e1) fun e2 => bnd (put l (.va d3) e2) fun e3 => .ok (.nx, e3)
  | _ => stuck
theorem IsDs.three {c : Cc} {H : Hp} {d1 d2 d3 : D} {vs : List V} (h : IsDs c H [d1, d2, d3] vs) : ∃ v1 v2 v3, vs = [v1, v2, v3] ∧ IsD c H d1 v1 ∧ IsD c H d2 v2 ∧ IsD c H d3 v3 := by
  unfold IsDs at h
  obtain ⟨v, r, rfl, h1, h2⟩ := h
  obtain ⟨v2, v3, rfl, h3, h4⟩ := h2.two
  exact ⟨v, v2, v3, rfl, h1, h3, h4⟩
theorem s_par3 {cx : Expr} {px py pz pt pt2 : Pos} {kt k2 : Nat} (C : Cok nn X W P w K mg base N sc k false) (i j l : Nat) (hi : N[i]? = some x) (hj : N[j]? = some y) (hl : N[l]? = some z) (hij : i ≠ j) (hil : i ≠ l) (hjl : j ≠ l)
    (hx : locL sc x = true) (hy : locL sc y = true) (hz : locL sc z = true) (hsh : shs.all (!·) = true) (ha : DA X g pu shs [a, b, cx] ma W)
    (hw : swappedStores [.Tuple [.Name x px, .Name y py, .Name z pz] kt pt] (.Tuple [a, b, cx] k2 pt2) (dumE sc) = pure (some [x, y, z]))
    (hs : swapsWithSole [.Tuple [.Name x px, .Name y py, .Name z pz] kt pt] (.Tuple [a, b, cx] k2 pt2) pos.line X.env = pure false := by rfl) :
    DS X g (.Assign [.Tuple [.Name x px, .Name y py, .Name z pz] kt pt] (.Tuple [a, b, cx] k2 pt2) pos) (sPar3 i j l ma) W :=
  PS.imp (ps_par3 C.calm (by rw [C.eN]; exact C.nd) (by rw [C.eN]; exact hi) (by rw [C.eN]; exact hj) (by rw [C.eN]; exact hl) hij hil hjl (by rw [C.es]; exact eq_of_beq hx) (by rw [C.es]; exact eq_of_beq hy) (by rw [C.es]; exact eq_of_beq hz) ha (by rw [sws_eq C.es]; exact hw) hs) fun E σ H ⟨xs, env, S, w⟩ =>
    ⟨xs, env, S, WantS.bindE w fun ds env1 vs H1 e1 s1 r1 w1 => by
      have rc := r1.clean hsh
      dsimp only at w1
      split at w1
      · rename_i d1 d2 d3
        obtain ⟨v1, v2, v3, rfl, h1, h2, h3⟩ := rc.three
        rw [← s1.hid] at h1 h2 h3
        have S1 := s1.st.setVa i h1
        rcases put_cases i (.va d1) env1 with q | ⟨q, h0⟩ <;> rw [q] at w1
        · exact w1.elim
        rw [bnd_ok] at w1
        rcases put_cases j (.va d2) (env1.set i (.va d1)) with q | ⟨q, h0'⟩ <;> rw [q] at w1
        · exact w1.elim
        rw [bnd_ok] at w1
        rcases put_cases l (.va d3) ((env1.set i (.va d1)).set j (.va d2)) with q | ⟨q, h0''⟩ <;> rw [q] at w1
        · exact w1.elim
        have k1 := kept_va (i := i) (d := d1) (v := v1) s1 h0
        have ka := kept_set_va (env := env1) (σ := σ) (H := H1) (i := i) (d := d1) (v := v1) h0
        have kb := kept_set_va (env := env1.set i (.va d1)) (σ := σ.set i (some v1)) (H := H1) (i := j) (d := d2) (v := v2) h0'
        have h2' := h2.same (Kept.smH ka)
        have h3' := (h3.same (Kept.smH ka)).same (Kept.smH kb)
        exact ⟨v1, v2, v3, rfl, w1 _ H1 ((S1.setVa j h2').setVa l h3') ((k1.trans kb).trans (kept_set_va h0''))⟩
      · exact w1.elim⟩
end

section
variable {c : Cc} {xs : Addr → Prop} {env : En} {σ : St} {H : Hp} {a : Addr} {o : HO} {d : D}
theorem hidX : (Hid (fun b => xs b ∨ b = a) env σ) = fun b => Hid xs env σ b ∨ b = a := by
  funext b; apply propext
  constructor
  · rintro (z | z | z)
    · exact .inl (.inl z)
    · exact .inl (.inr z)
    · exact .inr z
  · rintro ((z | z) | z)
    · exact .inl z
    · exact .inr (.inl z)
    · exact .inr (.inr z)
/-- an object that was held aside goes to a slot -/
theorem StOk.takeX (S : StOk c (fun b => xs b ∨ b = a) env σ H) (hx : ¬ xs a) (ho : H a = some o) (r : ObjRep c (hide H (fun b => Hid xs env σ b ∨ b = a)) d o) (i : Nat) : StOk c xs (env.set i (.ow d)) (σ.set i (some (.ref a))) H := by
  refine StOk.setOw (StOk.lessX (fun _ z => .inl z) S) i (fun z => z.elim (S.xb a (.inr rfl)).2 hx) ho r (fun j e v h1 h2 => ?_) (fun j e b u h1 h2 h3 => ?_)
  · obtain ⟨v', h3, h4⟩ := S.va j e h1
    rw [h2] at h3; cases h3
    rw [← hidX]; exact h4
  · obtain ⟨b', u', h4, h5, h6⟩ := S.ow j e h1
    rw [h2] at h4; cases h4
    rw [h3] at h5; cases h5
    rw [← hidX]; exact h6
end
/-- two new objects and a value -/
def sPar3F (i j l : Nat) (m1 m2 m3 : Ev) : Sv := fun env => bnd (m1 env) fun p1 => bnd (m2 p1.2) fun p2 => bnd (m3 p2.2) fun p3 =>
  bnd (put i (.ow p1.1) p3.2) fun e1 => bnd (put j (.ow p2.1) e1) fun e2 => bnd (put l (.va p3.1) e2) fun e3 => .ok (.nx, e3)
section
variable {X : Cx} {P : Program} {w : World} {K : PySem.W.Frag} {mg : Str → Option Value} {base : Heap} {N : List Str} {sc : Scope} {k : Nat} {bk nn : Bool} {g : Ce} {W : WX}
variable {m1 m2 m3 : Ev} {a b cx : Expr} {pos : Pos} {x y z : Str}
theorem s_par3F {px py pz pt pt2 : Pos} {kt k2 : Nat} (C : Cok nn X W P w K mg base N sc k false) (i j l : Nat) (hi : N[i]? = some x) (hj : N[j]? = some y) (hl : N[l]? = some z) (hij : i ≠ j) (hil : i ≠ l) (hjl : j ≠ l)
    (hx : locL sc x = true) (hy : locL sc y = true) (hz : locL sc z = true) (ha : DF X g true a m1 W) (hb : DF X g true b m2 W) (hc : DE X g true false cx m3 W)
    (hw : swappedStores [.Tuple [.Name x px, .Name y py, .Name z pz] kt pt] (.Tuple [a, b, cx] k2 pt2) (dumE sc) = pure (some [x, y, z]))
    (hs : swapsWithSole [.Tuple [.Name x px, .Name y py, .Name z pz] kt pt] (.Tuple [a, b, cx] k2 pt2) pos.line X.env = pure false := by rfl)
    (na : starEach [a, b, cx] X.env = (false, eval a X.env) :: starEach [b, cx] X.env := by rfl) (nb : starEach [b, cx] X.env = (false, eval b X.env) :: starEach [cx] X.env := by rfl) (nc : starEach [cx] X.env = (false, eval cx X.env) :: starEach [] X.env := by rfl) :
    DS X g (.Assign [.Tuple [.Name x px, .Name y py, .Name z pz] kt pt] (.Tuple [a, b, cx] k2 pt2) pos) (sPar3F i j l m1 m2 m3) W :=
  PS.imp (ps_par3 C.calm (by rw [C.eN]; exact C.nd) (by rw [C.eN]; exact hi) (by rw [C.eN]; exact hj) (by rw [C.eN]; exact hl) hij hil hjl (by rw [C.es]; exact eq_of_beq hx) (by rw [C.es]; exact eq_of_beq hy) (by rw [C.es]; exact eq_of_beq hz) (pa_cons ha (pa_cons hb (pa_cons hc pa_nil nc) nb) na) (by rw [sws_eq C.es]; exact hw) hs) fun E σ H ⟨xs, env, S, w⟩ => by
    unfold sPar3F at w
    refine ⟨xs, env, S, WantS.bindE w fun d1 env1 v1 H1 q1 s1 r1 _ => ?_⟩
    obtain ⟨rfl, k1⟩ := s1.pr rfl
    obtain ⟨a1, o1, rfl, n1, ho1, S1, r1⟩ := r1
    rw [q1, bnd_ok] at w
    dsimp only at w
    refine ⟨_, env1, S1, ?_⟩
    cases q2 : m2 env1 with
    | error er =>
      rw [q2] at w
      cases er with
      | raise kk pp => exact fun cls dd H' kx r => w cls dd σ H' rfl (s1.sm.trans kx) r
      | stuck => exact w.elim
    | ok pr =>
    obtain ⟨d2, env2⟩ := pr
    rintro v2 H2 s2 r2
    obtain ⟨rfl, k2⟩ := s2.pr rfl
    obtain ⟨a2, o2, rfl, n2, ho2, S2, r2⟩ := r2
    rw [q2, bnd_ok] at w
    dsimp only at w
    refine ⟨_, env2, S2, ?_⟩
    cases q3 : m3 env2 with
    | error er =>
      rw [q3] at w
      cases er with
      | raise kk pp => exact fun cls dd H' kx r => w cls dd σ H' rfl ((s1.sm.trans s2.sm).trans kx) r
      | stuck => exact w.elim
    | ok pr =>
    obtain ⟨d3, env3⟩ := pr
    rintro v3 H3 s3 r3
    obtain ⟨rfl, k3⟩ := s3.pr rfl
    rw [q3, bnd_ok] at w
    dsimp only at w
    rcases put_cases i (.ow d1) env3 with q | ⟨q, h0⟩ <;> rw [q] at w
    · exact w.elim
    rw [bnd_ok] at w
    rcases put_cases j (.ow d2) (env3.set i (.ow d1)) with q | ⟨q, h1⟩ <;> rw [q] at w
    · exact w.elim
    rw [bnd_ok] at w
    rcases put_cases l (.va d3) ((env3.set i (.ow d1)).set j (.ow d2)) with q | ⟨q, h2⟩ <;> rw [q] at w
    · exact w.elim
    have n21 : a2 ≠ a1 := fun z => by rw [z, ho1] at n2; cases n2
    have hn2 : H a2 = none := by
      cases z : H a2 with
      | none => rfl
      | some u => rw [k1 _ _ z] at n2; cases n2
    have T2 := StOk.takeX s3.st (S1.newHid n2 <| .inr ·) (k3 _ _ ho2) (r2.same (hide_same k3)) j
    have subj : ∀ b, Owns (env3.set j (.ow d2)) (σ.set j (some (.ref a2))) b → Owns env3 σ b ∨ b = a2 := fun b z => owns_set_ow z
    have T1 := StOk.takeX T2 (fun z => S.newHid n1 (.inr z)) (k3 _ _ (k2 _ _ ho1)) (r1.same (fun b u hb => by
      obtain ⟨z1, z2⟩ := hide_some hb
      rw [hide_of]
      · exact k3 _ _ (k2 _ _ z2)
      · rintro ((z | z) | z)
        · rcases subj b z with z | z
          · exact z1 (.inl (.inl z))
          · exact ne_of_none z2 n2 z
        · exact z1 (.inl (.inr z))
        · exact z1 (.inr z))) i
    rw [List.set_comm _ _ (Ne.symm hij), List.set_comm _ _ (Ne.symm hij)] at T1
    have sub : ∀ b, Owns ((env3.set i (.ow d1)).set j (.ow d2)) ((σ.set i (some (.ref a1))).set j (some (.ref a2))) b → (Owns env3 σ b ∨ b = a1) ∨ b = a2 := fun b z => by
      rcases owns_set_ow z with z | z
      · exact .inl (owns_set_ow z)
      · exact .inr z
    have T3 := T1.setVa l (d := d3) (v := v3) (IsD.same (hide_sub fun b z => by
      rcases z with z | z
      · rcases sub b z with (z | z) | z
        · exact .inl z
        · exact .inr (.inl (.inr z))
        · exact .inr (.inr z)
      · exact .inr (.inl (.inl z))) _ _ r3)
    refine ⟨_, _, _, rfl, w _ H3 T3 ⟨fun b u hb => ?_, fun b hb => Same.th (Same.trans (Same.trans k1 k2) k3) b hb, fun z => ?_, by simp⟩⟩
    · obtain ⟨z1, z2⟩ := hide_some hb
      rw [hide_of]
      · exact k3 _ _ (k2 _ _ (k1 _ _ z2))
      · intro z
        rcases sub b (owns_set_va z) with (z | z) | z
        · exact z1 z
        · exact ne_of_none z2 n1 z
        · exact ne_of_none z2 hn2 z
    · have e0 := h0 z
      have f0 : isOw (env3.set i (.ow d1)) 0 = true := (isOw_get0 (by rw [List.getElem?_set_ne e0])).trans z
      have e1 := h1 f0
      have f1 : isOw ((env3.set i (.ow d1)).set j (.ow d2)) 0 = true := (isOw_get0 (by rw [List.getElem?_set_ne e1])).trans f0
      have e2 := h2 f1
      exact ⟨(isOw_get0 (by rw [List.getElem?_set_ne e2])).trans f1, by rw [List.getElem?_set_ne e2, List.getElem?_set_ne e1, List.getElem?_set_ne e0]⟩
end
end Dn

/-! Dn34 -/
set_option Elab.async false
set_option linter.all false
set_option maxRecDepth 100000
set_option maxHeartbeats 2000000
/-! Dn34: dicts with int and text keys in own slots. -/
namespace Dn
open PySem PySem.Spec L2
open PyProof.Rows hiding St

def kOf : D → Option Key
  | .int i => some (.inl i)
  | .str x => some (.inr x)
  | _ => none
@[simp] theorem kOf_dk (k : Key) : kOf (dk k) = some k := by cases k <;> rfl
def lookD (k : Key) : List D → List D → Option D
  | q :: ks, w :: ws => if kOf q = some k then some w else lookD k ks ws
  | _, _ => none
def setD (k : Key) (d : D) : List D → List D → List D
  | q :: ks, w :: ws => (if kOf q = some k then d else w) :: setD k d ks ws
  | _, _ => []
def putD (k : Key) (d : D) (ks ws : List D) : D := if (lookD k ks ws).isSome = true then .dct ks (setD k d ks ws) else .dct (ks ++ [dk k]) (ws ++ [d])
section
variable {c : Cc} {G : Hp}
theorem kOf_rep {P : Addr → Prop} {H : Hp} {d : D} {k : Key} {v : V} (h : kOf d = some k) (r : RepS c P H d v) : v = kV k := by
  cases d with
  | int i => cases h; exact r.int
  | str x => cases h; exact r.str
  | _ => cases h
theorem lookD_rep {k : Key} : ∀ {kvs : List (Key × V)} {ws : List D}, IsDs c G ws (kvs.map (·.2)) → (∀ d, lookD k (kvs.map fun p => dk p.1) ws = some d → ∃ v, valV kvs k = some v ∧ IsD c G d v) ∧ (lookD k (kvs.map fun p => dk p.1) ws = none → valV kvs k = none)
  | [], ws, r => ⟨fun d h => (by cases h), fun _ => rfl⟩
  | p :: kvs, [], r => by have := r.len; cases this
  | p :: kvs, w :: ws, r => by
    rw [List.map_cons] at r
    unfold IsDs at r
    obtain ⟨v, vs, e, h1, h2⟩ := r
    obtain ⟨e1, e2⟩ := List.cons.inj e
    subst e1 e2
    have ih := lookD_rep (k := k) h2
    rw [List.map_cons]
    unfold lookD
    rw [kOf_dk]
    by_cases z : p.1 = k
    · rw [if_pos (by rw [z]), valV_pos z]
      exact ⟨fun d h => by cases h; exact ⟨_, rfl, h1⟩, fun h => by cases h⟩
    · rw [if_neg (fun q => z (Option.some.inj q)), valV_neg z]
      exact ih
theorem setD_rep {k : Key} {d : D} {v : V} (hd : IsD c G d v) : ∀ {kvs : List (Key × V)} {ws : List D}, IsDs c G ws (kvs.map (·.2)) → IsDs c G (setD k d (kvs.map fun p => dk p.1) ws) ((kvs.map fun kv => if kv.1 = k then (kv.1, v) else kv).map (·.2))
  | [], ws, r => IsDs.nil
  | p :: kvs, [], r => by have := r.len; cases this
  | p :: kvs, w :: ws, r => by
    rw [List.map_cons] at r
    unfold IsDs at r
    obtain ⟨u, vs, e, h1, h2⟩ := r
    obtain ⟨e1, e2⟩ := List.cons.inj e
    subst e1 e2
    have ih := setD_rep (k := k) hd h2
    rw [List.map_cons, List.map_cons, List.map_cons]
    unfold setD
    rw [kOf_dk]
    by_cases z : p.1 = k
    · rw [if_pos (by rw [z]), if_pos z]
      exact IsDs.cons hd ih
    · rw [if_neg (fun q => z (Option.some.inj q)), if_neg z]
      exact IsDs.cons h1 ih
theorem putD_rep {k : Key} {d : D} {v : V} {kvs : List (Key × V)} {ws : List D} (hd : IsD c G d v) (r : IsDs c G ws (kvs.map (·.2))) : ObjRep c G (putD k d (kvs.map fun p => dk p.1) ws) (.dK (putK kvs k v)) := by
  have lk := lookD_rep (k := k) r
  unfold putD putK
  rw [valV_any]
  cases q : lookD k (kvs.map fun p => dk p.1) ws with
  | none =>
    rw [lk.2 q]
    exact ⟨_, rfl, by rw [if_neg (by decide), List.map_append]; rfl, by rw [if_neg (by decide), List.map_append]; exact r.append (IsDs.cons hd IsDs.nil)⟩
  | some d0 =>
    obtain ⟨v0, e1, _⟩ := lk.1 d0 q
    rw [e1, if_pos (by rfl), if_pos (by rfl)]
    refine ⟨_, rfl, ?_, setD_rep hd r⟩
    rw [List.map_map]
    refine List.map_congr_left fun p _ => ?_
    show dk p.1 = dk (if p.1 = k then (p.1, v) else p).1
    split <;> rfl
end

/-! ### d[k], k in d -/
def dIxK : D → D → M D
  | .dct ks ws, q => match kOf q with
    | some k => match lookD k ks ws with
      | some d => .ok d
      | none => stuck
    | none => stuck
  | _, _ => stuck
def dInK : D → D → M D
  | q, .dct ks ws => match kOf q with
    | some k => .ok (.bl (lookD k ks ws).isSome)
    | none => stuck
  | _, _ => stuck
def dNotInK : D → D → M D
  | q, .dct ks ws => match kOf q with
    | some k => .ok (.bl (!(lookD k ks ws).isSome))
    | none => stuck
  | _, _ => stuck
theorem dIxK_nr : NoR2 dIxK := fun d1 d2 k p h => by
  unfold dIxK at h
  split at h <;> (try split at h) <;> (try split at h) <;> cases h
theorem dInK_nr : NoR2 dInK := fun d1 d2 k p h => by
  unfold dInK at h
  split at h <;> (try split at h) <;> cases h
theorem dNotInK_nr : NoR2 dNotInK := fun d1 d2 k p h => by
  unfold dNotInK at h
  split at h <;> (try split at h) <;> cases h
def rGetK : R2 := fun x y H Q => ∃ a v, x = .ref a ∧ DGet H a y (some v) ∧ Q v H
def rInK : R2 := fun y x H Q => ∃ a o, x = .ref a ∧ DGet H a y o ∧ Q (.bl o.isSome) H
def rNotInK : R2 := fun y x H Q => ∃ a o, x = .ref a ∧ DGet H a y o ∧ Q (.bl (!o.isSome)) H
theorem repS_dct {c : Cc} {P : Addr → Prop} {H : Hp} {ks ws : List D} {v : V} (r : RepS c P H (.dct ks ws) v) : ∃ a kvs, v = .ref a ∧ Rd H a (.dK kvs) ∧ ks = kvs.map (fun p => dk p.1) ∧ IsDs c (hide H P) ws (kvs.map (·.2)) := by
  obtain ⟨a, e, kvs, h1, h2, h3⟩ := r
  exact ⟨a, kvs, e, h1, h2, h3⟩
theorem vb_getK {c : Cc} : VB c rGetK dIxK := by
  intro P H x y d1 d2 d Q hP r1 r2 e k
  unfold dIxK at e
  split at e
  · rename_i ks ws
    split at e
    · rename_i kk hk
      split at e
      · rename_i d0 hd
        cases e
        obtain ⟨a, kvs, rfl, h1, rfl, h3⟩ := repS_dct r1
        obtain ⟨v, e1, e2⟩ := (lookD_rep h3).1 _ hd
        exact ⟨a, v, rfl, .inl ⟨kvs, kk, h1, kOf_rep hk r2, e1.symm⟩, k _ H (Same.refl _) e2⟩
      · cases e
    · cases e
  · cases e
theorem look_isSome {c : Cc} {G : Hp} {k : Key} {kvs : List (Key × V)} {ws : List D} (r : IsDs c G ws (kvs.map (·.2))) : (lookD k (kvs.map fun p => dk p.1) ws).isSome = (valV kvs k).isSome := by
  have lk := lookD_rep (k := k) r
  cases q : lookD k (kvs.map fun p => dk p.1) ws with
  | none => rw [lk.2 q]; rfl
  | some d => obtain ⟨v, e1, _⟩ := lk.1 d q; rw [e1]; rfl
theorem vb_inK {c : Cc} : VB c rInK dInK := by
  intro P H x y d1 d2 d Q hP r1 r2 e k
  unfold dInK at e
  split at e
  · rename_i ks ws
    split at e
    · rename_i kk hk
      cases e
      obtain ⟨a, kvs, rfl, h1, rfl, h3⟩ := repS_dct r2
      exact ⟨a, valV kvs kk, rfl, .inl ⟨kvs, kk, h1, kOf_rep hk r1, rfl⟩, k _ H (Same.refl _) (by rw [look_isSome h3]; exact isBl)⟩
    · cases e
  · cases e
theorem vb_notInK {c : Cc} : VB c rNotInK dNotInK := by
  intro P H x y d1 d2 d Q hP r1 r2 e k
  unfold dNotInK at e
  split at e
  · rename_i ks ws
    split at e
    · rename_i kk hk
      cases e
      obtain ⟨a, kvs, rfl, h1, rfl, h3⟩ := repS_dct r2
      exact ⟨a, valV kvs kk, rfl, .inl ⟨kvs, kk, h1, kOf_rep hk r1, rfl⟩, k _ H (Same.refl _) (by rw [look_isSome h3]; exact isBl)⟩
    · cases e
  · cases e
theorem op_inK {X : Cx} (hu : X.A.units + 1 < cLine) : OpR X (compareOp .In) rInK := by
  intro pins s σ H x y u v Q I rx ry h
  obtain ⟨a, o, rfl, g, q⟩ := h
  obtain rfl : v = Value.ref a := ry
  exact d_in hu I g rx fun s' I' => ⟨.bl o.isSome, H, I', rfl, q⟩
theorem op_notInK {X : Cx} (hu : X.A.units + 1 < cLine) : OpR X (compareOp .NotIn) rNotInK := by
  intro pins s σ H x y u v Q I rx ry h
  obtain ⟨a, o, rfl, g, q⟩ := h
  obtain rfl : v = Value.ref a := ry
  exact d_notIn hu I g rx fun s' I' => ⟨.bl (!o.isSome), H, I', rfl, q⟩
section
variable {X : Cx} {P : Program} {w : World} {K : PySem.W.Frag} {mg : Str → Option Value} {base : Heap} {N : List Str} {sc : Scope} {k : Nat} {bk nn : Bool} {g : Ce} {W : WX}
variable {pu pu1 pu2 sh sh1 sh2 : Bool} {m m1 m2 m3 : Ev} {a b e ke ve : Expr} {pos p p2 pos' pos2 : Pos} {x y z : Str} {ma : Av} {shs : List Bool} {i : Nat}
theorem un1 (C : Cok nn X W P w K mg base N sc k bk) : X.A.units + 1 < cLine := by have := C.room.un; omega
theorem eIxK (C : Cok nn X W P w K mg base N sc k bk) (hc : sh1 = false ∨ pu2 = true) (ha : DE X g pu1 sh1 a m1 W) (hb : DE X g pu2 sh2 b m2 W) (hn : NoSl b := by intro _ _; rfl) : DE X g (pu1 && pu2) false (.Subscript a b pos) (dBin dIxK m1 m2) W :=
  PE.imp (pe_dget (un1 C) ha hb hn) fun σ H Q h => t_bin (r := rGetK) vb_getK dIxK_nr hc h
theorem eInK (C : Cok nn X W P w K mg base N sc k bk) (hc : sh1 = false ∨ pu2 = true) (ha : DE X g pu1 sh1 a m1 W) (hb : DE X g pu2 sh2 b m2 W) (hm : behindInMarks .In b = false := by rfl) : DE X g (pu1 && pu2) false (.Compare a [.In] [b] pos) (dBin dInK m1 m2) W := e_cmp (op_inK (un1 C)) vb_inK dInK_nr hc hm ha hb
theorem eNotInK (C : Cok nn X W P w K mg base N sc k bk) (hc : sh1 = false ∨ pu2 = true) (ha : DE X g pu1 sh1 a m1 W) (hb : DE X g pu2 sh2 b m2 W) (hm : behindInMarks .NotIn b = false := by rfl) : DE X g (pu1 && pu2) false (.Compare a [.NotIn] [b] pos) (dBin dNotInK m1 m2) W := e_cmp (op_notInK (un1 C)) vb_notInK dNotInK_nr hc hm ha hb
theorem tInK (C : Cok nn X W P w K mg base N sc k bk) (hc : sh1 = false ∨ pu2 = true) (ha : DE X g pu1 sh1 a m1 W) (hb : DE X g pu2 sh2 b m2 W) (hm : behindInMarks .In b = false := by rfl) : DT X g (pu1 && pu2) (.Compare a [.In] [b] pos) (dTb (dBin dInK m1 m2)) W := t_cmp (op_inK (un1 C)) vb_inK dInK_nr hc hm ha hb
theorem tNotInK (C : Cok nn X W P w K mg base N sc k bk) (hc : sh1 = false ∨ pu2 = true) (ha : DE X g pu1 sh1 a m1 W) (hb : DE X g pu2 sh2 b m2 W) (hm : behindInMarks .NotIn b = false := by rfl) : DT X g (pu1 && pu2) (.Compare a [.NotIn] [b] pos) (dTb (dBin dNotInK m1 m2)) W := t_cmp (op_notInK (un1 C)) vb_notInK dNotInK_nr hc hm ha hb

/-! ### is None -/
theorem eNoneIs (hc : sh1 = false ∨ pu2 = true) (ha : DE X g pu1 sh1 a m1 W) (hb : DE X g pu2 sh2 b m2 W) (hm : behindInMarks .Is b = false := by rfl) : DE X g (pu1 && pu2) false (.Compare a [.Is] [b] pos) (dBin dIsN m1 m2) W := e_cmp op_isN vb_isN dIsN_nr hc hm ha hb
theorem eNoneNot (hc : sh1 = false ∨ pu2 = true) (ha : DE X g pu1 sh1 a m1 W) (hb : DE X g pu2 sh2 b m2 W) (hm : behindInMarks .IsNot b = false := by rfl) : DE X g (pu1 && pu2) false (.Compare a [.IsNot] [b] pos) (dBin dNotN m1 m2) W := e_cmp op_notN vb_notN dNotN_nr hc hm ha hb
theorem tNoneIs (hc : sh1 = false ∨ pu2 = true) (ha : DE X g pu1 sh1 a m1 W) (hb : DE X g pu2 sh2 b m2 W) (hm : behindInMarks .Is b = false := by rfl) : DT X g (pu1 && pu2) (.Compare a [.Is] [b] pos) (dTb (dBin dIsN m1 m2)) W := t_cmp op_isN vb_isN dIsN_nr hc hm ha hb
theorem tNoneNot (hc : sh1 = false ∨ pu2 = true) (ha : DE X g pu1 sh1 a m1 W) (hb : DE X g pu2 sh2 b m2 W) (hm : behindInMarks .IsNot b = false := by rfl) : DT X g (pu1 && pu2) (.Compare a [.IsNot] [b] pos) (dTb (dBin dNotN m1 m2)) W := t_cmp op_notN vb_notN dNotN_nr hc hm ha hb

/-! ### displays -/
theorem RepF.dct {c : Cc} {xs : Addr → Prop} {env : En} {σ : St} {H : Hp} {ks ws : List D} {kvs : List (Key × V)} (S : StOk c xs env σ H) {q : Addr} (hq : H q = none) (e : ks = kvs.map fun p => dk p.1) (r : IsDs c (hide H (Hid xs env σ)) ws (kvs.map (·.2))) {H' : Hp} (k : Same H H') (h' : H' q = some (.dK kvs)) :
    RepF c xs σ H (.dct ks ws) env (.ref q) H' := by
  refine ⟨q, _, rfl, hq, h', S.newX k hq h', kvs, rfl, e, r.same fun b o hb => ?_⟩
  obtain ⟨h1, h2⟩ := hide_some hb
  rw [hide_of fun z => z.elim h1 (ne_of_none h2 hq)]
  exact k _ _ h2
theorem f_dNew : DF X g true (.Dict [] [] pos) (dC (.dct [] [])) W := PE.imp pe_dnewK fun σ H Q ⟨xs, env, S, w⟩ p hp =>
  w _ _ ((Stp.refl S).grow (same_new hp)) (RepF.dct (kvs := []) S hp rfl IsDs.nil (same_new hp) upd_same)
theorem f_dOne {kk : Key} {v : V} {d : D} (hk : PE X ke (tC (kV kk))) (hv : PE X ve (tC v)) (hd : ∀ c H, IsD c H d v) : DF X g true (.Dict [some ke] [ve] pos) (dC (.dct [dk kk] [d])) W :=
  PE.imp (pe_disp (pps_cons hk hv pps_nil) rfl rfl (by simp) (by simp)) fun σ H Q ⟨xs, env, S, w⟩ p hp => by
    have k1 : Same H (upd (upd H p (.dK [])) p (.dK (mergeK [] [(kk, v)]))) := fun b o hb => by
      have ne := ne_of_none hb hp
      rw [upd_ne ne, upd_ne ne]; exact hb
    refine ⟨upd_same, [(kk, v)], rfl, by show 1 ≤ 15; decide, w _ _ ((Stp.refl S).grow k1) (RepF.dct (kvs := [(kk, v)]) S hp rfl (IsDs.cons (hd _ _) IsDs.nil) k1 ?_)⟩
    rw [upd_same]
    rfl

/-! ### d[k] = v, an own dict -/
def sSubK (i : Nat) (mi m : Ev) : Sv := fun env => bnd (m env) fun p => match p.2[i]? with
  | some (.ow _) => bnd (mi p.2) fun q => match q.2[i]?, kOf q.1 with
    | some (.ow (.dct ks ws)), some k => if ks.length < maxSeq then .ok (.nx, q.2.set i (.ow (putD k p.1 ks ws))) else stuck
    | _, _ => stuck
  | _ => stuck
theorem s_subK (C : Cok nn X W P w K mg base N sc k bk) (hx : PE X (.Name x p) (tVar i)) (hi : DE X g pu1 sh1 b m1 W) (he : DE X g pu false e m W)
    (hs : swapsWith e (some (.Subscript (.Name x p) b pos')) pos.line X.env = pure false := by rfl) : DS X g (.Assign [.Subscript (.Name x p) b pos'] e pos) (sSubK i m1 m) W :=
  PS.imp (ps_dput (un1 C) hx hi he hs) fun E σ H ⟨xs, env, S, w⟩ => ⟨xs, env, S, WantS.bindE w fun d env1 v H1 e1 s1 r1 w1 => by
    dsimp only at w1
    split at w1
    case h_2 => exact w1.elim
    rename_i d0 hi0
    obtain ⟨a, o0, ha0, ho0, hr0⟩ := s1.st.ow i d0 hi0
    refine ⟨.ref a, ha0, xs, env1, s1.st, WantS.bindE (WantS.after s1.kept w1) fun dq env2 vq H2 e2 s2 r2 w2 => ?_⟩
    dsimp only at w2
    split at w2
    case h_2 => exact w2.elim
    rename_i ks ws kk hi2 hkk
    split at w2
    case isFalse => exact w2.elim
    rename_i hlen
    obtain ⟨a', o2, ha2, ho2, hr2⟩ := s2.st.ow i _ hi2
    rw [ha0] at ha2; cases ha2
    obtain ⟨kvs, rfl, rfl, hr3⟩ := hr2
    rw [s2.hid, s1.hid] at hr3
    have r1' : IsD (cc X g) (hide H1 (Hid xs env1 σ)) d v := by rw [s1.hid]; exact r1
    have r2' := r1'.same s2.smH
    rw [s1.hid] at r2'
    rw [List.length_map] at hlen
    have oa : Hid xs env σ a := by rw [← s1.hid, ← s2.hid]; exact .inl ⟨i, _, hi2, ha0⟩
    have new := putD_rep (k := kk) r2' hr3
    have st := s2.st.change hi2 ha0 (d' := putD kk d (kvs.map fun p => dk p.1) ws) (H' := upd H2 a (.dK (putK kvs kk v))) hide_at upd_same (by rw [s2.hid, s1.hid]; exact new.upd oa)
    exact ⟨a, _, rfl, .inl ⟨kvs, kk, ho2, kOf_rep hkk (Rep.shell r2), by rw [maxSeq_eq]; exact hlen, rfl⟩, w2 σ _ st.st (s2.kept.trans st.kept)⟩⟩
end
end Dn

/-! PG1 -/
set_option Elab.async false
set_option linter.all false
set_option maxRecDepth 100000
set_option maxHeartbeats 1000000
namespace Dn
namespace LW
open PySem
/-! ### plain facts for every law -/
theorem dEq_int (i j : Int) : dEq (.int i) (.int j) = .ok (.bl (decide (i = j))) := rfl
theorem dNe_int (i j : Int) : dNe (.int i) (.int j) = .ok (.bl (!decide (i = j))) := rfl
theorem natAbs_mul_lt {a b : Int} {m n : Nat} (h1 : a.natAbs < 2 ^ m) (h2 : b.natAbs < 2 ^ n) : (a * b).natAbs < 2 ^ (m + n) := by
  rw [Int.natAbs_mul, Nat.pow_add]
  exact Nat.mul_lt_mul'' h1 h2
theorem lcL_map {mt : Gv} {te : Ev} {vs : List Nat} {f : D → D} {env : En} : ∀ (ds : List D), (∀ d, d ∈ ds → ∃ e1 e2, mt d env = .ok e1 ∧ te e1 = .ok (f d, e2) ∧ wipeE e2 vs = env) → lcL mt dYes te vs ds env = .ok (ds.map f, env)
  | [], _ => rfl
  | d :: r, h => by
    obtain ⟨e1, e2, q1, q2, q3⟩ := h d List.mem_cons_self
    unfold lcL
    rw [q1, bnd_ok]
    simp only [dYes, bnd_ok, if_true, q2, q3]
    rw [lcL_map r fun d' hd => h d' (List.mem_cons_of_mem _ hd)]
    rfl
/-- a comprehension with a test -/
theorem lcL_fmap {mt : Gv} {tt : Tv} {te : Ev} {vs : List Nat} {P : D → Bool} {f : D → D} {env : En} : ∀ (ds : List D), (∀ d, d ∈ ds → ∃ e1 e2 e3, mt d env = .ok e1 ∧ tt e1 = .ok (P d, e2) ∧ wipeE e2 vs = env ∧ (P d = true → te e2 = .ok (f d, e3) ∧ wipeE e3 vs = env)) → lcL mt tt te vs ds env = .ok ((ds.filter P).map f, env)
  | [], _ => rfl
  | d :: r, h => by
    obtain ⟨e1, e2, e3, q1, q2, q3, q4⟩ := h d List.mem_cons_self
    unfold lcL
    rw [q1, bnd_ok, q2, bnd_ok]
    have ih := lcL_fmap (P := P) (f := f) r fun d' hd => h d' (List.mem_cons_of_mem _ hd)
    cases hp : P d with
    | true => obtain ⟨q5, q6⟩ := q4 hp; simp only [if_true, q5, bnd_ok, q6, ih, List.filter_cons, hp, List.map_cons]
    | false =>
      simp only [Bool.false_eq_true, if_false, q3, ih, List.filter_cons, hp]
theorem bools_map : ∀ (bs : List Bool), bools (bs.map D.bl) = some bs
  | [] => rfl
  | b :: r => by
    rw [List.map_cons]
    unfold bools
    rw [bools_map r]
    rfl
theorem intsOf_map : ∀ (ss : List Int), intsOf (ss.map D.int) = some ss
  | [] => rfl
  | s :: r => by
    rw [List.map_cons]
    unfold intsOf
    rw [intsOf_map r]
    rfl
theorem intsOf_some : ∀ {ds : List D} {ws : List Int}, intsOf ds = some ws → ds = ws.map D.int
  | [], ws, h => by cases h; rfl
  | d :: r, ws, h => by
    cases d with
    | int i =>
      unfold intsOf at h
      cases e : intsOf r with
      | none => rw [e] at h; cases h
      | some w => rw [e] at h; cases h; rw [intsOf_some e]; rfl
    | _ => cases h
/-- whether it is an integer -/
def isI : D → Bool
  | .int _ => true
  | _ => false
theorem all_isI : ∀ (ds : List D), ds.all isI = (intsOf ds).isSome
  | [] => rfl
  | d :: r => by
    cases d with
    | int i =>
      rw [List.all_cons, all_isI r, show intsOf (D.int i :: r) = (intsOf r).map (i :: ·) from rfl]
      cases intsOf r <;> rfl
    | _ => rfl
theorem bAll_map (bs : List Bool) : bAll [.lst (bs.map D.bl)] = .ok (.bl (bs.all id)) := by
  simp only [bAll, bools_map]
theorem bAll_mapf {α : Type} (f : α → Bool) (xs : List α) : bAll [.lst (xs.map fun x => D.bl (f x))] = .ok (.bl (xs.all f)) := by
  rw [show xs.map (fun x => D.bl (f x)) = (xs.map f).map D.bl by rw [List.map_map]; rfl, bAll_map, List.all_map]
  rfl
theorem bSum_map (ss : List Int) : bSum [.lst (ss.map D.int)] = .ok (.int ss.sum) := by
  simp only [bSum, intsOf_map]
theorem dRng_ok {ms : Av} {env env' : En} {n : Int} (h : ms env = .ok ([.int n], env')) (h0 : smallI n = true) : dRng ms env = .ok (rngD 0 1 n.toNat, env') := by
  unfold dRng
  rw [h, bnd_ok]
  simp only [h0, if_true]
theorem mx2 : 2 ≤ maxSeq := by decide
theorem mx : 0 < maxSeq ∧ 1 < maxSeq ∧ 1 ≤ maxSeq ∧ 2 ≤ maxSeq := by decide
theorem mxs : 1 ≤ maxSeq ∧ 2 ≤ maxSeq ∧ 3 ≤ maxSeq ∧ 4 ≤ maxSeq ∧ 5 ≤ maxSeq ∧ 6 ≤ maxSeq ∧ 7 ≤ maxSeq ∧ 8 ≤ maxSeq ∧ 9 ≤ maxSeq ∧ 10 ≤ maxSeq ∧ 11 ≤ maxSeq ∧ 12 ≤ maxSeq ∧ 13 ≤ maxSeq ∧ 14 ≤ maxSeq ∧ 15 ≤ maxSeq ∧ 16 ≤ maxSeq := by decide
theorem le_maxSeq {n : Nat} (h : n ≤ 1000) : n ≤ maxSeq := Nat.le_trans h (by decide)
theorem smallI_of_le {n : Int} (h0 : 0 ≤ n) (h : n ≤ 1000) : smallI n = true := by
  unfold smallI
  rw [Bool.and_eq_true, decide_eq_true_eq, decide_eq_true_eq]
  omega
theorem dCall1 {f : List D → M D} {m : Ev} {env env' : En} {a r : D} (h : m env = .ok (a, env')) (hf : f [a] = .ok r) : dCall f (dCons m dNil) env = .ok (r, env') := by
  simp [dCall, dCons, dNil, h, hf]
theorem dCall2 {f : List D → M D} {m1 m2 : Ev} {env e1 e2 : En} {a b r : D} (h1 : m1 env = .ok (a, e1)) (h2 : m2 e1 = .ok (b, e2)) (hf : f [a, b] = .ok r) : dCall f (dCons m1 (dCons m2 dNil)) env = .ok (r, e2) := by
  simp [dCall, dCons, dNil, h1, h2, hf]
theorem dBin_ok {f : D → D → M D} {m1 m2 : Ev} {env e1 e2 : En} {a b r : D} (h1 : m1 env = .ok (a, e1)) (h2 : m2 e1 = .ok (b, e2)) (hf : f a b = .ok r) : dBin f m1 m2 env = .ok (r, e2) := by
  simp [dBin, h1, h2, hf]
theorem dTb_ok {m : Ev} {env e1 : En} {b : Bool} (h : m env = .ok (.bl b, e1)) : dTb m env = .ok (b, e1) := by
  simp [dTb, h]
theorem dTNot_ok {t : Tv} {env e1 : En} {b : Bool} (h : t env = .ok (b, e1)) : dTNot t env = .ok (!b, e1) := by
  simp [dTNot, h]
theorem dCons_ok {m : Ev} {ms : Av} {env e1 e2 : En} {a : D} {as : List D} (h1 : m env = .ok (a, e1)) (h2 : ms e1 = .ok (as, e2)) : dCons m ms env = .ok (a :: as, e2) := by
  simp [dCons, h1, h2]
theorem dCallN {f : List D → M D} {ms : Av} {env e1 : En} {as : List D} {r : D} (h1 : ms env = .ok (as, e1)) (hf : f as = .ok r) : dCall f ms env = .ok (r, e1) := by
  simp [dCall, h1, hf]
theorem sRet_ok {m : Ev} {env e1 : En} {d : D} (h : m env = .ok (d, e1)) : sRet m env = .ok (.rt d, e1) := by
  simp [sRet, h]
theorem dIf_ok {t : Tv} {m1 m2 : Ev} {env e1 : En} {b : Bool} (h : t env = .ok (b, e1)) : dIf t m1 m2 env = if b = true then m1 e1 else m2 e1 := by
  simp [dIf, h]
theorem sRaise_ok {i : Nat} {m : Ev} {env e1 : En} {d : D} (h : m env = .ok (d, e1)) : sRaise i m env = .error (.raise i d) := by
  simp [sRaise, h]
theorem dLst_ok {ms : Av} {env env' : En} {ds : List D} (h : ms env = .ok (ds, env')) (hl : ds.length ≤ 1000) : dLst ms env = .ok (.lst ds, env') := by
  unfold dLst
  rw [h, bnd_ok]
  simp only [le_maxSeq hl, if_true]
theorem dItems_lst {m : Ev} {env env' : En} {ds : List D} (h : m env = .ok (.lst ds, env')) : dItems m env = .ok (ds, env') := by
  unfold dItems
  rw [h]
  rfl
theorem dItems_tup {m : Ev} {env env' : En} {ds : List D} (h : m env = .ok (.tup ds, env')) : dItems m env = .ok (ds, env') := by
  unfold dItems
  rw [h]
  rfl
theorem set_back {env : En} {v : Nat} {s : Sl} (h1 : env[v]? = some s) : env.set v s = env := by
  apply List.ext_getElem?
  intro k
  by_cases e : v = k
  · subst e
    rw [List.getElem?_set, h1]
    have := (List.getElem?_eq_some_iff.mp h1).1
    simp [this]
  · rw [List.getElem?_set_ne e]
/-- a comprehension whose parts may change the slots (a drawing), but for the own one -/
theorem dLc_gen {mi : Iv} {mt : Gv} {tt : Tv} {te : Ev} {v : Nat} {env e0 e1 : En} {s : Sl} {ds rs : List D} (h : mi env = .ok (ds, e0)) (h0 : isOw e0 v = false) (h1 : e0[v]? = some s) (h2 : lcL mt tt te [v] ds (e0.set v .un) = .ok (rs, e1)) (h3 : rs.length ≤ 1000) : dLc mi mt tt te [v] env = .ok (.lst rs, e1.set v s) := by
  unfold dLc
  rw [h, bnd_ok]
  simp only [noOw, List.all_cons, List.all_nil, h0, Bool.not_false, Bool.and_self, if_true, wipeE, h2, ns_ok, bnd_ok, le_maxSeq h3, resE, h1, Option.getD_some]
theorem dLc_ok2 {mi : Iv} {mt : Gv} {tt : Tv} {te : Ev} {v : Nat} {env : En} {s : Sl} {ds rs : List D} (h : mi env = .ok (ds, env)) (h0 : isOw env v = false) (h1 : env[v]? = some s) (h2 : lcL mt tt te [v] ds (env.set v .un) = .ok (rs, env.set v .un)) (h3 : rs.length ≤ 1000) : dLc mi mt tt te [v] env = .ok (.lst rs, env) := by
  rw [dLc_gen h h0 h1 h2 h3, List.set_set, set_back h1]
theorem dTr_lst {m : Ev} {env env' : En} {rs : List D} (h : m env = .ok (.lst rs, env')) : dTr m env = .ok (!rs.isEmpty, env') := by
  unfold dTr
  rw [h]
  rfl
theorem dTr_bl {m : Ev} {env env' : En} {b : Bool} (h : m env = .ok (.bl b, env')) : dTr m env = .ok (b, env') := by
  unfold dTr
  rw [h]
  rfl
theorem ixl (x y : D) : dIx (.lst [x, y]) (.int 0) = .ok x ∧ dIx (.lst [x, y]) (.int 1) = .ok y := ⟨rfl, rfl⟩
theorem ixt (x y : D) : dIx (.tup [x, y]) (.int 0) = .ok x ∧ dIx (.tup [x, y]) (.int 1) = .ok y := ⟨rfl, rfl⟩
def intsD (ss : List Int) : D := .tup (ss.map D.int)
def intsL (ss : List Int) : D := .lst (ss.map D.int)
theorem ix_ints {ss : List Int} {i : Nat} {a : Int} (h : ss[i]? = some a) : dIx (intsD ss) (.int i) = .ok (.int a) := by
  have hi := (List.getElem?_eq_some_iff.mp h).1
  have e : ss[i] = a := by rw [List.getElem?_eq_getElem hi] at h; exact Option.some.inj h
  unfold intsD
  simp [dIx, L2.atI, L2.ixN, hi, e]
theorem ix_intsL {ss : List Int} {i : Nat} {a : Int} (h : ss[i]? = some a) : dIx (intsL ss) (.int i) = .ok (.int a) := by
  have hi := (List.getElem?_eq_some_iff.mp h).1
  have e : ss[i] = a := by rw [List.getElem?_eq_getElem hi] at h; exact Option.some.inj h
  unfold intsL
  simp [dIx, L2.atI, L2.ixN, hi, e]
theorem ix_tup {ds : List D} {i : Nat} {a : D} (h : ds[i]? = some a) : dIx (.tup ds) (.int i) = .ok a := by
  have hi := (List.getElem?_eq_some_iff.mp h).1
  have e : ds[i] = a := by rw [List.getElem?_eq_getElem hi] at h; exact Option.some.inj h
  simp [dIx, L2.atI, L2.ixN, hi, e]
theorem len_ints (ss : List Int) : bLen [intsD ss] = .ok (.int ss.length) := by unfold intsD; simp [bLen]
theorem mem_rng {n : Nat} {d : D} (h : d ∈ rngD 0 1 n) : ∃ k : Nat, k < n ∧ d = .int k := by
  unfold rngD at h
  obtain ⟨k, h1, h2⟩ := List.mem_map.mp h
  exact ⟨k, List.mem_range.mp h1, by rw [← h2]; congr 1; omega⟩
theorem rng_eq (n : Nat) : rngD 0 1 n = (List.range n).map fun k => D.int (k : Nat) := by
  unfold rngD
  apply List.map_congr_left
  intro k _
  congr 1
  omega
theorem ne_lit {x : Str} (h : x.cps.all (· < 0x110000) = true) : dNe (.str x) (.str x) = .ok (.bl false) := by
  have e : (x == x) = true := beq_self_eq_true x
  unfold dNe D.ok
  simp only [D.lay, D.dep, D.eqv, h, e, Nat.zero_le, decide_true, Bool.and_self, if_true, Bool.not_true]
theorem ne_self {d : D} (h : d.ok = true) (e : D.eqv d d = true) : dNe d d = .ok (.bl false) := by
  unfold dNe
  simp only [h, e, Bool.and_self, if_true, Bool.not_true]
theorem eq_self {d : D} (h : d.ok = true) (e : D.eqv d d = true) : dEq d d = .ok (.bl true) := by
  unfold dEq
  simp only [h, e, Bool.and_self, if_true]
theorem okS {x : Str} (h : x.cps.all (· < 0x110000) = true) : (D.str x).ok = true ∧ (D.str x).lay = true ∧ (D.str x).dep = 0 ∧ D.eqv (.str x) (.str x) = true := by
  refine ⟨?_, ?_, ?_, ?_⟩
  · unfold D.ok; simp only [D.lay, D.dep, h, Nat.zero_le, decide_true, Bool.and_self]
  · simp only [D.lay, h]
  · simp only [D.dep]
  · simp only [D.eqv]; exact beq_self_eq_true x
theorem rep_lay {x : Str} (h : x.cps.all (· < 0x110000) = true) : ∀ n : Nat, D.lays (List.replicate n (.str x)) = true ∧ D.deps (List.replicate n (.str x)) = 0 ∧ D.eqvs (List.replicate n (.str x)) (List.replicate n (.str x)) = true
  | 0 => by simp [D.lays, D.deps, D.eqvs]
  | n + 1 => by
    obtain ⟨a, b, c⟩ := rep_lay h n
    obtain ⟨_, l, d, e⟩ := okS h
    simp only [List.replicate_succ, D.lays, D.deps, D.eqvs, a, b, c, l, d, e, Bool.and_self, Nat.max_self, and_self]
/-- [x] * n beside itself -/
theorem ne_rep {x : Str} (h : x.cps.all (· < 0x110000) = true) (n : Nat) : dNe (.lst (List.replicate n (.str x))) (.lst (List.replicate n (.str x))) = .ok (.bl false) := by
  obtain ⟨a, b, c⟩ := rep_lay h n
  refine ne_self ?_ ?_
  · unfold D.ok; simp only [D.lay, D.dep, a, b]; rfl
  · simp only [D.eqv, c]
theorem mul_rep (x : D) (n : Nat) (h : n ≤ 1000) : dMul (.lst [x]) (.int n) = .ok (.lst (List.replicate n x)) := by
  have e : repD n [x] = List.replicate n x := by
    unfold repD
    rw [Int.toNat_natCast]
    clear h
    induction n with
    | zero => rfl
    | succ n ih => rw [List.replicate_succ, List.flatten_cons, ih]; rfl
  have h1 : (n : Int) ≤ 16777216 := by omega
  have h2 : (-16777216 : Int) ≤ n := by omega
  have h3 : ([x] : List D).length * (n : Int).toNat ≤ maxSeq := by rw [Int.toNat_natCast]; exact le_maxSeq (by simpa using h)
  simp only [dMul, e, h1, h2, h3, decide_true, Bool.and_self, if_true]
theorem stp {s rest : Sv} {env e' : En} (h : s env = .ok (.nx, e')) : bSeq s rest env = rest e' := by unfold bSeq; rw [h]; rfl
theorem stpk {s rest : Sv} {env e' : En} {R : M (Fl × En)} (h : s env = .ok (.nx, e')) (k : rest e' = R) : bSeq s rest env = R := by rw [stp h]; exact k
theorem stpw {s rest : Sv} {env e' : En} {Q : Fl × En → Prop} (h : s env = .ok (.nx, e')) (k : wm (rest e') Q) : wm (bSeq s rest env) Q := by rw [stp h]; exact k
theorem sIf_f {t : Tv} {x y : Sv} {env e' : En} (h : t env = .ok (false, e')) : sIf t x y env = y e' := by unfold sIf; rw [h]; rfl
theorem sIf_t {t : Tv} {x y : Sv} {env e' : En} (h : t env = .ok (true, e')) : sIf t x y env = x e' := by unfold sIf; rw [h]; rfl
theorem sSet_ok {i : Nat} {m : Ev} {env e' : En} {d : D} (h : m env = .ok (d, e')) : sSet (i + 1) m env = .ok (.nx, e'.set (i + 1) (.va d)) := by unfold sSet; rw [h]; rfl
theorem bInt_bl (b : Bool) : bInt [.bl b] = .ok (.int (if b = true then 1 else 0)) := by cases b <;> rfl
/-- a loop that goes on to its end -/
theorem forL_nx {mt : Gv} {mb : Sv} (I : En → Prop) : ∀ (ds : List D) (env : En), (∀ d, d ∈ ds → ∀ e, I e → ∃ e1 e2, mt d e = .ok e1 ∧ mb e1 = .ok (.nx, e2) ∧ I e2) → I env → ∃ e', forL mt mb ds env = .ok (.nx, e') ∧ I e'
  | [], env, _, h => ⟨env, rfl, h⟩
  | d :: r, env, hs, h => by
    obtain ⟨e1, e2, q1, q2, q3⟩ := hs d List.mem_cons_self env h
    obtain ⟨e', q4, q5⟩ := forL_nx I r e2 (fun d' hd => hs d' (List.mem_cons_of_mem _ hd)) q3
    refine ⟨e', ?_, q5⟩
    unfold forL
    rw [q1, ns_ok, bnd_ok, q2, bnd_ok]
    exact q4
/-- a comprehension whose parts may change the slots -/
theorem lcL_inv {mt : Gv} {te : Ev} {vs : List Nat} (I : En → Prop) (P : D → Prop) : ∀ (ds : List D) (env : En), (∀ d, d ∈ ds → ∀ e, I e → ∃ e1 e2 r, mt d e = .ok e1 ∧ te e1 = .ok (r, e2) ∧ P r ∧ I (wipeE e2 vs)) → I env → ∃ rs e', lcL mt dYes te vs ds env = .ok (rs, e') ∧ rs.length = ds.length ∧ (∀ r, r ∈ rs → P r) ∧ I e'
  | [], env, _, h => ⟨[], env, rfl, rfl, (fun _ z => by cases z), h⟩
  | d :: r, env, hs, h => by
    obtain ⟨e1, e2, x, q1, q2, q3, q4⟩ := hs d List.mem_cons_self env h
    obtain ⟨rs, e', q5, q6, q7, q8⟩ := lcL_inv I P r (wipeE e2 vs) (fun d' hd => hs d' (List.mem_cons_of_mem _ hd)) q4
    refine ⟨x :: rs, e', ?_, by simp [q6], ?_, q8⟩
    · unfold lcL
      rw [q1, bnd_ok]
      simp only [dYes, bnd_ok, if_true, q2]
      rw [q5]
      rfl
    · intro y hy
      rcases List.mem_cons.mp hy with rfl | hy
      · exact q3
      · exact q7 y hy
theorem ints_of {rs : List D} {P : Int → Prop} (h : ∀ r, r ∈ rs → ∃ i, r = .int i ∧ P i) : ∃ ss : List Int, rs = ss.map D.int ∧ ∀ s, s ∈ ss → P s := by
  induction rs with
  | nil => exact ⟨[], rfl, (fun _ z => by cases z)⟩
  | cons r rs ih =>
    obtain ⟨ss, e, hs⟩ := ih fun x hx => h x (List.mem_cons_of_mem _ hx)
    obtain ⟨i, rfl, hi⟩ := h r List.mem_cons_self
    refine ⟨i :: ss, by rw [e]; rfl, fun s z => ?_⟩
    rcases List.mem_cons.mp z with rfl | z
    · exact hi
    · exact hs s z
end LW
end Dn

/-! L24 -/
set_option Elab.async false
set_option linter.all false
set_option maxRecDepth 100000
set_option maxHeartbeats 4000000
namespace Dn
namespace LW
open PySem PySem.Spec L2
open PyProof.Rows hiding St
abbrev PP : Program := PySem.Challenge.pw_doneorundone_k24_papers_and_arguments_of
def top (i : Nat) : Stmt := PP.main.body.getD i (.Pass ⟨0, 0, 0, 0⟩)
theorem dbg_MAX_DONE : (("MAX_DONE" : Str) == ("__debug__" : Str)) = false := by decide +kernel
theorem cld_MAX_DONE : (("MAX_DONE" : Str) == ("__classdict__" : Str)) = false := by decide +kernel
theorem dbg_MAX_ODDS : (("MAX_ODDS" : Str) == ("__debug__" : Str)) = false := by decide +kernel
theorem cld_MAX_ODDS : (("MAX_ODDS" : Str) == ("__classdict__" : Str)) = false := by decide +kernel
theorem dbg_MAX_ROWS : (("MAX_ROWS" : Str) == ("__debug__" : Str)) = false := by decide +kernel
theorem cld_MAX_ROWS : (("MAX_ROWS" : Str) == ("__classdict__" : Str)) = false := by decide +kernel
theorem dbg_MAX_SIZE : (("MAX_SIZE" : Str) == ("__debug__" : Str)) = false := by decide +kernel
theorem cld_MAX_SIZE : (("MAX_SIZE" : Str) == ("__classdict__" : Str)) = false := by decide +kernel
theorem dbg_MAX_STEPS : (("MAX_STEPS" : Str) == ("__debug__" : Str)) = false := by decide +kernel
theorem cld_MAX_STEPS : (("MAX_STEPS" : Str) == ("__classdict__" : Str)) = false := by decide +kernel
theorem dbg__law_bent : (("_law_bent" : Str) == ("__debug__" : Str)) = false := by decide +kernel
theorem cld__law_bent : (("_law_bent" : Str) == ("__classdict__" : Str)) = false := by decide +kernel
theorem dbg__law_best_due : (("_law_best_due" : Str) == ("__debug__" : Str)) = false := by decide +kernel
theorem cld__law_best_due : (("_law_best_due" : Str) == ("__classdict__" : Str)) = false := by decide +kernel
theorem dbg__law_called : (("_law_called" : Str) == ("__debug__" : Str)) = false := by decide +kernel
theorem cld__law_called : (("_law_called" : Str) == ("__classdict__" : Str)) = false := by decide +kernel
theorem dbg__law_draw : (("_law_draw" : Str) == ("__debug__" : Str)) = false := by decide +kernel
theorem cld__law_draw : (("_law_draw" : Str) == ("__classdict__" : Str)) = false := by decide +kernel
theorem dbg__law_heard : (("_law_heard" : Str) == ("__debug__" : Str)) = false := by decide +kernel
theorem cld__law_heard : (("_law_heard" : Str) == ("__classdict__" : Str)) = false := by decide +kernel
theorem dbg__law_pick : (("_law_pick" : Str) == ("__debug__" : Str)) = false := by decide +kernel
theorem cld__law_pick : (("_law_pick" : Str) == ("__classdict__" : Str)) = false := by decide +kernel
theorem dbg__law_start : (("_law_start" : Str) == ("__debug__" : Str)) = false := by decide +kernel
theorem cld__law_start : (("_law_start" : Str) == ("__classdict__" : Str)) = false := by decide +kernel
theorem dbg__law_whole : (("_law_whole" : Str) == ("__debug__" : Str)) = false := by decide +kernel
theorem cld__law_whole : (("_law_whole" : Str) == ("__classdict__" : Str)) = false := by decide +kernel
theorem dbg__law_word : (("_law_word" : Str) == ("__debug__" : Str)) = false := by decide +kernel
theorem cld__law_word : (("_law_word" : Str) == ("__classdict__" : Str)) = false := by decide +kernel
theorem dbg_abs : (("abs" : Str) == ("__debug__" : Str)) = false := by decide +kernel
theorem cld_abs : (("abs" : Str) == ("__classdict__" : Str)) = false := by decide +kernel
theorem dbg_accept_best : (("accept_best" : Str) == ("__debug__" : Str)) = false := by decide +kernel
theorem cld_accept_best : (("accept_best" : Str) == ("__classdict__" : Str)) = false := by decide +kernel
theorem dbg_all : (("all" : Str) == ("__debug__" : Str)) = false := by decide +kernel
theorem cld_all : (("all" : Str) == ("__classdict__" : Str)) = false := by decide +kernel
theorem dbg_any : (("any" : Str) == ("__debug__" : Str)) = false := by decide +kernel
theorem cld_any : (("any" : Str) == ("__classdict__" : Str)) = false := by decide +kernel
theorem dbg_at : (("at" : Str) == ("__debug__" : Str)) = false := by decide +kernel
theorem cld_at : (("at" : Str) == ("__classdict__" : Str)) = false := by decide +kernel
theorem dbg_back : (("back" : Str) == ("__debug__" : Str)) = false := by decide +kernel
theorem cld_back : (("back" : Str) == ("__classdict__" : Str)) = false := by decide +kernel
theorem dbg_bad : (("bad" : Str) == ("__debug__" : Str)) = false := by decide +kernel
theorem cld_bad : (("bad" : Str) == ("__classdict__" : Str)) = false := by decide +kernel
theorem dbg_best : (("best" : Str) == ("__debug__" : Str)) = false := by decide +kernel
theorem cld_best : (("best" : Str) == ("__classdict__" : Str)) = false := by decide +kernel
theorem dbg_best_linked : (("best_linked" : Str) == ("__debug__" : Str)) = false := by decide +kernel
theorem cld_best_linked : (("best_linked" : Str) == ("__classdict__" : Str)) = false := by decide +kernel
theorem dbg_best_order : (("best_order" : Str) == ("__debug__" : Str)) = false := by decide +kernel
theorem cld_best_order : (("best_order" : Str) == ("__classdict__" : Str)) = false := by decide +kernel
theorem dbg_call : (("call" : Str) == ("__debug__" : Str)) = false := by decide +kernel
theorem cld_call : (("call" : Str) == ("__classdict__" : Str)) = false := by decide +kernel
theorem dbg_cell : (("cell" : Str) == ("__debug__" : Str)) = false := by decide +kernel
theorem cld_cell : (("cell" : Str) == ("__classdict__" : Str)) = false := by decide +kernel
theorem dbg_chances : (("chances" : Str) == ("__debug__" : Str)) = false := by decide +kernel
theorem cld_chances : (("chances" : Str) == ("__classdict__" : Str)) = false := by decide +kernel
theorem dbg_check_links : (("check_links" : Str) == ("__debug__" : Str)) = false := by decide +kernel
theorem cld_check_links : (("check_links" : Str) == ("__classdict__" : Str)) = false := by decide +kernel
theorem dbg_check_order : (("check_order" : Str) == ("__debug__" : Str)) = false := by decide +kernel
theorem cld_check_order : (("check_order" : Str) == ("__classdict__" : Str)) = false := by decide +kernel
theorem dbg_check_steps : (("check_steps" : Str) == ("__debug__" : Str)) = false := by decide +kernel
theorem cld_check_steps : (("check_steps" : Str) == ("__classdict__" : Str)) = false := by decide +kernel
theorem dbg_common : (("common" : Str) == ("__debug__" : Str)) = false := by decide +kernel
theorem cld_common : (("common" : Str) == ("__classdict__" : Str)) = false := by decide +kernel
theorem dbg_common_divisor : (("common_divisor" : Str) == ("__debug__" : Str)) = false := by decide +kernel
theorem cld_common_divisor : (("common_divisor" : Str) == ("__classdict__" : Str)) = false := by decide +kernel
theorem dbg_cost : (("cost" : Str) == ("__debug__" : Str)) = false := by decide +kernel
theorem cld_cost : (("cost" : Str) == ("__classdict__" : Str)) = false := by decide +kernel
theorem dbg_dear : (("dear" : Str) == ("__debug__" : Str)) = false := by decide +kernel
theorem cld_dear : (("dear" : Str) == ("__classdict__" : Str)) = false := by decide +kernel
theorem dbg_done : (("done" : Str) == ("__debug__" : Str)) = false := by decide +kernel
theorem cld_done : (("done" : Str) == ("__classdict__" : Str)) = false := by decide +kernel
theorem dbg_down : (("down" : Str) == ("__debug__" : Str)) = false := by decide +kernel
theorem cld_down : (("down" : Str) == ("__classdict__" : Str)) = false := by decide +kernel
theorem dbg_enumerate : (("enumerate" : Str) == ("__debug__" : Str)) = false := by decide +kernel
theorem cld_enumerate : (("enumerate" : Str) == ("__classdict__" : Str)) = false := by decide +kernel
theorem dbg_error : (("error" : Str) == ("__debug__" : Str)) = false := by decide +kernel
theorem cld_error : (("error" : Str) == ("__classdict__" : Str)) = false := by decide +kernel
theorem dbg_failing : (("failing" : Str) == ("__debug__" : Str)) = false := by decide +kernel
theorem cld_failing : (("failing" : Str) == ("__classdict__" : Str)) = false := by decide +kernel
theorem dbg_fails : (("fails" : Str) == ("__debug__" : Str)) = false := by decide +kernel
theorem cld_fails : (("fails" : Str) == ("__classdict__" : Str)) = false := by decide +kernel
theorem dbg_first : (("first" : Str) == ("__debug__" : Str)) = false := by decide +kernel
theorem cld_first : (("first" : Str) == ("__classdict__" : Str)) = false := by decide +kernel
theorem dbg_found : (("found" : Str) == ("__debug__" : Str)) = false := by decide +kernel
theorem cld_found : (("found" : Str) == ("__classdict__" : Str)) = false := by decide +kernel
theorem dbg_free_in : (("free_in" : Str) == ("__debug__" : Str)) = false := by decide +kernel
theorem cld_free_in : (("free_in" : Str) == ("__classdict__" : Str)) = false := by decide +kernel
theorem dbg_good : (("good" : Str) == ("__debug__" : Str)) = false := by decide +kernel
theorem cld_good : (("good" : Str) == ("__classdict__" : Str)) = false := by decide +kernel
theorem dbg_heads : (("heads" : Str) == ("__debug__" : Str)) = false := by decide +kernel
theorem cld_heads : (("heads" : Str) == ("__classdict__" : Str)) = false := by decide +kernel
theorem dbg_here : (("here" : Str) == ("__debug__" : Str)) = false := by decide +kernel
theorem cld_here : (("here" : Str) == ("__classdict__" : Str)) = false := by decide +kernel
theorem dbg_high : (("high" : Str) == ("__debug__" : Str)) = false := by decide +kernel
theorem cld_high : (("high" : Str) == ("__classdict__" : Str)) = false := by decide +kernel
theorem dbg_how : (("how" : Str) == ("__debug__" : Str)) = false := by decide +kernel
theorem cld_how : (("how" : Str) == ("__classdict__" : Str)) = false := by decide +kernel
theorem dbg_int : (("int" : Str) == ("__debug__" : Str)) = false := by decide +kernel
theorem cld_int : (("int" : Str) == ("__classdict__" : Str)) = false := by decide +kernel
theorem dbg_is_between : (("is_between" : Str) == ("__debug__" : Str)) = false := by decide +kernel
theorem cld_is_between : (("is_between" : Str) == ("__classdict__" : Str)) = false := by decide +kernel
theorem dbg_is_integer : (("is_integer" : Str) == ("__debug__" : Str)) = false := by decide +kernel
theorem cld_is_integer : (("is_integer" : Str) == ("__classdict__" : Str)) = false := by decide +kernel
theorem dbg_is_nearer : (("is_nearer" : Str) == ("__debug__" : Str)) = false := by decide +kernel
theorem cld_is_nearer : (("is_nearer" : Str) == ("__classdict__" : Str)) = false := by decide +kernel
theorem dbg_is_order : (("is_order" : Str) == ("__debug__" : Str)) = false := by decide +kernel
theorem cld_is_order : (("is_order" : Str) == ("__classdict__" : Str)) = false := by decide +kernel
theorem dbg_isinstance : (("isinstance" : Str) == ("__debug__" : Str)) = false := by decide +kernel
theorem cld_isinstance : (("isinstance" : Str) == ("__classdict__" : Str)) = false := by decide +kernel
theorem dbg_k : (("k" : Str) == ("__debug__" : Str)) = false := by decide +kernel
theorem cld_k : (("k" : Str) == ("__classdict__" : Str)) = false := by decide +kernel
theorem dbg_known : (("known" : Str) == ("__debug__" : Str)) = false := by decide +kernel
theorem cld_known : (("known" : Str) == ("__classdict__" : Str)) = false := by decide +kernel
theorem dbg_last : (("last" : Str) == ("__debug__" : Str)) = false := by decide +kernel
theorem cld_last : (("last" : Str) == ("__classdict__" : Str)) = false := by decide +kernel
theorem dbg_law : (("law" : Str) == ("__debug__" : Str)) = false := by decide +kernel
theorem cld_law : (("law" : Str) == ("__classdict__" : Str)) = false := by decide +kernel
theorem dbg_least_worst : (("least_worst" : Str) == ("__debug__" : Str)) = false := by decide +kernel
theorem cld_least_worst : (("least_worst" : Str) == ("__classdict__" : Str)) = false := by decide +kernel
theorem dbg_left : (("left" : Str) == ("__debug__" : Str)) = false := by decide +kernel
theorem cld_left : (("left" : Str) == ("__classdict__" : Str)) = false := by decide +kernel
theorem dbg_len : (("len" : Str) == ("__debug__" : Str)) = false := by decide +kernel
theorem cld_len : (("len" : Str) == ("__classdict__" : Str)) = false := by decide +kernel
theorem dbg_link : (("link" : Str) == ("__debug__" : Str)) = false := by decide +kernel
theorem cld_link : (("link" : Str) == ("__classdict__" : Str)) = false := by decide +kernel
theorem dbg_links : (("links" : Str) == ("__debug__" : Str)) = false := by decide +kernel
theorem cld_links : (("links" : Str) == ("__classdict__" : Str)) = false := by decide +kernel
theorem dbg_list : (("list" : Str) == ("__debug__" : Str)) = false := by decide +kernel
theorem cld_list : (("list" : Str) == ("__classdict__" : Str)) = false := by decide +kernel
theorem dbg_low : (("low" : Str) == ("__debug__" : Str)) = false := by decide +kernel
theorem cld_low : (("low" : Str) == ("__classdict__" : Str)) = false := by decide +kernel
theorem dbg_lowest : (("lowest" : Str) == ("__debug__" : Str)) = false := by decide +kernel
theorem cld_lowest : (("lowest" : Str) == ("__classdict__" : Str)) = false := by decide +kernel
theorem dbg_many : (("many" : Str) == ("__debug__" : Str)) = false := by decide +kernel
theorem cld_many : (("many" : Str) == ("__classdict__" : Str)) = false := by decide +kernel
theorem dbg_max : (("max" : Str) == ("__debug__" : Str)) = false := by decide +kernel
theorem cld_max : (("max" : Str) == ("__classdict__" : Str)) = false := by decide +kernel
theorem dbg_mean_cost : (("mean_cost" : Str) == ("__debug__" : Str)) = false := by decide +kernel
theorem cld_mean_cost : (("mean_cost" : Str) == ("__classdict__" : Str)) = false := by decide +kernel
theorem dbg_mean_of : (("mean_of" : Str) == ("__debug__" : Str)) = false := by decide +kernel
theorem cld_mean_of : (("mean_of" : Str) == ("__classdict__" : Str)) = false := by decide +kernel
theorem dbg_min : (("min" : Str) == ("__debug__" : Str)) = false := by decide +kernel
theorem cld_min : (("min" : Str) == ("__classdict__" : Str)) = false := by decide +kernel
theorem dbg_most : (("most" : Str) == ("__debug__" : Str)) = false := by decide +kernel
theorem cld_most : (("most" : Str) == ("__classdict__" : Str)) = false := by decide +kernel
theorem dbg_near : (("near" : Str) == ("__debug__" : Str)) = false := by decide +kernel
theorem cld_near : (("near" : Str) == ("__classdict__" : Str)) = false := by decide +kernel
theorem dbg_needs : (("needs" : Str) == ("__debug__" : Str)) = false := by decide +kernel
theorem cld_needs : (("needs" : Str) == ("__classdict__" : Str)) = false := by decide +kernel
theorem dbg_needs_by : (("needs_by" : Str) == ("__debug__" : Str)) = false := by decide +kernel
theorem cld_needs_by : (("needs_by" : Str) == ("__classdict__" : Str)) = false := by decide +kernel
theorem dbg_number : (("number" : Str) == ("__debug__" : Str)) = false := by decide +kernel
theorem cld_number : (("number" : Str) == ("__classdict__" : Str)) = false := by decide +kernel
theorem dbg_odd : (("odd" : Str) == ("__debug__" : Str)) = false := by decide +kernel
theorem cld_odd : (("odd" : Str) == ("__classdict__" : Str)) = false := by decide +kernel
theorem dbg_odds : (("odds" : Str) == ("__debug__" : Str)) = false := by decide +kernel
theorem cld_odds : (("odds" : Str) == ("__classdict__" : Str)) = false := by decide +kernel
theorem dbg_one : (("one" : Str) == ("__debug__" : Str)) = false := by decide +kernel
theorem cld_one : (("one" : Str) == ("__classdict__" : Str)) = false := by decide +kernel
theorem dbg_order : (("order" : Str) == ("__debug__" : Str)) = false := by decide +kernel
theorem cld_order : (("order" : Str) == ("__classdict__" : Str)) = false := by decide +kernel
theorem dbg_other : (("other" : Str) == ("__debug__" : Str)) = false := by decide +kernel
theorem cld_other : (("other" : Str) == ("__classdict__" : Str)) = false := by decide +kernel
theorem dbg_own : (("own" : Str) == ("__debug__" : Str)) = false := by decide +kernel
theorem cld_own : (("own" : Str) == ("__classdict__" : Str)) = false := by decide +kernel
theorem dbg_part : (("part" : Str) == ("__debug__" : Str)) = false := by decide +kernel
theorem cld_part : (("part" : Str) == ("__classdict__" : Str)) = false := by decide +kernel
theorem dbg_range : (("range" : Str) == ("__debug__" : Str)) = false := by decide +kernel
theorem cld_range : (("range" : Str) == ("__classdict__" : Str)) = false := by decide +kernel
theorem dbg_right : (("right" : Str) == ("__debug__" : Str)) = false := by decide +kernel
theorem cld_right : (("right" : Str) == ("__classdict__" : Str)) = false := by decide +kernel
theorem dbg_ring : (("ring" : Str) == ("__debug__" : Str)) = false := by decide +kernel
theorem cld_ring : (("ring" : Str) == ("__classdict__" : Str)) = false := by decide +kernel
theorem dbg_rows : (("rows" : Str) == ("__debug__" : Str)) = false := by decide +kernel
theorem cld_rows : (("rows" : Str) == ("__classdict__" : Str)) = false := by decide +kernel
theorem dbg_rows_of : (("rows_of" : Str) == ("__debug__" : Str)) = false := by decide +kernel
theorem cld_rows_of : (("rows_of" : Str) == ("__classdict__" : Str)) = false := by decide +kernel
theorem dbg_script : (("script" : Str) == ("__debug__" : Str)) = false := by decide +kernel
theorem cld_script : (("script" : Str) == ("__classdict__" : Str)) = false := by decide +kernel
theorem dbg_second : (("second" : Str) == ("__debug__" : Str)) = false := by decide +kernel
theorem cld_second : (("second" : Str) == ("__classdict__" : Str)) = false := by decide +kernel
theorem dbg_seed : (("seed" : Str) == ("__debug__" : Str)) = false := by decide +kernel
theorem cld_seed : (("seed" : Str) == ("__classdict__" : Str)) = false := by decide +kernel
theorem dbg_sets_by : (("sets_by" : Str) == ("__debug__" : Str)) = false := by decide +kernel
theorem cld_sets_by : (("sets_by" : Str) == ("__classdict__" : Str)) = false := by decide +kernel
theorem dbg_size : (("size" : Str) == ("__debug__" : Str)) = false := by decide +kernel
theorem cld_size : (("size" : Str) == ("__classdict__" : Str)) = false := by decide +kernel
theorem dbg_some : (("some" : Str) == ("__debug__" : Str)) = false := by decide +kernel
theorem cld_some : (("some" : Str) == ("__classdict__" : Str)) = false := by decide +kernel
theorem dbg_sorted : (("sorted" : Str) == ("__debug__" : Str)) = false := by decide +kernel
theorem cld_sorted : (("sorted" : Str) == ("__classdict__" : Str)) = false := by decide +kernel
theorem dbg_spent : (("spent" : Str) == ("__debug__" : Str)) = false := by decide +kernel
theorem cld_spent : (("spent" : Str) == ("__classdict__" : Str)) = false := by decide +kernel
theorem dbg_state : (("state" : Str) == ("__debug__" : Str)) = false := by decide +kernel
theorem cld_state : (("state" : Str) == ("__classdict__" : Str)) = false := by decide +kernel
theorem dbg_step : (("step" : Str) == ("__debug__" : Str)) = false := by decide +kernel
theorem cld_step : (("step" : Str) == ("__classdict__" : Str)) = false := by decide +kernel
theorem dbg_steps : (("steps" : Str) == ("__debug__" : Str)) = false := by decide +kernel
theorem cld_steps : (("steps" : Str) == ("__classdict__" : Str)) = false := by decide +kernel
theorem dbg_str : (("str" : Str) == ("__debug__" : Str)) = false := by decide +kernel
theorem cld_str : (("str" : Str) == ("__classdict__" : Str)) = false := by decide +kernel
theorem dbg_sum : (("sum" : Str) == ("__debug__" : Str)) = false := by decide +kernel
theorem cld_sum : (("sum" : Str) == ("__classdict__" : Str)) = false := by decide +kernel
theorem dbg_sure : (("sure" : Str) == ("__debug__" : Str)) = false := by decide +kernel
theorem cld_sure : (("sure" : Str) == ("__classdict__" : Str)) = false := by decide +kernel
theorem dbg_there : (("there" : Str) == ("__debug__" : Str)) = false := by decide +kernel
theorem cld_there : (("there" : Str) == ("__classdict__" : Str)) = false := by decide +kernel
theorem dbg_told : (("told" : Str) == ("__debug__" : Str)) = false := by decide +kernel
theorem cld_told : (("told" : Str) == ("__classdict__" : Str)) = false := by decide +kernel
theorem dbg_tuple : (("tuple" : Str) == ("__debug__" : Str)) = false := by decide +kernel
theorem cld_tuple : (("tuple" : Str) == ("__classdict__" : Str)) = false := by decide +kernel
theorem dbg_turn : (("turn" : Str) == ("__debug__" : Str)) = false := by decide +kernel
theorem cld_turn : (("turn" : Str) == ("__classdict__" : Str)) = false := by decide +kernel
theorem dbg_undone : (("undone" : Str) == ("__debug__" : Str)) = false := by decide +kernel
theorem cld_undone : (("undone" : Str) == ("__classdict__" : Str)) = false := by decide +kernel
theorem dbg_up : (("up" : Str) == ("__debug__" : Str)) = false := by decide +kernel
theorem cld_up : (("up" : Str) == ("__classdict__" : Str)) = false := by decide +kernel
theorem dbg_value : (("value" : Str) == ("__debug__" : Str)) = false := by decide +kernel
theorem cld_value : (("value" : Str) == ("__classdict__" : Str)) = false := by decide +kernel
theorem dbg_way : (("way" : Str) == ("__debug__" : Str)) = false := by decide +kernel
theorem cld_way : (("way" : Str) == ("__classdict__" : Str)) = false := by decide +kernel
theorem dbg_weight : (("weight" : Str) == ("__debug__" : Str)) = false := by decide +kernel
theorem cld_weight : (("weight" : Str) == ("__classdict__" : Str)) = false := by decide +kernel
theorem dbg_weight_of : (("weight_of" : Str) == ("__debug__" : Str)) = false := by decide +kernel
theorem cld_weight_of : (("weight_of" : Str) == ("__classdict__" : Str)) = false := by decide +kernel
theorem dbg_whole : (("whole" : Str) == ("__debug__" : Str)) = false := by decide +kernel
theorem cld_whole : (("whole" : Str) == ("__classdict__" : Str)) = false := by decide +kernel
theorem dbg_worst_cost : (("worst_cost" : Str) == ("__debug__" : Str)) = false := by decide +kernel
theorem cld_worst_cost : (("worst_cost" : Str) == ("__classdict__" : Str)) = false := by decide +kernel
theorem dbg_worst_of : (("worst_of" : Str) == ("__debug__" : Str)) = false := by decide +kernel
theorem cld_worst_of : (("worst_of" : Str) == ("__classdict__" : Str)) = false := by decide +kernel
theorem dbg_wrong : (("wrong" : Str) == ("__debug__" : Str)) = false := by decide +kernel
theorem cld_wrong : (("wrong" : Str) == ("__classdict__" : Str)) = false := by decide +kernel
theorem dbg_zip : (("zip" : Str) == ("__debug__" : Str)) = false := by decide +kernel
theorem cld_zip : (("zip" : Str) == ("__classdict__" : Str)) = false := by decide +kernel
def wposL : List Pos := [⟨196, 4, 196, 9⟩, ⟨196, 13, 196, 20⟩, ⟨196, 22, 196, 33⟩, ⟨196, 35, 196, 43⟩, ⟨196, 45, 196, 52⟩, ⟨196, 12, 196, 53⟩, ⟨196, 4, 196, 53⟩, ⟨197, 4, 197, 9⟩, ⟨197, 13, 197, 23⟩, ⟨197, 24, 197, 29⟩, ⟨197, 31, 197, 40⟩, ⟨197, 13, 197, 41⟩, ⟨197, 43, 197, 53⟩, ⟨197, 54, 197, 59⟩, ⟨197, 61, 197, 74⟩, ⟨197, 43, 197, 75⟩, ⟨197, 77, 197, 87⟩, ⟨197, 88, 197, 93⟩, ⟨197, 95, 197, 105⟩, ⟨197, 77, 197, 106⟩, ⟨197, 108, 197, 118⟩, ⟨197, 119, 197, 124⟩, ⟨197, 126, 197, 133⟩, ⟨197, 108, 197, 134⟩, ⟨197, 12, 197, 135⟩, ⟨197, 4, 197, 135⟩, ⟨198, 54, 198, 59⟩, ⟨198, 54, 198, 65⟩, ⟨198, 66, 198, 70⟩, ⟨198, 54, 198, 71⟩, ⟨198, 75, 198, 76⟩, ⟨198, 54, 198, 76⟩, ⟨198, 81, 198, 91⟩, ⟨198, 92, 198, 97⟩, ⟨198, 99, 198, 109⟩, ⟨198, 81, 198, 110⟩, ⟨198, 54, 198, 110⟩, ⟨198, 11, 198, 16⟩, ⟨198, 17, 198, 22⟩, ⟨198, 17, 198, 28⟩, ⟨198, 29, 198, 33⟩, ⟨198, 17, 198, 34⟩, ⟨198, 11, 198, 35⟩, ⟨198, 38, 198, 43⟩, ⟨198, 38, 198, 50⟩, ⟨198, 11, 198, 50⟩, ⟨198, 116, 198, 123⟩, ⟨198, 11, 198, 123⟩, ⟨198, 4, 198, 123⟩]
def wpos (i : Nat) : Pos := wposL.getD i ⟨0, 0, 0, 0⟩
theorem mgn {nn bk : Bool} {X : Cx} {W : WX} {P : Program} {w : World} {K : PySem.W.Frag} {mg : Str → Option Value} {base : Heap} {N : List Str} {sc : Scope} {k : Nat} {x : Str} (C : Cok nn X W P w K mg base N sc k bk) (h : mg x = none) : X.mg x = none := by rw [C.em]; exact h
-- _law_start: script, seed, cell
abbrev N__law_start : List Str := ["script", "seed", "cell"]
def b__law_start : Sv := bSeq (sSet 1 (dC (.int 7)))
  (bSeq (sFor (dItems (dVar 0)) (gSet 2) (sSet 1 (dBin dAdd (dBin dMod (dCall bInt (dCons (dBin dAdd (dBin dMul (dVar 1) (dC (.int 48271))) (dVar 2)) (dNil))) (dC (.int 2147483629))) (dC (.int 1)))))
  (sRetF (dLst (dCons (dCall bList (dCons (dVar 0) (dNil))) (dCons (dC (.int 0)) (dCons (dC (.int 0)) (dCons (dVar 1) (dNil))))))))
def m__law_start : List D → M D := fun ds => finF (b__law_start (enter 3 ds))
-- _law_draw: state, many, value
abbrev N__law_draw : List Str := ["state", "many", "value"]
def b__law_draw : Sv := bSeq (sIf (dTAnd (dTb (dBin dEq (dBin dIx (dVarO 0) (dC (.int 1))) (dC (.int 0)))) (dTb (dBin dGe (dBin dIx (dVarO 0) (dC (.int 2))) (dCall bLen (dCons (dBin dIx (dVarO 0) (dC (.int 0))) (dNil)))))) (bSeq (sSub 0 (dC (.int 3)) (dBin dMod (dCall bInt (dCons (dBin dAdd (dBin dMul (dBin dIx (dVarO 0) (dC (.int 3))) (dC (.int 48271))) (dC (.int 69621))) (dNil))) (dC (.int 2147483629))))
  (sRet (dBin dMod (dCall bInt (dCons (dBin dFdiv (dBin dIx (dVarO 0) (dC (.int 3))) (dC (.int 13))) (dNil))) (dVar 1)))) (bNil))
  (bSeq (sIf (dTb (dBin dEq (dBin dIx (dVarO 0) (dC (.int 1))) (dC (.int 0)))) (bSeq (sSub 0 (dC (.int 1)) (dCall bAbs (dCons (dBin dIx (dBin dIx (dVarO 0) (dC (.int 0))) (dBin dIx (dVarO 0) (dC (.int 2)))) (dNil))))
  (sSub 0 (dC (.int 2)) (dBin dAdd (dBin dIx (dVarO 0) (dC (.int 2))) (dC (.int 1))))) (bNil))
  (bSeq (sSet 2 (dBin dMod (dCall bInt (dCons (dBin dIx (dVarO 0) (dC (.int 1))) (dNil))) (dVar 1)))
  (bSeq (sSub 0 (dC (.int 1)) (dBin dFdiv (dBin dIx (dVarO 0) (dC (.int 1))) (dVar 1)))
  (sRet (dVar 2)))))
def m__law_draw : D → List D → M (D × D) := fun s ds => finO (b__law_draw (enterO 3 s ds))
-- _law_pick: state, some
abbrev N__law_pick : List Str := ["state", "some"]
def b__law_pick : Sv := sRet (dBin dIx (dVar 1) (dCallO m__law_draw 0 (dCons (dCall bLen (dCons (dVar 1) (dNil))) (dNil))))
def m__law_pick : D → List D → M (D × D) := fun s ds => finO (b__law_pick (enterO 2 s ds))
-- is_integer: value
abbrev N_is_integer : List Str := ["value"]
def b_is_integer : Sv := sRet (dAndV (dIsi "int" (dVar 0)) (dNotV (dIsi "bool" (dVar 0))))
def m_is_integer : List D → M D := fun ds => fin (b_is_integer (enter 1 ds))
-- is_between: value, low, high
abbrev N_is_between : List Str := ["value", "low", "high"]
def b_is_between : Sv := sRet (dAndV (dCall m_is_integer (dCons (dVar 0) (dNil))) (dChain dLe dLe (dVar 1) (dVar 0) (dVar 2)))
def m_is_between : List D → M D := fun ds => fin (b_is_between (enter 3 ds))
-- check_steps: steps, step, odds, own
abbrev N_check_steps : List Str := ["steps", "step", "odds", "own"]
def b_check_steps : Sv := bSeq (sIf (dTOr (dTNot (dTr (dIsi "tuple" (dVar 0)))) (dTNot (dTb (dChain dLe dLe (dC (.int 1)) (dCall bLen (dCons (dVar 0) (dNil))) (dC (.int 20)))))) (sRaise 0 (dC (.str "steps"))) (bNil))
  (sFor (dItems (dVar 0)) (gSet 1) (bSeq (sIf (dTOr (dTNot (dTr (dIsi "tuple" (dVar 1)))) (dTb (dBin dNe (dCall bLen (dCons (dVar 1) (dNil))) (dC (.int 3))))) (sRaise 0 (dC (.str "steps"))) (bNil))
  (bSeq (sIf (dTNot (dTr (dCall bAll (dCons (dLc (dItems (dSlice (dVar 1) (dONone) (dOSome (dC (.int 2))))) (gSet 3) (dYes) (dCall m_is_between (dCons (dVar 3) (dCons (dC (.int 0)) (dCons (dC (.int 1000000000000)) (dNil))))) [3]) (dNil))))) (sRaise 0 (dC (.str "steps"))) (bNil))
  (bSeq (sSet 2 (dBin dIx (dVar 1) (dC (.int 2))))
  (bSeq (sIf (dTOr (dTNot (dTr (dIsi "tuple" (dVar 2)))) (dTOr (dTb (dBin dNe (dCall bLen (dCons (dVar 2) (dNil))) (dC (.int 2)))) (dTNot (dTr (dCall m_is_between (dCons (dBin dIx (dVar 2) (dC (.int 1))) (dCons (dC (.int 1)) (dCons (dC (.int 1000)) (dNil))))))))) (sRaise 0 (dC (.str "steps"))) (bNil))
  (sIf (dTNot (dTr (dCall m_is_between (dCons (dBin dIx (dVar 2) (dC (.int 0))) (dCons (dC (.int 0)) (dCons (dBin dSub (dBin dIx (dVar 2) (dC (.int 1))) (dC (.int 1))) (dNil))))))) (sRaise 0 (dC (.str "steps"))) (bNil)))))))
def m_check_steps : List D → M D := fun ds => fin (b_check_steps (enter 4 ds))
-- weight_of: step
abbrev N_weight_of : List Str := ["step"]
def b_weight_of : Sv := sRet (dBin dAdd (dBin dMul (dBin dIx (dVar 0) (dC (.int 0))) (dBin dIx (dBin dIx (dVar 0) (dC (.int 2))) (dC (.int 1)))) (dBin dMul (dBin dIx (dVar 0) (dC (.int 1))) (dBin dSub (dBin dIx (dBin dIx (dVar 0) (dC (.int 2))) (dC (.int 1))) (dBin dIx (dBin dIx (dVar 0) (dC (.int 2))) (dC (.int 0))))))
def m_weight_of : List D → M D := fun ds => fin (b_weight_of (enter 1 ds))
-- is_nearer: steps, one, other, left, right, first, second
abbrev N_is_nearer : List Str := ["steps", "one", "other", "left", "right", "first", "second"]
def b_is_nearer : Sv := bSeq (sPar 5 6 (dCons (dBin dIx (dVar 0) (dVar 1)) (dCons (dBin dIx (dVar 0) (dVar 2)) (dNil))))
  (bSeq (sSet 3 (dBin dMul (dCall m_weight_of (dCons (dVar 5) (dNil))) (dBin dIx (dBin dIx (dVar 6) (dC (.int 2))) (dC (.int 0)))))
  (bSeq (sSet 4 (dBin dMul (dCall m_weight_of (dCons (dVar 6) (dNil))) (dBin dIx (dBin dIx (dVar 5) (dC (.int 2))) (dC (.int 0)))))
  (bSeq (sIf (dTOr (dTb (dBin dEq (dBin dIx (dBin dIx (dVar 5) (dC (.int 2))) (dC (.int 0))) (dC (.int 0)))) (dTb (dBin dEq (dBin dIx (dBin dIx (dVar 6) (dC (.int 2))) (dC (.int 0))) (dC (.int 0))))) (sPar 3 4 (dCons (dCall bInt (dCons (dBin dEq (dBin dIx (dBin dIx (dVar 5) (dC (.int 2))) (dC (.int 0))) (dC (.int 0))) (dNil))) (dCons (dCall bInt (dCons (dBin dEq (dBin dIx (dBin dIx (dVar 6) (dC (.int 2))) (dC (.int 0))) (dC (.int 0))) (dNil))) (dNil)))) (bNil))
  (sRet (dOrV (dBin dLt (dVar 3) (dVar 4)) (dAndV (dBin dEq (dVar 3) (dVar 4)) (dBin dLt (dVar 1) (dVar 2))))))))
def m_is_nearer : List D → M D := fun ds => fin (b_is_nearer (enter 7 ds))
-- rows_of: steps, order, found, number, up, down, spent, back, cost, own, fails
abbrev N_rows_of : List Str := ["steps", "order", "found", "number", "up", "down", "spent", "back", "cost", "own", "fails"]
def b_rows_of : Sv := bSeq (sAsg (dTup (dCons (dC (.int 1)) (dCons (dC (.int 1)) (dCons (dC (.int 0)) (dCons (dC (.int 0)) (dNil)))))) (gTupD (lenOf 4 (gsCons (gSet 4) (gsCons (gSet 5) (gsCons (gSet 6) (gsCons (gSet 7) (gsNil))))))))
  (bSeq (sSetO 2 (dLst (dNil)))
  (bSeq (sFor (dItems (dVar 1)) (gSet 3) (bSeq (sAsg (dBin dIx (dVar 0) (dVar 3)) (gTupD (lenOf 3 (gsCons (gSet 8) (gsCons (gSet 9) (gsCons (gSet 10) (gsNil)))))))
  (bSeq (sAug 6 aAdd (dVar 8))
  (bSeq (sDrop (dMeth fApp 2 (dCons (dTup (dCons (dBin dMul (dVar 4) (dBin dIx (dVar 10) (dC (.int 0)))) (dCons (dBin dMul (dVar 5) (dBin dIx (dVar 10) (dC (.int 1)))) (dCons (dBin dAdd (dVar 6) (dVar 7)) (dNil))))) (dNil))))
  (bSeq (sPar 4 5 (dCons (dBin dMul (dVar 4) (dBin dSub (dBin dIx (dVar 10) (dC (.int 1))) (dBin dIx (dVar 10) (dC (.int 0))))) (dCons (dBin dMul (dVar 5) (dBin dIx (dVar 10) (dC (.int 1)))) (dNil))))
  (sAug 7 aAdd (dVar 9)))))))
  (sRet (dBin dAdd (dVarO 2) (dLst (dCons (dTup (dCons (dVar 4) (dCons (dVar 5) (dCons (dVar 6) (dNil))))) (dNil)))))))
def m_rows_of : List D → M D := fun ds => fin (b_rows_of (enter 11 ds))
-- mean_of: steps, order, whole, step, up, down, cost
abbrev N_mean_of : List Str := ["steps", "order", "whole", "step", "up", "down", "cost"]
def b_mean_of : Sv := bSeq (sSet 2 (dC (.int 1)))
  (bSeq (sFor (dItems (dVar 0)) (gSet 3) (sAug 2 aMul (dBin dIx (dBin dIx (dVar 3) (dC (.int 2))) (dC (.int 1)))))
  (sRet (dTup (dCons (dCall bSum (dCons (dLc (dItems (dCall m_rows_of (dCons (dVar 0) (dCons (dVar 1) (dNil))))) (gTupD (lenOf 3 (gsCons (gSet 4) (gsCons (gSet 5) (gsCons (gSet 6) (gsNil)))))) (dYes) (dBin dMul (dBin dMul (dVar 4) (dBin dFdiv (dVar 2) (dVar 5))) (dVar 6)) [4, 5, 6]) (dNil))) (dCons (dVar 2) (dNil))))))
def m_mean_of : List D → M D := fun ds => fin (b_mean_of (enter 7 ds))
-- common_divisor: one, other
abbrev N_common_divisor : List Str := ["one", "other"]
def b_common_divisor : Sv := bSeq (sPar 0 1 (dCons (dCall bAbs (dCons (dVar 0) (dNil))) (dCons (dCall bAbs (dCons (dVar 1) (dNil))) (dNil))))
  (bSeq (sWhile (dTr (dVar 1)) (sPar 0 1 (dCons (dVar 1) (dCons (dBin dSub (dVar 0) (dBin dMul (dBin dFdiv (dVar 0) (dVar 1)) (dVar 1))) (dNil)))))
  (sRet (dVar 0)))
def m_common_divisor : List D → M D := fun ds => fin (b_common_divisor (enter 2 ds))
-- lowest: up, down, common
abbrev N_lowest : List Str := ["up", "down", "common"]
def b_lowest : Sv := bSeq (sSet 2 (dCall m_common_divisor (dCons (dVar 0) (dCons (dVar 1) (dNil)))))
  (sRet (dTup (dCons (dBin dFdiv (dVar 0) (dVar 2)) (dCons (dBin dFdiv (dVar 1) (dVar 2)) (dNil)))))
def m_lowest : List D → M D := fun ds => fin (b_lowest (enter 3 ds))
-- best_order: steps, found, number, at, up, down, own
abbrev N_best_order : List Str := ["steps", "found", "number", "at", "up", "down", "own"]
def b_best_order : Sv := bSeq (sDrop (dCall m_check_steps (dCons (dVar 0) (dNil))))
  (bSeq (sSet 1 (dLst (dNil)))
  (bSeq (sFor (dRng (dCons (dCall bLen (dCons (dVar 0) (dNil))) (dNil))) (gSet 2) (bSeq (sSet 3 (dCall bLen (dCons (dLc (dItems (dVar 1)) (gSet 6) (dTr (dCall m_is_nearer (dCons (dVar 0) (dCons (dVar 6) (dCons (dVar 2) (dNil)))))) (dVar 6) [6]) (dNil))))
  (sSet 1 (dBin dAdd (dBin dAdd (dSlice (dVar 1) (dONone) (dOSome (dVar 3))) (dLst (dCons (dVar 2) (dNil)))) (dSlice (dVar 1) (dOSome (dVar 3)) (dONone))))))
  (bSeq (sAsg (dCall m_mean_of (dCons (dVar 0) (dCons (dVar 1) (dNil)))) (gTupD (lenOf 2 (gsCons (gSet 4) (gsCons (gSet 5) (gsNil))))))
  (sRet (dTup (dCons (dCall m_lowest (dCons (dVar 4) (dCons (dVar 5) (dNil)))) (dCons (dCall bTuple (dCons (dVar 1) (dNil))) (dNil))))))))
def m_best_order : List D → M D := fun ds => fin (b_best_order (enter 7 ds))
-- _law_bent: state, value, part, at, how
abbrev N__law_bent : List Str := ["state", "value", "part", "at", "how"]
def b__law_bent : Sv := bSeq (sIf (dTOr (dTNot (dTr (dIsi "tuple" (dVar 1)))) (dTNot (dTr (dVar 1)))) (sNever) (bNil))
  (bSeq (sPar 3 4 (dCons (dCallO m__law_draw 0 (dCons (dCall bLen (dCons (dVar 1) (dNil))) (dNil))) (dCons (dCallO m__law_draw 0 (dCons (dC (.int 7)) (dNil))) (dNil))))
  (bSeq (sSet 2 (dBin dIx (dVar 1) (dVar 3)))
  (bSeq (sIf (dTAnd (dTb (dBin dLt (dVar 4) (dC (.int 4)))) (dTr (dIsi "tuple" (dVar 2)))) (sNever) (bNil))
  (bSeq (sIf (dTAnd (dTb (dBin dLt (dVar 4) (dC (.int 4)))) (dTr (dIsi "int" (dVar 2)))) (sRet (dBin dAdd (dBin dAdd (dSlice (dVar 1) (dONone) (dOSome (dVar 3))) (dTup (dCons (dCallO m__law_pick 0 (dCons (dLst (dCons (dBin dAdd (dVar 2) (dC (.int 1))) (dCons (dBin dSub (dVar 2) (dC (.int 1))) (dCons (dBin dEq (dVar 2) (dC (.int 1))) (dCons (dC .non) (dCons (dBin dAdd (dVar 2) (dC (.int 3))) (dNil))))))) (dNil))) (dNil)))) (dSlice (dVar 1) (dOSome (dBin dAdd (dVar 3) (dC (.int 1)))) (dONone)))) (bNil))
  (bSeq (sIf (dTb (dBin dLt (dVar 4) (dC (.int 4)))) (sNever) (bNil))
  (sRet (dBin dIx (dLst (dCons (dBin dAdd (dSlice (dVar 1) (dONone) (dOSome (dVar 3))) (dSlice (dVar 1) (dOSome (dBin dAdd (dVar 3) (dC (.int 1)))) (dONone))) (dCons (dBin dAdd (dVar 1) (dTup (dCons (dVar 2) (dNil)))) (dCons (dCall bList (dCons (dVar 1) (dNil))) (dNil))))) (dBin dSub (dVar 4) (dC (.int 4))))))))))
def m__law_bent : D → List D → M (D × D) := fun s ds => finO (b__law_bent (enterO 5 s ds))
-- free_in: needs, done, rows, number, own
abbrev N_free_in : List Str := ["needs", "done", "rows", "number", "own"]
def b_free_in : Sv := bSeq (sSet 2 (dLstEn (dVar 0)))
  (sRet (dLc (dItems (dVar 2)) (gTupD (lenOf 2 (gsCons (gSet 3) (gsCons (gSet 4) (gsNil))))) (dTAnd (dTb (dBin dEq (dBin dAnd2 (dBin dShr (dVar 1) (dVar 3)) (dC (.int 1))) (dC (.int 0)))) (dTb (dBin dEq (dBin dAnd2 (dVar 4) (dVar 1)) (dVar 4)))) (dVar 3) [3, 4]))
def m_free_in : List D → M D := fun ds => fin (b_free_in (enter 5 ds))
-- sets_by: needs, found, known, at, here, number, there
abbrev N_sets_by : List Str := ["needs", "found", "known", "at", "here", "number", "there"]
def b_sets_by : Sv := bSeq (sPar3F 1 2 3 (dLst (dCons (dC (.int 0)) (dNil))) (dC (.dct [dk (.inl 0)] [.bl true])) (dC (.int 0)))
  (bSeq (sWhile (dTb (dBin dLt (dVar 3) (dCall bLen (dCons (dVarO 1) (dNil))))) (bSeq (sSet 4 (dBin dIx (dVarO 1) (dVar 3)))
  (bSeq (sAug 3 aAdd (dC (.int 1)))
  (sFor (dItems (dCall m_free_in (dCons (dVar 0) (dCons (dVar 4) (dNil))))) (gSet 5) (bSeq (sSet 6 (dBin dOr2 (dVar 4) (dBin dShl (dC (.int 1)) (dVar 5))))
  (sIf (dTb (dBin dNotInK (dVar 6) (dVarO 2))) (bSeq (sSubK 2 (dVar 6) (dC (.bl true)))
  (sDrop (dMeth fApp 1 (dCons (dVar 6) (dNil))))) (bNil)))))))
  (sRetO 1))
def m_sets_by : List D → M D := fun ds => fin (b_sets_by (enter 7 ds))
-- needs_by: steps, links, needs, one, other
abbrev N_needs_by : List Str := ["steps", "links", "needs", "one", "other"]
def b_needs_by : Sv := bSeq (sSetO 2 (dBin dMulL (dLst (dCons (dC (.int 0)) (dNil))) (dCall bLen (dCons (dVar 0) (dNil)))))
  (bSeq (sFor (dItems (dVar 1)) (gTupD (lenOf 2 (gsCons (gSet 3) (gsCons (gSet 4) (gsNil))))) (sAugSub 2 aOr (dVar 4) (dBin dShl (dC (.int 1)) (dVar 3))))
  (sRetO 2))
def m_needs_by : List D → M D := fun ds => fin (b_needs_by (enter 5 ds))
-- check_links: steps, links, link, own
abbrev N_check_links : List Str := ["steps", "links", "link", "own"]
def b_check_links : Sv := bSeq (sIf (dTb (dBin dGt (dCall bLen (dCons (dVar 0) (dNil))) (dC (.int 14)))) (sRaise 1 (dC (.str "steps"))) (bNil))
  (bSeq (sIf (dTOr (dTNot (dTr (dIsi "tuple" (dVar 1)))) (dTb (dBin dGt (dCall bLen (dCons (dVar 1) (dNil))) (dC (.int 60))))) (sRaise 1 (dC (.str "links"))) (bNil))
  (bSeq (sFor (dItems (dVar 1)) (gSet 2) (bSeq (sIf (dTOr (dTNot (dTr (dIsi "tuple" (dVar 2)))) (dTOr (dTb (dBin dNe (dCall bLen (dCons (dVar 2) (dNil))) (dC (.int 2)))) (dTb (dBin dEq (dBin dIx (dVar 2) (dC (.int 0))) (dBin dIx (dVar 2) (dC (.int 1))))))) (sRaise 1 (dC (.str "links"))) (bNil))
  (sIf (dTNot (dTr (dCall bAll (dCons (dLc (dItems (dVar 2)) (gSet 3) (dYes) (dCall m_is_between (dCons (dVar 3) (dCons (dC (.int 0)) (dCons (dBin dSub (dCall bLen (dCons (dVar 0) (dNil))) (dC (.int 1))) (dNil))))) [3]) (dNil))))) (sRaise 1 (dC (.str "links"))) (bNil))))
  (sIf (dTb (dBin dNe (dBin dIx (dCall m_sets_by (dCons (dCall m_needs_by (dCons (dVar 0) (dCons (dVar 1) (dNil)))) (dNil))) (dNeg (dC (.int 1)))) (dBin dSub (dBin dShl (dC (.int 1)) (dCall bLen (dCons (dVar 0) (dNil)))) (dC (.int 1))))) (sRaise 1 (dC (.str "ring"))) (bNil))))
def m_check_links : List D → M D := fun ds => fin (b_check_links (enter 4 ds))
-- best_linked: steps, links, here, best, whole, needs, back, own, number, there, up, cost, undone, fails, step
abbrev N_best_linked : List Str := ["steps", "links", "here", "best", "whole", "needs", "back", "own", "number", "there", "up", "cost", "undone", "fails", "step"]
def b_best_linked : Sv := bSeq (sDrop (dCall m_check_steps (dCons (dVar 0) (dNil))))
  (bSeq (sDrop (dCall m_check_links (dCons (dVar 0) (dCons (dVar 1) (dNil)))))
  (bSeq (sPar3F 3 4 5 (dC (.dct [] [])) (dC (.dct [] [])) (dCall m_needs_by (dCons (dVar 0) (dCons (dVar 1) (dNil)))))
  (bSeq (sFor (dItems (dRev (dCall m_sets_by (dCons (dVar 5) (dNil))))) (gSet 2) (bSeq (sSet 6 (dCall bSum (dCons (dLc (dEnum (dVar 0)) (gTupD (lenOf 2 (gsCons (gSet 8) (gsCons (gSet 14) (gsNil))))) (dTb (dBin dEq (dBin dAnd2 (dBin dShr (dVar 2) (dVar 8)) (dC (.int 1))) (dC (.int 1)))) (dBin dIx (dVar 14) (dC (.int 1))) [8, 14]) (dNil))))
  (bSeq (sSet 7 (dC .non))
  (bSeq (sSubK 4 (dVar 2) (dC (.int 1)))
  (bSeq (sFor (dItems (dCall m_free_in (dCons (dVar 5) (dCons (dVar 2) (dNil))))) (gSet 8) (bSeq (sAsg (dBin dIx (dVar 0) (dVar 8)) (gTupD (lenOf 3 (gsCons (gSet 11) (gsCons (gSet 12) (gsCons (gSet 13) (gsNil)))))))
  (bSeq (sSet 9 (dBin dOr2 (dVar 2) (dBin dShl (dC (.int 1)) (dVar 8))))
  (bSeq (sSubK 4 (dVar 2) (dBin dMul (dBin dIxK (dVarO 4) (dVar 9)) (dBin dIx (dVar 13) (dC (.int 1)))))
  (bSeq (sSet 10 (dBin dAdd (dBin dMul (dBin dAdd (dBin dMul (dVar 11) (dBin dIx (dVar 13) (dC (.int 1)))) (dBin dMul (dBin dIx (dVar 13) (dC (.int 0))) (dVar 6))) (dBin dIxK (dVarO 4) (dVar 9))) (dBin dMul (dBin dSub (dBin dIx (dVar 13) (dC (.int 1))) (dBin dIx (dVar 13) (dC (.int 0)))) (dBin dIx (dBin dIxK (dVarO 3) (dVar 9)) (dC (.int 0))))))
  (sIf (dTOr (dTb (dBin dIsN (dVar 7) (dC .non))) (dTb (dBin dLt (dVar 10) (dBin dIx (dVar 7) (dC (.int 0)))))) (sSet 7 (dTup (dCons (dVar 10) (dCons (dBin dAdd (dTup (dCons (dVar 8) (dNil))) (dBin dIx (dBin dIxK (dVarO 3) (dVar 9)) (dC (.int 1)))) (dNil))))) (bNil)))))))
  (sSubK 3 (dVar 2) (dIf (dTb (dBin dIsN (dVar 7) (dC .non))) (dTup (dCons (dC (.int 0)) (dCons (dTup (dNil)) (dNil)))) (dVar 7))))))))
  (sRet (dTup (dCons (dCall m_lowest (dCons (dBin dIx (dBin dIxK (dVarO 3) (dC (.int 0))) (dC (.int 0))) (dCons (dBin dIxK (dVarO 4) (dC (.int 0))) (dNil)))) (dCons (dBin dIx (dBin dIxK (dVarO 3) (dC (.int 0))) (dC (.int 1))) (dNil))))))))
def m_best_linked : List D → M D := fun ds => fin (b_best_linked (enter 15 ds))
-- is_order: steps, order, own
abbrev N_is_order : List Str := ["steps", "order", "own"]
def b_is_order : Sv := bSeq (sIf (dTOr (dTNot (dTr (dIsi "tuple" (dVar 1)))) (dTNot (dTr (dCall bAll (dCons (dLc (dItems (dVar 1)) (gSet 2) (dYes) (dCall m_is_integer (dCons (dVar 2) (dNil))) [2]) (dNil)))))) (sRet (dC (.bl false))) (bNil))
  (sRet (dBin dEq (dCall bSorted (dCons (dVar 1) (dNil))) (dLstRg (dCall bLen (dCons (dVar 0) (dNil))))))
def m_is_order : List D → M D := fun ds => fin (b_is_order (enter 3 ds))
-- check_order: steps, order
abbrev N_check_order : List Str := ["steps", "order"]
def b_check_order : Sv := sIf (dTNot (dTr (dCall m_is_order (dCons (dVar 0) (dCons (dVar 1) (dNil)))))) (sRaise 1 (dC (.str "order"))) (bNil)
def m_check_order : List D → M D := fun ds => fin (b_check_order (enter 2 ds))
-- worst_of: steps, order, up, down, cost
abbrev N_worst_of : List Str := ["steps", "order", "up", "down", "cost"]
def b_worst_of : Sv := sRet (dCall bMax (dCons (dLc (dItems (dCall m_rows_of (dCons (dVar 0) (dCons (dVar 1) (dNil))))) (gTupD (lenOf 3 (gsCons (gSet 2) (gsCons (gSet 3) (gsCons (gSet 4) (gsNil)))))) (dTb (dBin dGt (dVar 2) (dC (.int 0)))) (dVar 4) [2, 3, 4]) (dNil)))
def m_worst_of : List D → M D := fun ds => fin (b_worst_of (enter 5 ds))
-- worst_cost: steps, order
abbrev N_worst_cost : List Str := ["steps", "order"]
def b_worst_cost : Sv := bSeq (sDrop (dCall m_check_steps (dCons (dVar 0) (dNil))))
  (bSeq (sDrop (dCall m_check_order (dCons (dVar 0) (dCons (dVar 1) (dNil)))))
  (sRet (dCall m_worst_of (dCons (dVar 0) (dCons (dVar 1) (dNil))))))
def m_worst_cost : List D → M D := fun ds => fin (b_worst_cost (enter 2 ds))
-- accept_best: steps, order, rows, at, number
abbrev N_accept_best : List Str := ["steps", "order", "rows", "at", "number"]
def b_accept_best : Sv := bSeq (sDrop (dCall m_check_steps (dCons (dVar 0) (dNil))))
  (bSeq (sIf (dTNot (dTr (dCall m_is_order (dCons (dVar 0) (dCons (dVar 1) (dNil)))))) (sRaise 2 (dC (.str "form"))) (bNil))
  (bSeq (sSet 2 (dLc (dItems (dVar 1)) (gSet 4) (dTOr (dTb (dBin dGt (dCall m_weight_of (dCons (dBin dIx (dVar 0) (dVar 4)) (dNil))) (dC (.int 0)))) (dTb (dBin dGt (dBin dIx (dBin dIx (dBin dIx (dVar 0) (dVar 4)) (dC (.int 2))) (dC (.int 0))) (dC (.int 0))))) (dBin dIx (dVar 0) (dVar 4)) [4]))
  (sFor (dRng (dCons (dBin dSub (dCall bLen (dCons (dVar 2) (dNil))) (dC (.int 1))) (dNil))) (gSet 3) (sIf (dTb (dBin dLt (dBin dMul (dCall m_weight_of (dCons (dBin dIx (dVar 2) (dBin dAdd (dVar 3) (dC (.int 1)))) (dNil))) (dBin dIx (dBin dIx (dBin dIx (dVar 2) (dVar 3)) (dC (.int 2))) (dC (.int 0)))) (dBin dMul (dCall m_weight_of (dCons (dBin dIx (dVar 2) (dVar 3)) (dNil))) (dBin dIx (dBin dIx (dBin dIx (dVar 2) (dBin dAdd (dVar 3) (dC (.int 1)))) (dC (.int 2))) (dC (.int 0)))))) (sRaise 2 (dC (.str "swap"))) (bNil)))))
def m_accept_best : List D → M D := fun ds => fin (b_accept_best (enter 5 ds))
-- least_worst: steps, failing, sure, order, dear, last, number, step
abbrev N_least_worst : List Str := ["steps", "failing", "sure", "order", "dear", "last", "number", "step"]
def b_least_worst : Sv := bSeq (sDrop (dCall m_check_steps (dCons (dVar 0) (dNil))))
  (sNever)
def m_least_worst : List D → M D := fun ds => fin (b_least_worst (enter 8 ds))
-- chances: steps, order, up, down, cost
abbrev N_chances : List Str := ["steps", "order", "up", "down", "cost"]
def b_chances : Sv := bSeq (sDrop (dCall m_check_steps (dCons (dVar 0) (dNil))))
  (bSeq (sDrop (dCall m_check_order (dCons (dVar 0) (dCons (dVar 1) (dNil)))))
  (sNever))
def m_chances : List D → M D := fun ds => fin (b_chances (enter 5 ds))
-- mean_cost: steps, order, up, down
abbrev N_mean_cost : List Str := ["steps", "order", "up", "down"]
def b_mean_cost : Sv := bSeq (sDrop (dCall m_check_steps (dCons (dVar 0) (dNil))))
  (bSeq (sDrop (dCall m_check_order (dCons (dVar 0) (dCons (dVar 1) (dNil)))))
  (sNever))
def m_mean_cost : List D → M D := fun ds => fin (b_mean_cost (enter 4 ds))
-- _law_called: call, some
abbrev N__law_called : List Str := ["call", "some"]
def tbl : Tbl
  | 0 => some (2, m_best_linked)
  | 1 => some (2, m_worst_cost)
  | 2 => some (2, m_accept_best)
  | 3 => some (1, m_best_order)
  | 4 => some (1, m_least_worst)
  | 5 => some (2, m_chances)
  | 6 => some (2, m_mean_cost)
  | _ => none
def b__law_called : Sv := bSeq (sIf (dTb (dBin dLt (dCall bLen (dCons (dVar 1) (dNil))) (dC (.int 3)))) (sRet (dIf (dTb (dBin dEq (dCall bLen (dCons (dVar 1) (dNil))) (dC (.int 1)))) (dCallV tbl 0 (dCons (dBin dIx (dVar 1) (dC (.int 0))) (dNil))) (dCallV tbl 0 (dCons (dBin dIx (dVar 1) (dC (.int 0))) (dCons (dBin dIx (dVar 1) (dC (.int 1))) (dNil)))))) (bNil))
  (sNever)
def m__law_called : List D → M D := fun ds => fin (b__law_called (enter 2 ds))
-- _law_word: error, heads, found
abbrev N__law_word : List Str := ["error", "heads", "found"]
-- _law_heard: call, some, error
abbrev N__law_heard : List Str := ["call", "some", "error"]
def b__law_heard : Sv := sHeard (sRet (dLst (dCons (dCall m__law_called (dCons (dVar 0) (dCons (dVar 1) (dNil)))) (dNil)))) 2
def m__law_heard : List D → M D := fun ds => fin (b__law_heard (enter 3 ds))
-- _law_whole: value
abbrev N__law_whole : List Str := ["value"]
def b__law_whole : Sv := sRet (dAndV (dIsi "int" (dVar 0)) (dNotV (dIsi "bool" (dVar 0))))
def m__law_whole : List D → M D := fun ds => fin (b__law_whole (enter 1 ds))
-- _law_best_due: steps, order, last, number, weight, cost, back, fails, own
abbrev N__law_best_due : List Str := ["steps", "order", "last", "number", "weight", "cost", "back", "fails", "own"]
def b__law_best_due : Sv := bSeq (sIf (dTOr (dTNot (dTr (dIsi "tuple" (dVar 1)))) (dTOr (dTNot (dTr (dCall bAll (dCons (dLc (dItems (dVar 1)) (gSet 8) (dYes) (dCall m__law_whole (dCons (dVar 8) (dNil))) [8]) (dNil))))) (dTb (dBin dNe (dCall bSorted (dCons (dVar 1) (dNil))) (dLstRg (dCall bLen (dCons (dVar 0) (dNil)))))))) (sRet (dC (.str "paper form"))) (bNil))
  (bSeq (sSet 2 (dC .non))
  (bSeq (sFor (dItems (dVar 1)) (gSet 3) (bSeq (sAsg (dBin dIx (dVar 0) (dVar 3)) (gTupD (lenOf 3 (gsCons (gSet 5) (gsCons (gSet 6) (gsCons (gSet 7) (gsNil)))))))
  (bSeq (sSet 4 (dBin dAdd (dBin dMul (dVar 5) (dBin dIx (dVar 7) (dC (.int 1)))) (dBin dMul (dVar 6) (dBin dSub (dBin dIx (dVar 7) (dC (.int 1))) (dBin dIx (dVar 7) (dC (.int 0)))))))
  (sIf (dTOr (dTb (dBin dGt (dVar 4) (dC (.int 0)))) (dTb (dBin dGt (dBin dIx (dVar 7) (dC (.int 0))) (dC (.int 0))))) (bSeq (sIf (dTAnd (dTb (dBin dNotN (dVar 2) (dC .non))) (dTb (dBin dLt (dBin dMul (dVar 4) (dBin dIx (dVar 2) (dC (.int 1)))) (dBin dMul (dBin dIx (dVar 2) (dC (.int 0))) (dBin dIx (dVar 7) (dC (.int 0))))))) (sRet (dC (.str "paper swap"))) (bNil))
  (sSet 2 (dTup (dCons (dVar 4) (dCons (dBin dIx (dVar 7) (dC (.int 0))) (dNil)))))) (bNil)))))
  (sRet (dLst (dCons (dC .non) (dNil))))))
def m__law_best_due : List D → M D := fun ds => fin (b__law_best_due (enter 9 ds))
-- law: script, state, turn, good, odd, wrong, order, links, ring, told, steps, k, right, at, near, bad, own, many, size, most, down, way
abbrev N_law : List Str := ["script", "state", "turn", "good", "odd", "wrong", "order", "links", "ring", "told", "steps", "k", "right", "at", "near", "bad", "own", "many", "size", "most", "down", "way"]
def b_law : Sv := bSeq (sSetO 1 (dCall m__law_start (dCons (dVar 0) (dNil))))
  (bSeq (sFor (dRng (dCons (dC (.int 4)) (dNil))) (gSet 2) (bSeq (sPar3 17 18 19 (dCons (dCallO m__law_pick 1 (dCons (dLst (dCons (dC (.int 1)) (dCons (dC (.int 2)) (dCons (dC (.int 3)) (dCons (dC (.int 5)) (dCons (dC (.int 20)) (dNil))))))) (dNil))) (dCons (dCallO m__law_pick 1 (dCons (dLst (dCons (dC (.int 2)) (dCons (dC (.int 9)) (dCons (dBin dPow (dC (.int 10)) (dC (.int 12))) (dNil))))) (dNil))) (dCons (dCallO m__law_pick 1 (dCons (dLst (dCons (dC (.int 1)) (dCons (dC (.int 3)) (dCons (dC (.int 1000)) (dNil))))) (dNil))) (dNil)))))
  (bSeq (sSetO 10 (dLst (dNil)))
  (bSeq (sFor (dRng (dCons (dVar 17) (dNil))) (gSet 11) (bSeq (sSet 20 (dBin dAdd (dC (.int 1)) (dCallO m__law_draw 1 (dCons (dVar 19) (dNil)))))
  (sDrop (dMeth fApp 10 (dCons (dTup (dCons (dCallO m__law_draw 1 (dCons (dVar 18) (dNil))) (dCons (dCallO m__law_draw 1 (dCons (dVar 18) (dNil))) (dCons (dTup (dCons (dCallO m__law_draw 1 (dCons (dVar 20) (dNil))) (dCons (dVar 20) (dNil)))) (dNil))))) (dNil))))))
  (bSeq (sSet 10 (dCall bTuple (dCons (dVarO 10) (dNil))))
  (bSeq (sSet 12 (dBin dIx (dCall m_best_order (dCons (dVar 10) (dNil))) (dC (.int 1))))
  (bSeq (sSet 13 (dCallO m__law_pick 1 (dCons (dLst (dCons (dBin dSub (dVar 17) (dC (.int 1))) (dCons (dCallO m__law_draw 1 (dCons (dVar 17) (dNil))) (dNil)))) (dNil))))
  (bSeq (sSet 14 (dBin dAdd (dBin dAdd (dSlice (dVar 12) (dONone) (dOSome (dCall bMax (dCons (dLst (dCons (dC (.int 0)) (dCons (dBin dSub (dVar 13) (dC (.int 1))) (dNil)))) (dNil))))) (dRev (dSlice (dVar 12) (dOSome (dCall bMax (dCons (dLst (dCons (dC (.int 0)) (dCons (dBin dSub (dVar 13) (dC (.int 1))) (dNil)))) (dNil)))) (dOSome (dBin dAdd (dVar 13) (dC (.int 1))))))) (dSlice (dVar 12) (dOSome (dBin dAdd (dVar 13) (dC (.int 1)))) (dONone))))
  (bSeq (sSet 15 (dLst (dCons (dVar 12) (dCons (dVar 14) (dCons (dRev (dVar 12)) (dCons (dBin dAdd (dSlice (dVar 12) (dOSome (dC (.int 1))) (dONone)) (dSlice (dVar 12) (dONone) (dOSome (dC (.int 1))))) (dCons (dSlice (dVar 12) (dONone) (dOSome (dNeg (dC (.int 1))))) (dCons (dBin dAdd (dVar 12) (dSlice (dVar 12) (dOSome (dNeg (dC (.int 1)))) (dONone))) (dCons (dBin dAdd (dSlice (dVar 12) (dONone) (dOSome (dNeg (dC (.int 1))))) (dTup (dCons (dVar 17) (dNil)))) (dCons (dCallO m__law_bent 1 (dCons (dVar 12) (dNil))) (dCons (dC .non) (dCons (dCall bTuple (dCons (dLstRg (dVar 17)) (dNil))) (dNil)))))))))))))
  (bSeq (sFor (dItems (dVar 15)) (gSet 16) (sIf (dTb (dBin dNe (dCall m__law_heard (dCons (dC (.fn 2)) (dCons (dLst (dCons (dVar 10) (dCons (dVar 16) (dNil)))) (dNil)))) (dCall m__law_best_due (dCons (dVar 10) (dCons (dVar 16) (dNil)))))) (sNever) (bNil)))
  (sIf (dTb (dBin dNe (dCall m__law_heard (dCons (dC (.fn 2)) (dCons (dLst (dCons (dVar 10) (dCons (dVar 12) (dNil)))) (dNil)))) (dLst (dCons (dC .non) (dNil))))) (sNever) (bNil))))))))))))
  (bSeq (sSet 3 (dTup (dCons (dTup (dCons (dC (.int 1)) (dCons (dC (.int 2)) (dCons (dTup (dCons (dC (.int 1)) (dCons (dC (.int 2)) (dNil)))) (dNil))))) (dCons (dTup (dCons (dC (.int 3)) (dCons (dC (.int 4)) (dCons (dTup (dCons (dC (.int 0)) (dCons (dC (.int 1)) (dNil)))) (dNil))))) (dCons (dTup (dCons (dC (.int 5)) (dCons (dC (.int 6)) (dCons (dTup (dCons (dC (.int 1)) (dCons (dC (.int 3)) (dNil)))) (dNil))))) (dNil))))))
  (bSeq (sSet 4 (dLst (dCons (dC .non) (dCons (dTup (dNil)) (dCons (dTup (dCons (dC (.int 1)) (dCons (dC (.int 2)) (dNil)))) (dCons (dTup (dCons (dC (.int 1)) (dCons (dC (.int 2)) (dCons (dTup (dCons (dC (.int 1)) (dCons (dC (.int 1)) (dNil)))) (dNil))))) (dCons (dTup (dCons (dC (.int 1)) (dCons (dC (.int 2)) (dCons (dTup (dCons (dNeg (dC (.int 1))) (dCons (dC (.int 2)) (dNil)))) (dNil))))) (dCons (dTup (dCons (dC (.int 1)) (dCons (dC (.int 2)) (dCons (dTup (dCons (dC (.int 0)) (dCons (dC (.int 0)) (dNil)))) (dNil))))) (dCons (dTup (dCons (dC (.int 1)) (dCons (dC (.int 2)) (dCons (dTup (dCons (dC (.int 1)) (dCons (dC (.int 1001)) (dNil)))) (dNil))))) (dCons (dTup (dCons (dNeg (dC (.int 1))) (dCons (dC (.int 2)) (dCons (dTup (dCons (dC (.int 0)) (dCons (dC (.int 1)) (dNil)))) (dNil))))) (dCons (dTup (dCons (dC (.int 1)) (dCons (dBin dAdd (dBin dPow (dC (.int 10)) (dC (.int 12))) (dC (.int 1))) (dCons (dTup (dCons (dC (.int 0)) (dCons (dC (.int 1)) (dNil)))) (dNil))))) (dCons (dTup (dCons (dC (.bl true)) (dCons (dC (.int 2)) (dCons (dTup (dCons (dC (.int 0)) (dCons (dC (.int 1)) (dNil)))) (dNil))))) (dCons (dTup (dCons (dC (.int 1)) (dCons (dC (.int 2)) (dCons (dTup (dCons (dC (.bl false)) (dCons (dC (.int 1)) (dNil)))) (dNil))))) (dNil))))))))))))))
  (bSeq (sSet 4 (dBin dAdd (dVar 4) (dLst (dCons (dTup (dCons (dC (.int 1)) (dCons (dC (.int 2)) (dCons (dTup (dCons (dC (.int 0)) (dCons (dC (.bl true)) (dNil)))) (dNil))))) (dCons (dTup (dCons (dC (.int 1)) (dCons (dC (.int 2)) (dCons (dC .non) (dNil))))) (dCons (dTup (dCons (dC (.int 1)) (dCons (dC (.int 2)) (dCons (dTup (dCons (dC (.int 0)) (dNil))) (dNil))))) (dCons (dTup (dCons (dC (.int 1)) (dCons (dC .non) (dCons (dTup (dCons (dC (.int 0)) (dCons (dC (.int 1)) (dNil)))) (dNil))))) (dCons (dTup (dCons (dC (.int 1)) (dCons (dC (.int 2)) (dCons (dTup (dCons (dC (.int 0)) (dCons (dC (.int 1)) (dNil)))) (dCons (dC (.int 3)) (dNil)))))) (dCons (dLst (dCons (dC (.int 1)) (dCons (dC (.int 2)) (dCons (dTup (dCons (dC (.int 0)) (dCons (dC (.int 1)) (dNil)))) (dNil))))) (dCons (dTup (dCons (dC (.int 1)) (dCons (dC (.int 2)) (dCons (dLst (dCons (dC (.int 0)) (dCons (dC (.int 1)) (dNil)))) (dNil))))) (dCons (dC (.int 5)) (dNil))))))))))))
  (bSeq (sFor (dItems (dLst (dCons (dC .non) (dCons (dTup (dNil)) (dCons (dBin dMul (dVar 3) (dC (.int 7))) (dCons (dC (.int 5)) (dCons (dCall bList (dCons (dVar 3) (dNil))) (dCons (dBin dAdd (dSlice (dVar 3) (dONone) (dOSome (dC (.int 2)))) (dTup (dCons (dCallO m__law_pick 1 (dCons (dVar 4) (dNil))) (dNil)))) (dCons (dBin dAdd (dTup (dCons (dCallO m__law_pick 1 (dCons (dVar 4) (dNil))) (dNil))) (dSlice (dVar 3) (dOSome (dC (.int 1))) (dONone))) (dNil)))))))))) (gSet 5) (bSeq (sSet 9 (dLc (dItems (dLst (dCons (dC (.fn 3)) (dCons (dC (.fn 4)) (dNil))))) (gSet 21) (dYes) (dCall m__law_heard (dCons (dVar 21) (dCons (dLst (dCons (dVar 5) (dNil))) (dNil)))) [21]))
  (sIf (dTb (dBin dNe (dBin dAdd (dVar 9) (dLc (dItems (dLst (dCons (dC (.fn 5)) (dCons (dC (.fn 6)) (dCons (dC (.fn 1)) (dCons (dC (.fn 2)) (dCons (dC (.fn 0)) (dNil)))))))) (gSet 21) (dYes) (dCall m__law_heard (dCons (dVar 21) (dCons (dLst (dCons (dVar 5) (dCons (dC .non) (dNil)))) (dNil)))) [21])) (dBin dMul (dLst (dCons (dC (.str "flow steps")) (dNil))) (dC (.int 7))))) (sNever) (bNil))))
  (bSeq (sSet 6 (dCallO m__law_pick 1 (dCons (dLst (dCons (dC .non) (dCons (dTup (dCons (dC (.int 0)) (dCons (dC (.int 1)) (dNil)))) (dCons (dTup (dCons (dC (.int 0)) (dCons (dC (.int 1)) (dCons (dC (.int 1)) (dNil))))) (dCons (dTup (dCons (dC (.int 0)) (dCons (dC (.int 1)) (dCons (dC (.int 3)) (dNil))))) (dCons (dTup (dCons (dC (.int 0)) (dCons (dC (.bl true)) (dCons (dC (.int 2)) (dNil))))) (dCons (dTup (dCons (dC (.int 0)) (dCons (dC (.int 1)) (dCons (dC (.int 2)) (dCons (dC (.int 2)) (dNil)))))) (dCons (dTup (dCons (dC (.str "0")) (dCons (dC (.int 1)) (dCons (dC (.int 2)) (dNil))))) (dCons (dC (.int 5)) (dCons (dLst (dCons (dC (.int 0)) (dCons (dC (.int 1)) (dCons (dC (.int 2)) (dNil))))) (dCons (dTup (dNil)) (dNil)))))))))))) (dNil))))
  (bSeq (sIf (dTb (dBin dNe (dLc (dItems (dLst (dCons (dC (.fn 5)) (dCons (dC (.fn 6)) (dCons (dC (.fn 1)) (dNil)))))) (gSet 21) (dYes) (dCall m__law_heard (dCons (dVar 21) (dCons (dLst (dCons (dVar 3) (dCons (dVar 6) (dNil)))) (dNil)))) [21]) (dBin dMul (dLst (dCons (dC (.str "argument order")) (dNil))) (dC (.int 3))))) (sNever) (bNil))
  (bSeq (sSet 7 (dCallO m__law_pick 1 (dCons (dLst (dCons (dC .non) (dCons (dTup (dCons (dTup (dCons (dC (.int 0)) (dCons (dC (.int 1)) (dCons (dC (.int 2)) (dNil))))) (dNil))) (dCons (dTup (dCons (dTup (dCons (dC (.int 0)) (dCons (dC (.int 0)) (dNil)))) (dNil))) (dCons (dTup (dCons (dTup (dCons (dC (.int 0)) (dCons (dC (.int 3)) (dNil)))) (dNil))) (dCons (dTup (dCons (dTup (dCons (dNeg (dC (.int 1))) (dCons (dC (.int 0)) (dNil)))) (dNil))) (dCons (dTup (dCons (dTup (dCons (dC (.int 0)) (dCons (dC (.bl true)) (dNil)))) (dNil))) (dCons (dTup (dCons (dC (.int 5)) (dNil))) (dCons (dC (.int 5)) (dCons (dLst (dCons (dTup (dCons (dC (.int 0)) (dCons (dC (.int 1)) (dNil)))) (dNil))) (dCons (dBin dMul (dTup (dCons (dTup (dCons (dC (.int 0)) (dCons (dC (.int 1)) (dNil)))) (dNil))) (dC (.int 61))) (dCons (dTup (dCons (dTup (dCons (dC (.int 0)) (dCons (dC .non) (dNil)))) (dNil))) (dNil))))))))))))) (dNil))))
  (bSeq (sSet 8 (dCallO m__law_pick 1 (dCons (dLst (dCons (dTup (dCons (dTup (dCons (dC (.int 0)) (dCons (dC (.int 1)) (dNil)))) (dCons (dTup (dCons (dC (.int 1)) (dCons (dC (.int 0)) (dNil)))) (dNil)))) (dCons (dTup (dCons (dTup (dCons (dC (.int 0)) (dCons (dC (.int 1)) (dNil)))) (dCons (dTup (dCons (dC (.int 1)) (dCons (dC (.int 2)) (dNil)))) (dCons (dTup (dCons (dC (.int 2)) (dCons (dC (.int 0)) (dNil)))) (dNil))))) (dCons (dBin dAdd (dBin dMul (dTup (dCons (dTup (dCons (dC (.int 0)) (dCons (dC (.int 1)) (dNil)))) (dNil))) (dC (.int 58))) (dTup (dCons (dTup (dCons (dC (.int 1)) (dCons (dC (.int 2)) (dNil)))) (dCons (dTup (dCons (dC (.int 2)) (dCons (dC (.int 1)) (dNil)))) (dNil))))) (dNil))))) (dNil))))
  (bSeq (sSet 9 (dLst (dCons (dCall m__law_heard (dCons (dC (.fn 0)) (dCons (dLst (dCons (dBin dMul (dVar 3) (dC (.int 5))) (dCons (dVar 7) (dNil)))) (dNil)))) (dCons (dCall m__law_heard (dCons (dC (.fn 0)) (dCons (dLst (dCons (dVar 3) (dCons (dVar 7) (dNil)))) (dNil)))) (dCons (dCall m__law_heard (dCons (dC (.fn 0)) (dCons (dLst (dCons (dVar 3) (dCons (dVar 8) (dNil)))) (dNil)))) (dNil))))))
  (bSeq (sIf (dTb (dBin dNe (dVar 9) (dLst (dCons (dC (.str "argument steps")) (dCons (dC (.str "argument links")) (dCons (dC (.str "argument ring")) (dNil))))))) (sNever) (bNil))
  (bSeq (sSet 9 (dLst (dCons (dCall m__law_heard (dCons (dC (.fn 0)) (dCons (dLst (dCons (dSlice (dVar 3) (dOSome (dC (.int 1))) (dOSome (dC (.int 2)))) (dCons (dTup (dNil)) (dNil)))) (dNil)))) (dCons (dCall m__law_heard (dCons (dC (.fn 0)) (dCons (dLst (dCons (dVar 3) (dCons (dBin dMul (dTup (dCons (dTup (dCons (dC (.int 2)) (dCons (dC (.int 1)) (dNil)))) (dNil))) (dC (.int 60))) (dNil)))) (dNil)))) (dCons (dCall m__law_heard (dCons (dC (.fn 1)) (dCons (dLst (dCons (dBin dMul (dSlice (dVar 3) (dONone) (dOSome (dC (.int 1)))) (dC (.int 20))) (dCons (dCall bTuple (dCons (dLstRg (dC (.int 20))) (dNil))) (dNil)))) (dNil)))) (dNil))))))
  (sRet (dAndV (dBin dEq (dBin dIx (dVar 9) (dC (.int 0))) (dLst (dCons (dTup (dCons (dTup (dCons (dC (.int 3)) (dCons (dC (.int 1)) (dNil)))) (dCons (dTup (dCons (dC (.int 0)) (dNil))) (dNil)))) (dNil)))) (dAndV (dIsi "list" (dBin dIx (dVar 9) (dC (.int 1)))) (dBin dEq (dBin dIx (dVar 9) (dC (.int 2))) (dLst (dCons (dBin dAdd (dC (.int 20)) (dBin dMul (dC (.int 2)) (dC (.int 19)))) (dNil)))))))))))))))))))
def m_law : List D → M D := fun ds => fin (b_law (enter 22 ds))
structure TF (K : PySem.W.Frag) (mg : Str → Option Value) (g : Ce) (Ca Ci : Nat → Addr) (AW : Addr) : Prop where
  f__law_start : FunAt K mg "_law_start" (top 38) ["script"]
  f__law_draw : FunAt K mg "_law_draw" (top 39) ["state", "many"]
  f__law_pick : FunAt K mg "_law_pick" (top 40) ["state", "some"]
  f_is_integer : FunAt K mg "is_integer" (top 12) ["value"]
  f_is_between : FunAt K mg "is_between" (top 13) ["value", "low", "high"]
  f_check_steps : FunAt K mg "check_steps" (top 17) ["steps"]
  f_weight_of : FunAt K mg "weight_of" (top 28) ["step"]
  f_is_nearer : FunAt K mg "is_nearer" (top 27) ["steps", "one", "other"]
  f_rows_of : FunAt K mg "rows_of" (top 22) ["steps", "order"]
  f_mean_of : FunAt K mg "mean_of" (top 23) ["steps", "order"]
  f_common_divisor : FunAt K mg "common_divisor" (top 15) ["one", "other"]
  f_lowest : FunAt K mg "lowest" (top 20) ["up", "down"]
  f_best_order : FunAt K mg "best_order" (top 29) ["steps"]
  f__law_bent : FunAt K mg "_law_bent" (top 45) ["state", "value"]
  f_free_in : FunAt K mg "free_in" (top 34) ["needs", "done"]
  f_sets_by : FunAt K mg "sets_by" (top 35) ["needs"]
  f_needs_by : FunAt K mg "needs_by" (top 33) ["steps", "links"]
  f_check_links : FunAt K mg "check_links" (top 32) ["steps", "links"]
  f_best_linked : FunAt K mg "best_linked" (top 36) ["steps", "links"]
  f_is_order : FunAt K mg "is_order" (top 19) ["steps", "order"]
  f_check_order : FunAt K mg "check_order" (top 18) ["steps", "order"]
  f_worst_of : FunAt K mg "worst_of" (top 25) ["steps", "order"]
  f_worst_cost : FunAt K mg "worst_cost" (top 26) ["steps", "order"]
  f_accept_best : FunAt K mg "accept_best" (top 30) ["steps", "order"]
  f_least_worst : FunAt K mg "least_worst" (top 31) ["steps"]
  f_chances : FunAt K mg "chances" (top 21) ["steps", "order"]
  f_mean_cost : FunAt K mg "mean_cost" (top 24) ["steps", "order"]
  f__law_called : FunAt K mg "_law_called" (top 42) ["call", "some"]
  f__law_word : FunAt K mg "_law_word" (top 41) ["error"]
  f__law_heard : FunAt K mg "_law_heard" (top 43) ["call", "some"]
  f__law_whole : FunAt K mg "_law_whole" (top 44) ["value"]
  f__law_best_due : FunAt K mg "_law_best_due" (top 46) ["steps", "order"]
  f_law : FunAt K mg "law" (top 47) ["script"]
  k_MAX_DONE : ∃ t, mg "MAX_DONE" = some (.int 14 t)
  k_MAX_ODDS : ∃ t, mg "MAX_ODDS" = some (.int 1000 t)
  k_MAX_ROWS : ∃ t, mg "MAX_ROWS" = some (.int 60 t)
  k_MAX_SIZE : ∃ t, mg "MAX_SIZE" = some (.int 1000000000000 t)
  k_MAX_STEPS : ∃ t, mg "MAX_STEPS" = some (.int 20 t)
  b_abs : mg "abs" = none
  b_all : mg "all" = none
  b_bool : mg "bool" = none
  b_enumerate : mg "enumerate" = none
  b_int : mg "int" = none
  b_isinstance : mg "isinstance" = none
  b_len : mg "len" = none
  b_list : mg "list" = none
  b_max : mg "max" = none
  b_range : mg "range" = none
  b_sorted : mg "sorted" = none
  b_sum : mg "sum" = none
  b_tuple : mg "tuple" = none
  v_best_linked : ∃ f, mg "best_linked" = some (.ref f) ∧ g.fa 0 = some f
  v_worst_cost : ∃ f, mg "worst_cost" = some (.ref f) ∧ g.fa 1 = some f
  v_accept_best : ∃ f, mg "accept_best" = some (.ref f) ∧ g.fa 2 = some f
  v_best_order : ∃ f, mg "best_order" = some (.ref f) ∧ g.fa 3 = some f
  v_least_worst : ∃ f, mg "least_worst" = some (.ref f) ∧ g.fa 4 = some f
  v_chances : ∃ f, mg "chances" = some (.ref f) ∧ g.fa 5 = some f
  v_mean_cost : ∃ f, mg "mean_cost" = some (.ref f) ∧ g.fa 6 = some f
  w : WCls K mg g Ca
  wk : mg "WorkError" = some (.ref AW)
  x0 : Sup.Txt PP K mg (Ca 0) (Ci 0)
  x1 : Sup.Txt PP K mg (Ca 1) (Ci 1)
  x2 : Sup.Txt PP K mg (Ca 2) (Ci 2)
  x3 : Sup.Txt PP K mg (Ca 3) (Ci 3)
  en : ∀ i, g.en i = "reason"
  hx : ∀ i, i < 4 → PySem.W.exmOne K (.ref (Ca i)) (.ref AW) = some true
  xm : ∀ i j, i < 4 → j < 4 → PySem.W.exmOne K (.ref (Ca i)) (.ref (Ca j)) = some (i == j)
section
variable {w : World} {K : PySem.W.Frag} {mg : Str → Option Value} {base : Heap} {g : Ce} {Ca Ci : Nat → Addr} {AW : Addr}
theorem sc__law_start : FnScope N__law_start ["script"] (defScope (top 38)) := ⟨rfl, rfl, rfl, by decide +kernel, rfl, by decide +kernel, by decide +kernel⟩
theorem ok__law_start (nn : Bool) (T : TF K mg g Ca Ci AW) : Fok nn PP w K mg base 1 "_law_start" (spF (ck K g) 1 m__law_start) := by
  have b_int := T.b_int
  have b_list := T.b_list
  refine fok_fresh (k := 0) (N := N__law_start) (body := b__law_start) T.f__law_start sc__law_start rfl (by decide) (fun _ => rfl) fun X W C pa => ?_
  unfold b__law_start
  exact ss_cons (s_set C 1 rfl (by decide +kernel) (e_int))
      (ss_cons (s_for (vs := [2]) C (i_items (n_var C 0 "script" rfl (by decide +kernel) dbg_script cld_script)) (g_name (n_pg C 2 "cell" rfl (by decide +kernel)) (by decide)) (ss_one (s_set C 1 rfl (by decide +kernel) (eAdd (.inl rfl) (eMod (.inl rfl) (e_callT call_int1 vc_int bInt_nr (gloB_of C (by decide +kernel)) (mgn C b_int) rfl (a_cons (.inl rfl) (eAdd (.inl rfl) (eMul (.inl rfl) (n_var C 1 "seed" rfl (by decide +kernel) dbg_seed cld_seed) (e_int)) (n_var C 2 "cell" rfl (by decide +kernel) dbg_cell cld_cell)) (a_nil))) (e_int)) (e_int)))))
      (ss_one (s_retF (f_lst rfl (a_cons (.inl rfl) (DF.val (f_callT call_list_of vcf_list bList_nr (gloB_of C (by decide +kernel)) (mgn C b_list) rfl (a_cons (.inl rfl) (n_var C 0 "script" rfl (by decide +kernel) dbg_script cld_script) (a_nil)))) (a_cons (.inl rfl) (e_int) (a_cons (.inl rfl) (e_int) (a_cons (.inl rfl) (n_var C 1 "seed" rfl (by decide +kernel) dbg_seed cld_seed) (a_nil)))))))))
theorem sc__law_draw : FnScope N__law_draw ["state", "many"] (defScope (top 39)) := ⟨rfl, rfl, rfl, by decide +kernel, rfl, by decide +kernel, by decide +kernel⟩
theorem ok__law_draw (nn : Bool) (T : TF K mg g Ca Ci AW) : Fok nn PP w K mg base 1 "_law_draw" (spO (ck K g) 1 m__law_draw) := by
  have b_abs := T.b_abs
  have b_int := T.b_int
  have b_len := T.b_len
  refine fok_own (k := 0) (N := N__law_draw) (body := b__law_draw) T.f__law_draw sc__law_draw rfl (by decide) (fun _ _ => rfl) fun X W C pa => ?_
  unfold b__law_draw
  exact ss_cons (s_if (t_w (w_and (tEq C (.inl rfl) (eIx (.inr rfl) (n_varO C 0 "state" rfl (by decide +kernel) dbg_state cld_state) (e_int)) (e_int)) (w_and1 (tGe (.inl rfl) (eIx (.inr rfl) (n_varO C 0 "state" rfl (by decide +kernel) dbg_state cld_state) (e_int)) (e_callB call_len vc_len bLen_nr (gloB_of C (by decide +kernel)) (mgn C b_len) rfl (a_cons (.inl rfl) (eIx (.inr rfl) (n_varO C 0 "state" rfl (by decide +kernel) dbg_state cld_state) (e_int)) (a_nil))))))) (ss_cons (s_sub (n_pe C 0 "state" rfl (by decide +kernel) dbg_state cld_state) (e_int) (eMod (.inl rfl) (e_callT call_int1 vc_int bInt_nr (gloB_of C (by decide +kernel)) (mgn C b_int) rfl (a_cons (.inl rfl) (eAdd (.inl rfl) (eMul (.inl rfl) (eIx (.inr rfl) (n_varO C 0 "state" rfl (by decide +kernel) dbg_state cld_state) (e_int)) (e_int)) (e_int)) (a_nil))) (e_int)))
      (ss_one (s_ret (eMod (.inl rfl) (e_callT call_int1 vc_int bInt_nr (gloB_of C (by decide +kernel)) (mgn C b_int) rfl (a_cons (.inl rfl) (eFdiv (.inl rfl) (eIx (.inr rfl) (n_varO C 0 "state" rfl (by decide +kernel) dbg_state cld_state) (e_int)) (e_int)) (a_nil))) (n_var C 1 "many" rfl (by decide +kernel) dbg_many cld_many))))) (ss_nil))
      (ss_cons (s_if (tEq C (.inl rfl) (eIx (.inr rfl) (n_varO C 0 "state" rfl (by decide +kernel) dbg_state cld_state) (e_int)) (e_int)) (ss_cons (s_sub (n_pe C 0 "state" rfl (by decide +kernel) dbg_state cld_state) (e_int) (e_callB call_abs vc_abs bAbs_nr (gloB_of C (by decide +kernel)) (mgn C b_abs) rfl (a_cons (.inl rfl) (eIx (.inl rfl) (eIx (.inr rfl) (n_varO C 0 "state" rfl (by decide +kernel) dbg_state cld_state) (e_int)) (eIx (.inr rfl) (n_varO C 0 "state" rfl (by decide +kernel) dbg_state cld_state) (e_int))) (a_nil))))
      (ss_one (s_sub (n_pe C 0 "state" rfl (by decide +kernel) dbg_state cld_state) (e_int) (eAdd (.inl rfl) (eIx (.inr rfl) (n_varO C 0 "state" rfl (by decide +kernel) dbg_state cld_state) (e_int)) (e_int))))) (ss_nil))
      (ss_cons (s_set C 2 rfl (by decide +kernel) (eMod (.inl rfl) (e_callT call_int1 vc_int bInt_nr (gloB_of C (by decide +kernel)) (mgn C b_int) rfl (a_cons (.inl rfl) (eIx (.inr rfl) (n_varO C 0 "state" rfl (by decide +kernel) dbg_state cld_state) (e_int)) (a_nil))) (n_var C 1 "many" rfl (by decide +kernel) dbg_many cld_many)))
      (ss_cons (s_sub (n_pe C 0 "state" rfl (by decide +kernel) dbg_state cld_state) (e_int) (eFdiv (.inl rfl) (eIx (.inr rfl) (n_varO C 0 "state" rfl (by decide +kernel) dbg_state cld_state) (e_int)) (n_var C 1 "many" rfl (by decide +kernel) dbg_many cld_many)))
      (ss_one (s_ret (n_var C 2 "value" rfl (by decide +kernel) dbg_value cld_value))))))
theorem sc__law_pick : FnScope N__law_pick ["state", "some"] (defScope (top 40)) := ⟨rfl, rfl, rfl, by decide +kernel, rfl, by decide +kernel, by decide +kernel⟩
theorem ok__law_pick (nn : Bool) (T : TF K mg g Ca Ci AW) : Fok nn PP w K mg base 2 "_law_pick" (spO (ck K g) 1 m__law_pick) := by
  have b_len := T.b_len
  have F__law_draw := ok__law_draw (w := w) (base := base) nn T
  refine fok_own (k := 1) (N := N__law_pick) (body := b__law_pick) T.f__law_pick sc__law_pick rfl (by decide) (fun _ _ => rfl) fun X W C pa => ?_
  unfold b__law_pick
  exact ss_one (s_ret (eIx (.inl rfl) (n_var C 1 "some" rfl (by decide +kernel) dbg_some cld_some) (e_callO C F__law_draw (by decide) (by decide +kernel) rfl 0 (n_pe C 0 "state" rfl (by decide +kernel) dbg_state cld_state) (a_cons (.inl rfl) (e_callB call_len vc_len bLen_nr (gloB_of C (by decide +kernel)) (mgn C b_len) rfl (a_cons (.inl rfl) (n_var C 1 "some" rfl (by decide +kernel) dbg_some cld_some) (a_nil))) (a_nil)) dbg__law_draw)))
theorem sc_is_integer : FnScope N_is_integer ["value"] (defScope (top 12)) := ⟨rfl, rfl, rfl, by decide +kernel, rfl, by decide +kernel, by decide +kernel⟩
theorem ok_is_integer (nn : Bool) (T : TF K mg g Ca Ci AW) : Fok nn PP w K mg base 1 "is_integer" (spP (ck K g) 1 m_is_integer) := by
  have b_bool := T.b_bool
  have b_int := T.b_int
  have b_isinstance := T.b_isinstance
  refine fok_pure (k := 0) (N := N_is_integer) (body := b_is_integer) T.f_is_integer sc_is_integer rfl (by decide) (fun _ => rfl) fun X W C pa => ?_
  unfold b_is_integer
  exact ss_one (s_ret (e_and (e_isi kitT_int (gloB_of C (by decide +kernel)) (mgn C b_isinstance) (gloB_of C (by decide +kernel)) (mgn C b_int) rfl (n_var C 0 "value" rfl (by decide +kernel) dbg_value cld_value)) (e_one (e_not (e_isi kitT_bool (gloB_of C (by decide +kernel)) (mgn C b_isinstance) (gloB_of C (by decide +kernel)) (mgn C b_bool) rfl (n_var C 0 "value" rfl (by decide +kernel) dbg_value cld_value))))))
theorem sc_is_between : FnScope N_is_between ["value", "low", "high"] (defScope (top 13)) := ⟨rfl, rfl, rfl, by decide +kernel, rfl, by decide +kernel, by decide +kernel⟩
theorem ok_is_between (nn : Bool) (T : TF K mg g Ca Ci AW) : Fok nn PP w K mg base 2 "is_between" (spP (ck K g) 3 m_is_between) := by
  have F_is_integer := ok_is_integer (w := w) (base := base) nn T
  refine fok_pure (k := 1) (N := N_is_between) (body := b_is_between) T.f_is_between sc_is_between rfl (by decide) (fun _ => rfl) fun X W C pa => ?_
  unfold b_is_between
  exact ss_one (s_ret (e_and (e_call C F_is_integer (by decide) (by decide +kernel) rfl (a_cons (.inl rfl) (n_var C 0 "value" rfl (by decide +kernel) dbg_value cld_value) (a_nil)) dbg_is_integer) (e_one (e_chain op_leD op_leD vb_cmpI vb_cmpI dCmpI_nr dCmpI_nr rfl (n_var C 1 "low" rfl (by decide +kernel) dbg_low cld_low) (n_var C 0 "value" rfl (by decide +kernel) dbg_value cld_value) (n_var C 2 "high" rfl (by decide +kernel) dbg_high cld_high)))))
theorem sc_check_steps : FnScope N_check_steps ["steps"] (defScope (top 17)) := ⟨rfl, rfl, rfl, by decide +kernel, rfl, by decide +kernel, by decide +kernel⟩
theorem ok_check_steps (nn : Bool) (T : TF K mg g Ca Ci AW) : Fok nn PP w K mg base 3 "check_steps" (spP (ck K g) 1 m_check_steps) := by
  obtain ⟨t_MAX_ODDS, k_MAX_ODDS⟩ := T.k_MAX_ODDS
  obtain ⟨t_MAX_SIZE, k_MAX_SIZE⟩ := T.k_MAX_SIZE
  obtain ⟨t_MAX_STEPS, k_MAX_STEPS⟩ := T.k_MAX_STEPS
  have b_all := T.b_all
  have b_isinstance := T.b_isinstance
  have b_len := T.b_len
  have b_tuple := T.b_tuple
  have F_is_between := ok_is_between (w := w) (base := base) nn T
  refine fok_pure (k := 2) (N := N_check_steps) (body := b_check_steps) T.f_check_steps sc_check_steps rfl (by decide) (fun _ => rfl) fun X W C pa => ?_
  unfold b_check_steps
  exact ss_cons (s_if (t_w (w_or (t_not (tTruth (e_isi kitT_tuple (gloB_of C (by decide +kernel)) (mgn C b_isinstance) (gloB_of C (by decide +kernel)) (mgn C b_tuple) rfl (n_var C 0 "steps" rfl (by decide +kernel) dbg_steps cld_steps)))) (w_or1 (t_not (t_chain op_leD op_leD vb_cmpI vb_cmpI dCmpI_nr dCmpI_nr rfl (e_int) (e_callB call_len vc_len bLen_nr (gloB_of C (by decide +kernel)) (mgn C b_len) rfl (a_cons (.inl rfl) (n_var C 0 "steps" rfl (by decide +kernel) dbg_steps cld_steps) (a_nil))) (n_const C (by decide +kernel) k_MAX_STEPS dbg_MAX_STEPS)))))) (ss_one (s_raise C (j := 0) T.x0 (by decide) (by decide +kernel) T.w.m0 (T.w.ec 0 (by decide)) (T.en 0) (e_str))) (ss_nil))
      (ss_one (s_for (vs := [1]) C (i_items (n_var C 0 "steps" rfl (by decide +kernel) dbg_steps cld_steps)) (g_name (n_pg C 1 "step" rfl (by decide +kernel)) (by decide)) (ss_cons (s_if (t_w (w_or (t_not (tTruth (e_isi kitT_tuple (gloB_of C (by decide +kernel)) (mgn C b_isinstance) (gloB_of C (by decide +kernel)) (mgn C b_tuple) rfl (n_var C 1 "step" rfl (by decide +kernel) dbg_step cld_step)))) (w_or1 (tNe C (.inl rfl) (e_callB call_len vc_len bLen_nr (gloB_of C (by decide +kernel)) (mgn C b_len) rfl (a_cons (.inl rfl) (n_var C 1 "step" rfl (by decide +kernel) dbg_step cld_step) (a_nil))) (e_int))))) (ss_one (s_raise C (j := 0) T.x0 (by decide) (by decide +kernel) T.w.m0 (T.w.ec 0 (by decide)) (T.en 0) (e_str))) (ss_nil))
      (ss_cons (s_if (t_not (tTruth (e_callB (cr_all C.calm) vc_all bAll_nr (gloB_of C (by decide +kernel)) (mgn C b_all) rfl (a_cons (.inl rfl) (DF.val (f_lc C [("own", 3)] (by decide +kernel) (i_items (e_slice ⟨.inl rfl, .inl rfl⟩ (n_var C 1 "step" rfl (by decide +kernel) dbg_step cld_step) (o_none) (o_some (e_int)))) (fun s1 H1 A1 l1 p1 => g_name (n_tg C s1 H1 A1 l1 p1 3 rfl (by decide +kernel)) (by decide)) (fun s1 H1 A1 l1 p1 => c_nil) (fun s1 H1 A1 l1 p1 => e_call (C.blk s1 H1 _ A1 l1 p1) F_is_between (by decide) (by decide +kernel) rfl (a_cons (.inl rfl) (n_var (C.blk s1 H1 _ A1 l1 p1) 3 "own" rfl (by decide +kernel) dbg_own cld_own) (a_cons (.inl rfl) (e_int) (a_cons (.inl rfl) (n_const (C.blk s1 H1 _ A1 l1 p1) (by decide +kernel) k_MAX_SIZE dbg_MAX_SIZE) (a_nil)))) dbg_is_between))) (a_nil))))) (ss_one (s_raise C (j := 0) T.x0 (by decide) (by decide +kernel) T.w.m0 (T.w.ec 0 (by decide)) (T.en 0) (e_str))) (ss_nil))
      (ss_cons (s_set C 2 rfl (by decide +kernel) (eIx (.inl rfl) (n_var C 1 "step" rfl (by decide +kernel) dbg_step cld_step) (e_int)))
      (ss_cons (s_if (t_w (w_or (t_not (tTruth (e_isi kitT_tuple (gloB_of C (by decide +kernel)) (mgn C b_isinstance) (gloB_of C (by decide +kernel)) (mgn C b_tuple) rfl (n_var C 2 "odds" rfl (by decide +kernel) dbg_odds cld_odds)))) (w_or (tNe C (.inl rfl) (e_callB call_len vc_len bLen_nr (gloB_of C (by decide +kernel)) (mgn C b_len) rfl (a_cons (.inl rfl) (n_var C 2 "odds" rfl (by decide +kernel) dbg_odds cld_odds) (a_nil))) (e_int)) (w_or1 (t_not (tTruth (e_call C F_is_between (by decide) (by decide +kernel) rfl (a_cons (.inl rfl) (eIx (.inl rfl) (n_var C 2 "odds" rfl (by decide +kernel) dbg_odds cld_odds) (e_int)) (a_cons (.inl rfl) (e_int) (a_cons (.inl rfl) (n_const C (by decide +kernel) k_MAX_ODDS dbg_MAX_ODDS) (a_nil)))) dbg_is_between))))))) (ss_one (s_raise C (j := 0) T.x0 (by decide) (by decide +kernel) T.w.m0 (T.w.ec 0 (by decide)) (T.en 0) (e_str))) (ss_nil))
      (ss_one (s_if (t_not (tTruth (e_call C F_is_between (by decide) (by decide +kernel) rfl (a_cons (.inl rfl) (eIx (.inl rfl) (n_var C 2 "odds" rfl (by decide +kernel) dbg_odds cld_odds) (e_int)) (a_cons (.inl rfl) (e_int) (a_cons (.inl rfl) (eSub (.inl rfl) (eIx (.inl rfl) (n_var C 2 "odds" rfl (by decide +kernel) dbg_odds cld_odds) (e_int)) (e_int)) (a_nil)))) dbg_is_between))) (ss_one (s_raise C (j := 0) T.x0 (by decide) (by decide +kernel) T.w.m0 (T.w.ec 0 (by decide)) (T.en 0) (e_str))) (ss_nil)))))))))
theorem sc_weight_of : FnScope N_weight_of ["step"] (defScope (top 28)) := ⟨rfl, rfl, rfl, by decide +kernel, rfl, by decide +kernel, by decide +kernel⟩
theorem ok_weight_of (nn : Bool) (T : TF K mg g Ca Ci AW) : Fok nn PP w K mg base 1 "weight_of" (spP (ck K g) 1 m_weight_of) := by
  refine fok_pure (k := 0) (N := N_weight_of) (body := b_weight_of) T.f_weight_of sc_weight_of rfl (by decide) (fun _ => rfl) fun X W C pa => ?_
  unfold b_weight_of
  exact ss_one (s_ret (eAdd (.inl rfl) (eMul (.inl rfl) (eIx (.inl rfl) (n_var C 0 "step" rfl (by decide +kernel) dbg_step cld_step) (e_int)) (eIx (.inl rfl) (eIx (.inl rfl) (n_var C 0 "step" rfl (by decide +kernel) dbg_step cld_step) (e_int)) (e_int))) (eMul (.inl rfl) (eIx (.inl rfl) (n_var C 0 "step" rfl (by decide +kernel) dbg_step cld_step) (e_int)) (eSub (.inl rfl) (eIx (.inl rfl) (eIx (.inl rfl) (n_var C 0 "step" rfl (by decide +kernel) dbg_step cld_step) (e_int)) (e_int)) (eIx (.inl rfl) (eIx (.inl rfl) (n_var C 0 "step" rfl (by decide +kernel) dbg_step cld_step) (e_int)) (e_int))))))
theorem sc_is_nearer : FnScope N_is_nearer ["steps", "one", "other"] (defScope (top 27)) := ⟨rfl, rfl, rfl, by decide +kernel, rfl, by decide +kernel, by decide +kernel⟩
theorem ok_is_nearer (nn : Bool) (T : TF K mg g Ca Ci AW) : Fok nn PP w K mg base 2 "is_nearer" (spP (ck K g) 3 m_is_nearer) := by
  have b_int := T.b_int
  have F_weight_of := ok_weight_of (w := w) (base := base) nn T
  refine fok_pure (k := 1) (N := N_is_nearer) (body := b_is_nearer) T.f_is_nearer sc_is_nearer rfl (by decide) (fun _ => rfl) fun X W C pa => ?_
  unfold b_is_nearer
  exact ss_cons (s_par C 5 6 rfl rfl (by decide) (by decide +kernel) (by decide +kernel) rfl (a_cons (.inl rfl) (eIx (.inl rfl) (n_var C 0 "steps" rfl (by decide +kernel) dbg_steps cld_steps) (n_var C 1 "one" rfl (by decide +kernel) dbg_one cld_one)) (a_cons (.inl rfl) (eIx (.inl rfl) (n_var C 0 "steps" rfl (by decide +kernel) dbg_steps cld_steps) (n_var C 2 "other" rfl (by decide +kernel) dbg_other cld_other)) (a_nil))) (by rfl))
      (ss_cons (s_set C 3 rfl (by decide +kernel) (eMul (.inl rfl) (e_call C F_weight_of (by decide) (by decide +kernel) rfl (a_cons (.inl rfl) (n_var C 5 "first" rfl (by decide +kernel) dbg_first cld_first) (a_nil)) dbg_weight_of) (eIx (.inl rfl) (eIx (.inl rfl) (n_var C 6 "second" rfl (by decide +kernel) dbg_second cld_second) (e_int)) (e_int))))
      (ss_cons (s_set C 4 rfl (by decide +kernel) (eMul (.inl rfl) (e_call C F_weight_of (by decide) (by decide +kernel) rfl (a_cons (.inl rfl) (n_var C 6 "second" rfl (by decide +kernel) dbg_second cld_second) (a_nil)) dbg_weight_of) (eIx (.inl rfl) (eIx (.inl rfl) (n_var C 5 "first" rfl (by decide +kernel) dbg_first cld_first) (e_int)) (e_int))))
      (ss_cons (s_if (t_w (w_or (tEq C (.inl rfl) (eIx (.inl rfl) (eIx (.inl rfl) (n_var C 5 "first" rfl (by decide +kernel) dbg_first cld_first) (e_int)) (e_int)) (e_int)) (w_or1 (tEq C (.inl rfl) (eIx (.inl rfl) (eIx (.inl rfl) (n_var C 6 "second" rfl (by decide +kernel) dbg_second cld_second) (e_int)) (e_int)) (e_int))))) (ss_one (s_par C 3 4 rfl rfl (by decide) (by decide +kernel) (by decide +kernel) rfl (a_cons (.inl rfl) (e_callT call_int1 vc_int bInt_nr (gloB_of C (by decide +kernel)) (mgn C b_int) rfl (a_cons (.inl rfl) (eEq C (.inl rfl) (eIx (.inl rfl) (eIx (.inl rfl) (n_var C 5 "first" rfl (by decide +kernel) dbg_first cld_first) (e_int)) (e_int)) (e_int)) (a_nil))) (a_cons (.inl rfl) (e_callT call_int1 vc_int bInt_nr (gloB_of C (by decide +kernel)) (mgn C b_int) rfl (a_cons (.inl rfl) (eEq C (.inl rfl) (eIx (.inl rfl) (eIx (.inl rfl) (n_var C 6 "second" rfl (by decide +kernel) dbg_second cld_second) (e_int)) (e_int)) (e_int)) (a_nil))) (a_nil))) (by rfl))) (ss_nil))
      (ss_one (s_ret (e_or (eLt (.inl rfl) (n_var C 3 "left" rfl (by decide +kernel) dbg_left cld_left) (n_var C 4 "right" rfl (by decide +kernel) dbg_right cld_right)) (e_one (e_and (eEq C (.inl rfl) (n_var C 3 "left" rfl (by decide +kernel) dbg_left cld_left) (n_var C 4 "right" rfl (by decide +kernel) dbg_right cld_right)) (e_one (eLt (.inl rfl) (n_var C 1 "one" rfl (by decide +kernel) dbg_one cld_one) (n_var C 2 "other" rfl (by decide +kernel) dbg_other cld_other)))))))))))
theorem sc_rows_of : FnScope N_rows_of ["steps", "order"] (defScope (top 22)) := ⟨rfl, rfl, rfl, by decide +kernel, rfl, by decide +kernel, by decide +kernel⟩
theorem ok_rows_of (nn : Bool) (T : TF K mg g Ca Ci AW) : Fok nn PP w K mg base 1 "rows_of" (spP (ck K g) 2 m_rows_of) := by
  refine fok_pure (k := 0) (N := N_rows_of) (body := b_rows_of) T.f_rows_of sc_rows_of rfl (by decide) (fun _ => rfl) fun X W C pa => ?_
  unfold b_rows_of
  exact ss_cons (s_asg (vs := [4, 5, 6, 7]) (e_tup rfl (a_cons (.inl rfl) (e_int) (a_cons (.inl rfl) (e_int) (a_cons (.inl rfl) (e_int) (a_cons (.inl rfl) (e_int) (a_nil)))))) (g_tup C.calm (g_cons (g_name (n_pg C 4 "up" rfl (by decide +kernel)) (by decide)) (g_cons (g_name (n_pg C 5 "down" rfl (by decide +kernel)) (by decide)) (g_cons (g_name (n_pg C 6 "spent" rfl (by decide +kernel)) (by decide)) (g_cons (g_name (n_pg C 7 "back" rfl (by decide +kernel)) (by decide)) (g_nil)))))) rfl ((sws_eq C.es _ _).trans (by rfl)))
      (ss_cons (s_setO C 2 rfl (by decide +kernel) (f_lst rfl (a_nil)))
      (ss_cons (s_for (vs := [3]) C (i_items (n_var C 1 "order" rfl (by decide +kernel) dbg_order cld_order)) (g_name (n_pg C 3 "number" rfl (by decide +kernel)) (by decide)) (ss_cons (s_asg (vs := [8, 9, 10]) (eIx (.inl rfl) (n_var C 0 "steps" rfl (by decide +kernel) dbg_steps cld_steps) (n_var C 3 "number" rfl (by decide +kernel) dbg_number cld_number)) (g_tup C.calm (g_cons (g_name (n_pg C 8 "cost" rfl (by decide +kernel)) (by decide)) (g_cons (g_name (n_pg C 9 "own" rfl (by decide +kernel)) (by decide)) (g_cons (g_name (n_pg C 10 "fails" rfl (by decide +kernel)) (by decide)) (g_nil))))) rfl ((sws_eq C.es _ _).trans (by rfl)))
      (ss_cons (s_aug C iop_add va_add dIntOp_nr 6 rfl (by decide +kernel) (n_var C 8 "cost" rfl (by decide +kernel) dbg_cost cld_cost))
      (ss_cons (s_drop (e_meth PySem.F.plainAttrs_list PySem.F.slot_list_append PySem.F.type_list_append mt_append vm_app fApp_nr rfl (n_pe C 2 "found" rfl (by decide +kernel) dbg_found cld_found) (a_cons (.inl rfl) (e_tup rfl (a_cons (.inl rfl) (eMul (.inl rfl) (n_var C 4 "up" rfl (by decide +kernel) dbg_up cld_up) (eIx (.inl rfl) (n_var C 10 "fails" rfl (by decide +kernel) dbg_fails cld_fails) (e_int))) (a_cons (.inl rfl) (eMul (.inl rfl) (n_var C 5 "down" rfl (by decide +kernel) dbg_down cld_down) (eIx (.inl rfl) (n_var C 10 "fails" rfl (by decide +kernel) dbg_fails cld_fails) (e_int))) (a_cons (.inl rfl) (eAdd (.inl rfl) (n_var C 6 "spent" rfl (by decide +kernel) dbg_spent cld_spent) (n_var C 7 "back" rfl (by decide +kernel) dbg_back cld_back)) (a_nil))))) (a_nil))))
      (ss_cons (s_par C 4 5 rfl rfl (by decide) (by decide +kernel) (by decide +kernel) rfl (a_cons (.inl rfl) (eMul (.inl rfl) (n_var C 4 "up" rfl (by decide +kernel) dbg_up cld_up) (eSub (.inl rfl) (eIx (.inl rfl) (n_var C 10 "fails" rfl (by decide +kernel) dbg_fails cld_fails) (e_int)) (eIx (.inl rfl) (n_var C 10 "fails" rfl (by decide +kernel) dbg_fails cld_fails) (e_int)))) (a_cons (.inl rfl) (eMul (.inl rfl) (n_var C 5 "down" rfl (by decide +kernel) dbg_down cld_down) (eIx (.inl rfl) (n_var C 10 "fails" rfl (by decide +kernel) dbg_fails cld_fails) (e_int))) (a_nil))) (by rfl))
      (ss_one (s_aug C iop_add va_add dIntOp_nr 7 rfl (by decide +kernel) (n_var C 9 "own" rfl (by decide +kernel) dbg_own cld_own))))))))
      (ss_one (s_ret (eAdd (.inr rfl) (n_varO C 2 "found" rfl (by decide +kernel) dbg_found cld_found) (DF.val (f_lst rfl (a_cons (.inl rfl) (e_tup rfl (a_cons (.inl rfl) (n_var C 4 "up" rfl (by decide +kernel) dbg_up cld_up) (a_cons (.inl rfl) (n_var C 5 "down" rfl (by decide +kernel) dbg_down cld_down) (a_cons (.inl rfl) (n_var C 6 "spent" rfl (by decide +kernel) dbg_spent cld_spent) (a_nil))))) (a_nil)))))))))
theorem sc_mean_of : FnScope N_mean_of ["steps", "order"] (defScope (top 23)) := ⟨rfl, rfl, rfl, by decide +kernel, rfl, by decide +kernel, by decide +kernel⟩
theorem ok_mean_of (nn : Bool) (T : TF K mg g Ca Ci AW) : Fok nn PP w K mg base 2 "mean_of" (spP (ck K g) 2 m_mean_of) := by
  have b_sum := T.b_sum
  have F_rows_of := ok_rows_of (w := w) (base := base) nn T
  refine fok_pure (k := 1) (N := N_mean_of) (body := b_mean_of) T.f_mean_of sc_mean_of rfl (by decide) (fun _ => rfl) fun X W C pa => ?_
  unfold b_mean_of
  exact ss_cons (s_set C 2 rfl (by decide +kernel) (e_int))
      (ss_cons (s_for (vs := [3]) C (i_items (n_var C 0 "steps" rfl (by decide +kernel) dbg_steps cld_steps)) (g_name (n_pg C 3 "step" rfl (by decide +kernel)) (by decide)) (ss_one (s_aug C iop_mul va_mul aMul_nr 2 rfl (by decide +kernel) (eIx (.inl rfl) (eIx (.inl rfl) (n_var C 3 "step" rfl (by decide +kernel) dbg_step cld_step) (e_int)) (e_int)))))
      (ss_one (s_ret (e_tup rfl (a_cons (.inl rfl) (e_callB (cr_sumA C.calm) vc_sum bSum_nr (gloB_of C (by decide +kernel)) (mgn C b_sum) rfl (a_cons (.inl rfl) (DF.val (f_lc C [("up", 4), ("down", 5), ("cost", 6)] (by decide +kernel) (i_items (e_call C F_rows_of (by decide) (by decide +kernel) rfl (a_cons (.inl rfl) (n_var C 0 "steps" rfl (by decide +kernel) dbg_steps cld_steps) (a_cons (.inl rfl) (n_var C 1 "order" rfl (by decide +kernel) dbg_order cld_order) (a_nil))) dbg_rows_of)) (fun s1 H1 A1 l1 p1 => g_tup (C.blk s1 H1 _ A1 l1 p1).calm (g_cons (g_name (n_tg C s1 H1 A1 l1 p1 4 rfl (by decide +kernel)) (by decide)) (g_cons (g_name (n_tg C s1 H1 A1 l1 p1 5 rfl (by decide +kernel)) (by decide)) (g_cons (g_name (n_tg C s1 H1 A1 l1 p1 6 rfl (by decide +kernel)) (by decide)) (g_nil))))) (fun s1 H1 A1 l1 p1 => c_nil) (fun s1 H1 A1 l1 p1 => eMul (.inl rfl) (eMul (.inl rfl) (n_var (C.blk s1 H1 _ A1 l1 p1) 4 "up" rfl (by decide +kernel) dbg_up cld_up) (eFdiv (.inl rfl) (n_var (C.blk s1 H1 _ A1 l1 p1) 2 "whole" rfl (by decide +kernel) dbg_whole cld_whole) (n_var (C.blk s1 H1 _ A1 l1 p1) 5 "down" rfl (by decide +kernel) dbg_down cld_down))) (n_var (C.blk s1 H1 _ A1 l1 p1) 6 "cost" rfl (by decide +kernel) dbg_cost cld_cost)))) (a_nil))) (a_cons (.inl rfl) (n_var C 2 "whole" rfl (by decide +kernel) dbg_whole cld_whole) (a_nil)))))))
theorem sc_common_divisor : FnScope N_common_divisor ["one", "other"] (defScope (top 15)) := ⟨rfl, rfl, rfl, by decide +kernel, rfl, by decide +kernel, by decide +kernel⟩
theorem ok_common_divisor (nn : Bool) (T : TF K mg g Ca Ci AW) : Fok nn PP w K mg base 1 "common_divisor" (spP (ck K g) 2 m_common_divisor) := by
  have b_abs := T.b_abs
  refine fok_pure (k := 0) (N := N_common_divisor) (body := b_common_divisor) T.f_common_divisor sc_common_divisor rfl (by decide) (fun _ => rfl) fun X W C pa => ?_
  unfold b_common_divisor
  exact ss_cons (s_par C 0 1 rfl rfl (by decide) (by decide +kernel) (by decide +kernel) rfl (a_cons (.inl rfl) (e_callB call_abs vc_abs bAbs_nr (gloB_of C (by decide +kernel)) (mgn C b_abs) rfl (a_cons (.inl rfl) (n_var C 0 "one" rfl (by decide +kernel) dbg_one cld_one) (a_nil))) (a_cons (.inl rfl) (e_callB call_abs vc_abs bAbs_nr (gloB_of C (by decide +kernel)) (mgn C b_abs) rfl (a_cons (.inl rfl) (n_var C 1 "other" rfl (by decide +kernel) dbg_other cld_other) (a_nil))) (a_nil))) (by rfl))
      (ss_cons (s_while C (tTruth (n_var C 1 "other" rfl (by decide +kernel) dbg_other cld_other)) (ss_one (s_par C 0 1 rfl rfl (by decide) (by decide +kernel) (by decide +kernel) rfl (a_cons (.inl rfl) (n_var C 1 "other" rfl (by decide +kernel) dbg_other cld_other) (a_cons (.inl rfl) (eSub (.inl rfl) (n_var C 0 "one" rfl (by decide +kernel) dbg_one cld_one) (eMul (.inl rfl) (eFdiv (.inl rfl) (n_var C 0 "one" rfl (by decide +kernel) dbg_one cld_one) (n_var C 1 "other" rfl (by decide +kernel) dbg_other cld_other)) (n_var C 1 "other" rfl (by decide +kernel) dbg_other cld_other))) (a_nil))) (by rfl))))
      (ss_one (s_ret (n_var C 0 "one" rfl (by decide +kernel) dbg_one cld_one))))
theorem sc_lowest : FnScope N_lowest ["up", "down"] (defScope (top 20)) := ⟨rfl, rfl, rfl, by decide +kernel, rfl, by decide +kernel, by decide +kernel⟩
theorem ok_lowest (nn : Bool) (T : TF K mg g Ca Ci AW) : Fok nn PP w K mg base 2 "lowest" (spP (ck K g) 2 m_lowest) := by
  have F_common_divisor := ok_common_divisor (w := w) (base := base) nn T
  refine fok_pure (k := 1) (N := N_lowest) (body := b_lowest) T.f_lowest sc_lowest rfl (by decide) (fun _ => rfl) fun X W C pa => ?_
  unfold b_lowest
  exact ss_cons (s_set C 2 rfl (by decide +kernel) (e_call C F_common_divisor (by decide) (by decide +kernel) rfl (a_cons (.inl rfl) (n_var C 0 "up" rfl (by decide +kernel) dbg_up cld_up) (a_cons (.inl rfl) (n_var C 1 "down" rfl (by decide +kernel) dbg_down cld_down) (a_nil))) dbg_common_divisor))
      (ss_one (s_ret (e_tup rfl (a_cons (.inl rfl) (eFdiv (.inl rfl) (n_var C 0 "up" rfl (by decide +kernel) dbg_up cld_up) (n_var C 2 "common" rfl (by decide +kernel) dbg_common cld_common)) (a_cons (.inl rfl) (eFdiv (.inl rfl) (n_var C 1 "down" rfl (by decide +kernel) dbg_down cld_down) (n_var C 2 "common" rfl (by decide +kernel) dbg_common cld_common)) (a_nil))))))
theorem sc_best_order : FnScope N_best_order ["steps"] (defScope (top 29)) := ⟨rfl, rfl, rfl, by decide +kernel, rfl, by decide +kernel, by decide +kernel⟩
theorem ok_best_order (nn : Bool) (T : TF K mg g Ca Ci AW) : Fok nn PP w K mg base 4 "best_order" (spP (ck K g) 1 m_best_order) := by
  have b_len := T.b_len
  have b_range := T.b_range
  have b_tuple := T.b_tuple
  have F_check_steps := ok_check_steps (w := w) (base := base) nn T
  have F_is_nearer := ok_is_nearer (w := w) (base := base) nn T
  have F_mean_of := ok_mean_of (w := w) (base := base) nn T
  have F_lowest := ok_lowest (w := w) (base := base) nn T
  refine fok_pure (k := 3) (N := N_best_order) (body := b_best_order) T.f_best_order sc_best_order rfl (by decide) (fun _ => rfl) fun X W C pa => ?_
  unfold b_best_order
  exact ss_cons (s_drop (e_call C F_check_steps (by decide) (by decide +kernel) rfl (a_cons (.inl rfl) (n_var C 0 "steps" rfl (by decide +kernel) dbg_steps cld_steps) (a_nil)) dbg_check_steps))
      (ss_cons (s_set C 1 rfl (by decide +kernel) (DF.val (f_lst rfl (a_nil))))
      (ss_cons (s_for (vs := [2]) C (i_rng1 (gloB_of C (by decide +kernel)) (mgn C b_range) (a_cons (.inl rfl) (e_callB call_len vc_len bLen_nr (gloB_of C (by decide +kernel)) (mgn C b_len) rfl (a_cons (.inl rfl) (n_var C 0 "steps" rfl (by decide +kernel) dbg_steps cld_steps) (a_nil))) (a_nil))) (g_name (n_pg C 2 "number" rfl (by decide +kernel)) (by decide)) (ss_cons (s_set C 3 rfl (by decide +kernel) (e_callB call_len vc_len bLen_nr (gloB_of C (by decide +kernel)) (mgn C b_len) rfl (a_cons (.inl rfl) (DF.val (f_lc C [("own", 6)] (by decide +kernel) (i_items (n_var C 1 "found" rfl (by decide +kernel) dbg_found cld_found)) (fun s1 H1 A1 l1 p1 => g_name (n_tg C s1 H1 A1 l1 p1 6 rfl (by decide +kernel)) (by decide)) (fun s1 H1 A1 l1 p1 => c_one (tTruth (e_call (C.blk s1 H1 _ A1 l1 p1) F_is_nearer (by decide) (by decide +kernel) rfl (a_cons (.inl rfl) (n_var (C.blk s1 H1 _ A1 l1 p1) 0 "steps" rfl (by decide +kernel) dbg_steps cld_steps) (a_cons (.inl rfl) (n_var (C.blk s1 H1 _ A1 l1 p1) 6 "own" rfl (by decide +kernel) dbg_own cld_own) (a_cons (.inl rfl) (n_var (C.blk s1 H1 _ A1 l1 p1) 2 "number" rfl (by decide +kernel) dbg_number cld_number) (a_nil)))) dbg_is_nearer))) (fun s1 H1 A1 l1 p1 => n_var (C.blk s1 H1 _ A1 l1 p1) 6 "own" rfl (by decide +kernel) dbg_own cld_own))) (a_nil))))
      (ss_one (s_set C 1 rfl (by decide +kernel) (eAdd (.inl rfl) (eAdd (.inl rfl) (e_slice ⟨.inl rfl, .inl rfl⟩ (n_var C 1 "found" rfl (by decide +kernel) dbg_found cld_found) (o_none) (o_some (n_var C 3 "at" rfl (by decide +kernel) dbg_at cld_at))) (DF.val (f_lst rfl (a_cons (.inl rfl) (n_var C 2 "number" rfl (by decide +kernel) dbg_number cld_number) (a_nil))))) (e_slice ⟨.inl rfl, .inl rfl⟩ (n_var C 1 "found" rfl (by decide +kernel) dbg_found cld_found) (o_some (n_var C 3 "at" rfl (by decide +kernel) dbg_at cld_at)) (o_none)))))))
      (ss_cons (s_asg (vs := [4, 5]) (e_call C F_mean_of (by decide) (by decide +kernel) rfl (a_cons (.inl rfl) (n_var C 0 "steps" rfl (by decide +kernel) dbg_steps cld_steps) (a_cons (.inl rfl) (n_var C 1 "found" rfl (by decide +kernel) dbg_found cld_found) (a_nil))) dbg_mean_of) (g_tup C.calm (g_cons (g_name (n_pg C 4 "up" rfl (by decide +kernel)) (by decide)) (g_cons (g_name (n_pg C 5 "down" rfl (by decide +kernel)) (by decide)) (g_nil)))) rfl ((sws_eq C.es _ _).trans (by rfl)))
      (ss_one (s_ret (e_tup rfl (a_cons (.inl rfl) (e_call C F_lowest (by decide) (by decide +kernel) rfl (a_cons (.inl rfl) (n_var C 4 "up" rfl (by decide +kernel) dbg_up cld_up) (a_cons (.inl rfl) (n_var C 5 "down" rfl (by decide +kernel) dbg_down cld_down) (a_nil))) dbg_lowest) (a_cons (.inl rfl) (e_callT call_tuple_of vc_tuple bTuple_nr (gloB_of C (by decide +kernel)) (mgn C b_tuple) rfl (a_cons (.inl rfl) (n_var C 1 "found" rfl (by decide +kernel) dbg_found cld_found) (a_nil))) (a_nil)))))))))
theorem sc__law_bent : FnScope N__law_bent ["state", "value"] (defScope (top 45)) := ⟨rfl, rfl, rfl, by decide +kernel, rfl, by decide +kernel, by decide +kernel⟩
theorem ok__law_bent (nn : Bool) (T : TF K mg g Ca Ci AW) : Fok nn PP w K mg base 3 "_law_bent" (spO (ck K g) 1 m__law_bent) := by
  have b_int := T.b_int
  have b_isinstance := T.b_isinstance
  have b_len := T.b_len
  have b_list := T.b_list
  have b_tuple := T.b_tuple
  have F__law_draw := ok__law_draw (w := w) (base := base) nn T
  have F__law_pick := ok__law_pick (w := w) (base := base) nn T
  refine fok_own (k := 2) (N := N__law_bent) (body := b__law_bent) T.f__law_bent sc__law_bent rfl (by decide) (fun _ _ => rfl) fun X W C pa => ?_
  unfold b__law_bent
  exact ss_cons (s_if (t_w (w_or (t_not (tTruth (e_isi kitT_tuple (gloB_of C (by decide +kernel)) (mgn C b_isinstance) (gloB_of C (by decide +kernel)) (mgn C b_tuple) rfl (n_var C 1 "value" rfl (by decide +kernel) dbg_value cld_value)))) (w_or1 (t_not (tTruth (n_var C 1 "value" rfl (by decide +kernel) dbg_value cld_value)))))) (ss_never) (ss_nil))
      (ss_cons (s_par C 3 4 rfl rfl (by decide) (by decide +kernel) (by decide +kernel) rfl (a_cons (.inl rfl) (e_callO C F__law_draw (by decide) (by decide +kernel) rfl 0 (n_pe C 0 "state" rfl (by decide +kernel) dbg_state cld_state) (a_cons (.inl rfl) (e_callB call_len vc_len bLen_nr (gloB_of C (by decide +kernel)) (mgn C b_len) rfl (a_cons (.inl rfl) (n_var C 1 "value" rfl (by decide +kernel) dbg_value cld_value) (a_nil))) (a_nil)) dbg__law_draw) (a_cons (.inl rfl) (e_callO C F__law_draw (by decide) (by decide +kernel) rfl 0 (n_pe C 0 "state" rfl (by decide +kernel) dbg_state cld_state) (a_cons (.inl rfl) (e_int) (a_nil)) dbg__law_draw) (a_nil))) (by rfl))
      (ss_cons (s_set C 2 rfl (by decide +kernel) (eIx (.inl rfl) (n_var C 1 "value" rfl (by decide +kernel) dbg_value cld_value) (n_var C 3 "at" rfl (by decide +kernel) dbg_at cld_at)))
      (ss_cons (s_if (t_w (w_and (tLt (.inl rfl) (n_var C 4 "how" rfl (by decide +kernel) dbg_how cld_how) (e_int)) (w_and1 (tTruth (e_isi kitT_tuple (gloB_of C (by decide +kernel)) (mgn C b_isinstance) (gloB_of C (by decide +kernel)) (mgn C b_tuple) rfl (n_var C 2 "part" rfl (by decide +kernel) dbg_part cld_part)))))) (ss_never) (ss_nil))
      (ss_cons (s_if (t_w (w_and (tLt (.inl rfl) (n_var C 4 "how" rfl (by decide +kernel) dbg_how cld_how) (e_int)) (w_and1 (tTruth (e_isi kitT_int (gloB_of C (by decide +kernel)) (mgn C b_isinstance) (gloB_of C (by decide +kernel)) (mgn C b_int) rfl (n_var C 2 "part" rfl (by decide +kernel) dbg_part cld_part)))))) (ss_one (s_ret (eAdd (.inl rfl) (eAdd (.inl rfl) (e_slice ⟨.inl rfl, .inl rfl⟩ (n_var C 1 "value" rfl (by decide +kernel) dbg_value cld_value) (o_none) (o_some (n_var C 3 "at" rfl (by decide +kernel) dbg_at cld_at))) (e_tup rfl (a_cons (.inl rfl) (e_callO C F__law_pick (by decide) (by decide +kernel) rfl 0 (n_pe C 0 "state" rfl (by decide +kernel) dbg_state cld_state) (a_cons (.inl rfl) (DF.val (f_lst rfl (a_cons (.inl rfl) (eAdd (.inl rfl) (n_var C 2 "part" rfl (by decide +kernel) dbg_part cld_part) (e_int)) (a_cons (.inl rfl) (eSub (.inl rfl) (n_var C 2 "part" rfl (by decide +kernel) dbg_part cld_part) (e_int)) (a_cons (.inl rfl) (eEq C (.inl rfl) (n_var C 2 "part" rfl (by decide +kernel) dbg_part cld_part) (e_int)) (a_cons (.inl rfl) (e_non) (a_cons (.inl rfl) (eAdd (.inl rfl) (n_var C 2 "part" rfl (by decide +kernel) dbg_part cld_part) (e_int)) (a_nil)))))))) (a_nil)) dbg__law_pick) (a_nil)))) (e_slice ⟨.inl rfl, .inl rfl⟩ (n_var C 1 "value" rfl (by decide +kernel) dbg_value cld_value) (o_some (eAdd (.inl rfl) (n_var C 3 "at" rfl (by decide +kernel) dbg_at cld_at) (e_int))) (o_none))))) (ss_nil))
      (ss_cons (s_if (tLt (.inl rfl) (n_var C 4 "how" rfl (by decide +kernel) dbg_how cld_how) (e_int)) (ss_never) (ss_nil))
      (ss_one (s_ret (eIx (.inl rfl) (DF.val (f_lst rfl (a_cons (.inl rfl) (eAdd (.inl rfl) (e_slice ⟨.inl rfl, .inl rfl⟩ (n_var C 1 "value" rfl (by decide +kernel) dbg_value cld_value) (o_none) (o_some (n_var C 3 "at" rfl (by decide +kernel) dbg_at cld_at))) (e_slice ⟨.inl rfl, .inl rfl⟩ (n_var C 1 "value" rfl (by decide +kernel) dbg_value cld_value) (o_some (eAdd (.inl rfl) (n_var C 3 "at" rfl (by decide +kernel) dbg_at cld_at) (e_int))) (o_none))) (a_cons (.inl rfl) (eAdd (.inl rfl) (n_var C 1 "value" rfl (by decide +kernel) dbg_value cld_value) (e_tup rfl (a_cons (.inl rfl) (n_var C 2 "part" rfl (by decide +kernel) dbg_part cld_part) (a_nil)))) (a_cons (.inl rfl) (DF.val (f_callT call_list_of vcf_list bList_nr (gloB_of C (by decide +kernel)) (mgn C b_list) rfl (a_cons (.inl rfl) (n_var C 1 "value" rfl (by decide +kernel) dbg_value cld_value) (a_nil)))) (a_nil)))))) (eSub (.inl rfl) (n_var C 4 "how" rfl (by decide +kernel) dbg_how cld_how) (e_int))))))))))
theorem sc_free_in : FnScope N_free_in ["needs", "done"] (defScope (top 34)) := ⟨rfl, rfl, rfl, by decide +kernel, rfl, by decide +kernel, by decide +kernel⟩
theorem ok_free_in (nn : Bool) (T : TF K mg g Ca Ci AW) : Fok nn PP w K mg base 1 "free_in" (spP (ck K g) 2 m_free_in) := by
  have b_enumerate := T.b_enumerate
  have b_list := T.b_list
  refine fok_pure (k := 0) (N := N_free_in) (body := b_free_in) T.f_free_in sc_free_in rfl (by decide) (fun _ => rfl) fun X W C pa => ?_
  unfold b_free_in
  exact ss_cons (s_set C 2 rfl (by decide +kernel) (DF.val (f_lstEn C.calm (gloB_of C (by decide +kernel)) (mgn C b_list) (gloB_of C (by decide +kernel)) (mgn C b_enumerate) (n_var C 0 "needs" rfl (by decide +kernel) dbg_needs cld_needs))))
      (ss_one (s_ret (DF.val (f_lc C [("number", 3), ("own", 4)] (by decide +kernel) (i_items (n_var C 2 "rows" rfl (by decide +kernel) dbg_rows cld_rows)) (fun s1 H1 A1 l1 p1 => g_tup (C.blk s1 H1 _ A1 l1 p1).calm (g_cons (g_name (n_tg C s1 H1 A1 l1 p1 3 rfl (by decide +kernel)) (by decide)) (g_cons (g_name (n_tg C s1 H1 A1 l1 p1 4 rfl (by decide +kernel)) (by decide)) (g_nil)))) (fun s1 H1 A1 l1 p1 => c_one (t_w (w_and (tEq (C.blk s1 H1 _ A1 l1 p1) (.inl rfl) (eAnd (.inl rfl) (eShr (.inl rfl) (n_var (C.blk s1 H1 _ A1 l1 p1) 1 "done" rfl (by decide +kernel) dbg_done cld_done) (n_var (C.blk s1 H1 _ A1 l1 p1) 3 "number" rfl (by decide +kernel) dbg_number cld_number)) (e_int)) (e_int)) (w_and1 (tEq (C.blk s1 H1 _ A1 l1 p1) (.inl rfl) (eAnd (.inl rfl) (n_var (C.blk s1 H1 _ A1 l1 p1) 4 "own" rfl (by decide +kernel) dbg_own cld_own) (n_var (C.blk s1 H1 _ A1 l1 p1) 1 "done" rfl (by decide +kernel) dbg_done cld_done)) (n_var (C.blk s1 H1 _ A1 l1 p1) 4 "own" rfl (by decide +kernel) dbg_own cld_own)))))) (fun s1 H1 A1 l1 p1 => n_var (C.blk s1 H1 _ A1 l1 p1) 3 "number" rfl (by decide +kernel) dbg_number cld_number)))))
theorem sc_sets_by : FnScope N_sets_by ["needs"] (defScope (top 35)) := ⟨rfl, rfl, rfl, by decide +kernel, rfl, by decide +kernel, by decide +kernel⟩
theorem ok_sets_by (nn : Bool) (T : TF K mg g Ca Ci AW) : Fok nn PP w K mg base 2 "sets_by" (spP (ck K g) 1 m_sets_by) := by
  have b_len := T.b_len
  have F_free_in := ok_free_in (w := w) (base := base) nn T
  refine fok_pure (k := 1) (N := N_sets_by) (body := b_sets_by) T.f_sets_by sc_sets_by rfl (by decide) (fun _ => rfl) fun X W C pa => ?_
  unfold b_sets_by
  exact ss_cons (s_par3F C 1 2 3 rfl rfl rfl (by decide) (by decide) (by decide) (by decide +kernel) (by decide +kernel) (by decide +kernel) (f_lst rfl (a_cons (.inl rfl) (e_int) (a_nil))) (f_dOne (kk := .inl 0) pe_int pe_bl (fun _ _ => isBl)) (e_int) (by rfl))
      (ss_cons (s_while C (tLt (.inl rfl) (n_var C 3 "at" rfl (by decide +kernel) dbg_at cld_at) (e_callB call_len vc_len bLen_nr (gloB_of C (by decide +kernel)) (mgn C b_len) rfl (a_cons (.inr rfl) (n_varO C 1 "found" rfl (by decide +kernel) dbg_found cld_found) (a_nil)))) (ss_cons (s_set C 4 rfl (by decide +kernel) (eIx (.inr rfl) (n_varO C 1 "found" rfl (by decide +kernel) dbg_found cld_found) (n_var C 3 "at" rfl (by decide +kernel) dbg_at cld_at)))
      (ss_cons (s_aug C iop_add va_add dIntOp_nr 3 rfl (by decide +kernel) (e_int))
      (ss_one (s_for (vs := [5]) C (i_items (e_call C F_free_in (by decide) (by decide +kernel) rfl (a_cons (.inl rfl) (n_var C 0 "needs" rfl (by decide +kernel) dbg_needs cld_needs) (a_cons (.inl rfl) (n_var C 4 "here" rfl (by decide +kernel) dbg_here cld_here) (a_nil))) dbg_free_in)) (g_name (n_pg C 5 "number" rfl (by decide +kernel)) (by decide)) (ss_cons (s_set C 6 rfl (by decide +kernel) (eOr (.inl rfl) (n_var C 4 "here" rfl (by decide +kernel) dbg_here cld_here) (eShl (.inl rfl) (e_int) (n_var C 5 "number" rfl (by decide +kernel) dbg_number cld_number))))
      (ss_one (s_if (tNotInK C (.inl rfl) (n_var C 6 "there" rfl (by decide +kernel) dbg_there cld_there) (n_varO C 2 "known" rfl (by decide +kernel) dbg_known cld_known)) (ss_cons (s_subK C (n_pe C 2 "known" rfl (by decide +kernel) dbg_known cld_known) (n_var C 6 "there" rfl (by decide +kernel) dbg_there cld_there) (e_bl))
      (ss_one (s_drop (e_meth PySem.F.plainAttrs_list PySem.F.slot_list_append PySem.F.type_list_append mt_append vm_app fApp_nr rfl (n_pe C 1 "found" rfl (by decide +kernel) dbg_found cld_found) (a_cons (.inl rfl) (n_var C 6 "there" rfl (by decide +kernel) dbg_there cld_there) (a_nil)))))) (ss_nil)))))))))
      (ss_one (s_retO 1 (n_pe C 1 "found" rfl (by decide +kernel) dbg_found cld_found))))
theorem sc_needs_by : FnScope N_needs_by ["steps", "links"] (defScope (top 33)) := ⟨rfl, rfl, rfl, by decide +kernel, rfl, by decide +kernel, by decide +kernel⟩
theorem ok_needs_by (nn : Bool) (T : TF K mg g Ca Ci AW) : Fok nn PP w K mg base 1 "needs_by" (spP (ck K g) 2 m_needs_by) := by
  have b_len := T.b_len
  refine fok_pure (k := 0) (N := N_needs_by) (body := b_needs_by) T.f_needs_by sc_needs_by rfl (by decide) (fun _ => rfl) fun X W C pa => ?_
  unfold b_needs_by
  exact ss_cons (s_setO C 2 rfl (by decide +kernel) (fMulL (.inl rfl) (DF.val (f_lst rfl (a_cons (.inl rfl) (e_int) (a_nil)))) (e_callB call_len vc_len bLen_nr (gloB_of C (by decide +kernel)) (mgn C b_len) rfl (a_cons (.inl rfl) (n_var C 0 "steps" rfl (by decide +kernel) dbg_steps cld_steps) (a_nil)))))
      (ss_cons (s_for (vs := [3, 4]) C (i_items (n_var C 1 "links" rfl (by decide +kernel) dbg_links cld_links)) (g_tup C.calm (g_cons (g_name (n_pg C 3 "one" rfl (by decide +kernel)) (by decide)) (g_cons (g_name (n_pg C 4 "other" rfl (by decide +kernel)) (by decide)) (g_nil)))) (ss_one (s_augSub iop_or va_or dIntOp_nr (n_pe C 2 "needs" rfl (by decide +kernel) dbg_needs cld_needs) (n_var C 4 "other" rfl (by decide +kernel) dbg_other cld_other) (eShl (.inl rfl) (e_int) (n_var C 3 "one" rfl (by decide +kernel) dbg_one cld_one)))))
      (ss_one (s_retO 2 (n_pe C 2 "needs" rfl (by decide +kernel) dbg_needs cld_needs))))
theorem sc_check_links : FnScope N_check_links ["steps", "links"] (defScope (top 32)) := ⟨rfl, rfl, rfl, by decide +kernel, rfl, by decide +kernel, by decide +kernel⟩
theorem ok_check_links (nn : Bool) (T : TF K mg g Ca Ci AW) : Fok nn PP w K mg base 3 "check_links" (spP (ck K g) 2 m_check_links) := by
  obtain ⟨t_MAX_DONE, k_MAX_DONE⟩ := T.k_MAX_DONE
  obtain ⟨t_MAX_ROWS, k_MAX_ROWS⟩ := T.k_MAX_ROWS
  have b_all := T.b_all
  have b_isinstance := T.b_isinstance
  have b_len := T.b_len
  have b_tuple := T.b_tuple
  have F_is_between := ok_is_between (w := w) (base := base) nn T
  have F_sets_by := ok_sets_by (w := w) (base := base) nn T
  have F_needs_by := ok_needs_by (w := w) (base := base) nn T
  refine fok_pure (k := 2) (N := N_check_links) (body := b_check_links) T.f_check_links sc_check_links rfl (by decide) (fun _ => rfl) fun X W C pa => ?_
  unfold b_check_links
  exact ss_cons (s_if (tGt (.inl rfl) (e_callB call_len vc_len bLen_nr (gloB_of C (by decide +kernel)) (mgn C b_len) rfl (a_cons (.inl rfl) (n_var C 0 "steps" rfl (by decide +kernel) dbg_steps cld_steps) (a_nil))) (n_const C (by decide +kernel) k_MAX_DONE dbg_MAX_DONE)) (ss_one (s_raise C (j := 0) T.x1 (by decide) (by decide +kernel) T.w.m1 (T.w.ec 1 (by decide)) (T.en 1) (e_str))) (ss_nil))
      (ss_cons (s_if (t_w (w_or (t_not (tTruth (e_isi kitT_tuple (gloB_of C (by decide +kernel)) (mgn C b_isinstance) (gloB_of C (by decide +kernel)) (mgn C b_tuple) rfl (n_var C 1 "links" rfl (by decide +kernel) dbg_links cld_links)))) (w_or1 (tGt (.inl rfl) (e_callB call_len vc_len bLen_nr (gloB_of C (by decide +kernel)) (mgn C b_len) rfl (a_cons (.inl rfl) (n_var C 1 "links" rfl (by decide +kernel) dbg_links cld_links) (a_nil))) (n_const C (by decide +kernel) k_MAX_ROWS dbg_MAX_ROWS))))) (ss_one (s_raise C (j := 0) T.x1 (by decide) (by decide +kernel) T.w.m1 (T.w.ec 1 (by decide)) (T.en 1) (e_str))) (ss_nil))
      (ss_cons (s_for (vs := [2]) C (i_items (n_var C 1 "links" rfl (by decide +kernel) dbg_links cld_links)) (g_name (n_pg C 2 "link" rfl (by decide +kernel)) (by decide)) (ss_cons (s_if (t_w (w_or (t_not (tTruth (e_isi kitT_tuple (gloB_of C (by decide +kernel)) (mgn C b_isinstance) (gloB_of C (by decide +kernel)) (mgn C b_tuple) rfl (n_var C 2 "link" rfl (by decide +kernel) dbg_link cld_link)))) (w_or (tNe C (.inl rfl) (e_callB call_len vc_len bLen_nr (gloB_of C (by decide +kernel)) (mgn C b_len) rfl (a_cons (.inl rfl) (n_var C 2 "link" rfl (by decide +kernel) dbg_link cld_link) (a_nil))) (e_int)) (w_or1 (tEq C (.inl rfl) (eIx (.inl rfl) (n_var C 2 "link" rfl (by decide +kernel) dbg_link cld_link) (e_int)) (eIx (.inl rfl) (n_var C 2 "link" rfl (by decide +kernel) dbg_link cld_link) (e_int))))))) (ss_one (s_raise C (j := 0) T.x1 (by decide) (by decide +kernel) T.w.m1 (T.w.ec 1 (by decide)) (T.en 1) (e_str))) (ss_nil))
      (ss_one (s_if (t_not (tTruth (e_callB (cr_all C.calm) vc_all bAll_nr (gloB_of C (by decide +kernel)) (mgn C b_all) rfl (a_cons (.inl rfl) (DF.val (f_lc C [("own", 3)] (by decide +kernel) (i_items (n_var C 2 "link" rfl (by decide +kernel) dbg_link cld_link)) (fun s1 H1 A1 l1 p1 => g_name (n_tg C s1 H1 A1 l1 p1 3 rfl (by decide +kernel)) (by decide)) (fun s1 H1 A1 l1 p1 => c_nil) (fun s1 H1 A1 l1 p1 => e_call (C.blk s1 H1 _ A1 l1 p1) F_is_between (by decide) (by decide +kernel) rfl (a_cons (.inl rfl) (n_var (C.blk s1 H1 _ A1 l1 p1) 3 "own" rfl (by decide +kernel) dbg_own cld_own) (a_cons (.inl rfl) (e_int) (a_cons (.inl rfl) (eSub (.inl rfl) (e_callB call_len vc_len bLen_nr (gloB_of (C.blk s1 H1 _ A1 l1 p1) (by decide +kernel)) (mgn (C.blk s1 H1 _ A1 l1 p1) b_len) rfl (a_cons (.inl rfl) (n_var (C.blk s1 H1 _ A1 l1 p1) 0 "steps" rfl (by decide +kernel) dbg_steps cld_steps) (a_nil))) (e_int)) (a_nil)))) dbg_is_between))) (a_nil))))) (ss_one (s_raise C (j := 0) T.x1 (by decide) (by decide +kernel) T.w.m1 (T.w.ec 1 (by decide)) (T.en 1) (e_str))) (ss_nil)))))
      (ss_one (s_if (tNe C (.inl rfl) (eIx (.inl rfl) (e_call C F_sets_by (by decide) (by decide +kernel) rfl (a_cons (.inl rfl) (e_call C F_needs_by (by decide) (by decide +kernel) rfl (a_cons (.inl rfl) (n_var C 0 "steps" rfl (by decide +kernel) dbg_steps cld_steps) (a_cons (.inl rfl) (n_var C 1 "links" rfl (by decide +kernel) dbg_links cld_links) (a_nil))) dbg_needs_by) (a_nil)) dbg_sets_by) (e_neg (e_int))) (eSub (.inl rfl) (eShl (.inl rfl) (e_int) (e_callB call_len vc_len bLen_nr (gloB_of C (by decide +kernel)) (mgn C b_len) rfl (a_cons (.inl rfl) (n_var C 0 "steps" rfl (by decide +kernel) dbg_steps cld_steps) (a_nil)))) (e_int))) (ss_one (s_raise C (j := 0) T.x1 (by decide) (by decide +kernel) T.w.m1 (T.w.ec 1 (by decide)) (T.en 1) (e_str))) (ss_nil)))))
theorem sc_best_linked : FnScope N_best_linked ["steps", "links"] (defScope (top 36)) := ⟨rfl, rfl, rfl, by decide +kernel, rfl, by decide +kernel, by decide +kernel⟩
theorem ok_best_linked (nn : Bool) (T : TF K mg g Ca Ci AW) : Fok nn PP w K mg base 4 "best_linked" (spP (ck K g) 2 m_best_linked) := by
  have b_enumerate := T.b_enumerate
  have b_sum := T.b_sum
  have F_check_steps := ok_check_steps (w := w) (base := base) nn T
  have F_check_links := ok_check_links (w := w) (base := base) nn T
  have F_needs_by := ok_needs_by (w := w) (base := base) nn T
  have F_sets_by := ok_sets_by (w := w) (base := base) nn T
  have F_free_in := ok_free_in (w := w) (base := base) nn T
  have F_lowest := ok_lowest (w := w) (base := base) nn T
  refine fok_pure (k := 3) (N := N_best_linked) (body := b_best_linked) T.f_best_linked sc_best_linked rfl (by decide) (fun _ => rfl) fun X W C pa => ?_
  unfold b_best_linked
  exact ss_cons (s_drop (e_call C F_check_steps (by decide) (by decide +kernel) rfl (a_cons (.inl rfl) (n_var C 0 "steps" rfl (by decide +kernel) dbg_steps cld_steps) (a_nil)) dbg_check_steps))
      (ss_cons (s_drop (e_call C F_check_links (by decide) (by decide +kernel) rfl (a_cons (.inl rfl) (n_var C 0 "steps" rfl (by decide +kernel) dbg_steps cld_steps) (a_cons (.inl rfl) (n_var C 1 "links" rfl (by decide +kernel) dbg_links cld_links) (a_nil))) dbg_check_links))
      (ss_cons (s_par3F C 3 4 5 rfl rfl rfl (by decide) (by decide) (by decide) (by decide +kernel) (by decide +kernel) (by decide +kernel) (f_dNew) (f_dNew) (e_call C F_needs_by (by decide) (by decide +kernel) rfl (a_cons (.inl rfl) (n_var C 0 "steps" rfl (by decide +kernel) dbg_steps cld_steps) (a_cons (.inl rfl) (n_var C 1 "links" rfl (by decide +kernel) dbg_links cld_links) (a_nil))) dbg_needs_by) (by rfl))
      (ss_cons (s_for (vs := [2]) C (i_items (e_rev (e_call C F_sets_by (by decide) (by decide +kernel) rfl (a_cons (.inl rfl) (n_var C 5 "needs" rfl (by decide +kernel) dbg_needs cld_needs) (a_nil)) dbg_sets_by))) (g_name (n_pg C 2 "here" rfl (by decide +kernel)) (by decide)) (ss_cons (s_set C 6 rfl (by decide +kernel) (e_callB (cr_sumA C.calm) vc_sum bSum_nr (gloB_of C (by decide +kernel)) (mgn C b_sum) rfl (a_cons (.inl rfl) (DF.val (f_lc C [("number", 8), ("step", 14)] (by decide +kernel) (i_enum (gloB_of C (by decide +kernel)) (mgn C b_enumerate) (n_var C 0 "steps" rfl (by decide +kernel) dbg_steps cld_steps)) (fun s1 H1 A1 l1 p1 => g_tup (C.blk s1 H1 _ A1 l1 p1).calm (g_cons (g_name (n_tg C s1 H1 A1 l1 p1 8 rfl (by decide +kernel)) (by decide)) (g_cons (g_name (n_tg C s1 H1 A1 l1 p1 14 rfl (by decide +kernel)) (by decide)) (g_nil)))) (fun s1 H1 A1 l1 p1 => c_one (tEq (C.blk s1 H1 _ A1 l1 p1) (.inl rfl) (eAnd (.inl rfl) (eShr (.inl rfl) (n_var (C.blk s1 H1 _ A1 l1 p1) 2 "here" rfl (by decide +kernel) dbg_here cld_here) (n_var (C.blk s1 H1 _ A1 l1 p1) 8 "number" rfl (by decide +kernel) dbg_number cld_number)) (e_int)) (e_int))) (fun s1 H1 A1 l1 p1 => eIx (.inl rfl) (n_var (C.blk s1 H1 _ A1 l1 p1) 14 "step" rfl (by decide +kernel) dbg_step cld_step) (e_int)))) (a_nil))))
      (ss_cons (s_set C 7 rfl (by decide +kernel) (e_non))
      (ss_cons (s_subK C (n_pe C 4 "whole" rfl (by decide +kernel) dbg_whole cld_whole) (n_var C 2 "here" rfl (by decide +kernel) dbg_here cld_here) (e_int))
      (ss_cons (s_for (vs := [8]) C (i_items (e_call C F_free_in (by decide) (by decide +kernel) rfl (a_cons (.inl rfl) (n_var C 5 "needs" rfl (by decide +kernel) dbg_needs cld_needs) (a_cons (.inl rfl) (n_var C 2 "here" rfl (by decide +kernel) dbg_here cld_here) (a_nil))) dbg_free_in)) (g_name (n_pg C 8 "number" rfl (by decide +kernel)) (by decide)) (ss_cons (s_asg (vs := [11, 12, 13]) (eIx (.inl rfl) (n_var C 0 "steps" rfl (by decide +kernel) dbg_steps cld_steps) (n_var C 8 "number" rfl (by decide +kernel) dbg_number cld_number)) (g_tup C.calm (g_cons (g_name (n_pg C 11 "cost" rfl (by decide +kernel)) (by decide)) (g_cons (g_name (n_pg C 12 "undone" rfl (by decide +kernel)) (by decide)) (g_cons (g_name (n_pg C 13 "fails" rfl (by decide +kernel)) (by decide)) (g_nil))))) rfl ((sws_eq C.es _ _).trans (by rfl)))
      (ss_cons (s_set C 9 rfl (by decide +kernel) (eOr (.inl rfl) (n_var C 2 "here" rfl (by decide +kernel) dbg_here cld_here) (eShl (.inl rfl) (e_int) (n_var C 8 "number" rfl (by decide +kernel) dbg_number cld_number))))
      (ss_cons (s_subK C (n_pe C 4 "whole" rfl (by decide +kernel) dbg_whole cld_whole) (n_var C 2 "here" rfl (by decide +kernel) dbg_here cld_here) (eMul (.inl rfl) (eIxK C (.inr rfl) (n_varO C 4 "whole" rfl (by decide +kernel) dbg_whole cld_whole) (n_var C 9 "there" rfl (by decide +kernel) dbg_there cld_there)) (eIx (.inl rfl) (n_var C 13 "fails" rfl (by decide +kernel) dbg_fails cld_fails) (e_int))))
      (ss_cons (s_set C 10 rfl (by decide +kernel) (eAdd (.inl rfl) (eMul (.inl rfl) (eAdd (.inl rfl) (eMul (.inl rfl) (n_var C 11 "cost" rfl (by decide +kernel) dbg_cost cld_cost) (eIx (.inl rfl) (n_var C 13 "fails" rfl (by decide +kernel) dbg_fails cld_fails) (e_int))) (eMul (.inl rfl) (eIx (.inl rfl) (n_var C 13 "fails" rfl (by decide +kernel) dbg_fails cld_fails) (e_int)) (n_var C 6 "back" rfl (by decide +kernel) dbg_back cld_back))) (eIxK C (.inr rfl) (n_varO C 4 "whole" rfl (by decide +kernel) dbg_whole cld_whole) (n_var C 9 "there" rfl (by decide +kernel) dbg_there cld_there))) (eMul (.inl rfl) (eSub (.inl rfl) (eIx (.inl rfl) (n_var C 13 "fails" rfl (by decide +kernel) dbg_fails cld_fails) (e_int)) (eIx (.inl rfl) (n_var C 13 "fails" rfl (by decide +kernel) dbg_fails cld_fails) (e_int))) (eIx (.inl rfl) (eIxK C (.inr rfl) (n_varO C 3 "best" rfl (by decide +kernel) dbg_best cld_best) (n_var C 9 "there" rfl (by decide +kernel) dbg_there cld_there)) (e_int)))))
      (ss_one (s_if (t_w (w_or (tNoneIs (.inl rfl) (n_var C 7 "own" rfl (by decide +kernel) dbg_own cld_own) (e_non)) (w_or1 (tLt (.inl rfl) (n_var C 10 "up" rfl (by decide +kernel) dbg_up cld_up) (eIx (.inl rfl) (n_var C 7 "own" rfl (by decide +kernel) dbg_own cld_own) (e_int)))))) (ss_one (s_set C 7 rfl (by decide +kernel) (e_tup rfl (a_cons (.inl rfl) (n_var C 10 "up" rfl (by decide +kernel) dbg_up cld_up) (a_cons (.inl rfl) (eAdd (.inl rfl) (e_tup rfl (a_cons (.inl rfl) (n_var C 8 "number" rfl (by decide +kernel) dbg_number cld_number) (a_nil))) (eIx (.inl rfl) (eIxK C (.inr rfl) (n_varO C 3 "best" rfl (by decide +kernel) dbg_best cld_best) (n_var C 9 "there" rfl (by decide +kernel) dbg_there cld_there)) (e_int))) (a_nil)))))) (ss_nil))))))))
      (ss_one (s_subK C (n_pe C 3 "best" rfl (by decide +kernel) dbg_best cld_best) (n_var C 2 "here" rfl (by decide +kernel) dbg_here cld_here) (e_if (tNoneIs (.inl rfl) (n_var C 7 "own" rfl (by decide +kernel) dbg_own cld_own) (e_non)) (e_tup rfl (a_cons (.inl rfl) (e_int) (a_cons (.inl rfl) (e_tup rfl (a_nil)) (a_nil)))) (n_var C 7 "own" rfl (by decide +kernel) dbg_own cld_own)))))))))
      (ss_one (s_ret (e_tup rfl (a_cons (.inl rfl) (e_call C F_lowest (by decide) (by decide +kernel) rfl (a_cons (.inl rfl) (eIx (.inl rfl) (eIxK C (.inr rfl) (n_varO C 3 "best" rfl (by decide +kernel) dbg_best cld_best) (e_int)) (e_int)) (a_cons (.inl rfl) (eIxK C (.inr rfl) (n_varO C 4 "whole" rfl (by decide +kernel) dbg_whole cld_whole) (e_int)) (a_nil))) dbg_lowest) (a_cons (.inl rfl) (eIx (.inl rfl) (eIxK C (.inr rfl) (n_varO C 3 "best" rfl (by decide +kernel) dbg_best cld_best) (e_int)) (e_int)) (a_nil)))))))))
theorem sc_is_order : FnScope N_is_order ["steps", "order"] (defScope (top 19)) := ⟨rfl, rfl, rfl, by decide +kernel, rfl, by decide +kernel, by decide +kernel⟩
theorem ok_is_order (nn : Bool) (T : TF K mg g Ca Ci AW) : Fok nn PP w K mg base 2 "is_order" (spP (ck K g) 2 m_is_order) := by
  have b_all := T.b_all
  have b_isinstance := T.b_isinstance
  have b_len := T.b_len
  have b_list := T.b_list
  have b_range := T.b_range
  have b_sorted := T.b_sorted
  have b_tuple := T.b_tuple
  have F_is_integer := ok_is_integer (w := w) (base := base) nn T
  refine fok_pure (k := 1) (N := N_is_order) (body := b_is_order) T.f_is_order sc_is_order rfl (by decide) (fun _ => rfl) fun X W C pa => ?_
  unfold b_is_order
  exact ss_cons (s_if (t_w (w_or (t_not (tTruth (e_isi kitT_tuple (gloB_of C (by decide +kernel)) (mgn C b_isinstance) (gloB_of C (by decide +kernel)) (mgn C b_tuple) rfl (n_var C 1 "order" rfl (by decide +kernel) dbg_order cld_order)))) (w_or1 (t_not (tTruth (e_callB (cr_all C.calm) vc_all bAll_nr (gloB_of C (by decide +kernel)) (mgn C b_all) rfl (a_cons (.inl rfl) (DF.val (f_lc C [("own", 2)] (by decide +kernel) (i_items (n_var C 1 "order" rfl (by decide +kernel) dbg_order cld_order)) (fun s1 H1 A1 l1 p1 => g_name (n_tg C s1 H1 A1 l1 p1 2 rfl (by decide +kernel)) (by decide)) (fun s1 H1 A1 l1 p1 => c_nil) (fun s1 H1 A1 l1 p1 => e_call (C.blk s1 H1 _ A1 l1 p1) F_is_integer (by decide) (by decide +kernel) rfl (a_cons (.inl rfl) (n_var (C.blk s1 H1 _ A1 l1 p1) 2 "own" rfl (by decide +kernel) dbg_own cld_own) (a_nil)) dbg_is_integer))) (a_nil)))))))) (ss_one (s_ret (e_bl))) (ss_nil))
      (ss_one (s_ret (eEq C (.inl rfl) (DF.val (f_callB cr_sortB vcf_sorted bSorted_nr (gloB_of C (by decide +kernel)) (mgn C b_sorted) rfl (a_cons (.inl rfl) (n_var C 1 "order" rfl (by decide +kernel) dbg_order cld_order) (a_nil)))) (DF.val (f_lstRg C.calm (gloB_of C (by decide +kernel)) (mgn C b_list) (gloB_of C (by decide +kernel)) (mgn C b_range) (e_callB call_len vc_len bLen_nr (gloB_of C (by decide +kernel)) (mgn C b_len) rfl (a_cons (.inl rfl) (n_var C 0 "steps" rfl (by decide +kernel) dbg_steps cld_steps) (a_nil))))))))
theorem sc_check_order : FnScope N_check_order ["steps", "order"] (defScope (top 18)) := ⟨rfl, rfl, rfl, by decide +kernel, rfl, by decide +kernel, by decide +kernel⟩
theorem ok_check_order (nn : Bool) (T : TF K mg g Ca Ci AW) : Fok nn PP w K mg base 3 "check_order" (spP (ck K g) 2 m_check_order) := by
  have F_is_order := ok_is_order (w := w) (base := base) nn T
  refine fok_pure (k := 2) (N := N_check_order) (body := b_check_order) T.f_check_order sc_check_order rfl (by decide) (fun _ => rfl) fun X W C pa => ?_
  unfold b_check_order
  exact ss_one (s_if (t_not (tTruth (e_call C F_is_order (by decide) (by decide +kernel) rfl (a_cons (.inl rfl) (n_var C 0 "steps" rfl (by decide +kernel) dbg_steps cld_steps) (a_cons (.inl rfl) (n_var C 1 "order" rfl (by decide +kernel) dbg_order cld_order) (a_nil))) dbg_is_order))) (ss_one (s_raise C (j := 0) T.x1 (by decide) (by decide +kernel) T.w.m1 (T.w.ec 1 (by decide)) (T.en 1) (e_str))) (ss_nil))
theorem sc_worst_of : FnScope N_worst_of ["steps", "order"] (defScope (top 25)) := ⟨rfl, rfl, rfl, by decide +kernel, rfl, by decide +kernel, by decide +kernel⟩
theorem ok_worst_of (nn : Bool) (T : TF K mg g Ca Ci AW) : Fok nn PP w K mg base 2 "worst_of" (spP (ck K g) 2 m_worst_of) := by
  have b_max := T.b_max
  have F_rows_of := ok_rows_of (w := w) (base := base) nn T
  refine fok_pure (k := 1) (N := N_worst_of) (body := b_worst_of) T.f_worst_of sc_worst_of rfl (by decide) (fun _ => rfl) fun X W C pa => ?_
  unfold b_worst_of
  exact ss_one (s_ret (e_callB (cr_maxA C.calm) vc_max bMax_nr (gloB_of C (by decide +kernel)) (mgn C b_max) rfl (a_cons (.inl rfl) (DF.val (f_lc C [("up", 2), ("down", 3), ("cost", 4)] (by decide +kernel) (i_items (e_call C F_rows_of (by decide) (by decide +kernel) rfl (a_cons (.inl rfl) (n_var C 0 "steps" rfl (by decide +kernel) dbg_steps cld_steps) (a_cons (.inl rfl) (n_var C 1 "order" rfl (by decide +kernel) dbg_order cld_order) (a_nil))) dbg_rows_of)) (fun s1 H1 A1 l1 p1 => g_tup (C.blk s1 H1 _ A1 l1 p1).calm (g_cons (g_name (n_tg C s1 H1 A1 l1 p1 2 rfl (by decide +kernel)) (by decide)) (g_cons (g_name (n_tg C s1 H1 A1 l1 p1 3 rfl (by decide +kernel)) (by decide)) (g_cons (g_name (n_tg C s1 H1 A1 l1 p1 4 rfl (by decide +kernel)) (by decide)) (g_nil))))) (fun s1 H1 A1 l1 p1 => c_one (tGt (.inl rfl) (n_var (C.blk s1 H1 _ A1 l1 p1) 2 "up" rfl (by decide +kernel) dbg_up cld_up) (e_int))) (fun s1 H1 A1 l1 p1 => n_var (C.blk s1 H1 _ A1 l1 p1) 4 "cost" rfl (by decide +kernel) dbg_cost cld_cost))) (a_nil))))
theorem sc_worst_cost : FnScope N_worst_cost ["steps", "order"] (defScope (top 26)) := ⟨rfl, rfl, rfl, by decide +kernel, rfl, by decide +kernel, by decide +kernel⟩
theorem ok_worst_cost (nn : Bool) (T : TF K mg g Ca Ci AW) : Fok nn PP w K mg base 4 "worst_cost" (spP (ck K g) 2 m_worst_cost) := by
  have F_check_steps := ok_check_steps (w := w) (base := base) nn T
  have F_check_order := ok_check_order (w := w) (base := base) nn T
  have F_worst_of := ok_worst_of (w := w) (base := base) nn T
  refine fok_pure (k := 3) (N := N_worst_cost) (body := b_worst_cost) T.f_worst_cost sc_worst_cost rfl (by decide) (fun _ => rfl) fun X W C pa => ?_
  unfold b_worst_cost
  exact ss_cons (s_drop (e_call C F_check_steps (by decide) (by decide +kernel) rfl (a_cons (.inl rfl) (n_var C 0 "steps" rfl (by decide +kernel) dbg_steps cld_steps) (a_nil)) dbg_check_steps))
      (ss_cons (s_drop (e_call C F_check_order (by decide) (by decide +kernel) rfl (a_cons (.inl rfl) (n_var C 0 "steps" rfl (by decide +kernel) dbg_steps cld_steps) (a_cons (.inl rfl) (n_var C 1 "order" rfl (by decide +kernel) dbg_order cld_order) (a_nil))) dbg_check_order))
      (ss_one (s_ret (e_call C F_worst_of (by decide) (by decide +kernel) rfl (a_cons (.inl rfl) (n_var C 0 "steps" rfl (by decide +kernel) dbg_steps cld_steps) (a_cons (.inl rfl) (n_var C 1 "order" rfl (by decide +kernel) dbg_order cld_order) (a_nil))) dbg_worst_of))))
theorem sc_accept_best : FnScope N_accept_best ["steps", "order"] (defScope (top 30)) := ⟨rfl, rfl, rfl, by decide +kernel, rfl, by decide +kernel, by decide +kernel⟩
theorem ok_accept_best (nn : Bool) (T : TF K mg g Ca Ci AW) : Fok nn PP w K mg base 4 "accept_best" (spP (ck K g) 2 m_accept_best) := by
  have b_len := T.b_len
  have b_range := T.b_range
  have F_check_steps := ok_check_steps (w := w) (base := base) nn T
  have F_is_order := ok_is_order (w := w) (base := base) nn T
  have F_weight_of := ok_weight_of (w := w) (base := base) nn T
  refine fok_pure (k := 3) (N := N_accept_best) (body := b_accept_best) T.f_accept_best sc_accept_best rfl (by decide) (fun _ => rfl) fun X W C pa => ?_
  unfold b_accept_best
  exact ss_cons (s_drop (e_call C F_check_steps (by decide) (by decide +kernel) rfl (a_cons (.inl rfl) (n_var C 0 "steps" rfl (by decide +kernel) dbg_steps cld_steps) (a_nil)) dbg_check_steps))
      (ss_cons (s_if (t_not (tTruth (e_call C F_is_order (by decide) (by decide +kernel) rfl (a_cons (.inl rfl) (n_var C 0 "steps" rfl (by decide +kernel) dbg_steps cld_steps) (a_cons (.inl rfl) (n_var C 1 "order" rfl (by decide +kernel) dbg_order cld_order) (a_nil))) dbg_is_order))) (ss_one (s_raise C (j := 0) T.x2 (by decide) (by decide +kernel) T.w.m2 (T.w.ec 2 (by decide)) (T.en 2) (e_str))) (ss_nil))
      (ss_cons (s_setLc C [("number", 4)] (by decide +kernel) rfl 2 rfl (by decide +kernel) (i_items (n_var C 1 "order" rfl (by decide +kernel) dbg_order cld_order)) (fun s1 H1 A1 l1 p1 => g_name (n_tg C s1 H1 A1 l1 p1 4 rfl (by decide +kernel)) (by decide)) (fun s1 H1 A1 l1 p1 => c_one (t_w (w_or (tGt (.inl rfl) (e_call (C.blk s1 H1 _ A1 l1 p1) F_weight_of (by decide) (by decide +kernel) rfl (a_cons (.inl rfl) (eIx (.inl rfl) (n_var (C.blk s1 H1 _ A1 l1 p1) 0 "steps" rfl (by decide +kernel) dbg_steps cld_steps) (n_var (C.blk s1 H1 _ A1 l1 p1) 4 "number" rfl (by decide +kernel) dbg_number cld_number)) (a_nil)) dbg_weight_of) (e_int)) (w_or1 (tGt (.inl rfl) (eIx (.inl rfl) (eIx (.inl rfl) (eIx (.inl rfl) (n_var (C.blk s1 H1 _ A1 l1 p1) 0 "steps" rfl (by decide +kernel) dbg_steps cld_steps) (n_var (C.blk s1 H1 _ A1 l1 p1) 4 "number" rfl (by decide +kernel) dbg_number cld_number)) (e_int)) (e_int)) (e_int)))))) (fun s1 H1 A1 l1 p1 => eIx (.inl rfl) (n_var (C.blk s1 H1 _ A1 l1 p1) 0 "steps" rfl (by decide +kernel) dbg_steps cld_steps) (n_var (C.blk s1 H1 _ A1 l1 p1) 4 "number" rfl (by decide +kernel) dbg_number cld_number)))
      (ss_one (s_for (vs := [3]) C (i_rng1 (gloB_of C (by decide +kernel)) (mgn C b_range) (a_cons (.inl rfl) (eSub (.inl rfl) (e_callB call_len vc_len bLen_nr (gloB_of C (by decide +kernel)) (mgn C b_len) rfl (a_cons (.inl rfl) (n_var C 2 "rows" rfl (by decide +kernel) dbg_rows cld_rows) (a_nil))) (e_int)) (a_nil))) (g_name (n_pg C 3 "at" rfl (by decide +kernel)) (by decide)) (ss_one (s_if (tLt (.inl rfl) (eMul (.inl rfl) (e_call C F_weight_of (by decide) (by decide +kernel) rfl (a_cons (.inl rfl) (eIx (.inl rfl) (n_var C 2 "rows" rfl (by decide +kernel) dbg_rows cld_rows) (eAdd (.inl rfl) (n_var C 3 "at" rfl (by decide +kernel) dbg_at cld_at) (e_int))) (a_nil)) dbg_weight_of) (eIx (.inl rfl) (eIx (.inl rfl) (eIx (.inl rfl) (n_var C 2 "rows" rfl (by decide +kernel) dbg_rows cld_rows) (n_var C 3 "at" rfl (by decide +kernel) dbg_at cld_at)) (e_int)) (e_int))) (eMul (.inl rfl) (e_call C F_weight_of (by decide) (by decide +kernel) rfl (a_cons (.inl rfl) (eIx (.inl rfl) (n_var C 2 "rows" rfl (by decide +kernel) dbg_rows cld_rows) (n_var C 3 "at" rfl (by decide +kernel) dbg_at cld_at)) (a_nil)) dbg_weight_of) (eIx (.inl rfl) (eIx (.inl rfl) (eIx (.inl rfl) (n_var C 2 "rows" rfl (by decide +kernel) dbg_rows cld_rows) (eAdd (.inl rfl) (n_var C 3 "at" rfl (by decide +kernel) dbg_at cld_at) (e_int))) (e_int)) (e_int)))) (ss_one (s_raise C (j := 0) T.x2 (by decide) (by decide +kernel) T.w.m2 (T.w.ec 2 (by decide)) (T.en 2) (e_str))) (ss_nil)))))))
theorem sc_least_worst : FnScope N_least_worst ["steps"] (defScope (top 31)) := ⟨rfl, rfl, rfl, by decide +kernel, rfl, by decide +kernel, by decide +kernel⟩
theorem ok_least_worst (nn : Bool) (T : TF K mg g Ca Ci AW) : Fok nn PP w K mg base 4 "least_worst" (spP (ck K g) 1 m_least_worst) := by
  have F_check_steps := ok_check_steps (w := w) (base := base) nn T
  refine fok_pure (k := 3) (N := N_least_worst) (body := b_least_worst) T.f_least_worst sc_least_worst rfl (by decide) (fun _ => rfl) fun X W C pa => ?_
  unfold b_least_worst
  exact ss_cons (s_drop (e_call C F_check_steps (by decide) (by decide +kernel) rfl (a_cons (.inl rfl) (n_var C 0 "steps" rfl (by decide +kernel) dbg_steps cld_steps) (a_nil)) dbg_check_steps))
      (ss_never)
theorem sc_chances : FnScope N_chances ["steps", "order"] (defScope (top 21)) := ⟨rfl, rfl, rfl, by decide +kernel, rfl, by decide +kernel, by decide +kernel⟩
theorem ok_chances (nn : Bool) (T : TF K mg g Ca Ci AW) : Fok nn PP w K mg base 4 "chances" (spP (ck K g) 2 m_chances) := by
  have F_check_steps := ok_check_steps (w := w) (base := base) nn T
  have F_check_order := ok_check_order (w := w) (base := base) nn T
  refine fok_pure (k := 3) (N := N_chances) (body := b_chances) T.f_chances sc_chances rfl (by decide) (fun _ => rfl) fun X W C pa => ?_
  unfold b_chances
  exact ss_cons (s_drop (e_call C F_check_steps (by decide) (by decide +kernel) rfl (a_cons (.inl rfl) (n_var C 0 "steps" rfl (by decide +kernel) dbg_steps cld_steps) (a_nil)) dbg_check_steps))
      (ss_cons (s_drop (e_call C F_check_order (by decide) (by decide +kernel) rfl (a_cons (.inl rfl) (n_var C 0 "steps" rfl (by decide +kernel) dbg_steps cld_steps) (a_cons (.inl rfl) (n_var C 1 "order" rfl (by decide +kernel) dbg_order cld_order) (a_nil))) dbg_check_order))
      (ss_never))
theorem sc_mean_cost : FnScope N_mean_cost ["steps", "order"] (defScope (top 24)) := ⟨rfl, rfl, rfl, by decide +kernel, rfl, by decide +kernel, by decide +kernel⟩
theorem ok_mean_cost (nn : Bool) (T : TF K mg g Ca Ci AW) : Fok nn PP w K mg base 4 "mean_cost" (spP (ck K g) 2 m_mean_cost) := by
  have F_check_steps := ok_check_steps (w := w) (base := base) nn T
  have F_check_order := ok_check_order (w := w) (base := base) nn T
  refine fok_pure (k := 3) (N := N_mean_cost) (body := b_mean_cost) T.f_mean_cost sc_mean_cost rfl (by decide) (fun _ => rfl) fun X W C pa => ?_
  unfold b_mean_cost
  exact ss_cons (s_drop (e_call C F_check_steps (by decide) (by decide +kernel) rfl (a_cons (.inl rfl) (n_var C 0 "steps" rfl (by decide +kernel) dbg_steps cld_steps) (a_nil)) dbg_check_steps))
      (ss_cons (s_drop (e_call C F_check_order (by decide) (by decide +kernel) rfl (a_cons (.inl rfl) (n_var C 0 "steps" rfl (by decide +kernel) dbg_steps cld_steps) (a_cons (.inl rfl) (n_var C 1 "order" rfl (by decide +kernel) dbg_order cld_order) (a_nil))) dbg_check_order))
      (ss_never))
theorem tblOk (T : TF K mg g Ca Ci AW) : TblOk false PP w K mg base 4 g tbl := fun i n mf h => by
  match i, h with
  | 0, h => cases h; obtain ⟨f, h1, h2⟩ := T.v_best_linked; exact tbl_of ((ok_best_linked false T).mono (by decide)) h1 h2
  | 1, h => cases h; obtain ⟨f, h1, h2⟩ := T.v_worst_cost; exact tbl_of ((ok_worst_cost false T).mono (by decide)) h1 h2
  | 2, h => cases h; obtain ⟨f, h1, h2⟩ := T.v_accept_best; exact tbl_of ((ok_accept_best false T).mono (by decide)) h1 h2
  | 3, h => cases h; obtain ⟨f, h1, h2⟩ := T.v_best_order; exact tbl_of ((ok_best_order false T).mono (by decide)) h1 h2
  | 4, h => cases h; obtain ⟨f, h1, h2⟩ := T.v_least_worst; exact tbl_of ((ok_least_worst false T).mono (by decide)) h1 h2
  | 5, h => cases h; obtain ⟨f, h1, h2⟩ := T.v_chances; exact tbl_of ((ok_chances false T).mono (by decide)) h1 h2
  | 6, h => cases h; obtain ⟨f, h1, h2⟩ := T.v_mean_cost; exact tbl_of ((ok_mean_cost false T).mono (by decide)) h1 h2
theorem sc__law_called : FnScope N__law_called ["call", "some"] (defScope (top 42)) := ⟨rfl, rfl, rfl, by decide +kernel, rfl, by decide +kernel, by decide +kernel⟩
theorem ok__law_called  (T : TF K mg g Ca Ci AW) : Fok false PP w K mg base 5 "_law_called" (spP (ck K g) 2 m__law_called) := by
  have b_len := T.b_len
  have TB : TblOk false PP w K mg base 4 g tbl := tblOk T
  refine fok_pure (k := 4) (N := N__law_called) (body := b__law_called) T.f__law_called sc__law_called rfl (by decide) (fun _ => rfl) fun X W C pa => ?_
  unfold b__law_called
  exact ss_cons (s_if (tLt (.inl rfl) (e_callB call_len vc_len bLen_nr (gloB_of C (by decide +kernel)) (mgn C b_len) rfl (a_cons (.inl rfl) (n_var C 1 "some" rfl (by decide +kernel) dbg_some cld_some) (a_nil))) (e_int)) (ss_one (s_ret (e_if (tEq C (.inl rfl) (e_callB call_len vc_len bLen_nr (gloB_of C (by decide +kernel)) (mgn C b_len) rfl (a_cons (.inl rfl) (n_var C 1 "some" rfl (by decide +kernel) dbg_some cld_some) (a_nil))) (e_int)) (e_callV C TB (by decide) rfl (by decide +kernel) rfl (a_cons (.inl rfl) (eIx (.inl rfl) (n_var C 1 "some" rfl (by decide +kernel) dbg_some cld_some) (e_int)) (a_nil)) dbg_call cld_call) (e_callV C TB (by decide) rfl (by decide +kernel) rfl (a_cons (.inl rfl) (eIx (.inl rfl) (n_var C 1 "some" rfl (by decide +kernel) dbg_some cld_some) (e_int)) (a_cons (.inl rfl) (eIx (.inl rfl) (n_var C 1 "some" rfl (by decide +kernel) dbg_some cld_some) (e_int)) (a_nil))) dbg_call cld_call)))) (ss_nil))
      (ss_never)
theorem sc__law_word : FnScope N__law_word ["error"] (defScope (top 41)) := ⟨rfl, rfl, rfl, by decide +kernel, rfl, by decide +kernel, by decide +kernel⟩
theorem ok__law_word (T : TF K mg g Ca Ci AW) : WordOk PP w K mg base 1 Ca "_law_word" := by
  obtain ⟨f, fd, h1, h2, h3, h4⟩ := T.f__law_word
  refine ⟨f, fd, h1, ?_, h3, h4⟩
  exact word_ok (k := 0) (j0 := 0) (j1 := 0) (j2 := 0) (j3 := 0) (j4 := 0) (j5 := 0) (j6 := 0) (j7 := 0) (p := wpos) T.w h2 (by rfl) (by rfl) rfl rfl sc__law_word
theorem sc__law_heard : FnScope N__law_heard ["call", "some"] (defScope (top 43)) := ⟨rfl, rfl, rfl, by decide +kernel, rfl, by decide +kernel, by decide +kernel⟩
theorem ok__law_heard  (T : TF K mg g Ca Ci AW) : Fok false PP w K mg base 6 "_law_heard" (spP (ck K g) 2 m__law_heard) := by
  have F__law_called := ok__law_called (w := w) (base := base) T
  have F__law_word : WordOk PP w K mg base 1 Ca "_law_word" := ok__law_word T
  refine fok_pure (k := 5) (N := N__law_heard) (body := b__law_heard) T.f__law_heard sc__law_heard rfl (by decide) (fun _ => rfl) fun X W C pa => ?_
  unfold b__law_heard
  exact ss_one (s_heard C T.w (fun i _ => T.en i) F__law_word (by decide) rfl (by decide +kernel) (by decide +kernel) T.wk T.hx (by decide +kernel) (fun X1 W1 Y1 => ss_one (s_ret (DF.val (f_lst rfl (a_cons (.inl rfl) (e_call Y1 F__law_called (by decide) (by decide +kernel) rfl (a_cons (.inl rfl) (n_var Y1 0 "call" rfl (by decide +kernel) dbg_call cld_call) (a_cons (.inl rfl) (n_var Y1 1 "some" rfl (by decide +kernel) dbg_some cld_some) (a_nil))) dbg__law_called) (a_nil)))))))
theorem sc__law_whole : FnScope N__law_whole ["value"] (defScope (top 44)) := ⟨rfl, rfl, rfl, by decide +kernel, rfl, by decide +kernel, by decide +kernel⟩
theorem ok__law_whole (nn : Bool) (T : TF K mg g Ca Ci AW) : Fok nn PP w K mg base 1 "_law_whole" (spP (ck K g) 1 m__law_whole) := by
  have b_bool := T.b_bool
  have b_int := T.b_int
  have b_isinstance := T.b_isinstance
  refine fok_pure (k := 0) (N := N__law_whole) (body := b__law_whole) T.f__law_whole sc__law_whole rfl (by decide) (fun _ => rfl) fun X W C pa => ?_
  unfold b__law_whole
  exact ss_one (s_ret (e_and (e_isi kitT_int (gloB_of C (by decide +kernel)) (mgn C b_isinstance) (gloB_of C (by decide +kernel)) (mgn C b_int) rfl (n_var C 0 "value" rfl (by decide +kernel) dbg_value cld_value)) (e_one (e_not (e_isi kitT_bool (gloB_of C (by decide +kernel)) (mgn C b_isinstance) (gloB_of C (by decide +kernel)) (mgn C b_bool) rfl (n_var C 0 "value" rfl (by decide +kernel) dbg_value cld_value))))))
theorem sc__law_best_due : FnScope N__law_best_due ["steps", "order"] (defScope (top 46)) := ⟨rfl, rfl, rfl, by decide +kernel, rfl, by decide +kernel, by decide +kernel⟩
theorem ok__law_best_due (nn : Bool) (T : TF K mg g Ca Ci AW) : Fok nn PP w K mg base 2 "_law_best_due" (spP (ck K g) 2 m__law_best_due) := by
  have b_all := T.b_all
  have b_isinstance := T.b_isinstance
  have b_len := T.b_len
  have b_list := T.b_list
  have b_range := T.b_range
  have b_sorted := T.b_sorted
  have b_tuple := T.b_tuple
  have F__law_whole := ok__law_whole (w := w) (base := base) nn T
  refine fok_pure (k := 1) (N := N__law_best_due) (body := b__law_best_due) T.f__law_best_due sc__law_best_due rfl (by decide) (fun _ => rfl) fun X W C pa => ?_
  unfold b__law_best_due
  exact ss_cons (s_if (t_w (w_or (t_not (tTruth (e_isi kitT_tuple (gloB_of C (by decide +kernel)) (mgn C b_isinstance) (gloB_of C (by decide +kernel)) (mgn C b_tuple) rfl (n_var C 1 "order" rfl (by decide +kernel) dbg_order cld_order)))) (w_or (t_not (tTruth (e_callB (cr_all C.calm) vc_all bAll_nr (gloB_of C (by decide +kernel)) (mgn C b_all) rfl (a_cons (.inl rfl) (DF.val (f_lc C [("own", 8)] (by decide +kernel) (i_items (n_var C 1 "order" rfl (by decide +kernel) dbg_order cld_order)) (fun s1 H1 A1 l1 p1 => g_name (n_tg C s1 H1 A1 l1 p1 8 rfl (by decide +kernel)) (by decide)) (fun s1 H1 A1 l1 p1 => c_nil) (fun s1 H1 A1 l1 p1 => e_call (C.blk s1 H1 _ A1 l1 p1) F__law_whole (by decide) (by decide +kernel) rfl (a_cons (.inl rfl) (n_var (C.blk s1 H1 _ A1 l1 p1) 8 "own" rfl (by decide +kernel) dbg_own cld_own) (a_nil)) dbg__law_whole))) (a_nil))))) (w_or1 (tNe C (.inl rfl) (DF.val (f_callB cr_sortB vcf_sorted bSorted_nr (gloB_of C (by decide +kernel)) (mgn C b_sorted) rfl (a_cons (.inl rfl) (n_var C 1 "order" rfl (by decide +kernel) dbg_order cld_order) (a_nil)))) (DF.val (f_lstRg C.calm (gloB_of C (by decide +kernel)) (mgn C b_list) (gloB_of C (by decide +kernel)) (mgn C b_range) (e_callB call_len vc_len bLen_nr (gloB_of C (by decide +kernel)) (mgn C b_len) rfl (a_cons (.inl rfl) (n_var C 0 "steps" rfl (by decide +kernel) dbg_steps cld_steps) (a_nil)))))))))) (ss_one (s_ret (e_str))) (ss_nil))
      (ss_cons (s_set C 2 rfl (by decide +kernel) (e_non))
      (ss_cons (s_for (vs := [3]) C (i_items (n_var C 1 "order" rfl (by decide +kernel) dbg_order cld_order)) (g_name (n_pg C 3 "number" rfl (by decide +kernel)) (by decide)) (ss_cons (s_asg (vs := [5, 6, 7]) (eIx (.inl rfl) (n_var C 0 "steps" rfl (by decide +kernel) dbg_steps cld_steps) (n_var C 3 "number" rfl (by decide +kernel) dbg_number cld_number)) (g_tup C.calm (g_cons (g_name (n_pg C 5 "cost" rfl (by decide +kernel)) (by decide)) (g_cons (g_name (n_pg C 6 "back" rfl (by decide +kernel)) (by decide)) (g_cons (g_name (n_pg C 7 "fails" rfl (by decide +kernel)) (by decide)) (g_nil))))) rfl ((sws_eq C.es _ _).trans (by rfl)))
      (ss_cons (s_set C 4 rfl (by decide +kernel) (eAdd (.inl rfl) (eMul (.inl rfl) (n_var C 5 "cost" rfl (by decide +kernel) dbg_cost cld_cost) (eIx (.inl rfl) (n_var C 7 "fails" rfl (by decide +kernel) dbg_fails cld_fails) (e_int))) (eMul (.inl rfl) (n_var C 6 "back" rfl (by decide +kernel) dbg_back cld_back) (eSub (.inl rfl) (eIx (.inl rfl) (n_var C 7 "fails" rfl (by decide +kernel) dbg_fails cld_fails) (e_int)) (eIx (.inl rfl) (n_var C 7 "fails" rfl (by decide +kernel) dbg_fails cld_fails) (e_int))))))
      (ss_one (s_if (t_w (w_or (tGt (.inl rfl) (n_var C 4 "weight" rfl (by decide +kernel) dbg_weight cld_weight) (e_int)) (w_or1 (tGt (.inl rfl) (eIx (.inl rfl) (n_var C 7 "fails" rfl (by decide +kernel) dbg_fails cld_fails) (e_int)) (e_int))))) (ss_cons (s_if (t_w (w_and (tNoneNot (.inl rfl) (n_var C 2 "last" rfl (by decide +kernel) dbg_last cld_last) (e_non)) (w_and1 (tLt (.inl rfl) (eMul (.inl rfl) (n_var C 4 "weight" rfl (by decide +kernel) dbg_weight cld_weight) (eIx (.inl rfl) (n_var C 2 "last" rfl (by decide +kernel) dbg_last cld_last) (e_int))) (eMul (.inl rfl) (eIx (.inl rfl) (n_var C 2 "last" rfl (by decide +kernel) dbg_last cld_last) (e_int)) (eIx (.inl rfl) (n_var C 7 "fails" rfl (by decide +kernel) dbg_fails cld_fails) (e_int))))))) (ss_one (s_ret (e_str))) (ss_nil))
      (ss_one (s_set C 2 rfl (by decide +kernel) (e_tup rfl (a_cons (.inl rfl) (n_var C 4 "weight" rfl (by decide +kernel) dbg_weight cld_weight) (a_cons (.inl rfl) (eIx (.inl rfl) (n_var C 7 "fails" rfl (by decide +kernel) dbg_fails cld_fails) (e_int)) (a_nil))))))) (ss_nil))))))
      (ss_one (s_ret (DF.val (f_lst rfl (a_cons (.inl rfl) (e_non) (a_nil))))))))
theorem sc_law : FnScope N_law ["script"] (defScope (top 47)) := ⟨rfl, rfl, rfl, by decide +kernel, rfl, by decide +kernel, by decide +kernel⟩
theorem fn_law (T : TF K mg g Ca Ci AW) {f : Addr} {fd : FuncData} (h2 : Fun K "law" "law" (top 47) f fd) : FnOk PP w K mg base (CXn false PP w) 7 f fd ["script"] (spP (ck K g) 1 m_law) := by
  have b_isinstance := T.b_isinstance
  have b_list := T.b_list
  have b_max := T.b_max
  have b_range := T.b_range
  have b_tuple := T.b_tuple
  obtain ⟨a_best_linked, v_best_linked⟩ := T.v_best_linked
  obtain ⟨a_worst_cost, v_worst_cost⟩ := T.v_worst_cost
  obtain ⟨a_accept_best, v_accept_best⟩ := T.v_accept_best
  obtain ⟨a_best_order, v_best_order⟩ := T.v_best_order
  obtain ⟨a_least_worst, v_least_worst⟩ := T.v_least_worst
  obtain ⟨a_chances, v_chances⟩ := T.v_chances
  obtain ⟨a_mean_cost, v_mean_cost⟩ := T.v_mean_cost
  have F__law_start := ok__law_start (w := w) (base := base) false T
  have F__law_pick := ok__law_pick (w := w) (base := base) false T
  have F__law_draw := ok__law_draw (w := w) (base := base) false T
  have F_best_order := ok_best_order (w := w) (base := base) false T
  have F__law_bent := ok__law_bent (w := w) (base := base) false T
  have F__law_heard := ok__law_heard (w := w) (base := base) T
  have F__law_best_due := ok__law_best_due (w := w) (base := base) false T
  refine def_pure (k := 6) (N := N_law) (body := b_law) h2 sc_law (by decide) (fun _ => rfl) fun X W C pa => ?_
  unfold b_law
  exact ss_cons (s_setO C 1 rfl (by decide +kernel) (f_call C F__law_start (by decide) (by decide +kernel) rfl (a_cons (.inl rfl) (n_var C 0 "script" rfl (by decide +kernel) dbg_script cld_script) (a_nil)) dbg__law_start))
      (ss_cons (s_for (vs := [2]) C (i_rng1 (gloB_of C (by decide +kernel)) (mgn C b_range) (a_cons (.inl rfl) (e_int) (a_nil))) (g_name (n_pg C 2 "turn" rfl (by decide +kernel)) (by decide)) (ss_cons (s_par3 C 17 18 19 rfl rfl rfl (by decide) (by decide) (by decide) (by decide +kernel) (by decide +kernel) (by decide +kernel) rfl (a_cons (.inl rfl) (e_callO C F__law_pick (by decide) (by decide +kernel) rfl 1 (n_pe C 1 "state" rfl (by decide +kernel) dbg_state cld_state) (a_cons (.inl rfl) (DF.val (f_lst rfl (a_cons (.inl rfl) (e_int) (a_cons (.inl rfl) (e_int) (a_cons (.inl rfl) (e_int) (a_cons (.inl rfl) (e_int) (a_cons (.inl rfl) (e_int) (a_nil)))))))) (a_nil)) dbg__law_pick) (a_cons (.inl rfl) (e_callO C F__law_pick (by decide) (by decide +kernel) rfl 1 (n_pe C 1 "state" rfl (by decide +kernel) dbg_state cld_state) (a_cons (.inl rfl) (DF.val (f_lst rfl (a_cons (.inl rfl) (e_int) (a_cons (.inl rfl) (e_int) (a_cons (.inl rfl) (ePow (.inl rfl) (e_int) (e_int)) (a_nil)))))) (a_nil)) dbg__law_pick) (a_cons (.inl rfl) (e_callO C F__law_pick (by decide) (by decide +kernel) rfl 1 (n_pe C 1 "state" rfl (by decide +kernel) dbg_state cld_state) (a_cons (.inl rfl) (DF.val (f_lst rfl (a_cons (.inl rfl) (e_int) (a_cons (.inl rfl) (e_int) (a_cons (.inl rfl) (e_int) (a_nil)))))) (a_nil)) dbg__law_pick) (a_nil)))) (by rfl))
      (ss_cons (s_setO C 10 rfl (by decide +kernel) (f_lst rfl (a_nil)))
      (ss_cons (s_for (vs := [11]) C (i_rng1 (gloB_of C (by decide +kernel)) (mgn C b_range) (a_cons (.inl rfl) (n_var C 17 "many" rfl (by decide +kernel) dbg_many cld_many) (a_nil))) (g_name (n_pg C 11 "k" rfl (by decide +kernel)) (by decide)) (ss_cons (s_set C 20 rfl (by decide +kernel) (eAdd (.inl rfl) (e_int) (e_callO C F__law_draw (by decide) (by decide +kernel) rfl 1 (n_pe C 1 "state" rfl (by decide +kernel) dbg_state cld_state) (a_cons (.inl rfl) (n_var C 19 "most" rfl (by decide +kernel) dbg_most cld_most) (a_nil)) dbg__law_draw)))
      (ss_one (s_drop (e_meth PySem.F.plainAttrs_list PySem.F.slot_list_append PySem.F.type_list_append mt_append vm_app fApp_nr rfl (n_pe C 10 "steps" rfl (by decide +kernel) dbg_steps cld_steps) (a_cons (.inl rfl) (e_tup rfl (a_cons (.inl rfl) (e_callO C F__law_draw (by decide) (by decide +kernel) rfl 1 (n_pe C 1 "state" rfl (by decide +kernel) dbg_state cld_state) (a_cons (.inl rfl) (n_var C 18 "size" rfl (by decide +kernel) dbg_size cld_size) (a_nil)) dbg__law_draw) (a_cons (.inl rfl) (e_callO C F__law_draw (by decide) (by decide +kernel) rfl 1 (n_pe C 1 "state" rfl (by decide +kernel) dbg_state cld_state) (a_cons (.inl rfl) (n_var C 18 "size" rfl (by decide +kernel) dbg_size cld_size) (a_nil)) dbg__law_draw) (a_cons (.inl rfl) (e_tup rfl (a_cons (.inl rfl) (e_callO C F__law_draw (by decide) (by decide +kernel) rfl 1 (n_pe C 1 "state" rfl (by decide +kernel) dbg_state cld_state) (a_cons (.inl rfl) (n_var C 20 "down" rfl (by decide +kernel) dbg_down cld_down) (a_nil)) dbg__law_draw) (a_cons (.inl rfl) (n_var C 20 "down" rfl (by decide +kernel) dbg_down cld_down) (a_nil)))) (a_nil))))) (a_nil)))))))
      (ss_cons (s_set C 10 rfl (by decide +kernel) (e_callT call_tuple_of vc_tuple bTuple_nr (gloB_of C (by decide +kernel)) (mgn C b_tuple) rfl (a_cons (.inr rfl) (n_varO C 10 "steps" rfl (by decide +kernel) dbg_steps cld_steps) (a_nil))))
      (ss_cons (s_set C 12 rfl (by decide +kernel) (eIx (.inl rfl) (e_call C F_best_order (by decide) (by decide +kernel) rfl (a_cons (.inl rfl) (n_var C 10 "steps" rfl (by decide +kernel) dbg_steps cld_steps) (a_nil)) dbg_best_order) (e_int)))
      (ss_cons (s_set C 13 rfl (by decide +kernel) (e_callO C F__law_pick (by decide) (by decide +kernel) rfl 1 (n_pe C 1 "state" rfl (by decide +kernel) dbg_state cld_state) (a_cons (.inl rfl) (DF.val (f_lst rfl (a_cons (.inl rfl) (eSub (.inl rfl) (n_var C 17 "many" rfl (by decide +kernel) dbg_many cld_many) (e_int)) (a_cons (.inl rfl) (e_callO C F__law_draw (by decide) (by decide +kernel) rfl 1 (n_pe C 1 "state" rfl (by decide +kernel) dbg_state cld_state) (a_cons (.inl rfl) (n_var C 17 "many" rfl (by decide +kernel) dbg_many cld_many) (a_nil)) dbg__law_draw) (a_nil))))) (a_nil)) dbg__law_pick))
      (ss_cons (s_set C 14 rfl (by decide +kernel) (eAdd (.inl rfl) (eAdd (.inl rfl) (e_slice ⟨.inl rfl, .inl rfl⟩ (n_var C 12 "right" rfl (by decide +kernel) dbg_right cld_right) (o_none) (o_some (e_callB (cr_maxA C.calm) vc_max bMax_nr (gloB_of C (by decide +kernel)) (mgn C b_max) rfl (a_cons (.inl rfl) (DF.val (f_lst rfl (a_cons (.inl rfl) (e_int) (a_cons (.inl rfl) (eSub (.inl rfl) (n_var C 13 "at" rfl (by decide +kernel) dbg_at cld_at) (e_int)) (a_nil))))) (a_nil))))) (e_rev (e_slice ⟨.inl rfl, .inl rfl⟩ (n_var C 12 "right" rfl (by decide +kernel) dbg_right cld_right) (o_some (e_callB (cr_maxA C.calm) vc_max bMax_nr (gloB_of C (by decide +kernel)) (mgn C b_max) rfl (a_cons (.inl rfl) (DF.val (f_lst rfl (a_cons (.inl rfl) (e_int) (a_cons (.inl rfl) (eSub (.inl rfl) (n_var C 13 "at" rfl (by decide +kernel) dbg_at cld_at) (e_int)) (a_nil))))) (a_nil)))) (o_some (eAdd (.inl rfl) (n_var C 13 "at" rfl (by decide +kernel) dbg_at cld_at) (e_int)))))) (e_slice ⟨.inl rfl, .inl rfl⟩ (n_var C 12 "right" rfl (by decide +kernel) dbg_right cld_right) (o_some (eAdd (.inl rfl) (n_var C 13 "at" rfl (by decide +kernel) dbg_at cld_at) (e_int))) (o_none))))
      (ss_cons (s_set C 15 rfl (by decide +kernel) (DF.val (f_lst rfl (a_cons (.inl rfl) (n_var C 12 "right" rfl (by decide +kernel) dbg_right cld_right) (a_cons (.inl rfl) (n_var C 14 "near" rfl (by decide +kernel) dbg_near cld_near) (a_cons (.inl rfl) (e_rev (n_var C 12 "right" rfl (by decide +kernel) dbg_right cld_right)) (a_cons (.inl rfl) (eAdd (.inl rfl) (e_slice ⟨.inl rfl, .inl rfl⟩ (n_var C 12 "right" rfl (by decide +kernel) dbg_right cld_right) (o_some (e_int)) (o_none)) (e_slice ⟨.inl rfl, .inl rfl⟩ (n_var C 12 "right" rfl (by decide +kernel) dbg_right cld_right) (o_none) (o_some (e_int)))) (a_cons (.inl rfl) (e_slice ⟨.inl rfl, .inl rfl⟩ (n_var C 12 "right" rfl (by decide +kernel) dbg_right cld_right) (o_none) (o_some (e_neg (e_int)))) (a_cons (.inl rfl) (eAdd (.inl rfl) (n_var C 12 "right" rfl (by decide +kernel) dbg_right cld_right) (e_slice ⟨.inl rfl, .inl rfl⟩ (n_var C 12 "right" rfl (by decide +kernel) dbg_right cld_right) (o_some (e_neg (e_int))) (o_none))) (a_cons (.inl rfl) (eAdd (.inl rfl) (e_slice ⟨.inl rfl, .inl rfl⟩ (n_var C 12 "right" rfl (by decide +kernel) dbg_right cld_right) (o_none) (o_some (e_neg (e_int)))) (e_tup rfl (a_cons (.inl rfl) (n_var C 17 "many" rfl (by decide +kernel) dbg_many cld_many) (a_nil)))) (a_cons (.inl rfl) (e_callO C F__law_bent (by decide) (by decide +kernel) rfl 1 (n_pe C 1 "state" rfl (by decide +kernel) dbg_state cld_state) (a_cons (.inl rfl) (n_var C 12 "right" rfl (by decide +kernel) dbg_right cld_right) (a_nil)) dbg__law_bent) (a_cons (.inl rfl) (e_non) (a_cons (.inl rfl) (e_callT call_tuple_of vc_tuple bTuple_nr (gloB_of C (by decide +kernel)) (mgn C b_tuple) rfl (a_cons (.inl rfl) (DF.val (f_lstRg C.calm (gloB_of C (by decide +kernel)) (mgn C b_list) (gloB_of C (by decide +kernel)) (mgn C b_range) (n_var C 17 "many" rfl (by decide +kernel) dbg_many cld_many))) (a_nil))) (a_nil))))))))))))))
      (ss_cons (s_for (vs := [16]) C (i_items (n_var C 15 "bad" rfl (by decide +kernel) dbg_bad cld_bad)) (g_name (n_pg C 16 "own" rfl (by decide +kernel)) (by decide)) (ss_one (s_if (tNe C (.inl rfl) (e_call C F__law_heard (by decide) (by decide +kernel) rfl (a_cons (.inl rfl) (n_fn C (by decide +kernel) v_accept_best.1 v_accept_best.2 dbg_accept_best) (a_cons (.inl rfl) (DF.val (f_lst rfl (a_cons (.inl rfl) (n_var C 10 "steps" rfl (by decide +kernel) dbg_steps cld_steps) (a_cons (.inl rfl) (n_var C 16 "own" rfl (by decide +kernel) dbg_own cld_own) (a_nil))))) (a_nil))) dbg__law_heard) (e_call C F__law_best_due (by decide) (by decide +kernel) rfl (a_cons (.inl rfl) (n_var C 10 "steps" rfl (by decide +kernel) dbg_steps cld_steps) (a_cons (.inl rfl) (n_var C 16 "own" rfl (by decide +kernel) dbg_own cld_own) (a_nil))) dbg__law_best_due)) (ss_never) (ss_nil))))
      (ss_one (s_if (tNe C (.inl rfl) (e_call C F__law_heard (by decide) (by decide +kernel) rfl (a_cons (.inl rfl) (n_fn C (by decide +kernel) v_accept_best.1 v_accept_best.2 dbg_accept_best) (a_cons (.inl rfl) (DF.val (f_lst rfl (a_cons (.inl rfl) (n_var C 10 "steps" rfl (by decide +kernel) dbg_steps cld_steps) (a_cons (.inl rfl) (n_var C 12 "right" rfl (by decide +kernel) dbg_right cld_right) (a_nil))))) (a_nil))) dbg__law_heard) (DF.val (f_lst rfl (a_cons (.inl rfl) (e_non) (a_nil))))) (ss_never) (ss_nil)))))))))))))
      (ss_cons (s_set C 3 rfl (by decide +kernel) (e_tup rfl (a_cons (.inl rfl) (e_tup rfl (a_cons (.inl rfl) (e_int) (a_cons (.inl rfl) (e_int) (a_cons (.inl rfl) (e_tup rfl (a_cons (.inl rfl) (e_int) (a_cons (.inl rfl) (e_int) (a_nil)))) (a_nil))))) (a_cons (.inl rfl) (e_tup rfl (a_cons (.inl rfl) (e_int) (a_cons (.inl rfl) (e_int) (a_cons (.inl rfl) (e_tup rfl (a_cons (.inl rfl) (e_int) (a_cons (.inl rfl) (e_int) (a_nil)))) (a_nil))))) (a_cons (.inl rfl) (e_tup rfl (a_cons (.inl rfl) (e_int) (a_cons (.inl rfl) (e_int) (a_cons (.inl rfl) (e_tup rfl (a_cons (.inl rfl) (e_int) (a_cons (.inl rfl) (e_int) (a_nil)))) (a_nil))))) (a_nil))))))
      (ss_cons (s_set C 4 rfl (by decide +kernel) (DF.val (f_lst rfl (a_cons (.inl rfl) (e_non) (a_cons (.inl rfl) (e_tup rfl (a_nil)) (a_cons (.inl rfl) (e_tup rfl (a_cons (.inl rfl) (e_int) (a_cons (.inl rfl) (e_int) (a_nil)))) (a_cons (.inl rfl) (e_tup rfl (a_cons (.inl rfl) (e_int) (a_cons (.inl rfl) (e_int) (a_cons (.inl rfl) (e_tup rfl (a_cons (.inl rfl) (e_int) (a_cons (.inl rfl) (e_int) (a_nil)))) (a_nil))))) (a_cons (.inl rfl) (e_tup rfl (a_cons (.inl rfl) (e_int) (a_cons (.inl rfl) (e_int) (a_cons (.inl rfl) (e_tup rfl (a_cons (.inl rfl) (e_neg (e_int)) (a_cons (.inl rfl) (e_int) (a_nil)))) (a_nil))))) (a_cons (.inl rfl) (e_tup rfl (a_cons (.inl rfl) (e_int) (a_cons (.inl rfl) (e_int) (a_cons (.inl rfl) (e_tup rfl (a_cons (.inl rfl) (e_int) (a_cons (.inl rfl) (e_int) (a_nil)))) (a_nil))))) (a_cons (.inl rfl) (e_tup rfl (a_cons (.inl rfl) (e_int) (a_cons (.inl rfl) (e_int) (a_cons (.inl rfl) (e_tup rfl (a_cons (.inl rfl) (e_int) (a_cons (.inl rfl) (e_int) (a_nil)))) (a_nil))))) (a_cons (.inl rfl) (e_tup rfl (a_cons (.inl rfl) (e_neg (e_int)) (a_cons (.inl rfl) (e_int) (a_cons (.inl rfl) (e_tup rfl (a_cons (.inl rfl) (e_int) (a_cons (.inl rfl) (e_int) (a_nil)))) (a_nil))))) (a_cons (.inl rfl) (e_tup rfl (a_cons (.inl rfl) (e_int) (a_cons (.inl rfl) (eAdd (.inl rfl) (ePow (.inl rfl) (e_int) (e_int)) (e_int)) (a_cons (.inl rfl) (e_tup rfl (a_cons (.inl rfl) (e_int) (a_cons (.inl rfl) (e_int) (a_nil)))) (a_nil))))) (a_cons (.inl rfl) (e_tup rfl (a_cons (.inl rfl) (e_bl) (a_cons (.inl rfl) (e_int) (a_cons (.inl rfl) (e_tup rfl (a_cons (.inl rfl) (e_int) (a_cons (.inl rfl) (e_int) (a_nil)))) (a_nil))))) (a_cons (.inl rfl) (e_tup rfl (a_cons (.inl rfl) (e_int) (a_cons (.inl rfl) (e_int) (a_cons (.inl rfl) (e_tup rfl (a_cons (.inl rfl) (e_bl) (a_cons (.inl rfl) (e_int) (a_nil)))) (a_nil))))) (a_nil)))))))))))))))
      (ss_cons (s_set C 4 rfl (by decide +kernel) (eAdd (.inl rfl) (n_var C 4 "odd" rfl (by decide +kernel) dbg_odd cld_odd) (DF.val (f_lst rfl (a_cons (.inl rfl) (e_tup rfl (a_cons (.inl rfl) (e_int) (a_cons (.inl rfl) (e_int) (a_cons (.inl rfl) (e_tup rfl (a_cons (.inl rfl) (e_int) (a_cons (.inl rfl) (e_bl) (a_nil)))) (a_nil))))) (a_cons (.inl rfl) (e_tup rfl (a_cons (.inl rfl) (e_int) (a_cons (.inl rfl) (e_int) (a_cons (.inl rfl) (e_non) (a_nil))))) (a_cons (.inl rfl) (e_tup rfl (a_cons (.inl rfl) (e_int) (a_cons (.inl rfl) (e_int) (a_cons (.inl rfl) (e_tup rfl (a_cons (.inl rfl) (e_int) (a_nil))) (a_nil))))) (a_cons (.inl rfl) (e_tup rfl (a_cons (.inl rfl) (e_int) (a_cons (.inl rfl) (e_non) (a_cons (.inl rfl) (e_tup rfl (a_cons (.inl rfl) (e_int) (a_cons (.inl rfl) (e_int) (a_nil)))) (a_nil))))) (a_cons (.inl rfl) (e_tup rfl (a_cons (.inl rfl) (e_int) (a_cons (.inl rfl) (e_int) (a_cons (.inl rfl) (e_tup rfl (a_cons (.inl rfl) (e_int) (a_cons (.inl rfl) (e_int) (a_nil)))) (a_cons (.inl rfl) (e_int) (a_nil)))))) (a_cons (.inl rfl) (DF.val (f_lst rfl (a_cons (.inl rfl) (e_int) (a_cons (.inl rfl) (e_int) (a_cons (.inl rfl) (e_tup rfl (a_cons (.inl rfl) (e_int) (a_cons (.inl rfl) (e_int) (a_nil)))) (a_nil)))))) (a_cons (.inl rfl) (e_tup rfl (a_cons (.inl rfl) (e_int) (a_cons (.inl rfl) (e_int) (a_cons (.inl rfl) (DF.val (f_lst rfl (a_cons (.inl rfl) (e_int) (a_cons (.inl rfl) (e_int) (a_nil))))) (a_nil))))) (a_cons (.inl rfl) (e_int) (a_nil)))))))))))))
      (ss_cons (s_for (vs := [5]) C (i_items (DF.val (f_lst rfl (a_cons (.inl rfl) (e_non) (a_cons (.inl rfl) (e_tup rfl (a_nil)) (a_cons (.inl rfl) (eMul (.inl rfl) (n_var C 3 "good" rfl (by decide +kernel) dbg_good cld_good) (e_int)) (a_cons (.inl rfl) (e_int) (a_cons (.inl rfl) (DF.val (f_callT call_list_of vcf_list bList_nr (gloB_of C (by decide +kernel)) (mgn C b_list) rfl (a_cons (.inl rfl) (n_var C 3 "good" rfl (by decide +kernel) dbg_good cld_good) (a_nil)))) (a_cons (.inl rfl) (eAdd (.inl rfl) (e_slice ⟨.inl rfl, .inl rfl⟩ (n_var C 3 "good" rfl (by decide +kernel) dbg_good cld_good) (o_none) (o_some (e_int))) (e_tup rfl (a_cons (.inl rfl) (e_callO C F__law_pick (by decide) (by decide +kernel) rfl 1 (n_pe C 1 "state" rfl (by decide +kernel) dbg_state cld_state) (a_cons (.inl rfl) (n_var C 4 "odd" rfl (by decide +kernel) dbg_odd cld_odd) (a_nil)) dbg__law_pick) (a_nil)))) (a_cons (.inl rfl) (eAdd (.inl rfl) (e_tup rfl (a_cons (.inl rfl) (e_callO C F__law_pick (by decide) (by decide +kernel) rfl 1 (n_pe C 1 "state" rfl (by decide +kernel) dbg_state cld_state) (a_cons (.inl rfl) (n_var C 4 "odd" rfl (by decide +kernel) dbg_odd cld_odd) (a_nil)) dbg__law_pick) (a_nil))) (e_slice ⟨.inl rfl, .inl rfl⟩ (n_var C 3 "good" rfl (by decide +kernel) dbg_good cld_good) (o_some (e_int)) (o_none))) (a_nil))))))))))) (g_name (n_pg C 5 "wrong" rfl (by decide +kernel)) (by decide)) (ss_cons (s_setLc C [("way", 21)] (by decide +kernel) rfl 9 rfl (by decide +kernel) (i_items (DF.val (f_lst rfl (a_cons (.inl rfl) (n_fn C (by decide +kernel) v_best_order.1 v_best_order.2 dbg_best_order) (a_cons (.inl rfl) (n_fn C (by decide +kernel) v_least_worst.1 v_least_worst.2 dbg_least_worst) (a_nil)))))) (fun s1 H1 A1 l1 p1 => g_name (n_tg C s1 H1 A1 l1 p1 21 rfl (by decide +kernel)) (by decide)) (fun s1 H1 A1 l1 p1 => c_nil) (fun s1 H1 A1 l1 p1 => e_call (C.blk s1 H1 _ A1 l1 p1) F__law_heard (by decide) (by decide +kernel) rfl (a_cons (.inl rfl) (n_var (C.blk s1 H1 _ A1 l1 p1) 21 "way" rfl (by decide +kernel) dbg_way cld_way) (a_cons (.inl rfl) (DF.val (f_lst rfl (a_cons (.inl rfl) (n_var (C.blk s1 H1 _ A1 l1 p1) 5 "wrong" rfl (by decide +kernel) dbg_wrong cld_wrong) (a_nil)))) (a_nil))) dbg__law_heard))
      (ss_one (s_if (tNe C (.inl rfl) (eAdd (.inl rfl) (n_var C 9 "told" rfl (by decide +kernel) dbg_told cld_told) (DF.val (f_lc C [("way", 21)] (by decide +kernel) (i_items (DF.val (f_lst rfl (a_cons (.inl rfl) (n_fn C (by decide +kernel) v_chances.1 v_chances.2 dbg_chances) (a_cons (.inl rfl) (n_fn C (by decide +kernel) v_mean_cost.1 v_mean_cost.2 dbg_mean_cost) (a_cons (.inl rfl) (n_fn C (by decide +kernel) v_worst_cost.1 v_worst_cost.2 dbg_worst_cost) (a_cons (.inl rfl) (n_fn C (by decide +kernel) v_accept_best.1 v_accept_best.2 dbg_accept_best) (a_cons (.inl rfl) (n_fn C (by decide +kernel) v_best_linked.1 v_best_linked.2 dbg_best_linked) (a_nil))))))))) (fun s2 H2 A2 l2 p2 => g_name (n_tg C s2 H2 A2 l2 p2 21 rfl (by decide +kernel)) (by decide)) (fun s2 H2 A2 l2 p2 => c_nil) (fun s2 H2 A2 l2 p2 => e_call (C.blk s2 H2 _ A2 l2 p2) F__law_heard (by decide) (by decide +kernel) rfl (a_cons (.inl rfl) (n_var (C.blk s2 H2 _ A2 l2 p2) 21 "way" rfl (by decide +kernel) dbg_way cld_way) (a_cons (.inl rfl) (DF.val (f_lst rfl (a_cons (.inl rfl) (n_var (C.blk s2 H2 _ A2 l2 p2) 5 "wrong" rfl (by decide +kernel) dbg_wrong cld_wrong) (a_cons (.inl rfl) (e_non) (a_nil))))) (a_nil))) dbg__law_heard)))) (eMul (.inl rfl) (DF.val (f_lst rfl (a_cons (.inl rfl) (e_str) (a_nil)))) (e_int))) (ss_never) (ss_nil)))))
      (ss_cons (s_set C 6 rfl (by decide +kernel) (e_callO C F__law_pick (by decide) (by decide +kernel) rfl 1 (n_pe C 1 "state" rfl (by decide +kernel) dbg_state cld_state) (a_cons (.inl rfl) (DF.val (f_lst rfl (a_cons (.inl rfl) (e_non) (a_cons (.inl rfl) (e_tup rfl (a_cons (.inl rfl) (e_int) (a_cons (.inl rfl) (e_int) (a_nil)))) (a_cons (.inl rfl) (e_tup rfl (a_cons (.inl rfl) (e_int) (a_cons (.inl rfl) (e_int) (a_cons (.inl rfl) (e_int) (a_nil))))) (a_cons (.inl rfl) (e_tup rfl (a_cons (.inl rfl) (e_int) (a_cons (.inl rfl) (e_int) (a_cons (.inl rfl) (e_int) (a_nil))))) (a_cons (.inl rfl) (e_tup rfl (a_cons (.inl rfl) (e_int) (a_cons (.inl rfl) (e_bl) (a_cons (.inl rfl) (e_int) (a_nil))))) (a_cons (.inl rfl) (e_tup rfl (a_cons (.inl rfl) (e_int) (a_cons (.inl rfl) (e_int) (a_cons (.inl rfl) (e_int) (a_cons (.inl rfl) (e_int) (a_nil)))))) (a_cons (.inl rfl) (e_tup rfl (a_cons (.inl rfl) (e_str) (a_cons (.inl rfl) (e_int) (a_cons (.inl rfl) (e_int) (a_nil))))) (a_cons (.inl rfl) (e_int) (a_cons (.inl rfl) (DF.val (f_lst rfl (a_cons (.inl rfl) (e_int) (a_cons (.inl rfl) (e_int) (a_cons (.inl rfl) (e_int) (a_nil)))))) (a_cons (.inl rfl) (e_tup rfl (a_nil)) (a_nil))))))))))))) (a_nil)) dbg__law_pick))
      (ss_cons (s_if (tNe C (.inl rfl) (DF.val (f_lc C [("way", 21)] (by decide +kernel) (i_items (DF.val (f_lst rfl (a_cons (.inl rfl) (n_fn C (by decide +kernel) v_chances.1 v_chances.2 dbg_chances) (a_cons (.inl rfl) (n_fn C (by decide +kernel) v_mean_cost.1 v_mean_cost.2 dbg_mean_cost) (a_cons (.inl rfl) (n_fn C (by decide +kernel) v_worst_cost.1 v_worst_cost.2 dbg_worst_cost) (a_nil))))))) (fun s3 H3 A3 l3 p3 => g_name (n_tg C s3 H3 A3 l3 p3 21 rfl (by decide +kernel)) (by decide)) (fun s3 H3 A3 l3 p3 => c_nil) (fun s3 H3 A3 l3 p3 => e_call (C.blk s3 H3 _ A3 l3 p3) F__law_heard (by decide) (by decide +kernel) rfl (a_cons (.inl rfl) (n_var (C.blk s3 H3 _ A3 l3 p3) 21 "way" rfl (by decide +kernel) dbg_way cld_way) (a_cons (.inl rfl) (DF.val (f_lst rfl (a_cons (.inl rfl) (n_var (C.blk s3 H3 _ A3 l3 p3) 3 "good" rfl (by decide +kernel) dbg_good cld_good) (a_cons (.inl rfl) (n_var (C.blk s3 H3 _ A3 l3 p3) 6 "order" rfl (by decide +kernel) dbg_order cld_order) (a_nil))))) (a_nil))) dbg__law_heard))) (eMul (.inl rfl) (DF.val (f_lst rfl (a_cons (.inl rfl) (e_str) (a_nil)))) (e_int))) (ss_never) (ss_nil))
      (ss_cons (s_set C 7 rfl (by decide +kernel) (e_callO C F__law_pick (by decide) (by decide +kernel) rfl 1 (n_pe C 1 "state" rfl (by decide +kernel) dbg_state cld_state) (a_cons (.inl rfl) (DF.val (f_lst rfl (a_cons (.inl rfl) (e_non) (a_cons (.inl rfl) (e_tup rfl (a_cons (.inl rfl) (e_tup rfl (a_cons (.inl rfl) (e_int) (a_cons (.inl rfl) (e_int) (a_cons (.inl rfl) (e_int) (a_nil))))) (a_nil))) (a_cons (.inl rfl) (e_tup rfl (a_cons (.inl rfl) (e_tup rfl (a_cons (.inl rfl) (e_int) (a_cons (.inl rfl) (e_int) (a_nil)))) (a_nil))) (a_cons (.inl rfl) (e_tup rfl (a_cons (.inl rfl) (e_tup rfl (a_cons (.inl rfl) (e_int) (a_cons (.inl rfl) (e_int) (a_nil)))) (a_nil))) (a_cons (.inl rfl) (e_tup rfl (a_cons (.inl rfl) (e_tup rfl (a_cons (.inl rfl) (e_neg (e_int)) (a_cons (.inl rfl) (e_int) (a_nil)))) (a_nil))) (a_cons (.inl rfl) (e_tup rfl (a_cons (.inl rfl) (e_tup rfl (a_cons (.inl rfl) (e_int) (a_cons (.inl rfl) (e_bl) (a_nil)))) (a_nil))) (a_cons (.inl rfl) (e_tup rfl (a_cons (.inl rfl) (e_int) (a_nil))) (a_cons (.inl rfl) (e_int) (a_cons (.inl rfl) (DF.val (f_lst rfl (a_cons (.inl rfl) (e_tup rfl (a_cons (.inl rfl) (e_int) (a_cons (.inl rfl) (e_int) (a_nil)))) (a_nil)))) (a_cons (.inl rfl) (eMul (.inl rfl) (e_tup rfl (a_cons (.inl rfl) (e_tup rfl (a_cons (.inl rfl) (e_int) (a_cons (.inl rfl) (e_int) (a_nil)))) (a_nil))) (e_int)) (a_cons (.inl rfl) (e_tup rfl (a_cons (.inl rfl) (e_tup rfl (a_cons (.inl rfl) (e_int) (a_cons (.inl rfl) (e_non) (a_nil)))) (a_nil))) (a_nil)))))))))))))) (a_nil)) dbg__law_pick))
      (ss_cons (s_set C 8 rfl (by decide +kernel) (e_callO C F__law_pick (by decide) (by decide +kernel) rfl 1 (n_pe C 1 "state" rfl (by decide +kernel) dbg_state cld_state) (a_cons (.inl rfl) (DF.val (f_lst rfl (a_cons (.inl rfl) (e_tup rfl (a_cons (.inl rfl) (e_tup rfl (a_cons (.inl rfl) (e_int) (a_cons (.inl rfl) (e_int) (a_nil)))) (a_cons (.inl rfl) (e_tup rfl (a_cons (.inl rfl) (e_int) (a_cons (.inl rfl) (e_int) (a_nil)))) (a_nil)))) (a_cons (.inl rfl) (e_tup rfl (a_cons (.inl rfl) (e_tup rfl (a_cons (.inl rfl) (e_int) (a_cons (.inl rfl) (e_int) (a_nil)))) (a_cons (.inl rfl) (e_tup rfl (a_cons (.inl rfl) (e_int) (a_cons (.inl rfl) (e_int) (a_nil)))) (a_cons (.inl rfl) (e_tup rfl (a_cons (.inl rfl) (e_int) (a_cons (.inl rfl) (e_int) (a_nil)))) (a_nil))))) (a_cons (.inl rfl) (eAdd (.inl rfl) (eMul (.inl rfl) (e_tup rfl (a_cons (.inl rfl) (e_tup rfl (a_cons (.inl rfl) (e_int) (a_cons (.inl rfl) (e_int) (a_nil)))) (a_nil))) (e_int)) (e_tup rfl (a_cons (.inl rfl) (e_tup rfl (a_cons (.inl rfl) (e_int) (a_cons (.inl rfl) (e_int) (a_nil)))) (a_cons (.inl rfl) (e_tup rfl (a_cons (.inl rfl) (e_int) (a_cons (.inl rfl) (e_int) (a_nil)))) (a_nil))))) (a_nil)))))) (a_nil)) dbg__law_pick))
      (ss_cons (s_set C 9 rfl (by decide +kernel) (DF.val (f_lst rfl (a_cons (.inl rfl) (e_call C F__law_heard (by decide) (by decide +kernel) rfl (a_cons (.inl rfl) (n_fn C (by decide +kernel) v_best_linked.1 v_best_linked.2 dbg_best_linked) (a_cons (.inl rfl) (DF.val (f_lst rfl (a_cons (.inl rfl) (eMul (.inl rfl) (n_var C 3 "good" rfl (by decide +kernel) dbg_good cld_good) (e_int)) (a_cons (.inl rfl) (n_var C 7 "links" rfl (by decide +kernel) dbg_links cld_links) (a_nil))))) (a_nil))) dbg__law_heard) (a_cons (.inl rfl) (e_call C F__law_heard (by decide) (by decide +kernel) rfl (a_cons (.inl rfl) (n_fn C (by decide +kernel) v_best_linked.1 v_best_linked.2 dbg_best_linked) (a_cons (.inl rfl) (DF.val (f_lst rfl (a_cons (.inl rfl) (n_var C 3 "good" rfl (by decide +kernel) dbg_good cld_good) (a_cons (.inl rfl) (n_var C 7 "links" rfl (by decide +kernel) dbg_links cld_links) (a_nil))))) (a_nil))) dbg__law_heard) (a_cons (.inl rfl) (e_call C F__law_heard (by decide) (by decide +kernel) rfl (a_cons (.inl rfl) (n_fn C (by decide +kernel) v_best_linked.1 v_best_linked.2 dbg_best_linked) (a_cons (.inl rfl) (DF.val (f_lst rfl (a_cons (.inl rfl) (n_var C 3 "good" rfl (by decide +kernel) dbg_good cld_good) (a_cons (.inl rfl) (n_var C 8 "ring" rfl (by decide +kernel) dbg_ring cld_ring) (a_nil))))) (a_nil))) dbg__law_heard) (a_nil)))))))
      (ss_cons (s_if (tNe C (.inl rfl) (n_var C 9 "told" rfl (by decide +kernel) dbg_told cld_told) (DF.val (f_lst rfl (a_cons (.inl rfl) (e_str) (a_cons (.inl rfl) (e_str) (a_cons (.inl rfl) (e_str) (a_nil))))))) (ss_never) (ss_nil))
      (ss_cons (s_set C 9 rfl (by decide +kernel) (DF.val (f_lst rfl (a_cons (.inl rfl) (e_call C F__law_heard (by decide) (by decide +kernel) rfl (a_cons (.inl rfl) (n_fn C (by decide +kernel) v_best_linked.1 v_best_linked.2 dbg_best_linked) (a_cons (.inl rfl) (DF.val (f_lst rfl (a_cons (.inl rfl) (e_slice ⟨.inl rfl, .inl rfl⟩ (n_var C 3 "good" rfl (by decide +kernel) dbg_good cld_good) (o_some (e_int)) (o_some (e_int))) (a_cons (.inl rfl) (e_tup rfl (a_nil)) (a_nil))))) (a_nil))) dbg__law_heard) (a_cons (.inl rfl) (e_call C F__law_heard (by decide) (by decide +kernel) rfl (a_cons (.inl rfl) (n_fn C (by decide +kernel) v_best_linked.1 v_best_linked.2 dbg_best_linked) (a_cons (.inl rfl) (DF.val (f_lst rfl (a_cons (.inl rfl) (n_var C 3 "good" rfl (by decide +kernel) dbg_good cld_good) (a_cons (.inl rfl) (eMul (.inl rfl) (e_tup rfl (a_cons (.inl rfl) (e_tup rfl (a_cons (.inl rfl) (e_int) (a_cons (.inl rfl) (e_int) (a_nil)))) (a_nil))) (e_int)) (a_nil))))) (a_nil))) dbg__law_heard) (a_cons (.inl rfl) (e_call C F__law_heard (by decide) (by decide +kernel) rfl (a_cons (.inl rfl) (n_fn C (by decide +kernel) v_worst_cost.1 v_worst_cost.2 dbg_worst_cost) (a_cons (.inl rfl) (DF.val (f_lst rfl (a_cons (.inl rfl) (eMul (.inl rfl) (e_slice ⟨.inl rfl, .inl rfl⟩ (n_var C 3 "good" rfl (by decide +kernel) dbg_good cld_good) (o_none) (o_some (e_int))) (e_int)) (a_cons (.inl rfl) (e_callT call_tuple_of vc_tuple bTuple_nr (gloB_of C (by decide +kernel)) (mgn C b_tuple) rfl (a_cons (.inl rfl) (DF.val (f_lstRg C.calm (gloB_of C (by decide +kernel)) (mgn C b_list) (gloB_of C (by decide +kernel)) (mgn C b_range) (e_int))) (a_nil))) (a_nil))))) (a_nil))) dbg__law_heard) (a_nil)))))))
      (ss_one (s_ret (e_and (eEq C (.inl rfl) (eIx (.inl rfl) (n_var C 9 "told" rfl (by decide +kernel) dbg_told cld_told) (e_int)) (DF.val (f_lst rfl (a_cons (.inl rfl) (e_tup rfl (a_cons (.inl rfl) (e_tup rfl (a_cons (.inl rfl) (e_int) (a_cons (.inl rfl) (e_int) (a_nil)))) (a_cons (.inl rfl) (e_tup rfl (a_cons (.inl rfl) (e_int) (a_nil))) (a_nil)))) (a_nil))))) (e_and (e_isi kitT_list (gloB_of C (by decide +kernel)) (mgn C b_isinstance) (gloB_of C (by decide +kernel)) (mgn C b_list) rfl (eIx (.inl rfl) (n_var C 9 "told" rfl (by decide +kernel) dbg_told cld_told) (e_int))) (e_one (eEq C (.inl rfl) (eIx (.inl rfl) (n_var C 9 "told" rfl (by decide +kernel) dbg_told cld_told) (e_int)) (DF.val (f_lst rfl (a_cons (.inl rfl) (eAdd (.inl rfl) (e_int) (eMul (.inl rfl) (e_int) (e_int))) (a_nil))))))))))))))))))))))
end
end LW
end Dn

/-! PG3 -/
set_option Elab.async false
set_option linter.all false
set_option maxRecDepth 100000
set_option maxHeartbeats 2000000
namespace Dn
namespace LW
open PySem
/-! ### the drawing -/
/-- a state of the drawing that may come -/
def Good (s : D) : Prop := ∃ (ns : List Int) (v p c : Int), s = .lst [.lst (ns.map D.int), .int v, .int p, .int c] ∧ 0 ≤ v ∧ 0 ≤ p ∧ 0 ≤ c ∧ c < 4294967296
theorem start_ok (ns : List Int) : ∃ s, m__law_start [.scr ns] = .ok s ∧ Good s := by
  have key : ∀ (ms : List Int) (c : Int), 0 ≤ c → c < 4294967296 → ∃ c', 0 ≤ c' ∧ c' < 4294967296 ∧ ∀ o, ∃ o', forL (gSet 2) (sSet 1 (dBin dAdd (dBin dMod (dCall bInt (dCons (dBin dAdd (dBin dMul (dVar 1) (dC (.int 48271))) (dVar 2)) (dNil))) (dC (.int 2147483629))) (dC (.int 1)))) (ms.map D.int) [.va (.scr ns), .va (.int c), o] = .ok (.nx, [.va (.scr ns), .va (.int c'), o']) := by
    intro ms
    induction ms with
    | nil => exact fun c h1 h2 => ⟨c, h1, h2, fun o => ⟨o, rfl⟩⟩
    | cons m ms ih =>
      intro c h1 h2
      have hm : mulOk c 48271 = true := mulOk_of (m := 32) (n := 16) (by omega) (by decide) (by decide)
      have h3 : 0 ≤ (c * 48271 + m) % 2147483629 + 1 := by omega
      have h4 : (c * 48271 + m) % 2147483629 + 1 < 4294967296 := by omega
      obtain ⟨c', q1, q2, q3⟩ := ih _ h3 h4
      refine ⟨c', q1, q2, fun o => ?_⟩
      obtain ⟨o', q4⟩ := q3 (.va (.int m))
      refine ⟨o', ?_⟩
      rw [← q4, List.map_cons, forL]
      simp [gSet, put, Dn.ns, sSet, dBin, dVar, dC, dCall, dCons, dNil, dMul, hm, dAdd, bInt, dIntOp, isOw]
  obtain ⟨c, h1, h2, h3⟩ := key ns 7 (by decide) (by decide)
  obtain ⟨o, h3⟩ := h3 .un
  refine ⟨.lst [.lst (ns.map D.int), .int 0, .int 0, .int c], ?_, ns, 0, 0, c, rfl, by decide, by decide, h1, h2⟩
  unfold m__law_start b__law_start
  simp [enter, bSeq, sSet, dC, put, isOw, sFor, dItems, dVar, h3, sRetF, dLst, dCons, dCall, bList, dNil, maxSeq, finF]
theorem draw_ok {s : D} {n : Int} (h : Good s) (hn : 0 < n) (hn2 : n < 1099511627776) : wm (m__law_draw s [.int n]) fun q => ∃ k, q.1 = .int k ∧ 0 ≤ k ∧ k < n ∧ Good q.2 := by
  obtain ⟨cs, v, p, c, rfl, hv, hp, hc, hc2⟩ := h
  have hm : mulOk c 48271 = true := mulOk_of (m := 32) (n := 16) (by omega) (by decide) (by decide)
  have hd : ∀ i, divOk i n = true := fun i => divOk_of (n := 40) hn (by omega) (by decide)
  have hd13 : ∀ i, divOk i 13 = true := fun i => divOk_of (n := 40) (by decide) (by decide) (by decide)
  have nn0 := Int.emod_nonneg
  unfold m__law_draw b__law_draw
  by_cases h0 : v = 0
  · subst h0
    by_cases hl : (cs.length : Int) ≤ p
    · simp [bSeq, bNil, sIf, dTAnd, dTb, dBin, dIx, dVarO, dVar, dC, enterO, enter, dEq, D.eqv, D.ok, D.lay, D.dep, L2.atI, L2.ixN, dCall, dCons, dNil, bLen, hl, sSub, dMul, hm, dAdd, bInt, dIntOp, hd13, hn, sRet, finO, dCmpI]
      refine ⟨Int.emod_nonneg _ (by omega), Int.emod_lt_of_pos _ hn, cs, 0, p, _, rfl, by decide, hp, by omega, by omega⟩
    · have hp2 : p.toNat < cs.length := by omega
      have hp3 : p < (cs.length : Int) := by omega
      simp [bSeq, bNil, sIf, dTAnd, dTb, dBin, dIx, dVarO, dVar, dC, enterO, enter, dEq, D.eqv, D.ok, D.lay, D.dep, L2.atI, L2.ixN, dCall, dCons, dNil, bLen, hl, hp, hp2, hp3, sSub, dMul, hm, dAdd, bInt, bAbs, dIntOp, hd13, hd, hn, sRet, finO, dCmpI, sSet]
      refine ⟨Int.emod_nonneg _ (by omega), Int.emod_lt_of_pos _ hn, cs, _, p + 1, c, rfl, ?_, by omega, hc, hc2⟩
      refine Int.ediv_nonneg ?_ (by omega)
      split <;> omega
  · simp [bSeq, bNil, sIf, dTAnd, dTb, dBin, dIx, dVarO, dVar, dC, enterO, enter, dEq, D.eqv, D.ok, D.lay, D.dep, L2.atI, L2.ixN, dCall, dCons, dNil, bLen, h0, sSub, dMul, hm, dAdd, bInt, bAbs, dIntOp, hd13, hd, hn, sRet, finO, dCmpI, sSet]
    refine ⟨Int.emod_nonneg _ (by omega), Int.emod_lt_of_pos _ hn, cs, _, p, c, rfl, Int.ediv_nonneg hv (by omega), hp, hc, hc2⟩
theorem pick_ok {s : D} {xs : List D} (h : Good s) (h0 : xs ≠ []) (h1 : xs.length < 1000000) : wm (m__law_pick s [.lst xs]) fun q => q.1 ∈ xs ∧ Good q.2 := by
  have hl : 0 < (xs.length : Int) := by
    cases xs with
    | nil => exact absurd rfl h0
    | cons x r => exact Int.ofNat_lt.mpr (Nat.succ_pos _)
  have hd := draw_ok (n := xs.length) h hl (by omega)
  obtain ⟨⟨q1, q2⟩, hq, k, e1, k0, k1, hg⟩ := wm_out hd
  cases e1
  have hk : k.toNat < xs.length := by omega
  unfold m__law_pick b__law_pick
  simp [enterO, enter, sRet, dBin, dVar, dCallO, dCons, dCall, dNil, bLen, hq, dIx, L2.atI, L2.ixN, k0, k1, hk, finO, hg]

theorem is_integer_ok (d : D) (h : d.ty ≠ none) : m_is_integer [d] = .ok (.bl (isI d)) := by
  cases d <;> first | rfl | exact absurd rfl h
theorem whole_ok (d : D) (h : d.ty ≠ none) : m__law_whole [d] = .ok (.bl (isI d)) := by
  cases d <;> first | rfl | exact absurd rfl h
@[simp] theorem is_integer_int (i : Int) : m_is_integer [.int i] = .ok (.bl true) := rfl
@[simp] theorem whole_int (i : Int) : m__law_whole [.int i] = .ok (.bl true) := rfl
theorem between_int (i lo hi : Int) : m_is_between [.int i, .int lo, .int hi] = .ok (.bl (decide (lo ≤ i) && decide (i ≤ hi))) := by
  unfold m_is_between b_is_between
  by_cases h : lo ≤ i
  · simp [enter, sRet, dAndV, dCall, dCons, dNil, dVar, dChain, dLe, dCmpI, h, fin]
  · simp [enter, sRet, dAndV, dCall, dCons, dNil, dVar, dChain, dLe, dCmpI, h, fin]
theorem between_no (d : D) (a b : D) (h : d.ty ≠ none) (h2 : isI d = false) : m_is_between [d, a, b] = .ok (.bl false) := by
  unfold m_is_between b_is_between
  simp only [enter, sRet, dAndV, dCall, dCons, dNil, dVar, List.map_cons, List.map_nil, List.length_cons, List.length_nil, List.cons_append, List.nil_append, List.getElem?_cons_zero, bnd_ok, is_integer_ok d h]
  rw [h2]
  rfl
theorem bw_non (a b : D) : m_is_between [.non, a, b] = .ok (.bl false) := between_no _ _ _ (fun e => by cases e) rfl
theorem bw_bl (x : Bool) (a b : D) : m_is_between [.bl x, a, b] = .ok (.bl false) := between_no _ _ _ (fun e => by cases e) rfl
theorem bw_str (x : Str) (a b : D) : m_is_between [.str x, a, b] = .ok (.bl false) := between_no _ _ _ (fun e => by cases e) rfl
theorem bw_tup (x : List D) (a b : D) : m_is_between [.tup x, a, b] = .ok (.bl false) := between_no _ _ _ (fun e => by cases e) rfl
theorem bw_lst (x : List D) (a b : D) : m_is_between [.lst x, a, b] = .ok (.bl false) := between_no _ _ _ (fun e => by cases e) rfl
theorem heard1 (f : Nat) (mf : List D → M D) (a : D) (ht : tbl f = some (1, mf)) : m__law_heard [.fn f, .lst [a]] = match mf [a] with
    | .ok r => .ok (.lst [r])
    | .error (.raise k p) => wordOf k p
    | .error .stuck => stuck := by
  unfold m__law_heard b__law_heard m__law_called b__law_called
  simp [enter, sHeard, noOwE, sRet, dLst, dCons, dCall, dNil, dVar, bSeq, bNil, sIf, dTb, dBin, bLen, dC, dLt, dCmpI, dIf, dEq_int, dCallV, ht, dIx, L2.atI, L2.ixN]
  cases h : mf [a] with
  | ok r => simp [fin, maxSeq]
  | error x => cases x with
    | stuck => rfl
    | raise k p =>
      simp [fin]
      cases wordOf k p <;> rfl
theorem h1e {f : Nat} {mf : List D → M D} {a p r : D} {k : Nat} (ht : tbl f = some (1, mf)) (h : mf [a] = .error (.raise k p)) (hw : wordOf k p = .ok r) : m__law_heard [.fn f, .lst [a]] = .ok r := by rw [heard1 f mf a ht, h]; exact hw
theorem h1o {f : Nat} {mf : List D → M D} {a r : D} (ht : tbl f = some (1, mf)) (h : mf [a] = .ok r) : m__law_heard [.fn f, .lst [a]] = .ok (.lst [r]) := by rw [heard1 f mf a ht, h]
theorem heard2 (f : Nat) (mf : List D → M D) (a b : D) (ht : tbl f = some (2, mf)) : m__law_heard [.fn f, .lst [a, b]] = match mf [a, b] with
    | .ok r => .ok (.lst [r])
    | .error (.raise k p) => wordOf k p
    | .error .stuck => stuck := by
  unfold m__law_heard b__law_heard m__law_called b__law_called
  simp [enter, sHeard, noOwE, sRet, dLst, dCons, dCall, dNil, dVar, bSeq, bNil, sIf, dTb, dBin, bLen, dC, dLt, dCmpI, dIf, dEq_int, dCallV, ht, dIx, L2.atI, L2.ixN]
  cases h : mf [a, b] with
  | ok r => simp [fin, maxSeq]
  | error x => cases x with
    | stuck => rfl
    | raise k p =>
      simp [fin]
      cases wordOf k p <;> rfl
theorem h2e {f : Nat} {mf : List D → M D} {a b p r : D} {k : Nat} (ht : tbl f = some (2, mf)) (h : mf [a, b] = .error (.raise k p)) (hw : wordOf k p = .ok r) : m__law_heard [.fn f, .lst [a, b]] = .ok r := by rw [heard2 f mf a b ht, h]; exact hw
theorem h2o {f : Nat} {mf : List D → M D} {a b r : D} (ht : tbl f = some (2, mf)) (h : mf [a, b] = .ok r) : m__law_heard [.fn f, .lst [a, b]] = .ok (.lst [r]) := by rw [heard2 f mf a b ht, h]
end LW
end Dn

/-! P24a -/
set_option Elab.async false
set_option linter.all false
set_option maxRecDepth 100000
set_option maxHeartbeats 2000000
namespace Dn
namespace LW
open PySem
abbrev gcdB : Sv := sPar 0 1 (dCons (dVar 1) (dCons (dBin dSub (dVar 0) (dBin dMul (dBin dFdiv (dVar 0) (dVar 1)) (dVar 1))) (dNil)))
theorem gcd_step {a b : Int} (h0 : 0 ≤ a) (hb : 0 < b) (ha : a.natAbs < 2 ^ 1000) (hb2 : b.natAbs < 2 ^ 1000) : dTr (dVar 1) [.va (.int a), .va (.int b)] = .ok (true, [.va (.int a), .va (.int b)]) ∧ gcdB [.va (.int a), .va (.int b)] = .ok (.nx, [.va (.int b), .va (.int (a % b))]) := by
  have hne : b ≠ 0 := by omega
  have d1 : divOk a b = true := divOk_of hb hb2 (by decide)
  have q0 : 0 ≤ a / b := Int.ediv_nonneg h0 (by omega)
  have q1 : a / b ≤ a := Int.ediv_le_self b h0
  have q2 : (a / b).natAbs < 2 ^ 1000 := by omega
  have m1 : mulOk (a / b) b = true := mulOk_of q2 hb2 (by decide)
  have e : a - a / b * b = a % b := by rw [Int.emod_def, Int.mul_comm]
  constructor
  · simp [dTr, dVar, truth, hne]
  · simp [sPar, dCons, dNil, dVar, dBin, dIntOp, d1, dMul, m1, dSub, put, isOw, e]
theorem gcd_loop : ∀ (k f : Nat) (a b : Int), 0 ≤ b → b ≤ a → 0 < a → a * b < 2 ^ k → a.natAbs < 2 ^ 1000 → k < f → ∃ g, whileN (dTr (dVar 1)) gcdB f [.va (.int a), .va (.int b)] = .ok (.nx, [.va (.int g), .va (.int 0)]) ∧ 0 < g ∧ g.natAbs < 2 ^ 1000 := by
  intro k
  induction k with
  | zero =>
    intro f a b h0 h1 h2 h3 h4 h5
    have hb : b = 0 := by
      by_cases z : b = 0
      · exact z
      · have : 0 < a * b := Int.mul_pos h2 (by omega)
        simp at h3; omega
    subst hb
    obtain ⟨f, rfl⟩ : ∃ f', f = f' + 1 := ⟨f - 1, by omega⟩
    refine ⟨a, ?_, h2, h4⟩
    rw [whileN]
    simp [dTr, dVar, truth]
  | succ k ih =>
    intro f a b h0 h1 h2 h3 h4 h5
    obtain ⟨f, rfl⟩ : ∃ f', f = f' + 1 := ⟨f - 1, by omega⟩
    by_cases z : b = 0
    · subst z
      refine ⟨a, ?_, h2, h4⟩
      rw [whileN]
      simp [dTr, dVar, truth]
    · have hb : 0 < b := by omega
      obtain ⟨s1, s2⟩ := gcd_step (by omega : 0 ≤ a) hb h4 (by omega)
      have r0 : 0 ≤ a % b := Int.emod_nonneg _ (by omega)
      have r1 : a % b < b := Int.emod_lt_of_pos _ hb
      have q1 : 1 ≤ a / b := (Int.le_ediv_iff_mul_le hb).mpr (by omega)
      have r2 : 2 * (a % b) < a := by
        have e := Int.emod_add_mul_ediv a b
        have : b * 1 ≤ b * (a / b) := Int.mul_le_mul_of_nonneg_left q1 (by omega)
        omega
      have p1 : b * (a % b) < 2 ^ k := by
        have : b * (2 * (a % b)) < b * a := Int.mul_lt_mul_of_pos_left r2 hb
        rw [Int.mul_comm b a, Int.mul_left_comm] at this
        rw [Int.pow_succ] at h3
        omega
      obtain ⟨g, e1, e2, e3⟩ := ih f b (a % b) r0 (by omega) hb p1 (by omega) (by omega)
      refine ⟨g, ?_, e2, e3⟩
      rw [whileN, s1, bnd_ok]
      simp only [if_true]
      rw [s2, bnd_ok]
      exact e1
theorem gcd_ok {a b : Int} (h0 : 0 ≤ a) (hb : 0 < b) (ha : a.natAbs < 2 ^ 600) (hb2 : b.natAbs < 2 ^ 600) : ∃ g, m_common_divisor [.int a, .int b] = .ok (.int g) ∧ 0 < g ∧ g.natAbs < 2 ^ 1000 := by
  have w : (2 : Nat) ^ 600 ≤ 2 ^ 1000 := Nat.pow_le_pow_right (by decide) (by decide)
  obtain ⟨s1, s2⟩ := gcd_step h0 hb (by omega) (by omega)
  have r0 : 0 ≤ a % b := Int.emod_nonneg _ (by omega)
  have r1 : a % b < b := Int.emod_lt_of_pos _ hb
  have p : b * (a % b) < 2 ^ 1200 := by
    have h1 := natAbs_mul_lt (a := b) (b := a % b) (m := 600) (n := 600) hb2 (by omega)
    have h2 : (2 : Nat) ^ (600 + 600) = 2 ^ 1200 := rfl
    have h3 : ((2 ^ 1200 : Nat) : Int) = 2 ^ 1200 := by norm_cast
    rw [h2] at h1
    rw [← h3]
    omega
  obtain ⟨m, hm, hm2⟩ : ∃ m, manyTurns = m + 1 ∧ 1200 < m := ⟨999999999, by decide, by decide⟩
  obtain ⟨g, e1, e2, e3⟩ := gcd_loop 1200 m b (a % b) r0 (by omega) hb p (by omega) hm2
  refine ⟨g, ?_, e2, e3⟩
  have wl : sWhile (dTr (dVar 1)) gcdB [.va (.int a), .va (.int b)] = .ok (.nx, [.va (.int g), .va (.int 0)]) := by
    unfold sWhile
    rw [hm, whileN, s1, bnd_ok]
    simp only [if_true]
    rw [s2, bnd_ok]
    exact e1
  have a1 : ¬ a < 0 := by omega
  have a2 : ¬ b < 0 := by omega
  have ab : bAbs [.int a] = .ok (.int a) := by unfold bAbs; simp [a1]; try omega
  have bb : bAbs [.int b] = .ok (.int b) := by unfold bAbs; simp [a2]; try omega
  unfold m_common_divisor b_common_divisor
  simp [enter, bSeq, sPar, dCons, dNil, dVar, dCall, ab, bb, put, isOw, wl, sRet, fin]
theorem lowest_ok {a b : Int} (h0 : 0 ≤ a) (hb : 0 < b) (ha : a.natAbs < 2 ^ 600) (hb2 : b.natAbs < 2 ^ 600) : ∃ r, m_lowest [.int a, .int b] = .ok r := by
  obtain ⟨g, e1, e2, e3⟩ := gcd_ok h0 hb ha hb2
  have d1 : divOk a g = true := divOk_of e2 e3 (by decide)
  have d2 : divOk b g = true := divOk_of e2 e3 (by decide)
  refine ⟨.tup [.int (a / g), .int (b / g)], ?_⟩
  unfold m_lowest b_lowest
  simp [enter, bSeq, sSet, dCall, dCons, dNil, dVar, e1, put, isOw, sRet, dTup, dBin, dIntOp, d1, d2, mx2, fin]
end LW
end Dn

/-! PG4 -/
set_option Elab.async false
set_option linter.all false
set_option maxRecDepth 100000
set_option maxHeartbeats 2000000
namespace Dn
namespace LW
open PySem
theorem dTOr_t {t1 t2 : Tv} {env e1 : En} (h : t1 env = .ok (true, e1)) : dTOr t1 t2 env = .ok (true, e1) := by unfold dTOr; rw [h]; rfl
theorem dTOr_f {t1 t2 : Tv} {env e1 : En} (h : t1 env = .ok (false, e1)) : dTOr t1 t2 env = t2 e1 := by unfold dTOr; rw [h]; rfl
theorem dTAnd_t {t1 t2 : Tv} {env e1 : En} (h : t1 env = .ok (true, e1)) : dTAnd t1 t2 env = t2 e1 := by unfold dTAnd; rw [h]; rfl
theorem dTAnd_f {t1 t2 : Tv} {env e1 : En} (h : t1 env = .ok (false, e1)) : dTAnd t1 t2 env = .ok (false, e1) := by unfold dTAnd; rw [h]; rfl
theorem sDrop_ok {m : Ev} {env e1 : En} {d : D} (h : m env = .ok (d, e1)) : sDrop m env = .ok (.nx, e1) := by unfold sDrop; rw [h]; rfl
theorem bSeq_err {s r : Sv} {env : En} {x : Exn} (h : s env = .error x) : bSeq s r env = .error x := by unfold bSeq; rw [h]; rfl
theorem bSeq_rt {s r : Sv} {env e' : En} {d : D} (h : s env = .ok (.rt d, e')) : bSeq s r env = .ok (.rt d, e') := by unfold bSeq; rw [h]; rfl
theorem dCall3 {f : List D → M D} {m1 m2 m3 : Ev} {env e1 e2 e3 : En} {a b c r : D} (h1 : m1 env = .ok (a, e1)) (h2 : m2 e1 = .ok (b, e2)) (h3 : m3 e2 = .ok (c, e3)) (hf : f [a, b, c] = .ok r) : dCall f (dCons m1 (dCons m2 (dCons m3 dNil))) env = .ok (r, e3) :=
  dCallN (dCons_ok h1 (dCons_ok h2 (dCons_ok h3 rfl))) hf
theorem dGt_int (i j : Int) : dGt (.int i) (.int j) = .ok (.bl (decide (j < i))) := rfl
theorem dGe_int (i j : Int) : dGe (.int i) (.int j) = .ok (.bl (decide (j ≤ i))) := rfl
theorem dLt_int (i j : Int) : dLt (.int i) (.int j) = .ok (.bl (decide (i < j))) := rfl
theorem dCallO_ok {f : D → List D → M (D × D)} {i : Nat} {ms : Av} {env e1 : En} {as : List D} {s0 s d s' : D} (h0 : env[i]? = some (.ow s0)) (h1 : ms env = .ok (as, e1)) (h2 : e1[i]? = some (.ow s)) (hf : f s as = .ok (d, s')) : dCallO f i ms env = .ok (d, e1.set i (.ow s')) := by
  unfold dCallO
  rw [h0]
  simp only []
  rw [h1, bnd_ok]
  simp only []
  rw [h2]
  simp only []
  rw [hf, bnd_ok]
theorem dCallO0 {f : D → List D → M (D × D)} {ms : Av} {st s s' d : D} {R : List Sl} {as : List D} (h1 : ms (.ow st :: R) = .ok (as, .ow s :: R)) (hf : f s as = .ok (d, s')) : dCallO f 0 ms (.ow st :: R) = .ok (d, .ow s' :: R) := by
  rw [dCallO_ok (s0 := st) rfl h1 rfl hf]
  rfl
theorem add_lst {xs ys : List D} (h : xs.length + ys.length ≤ 1000) : dAdd (.lst xs) (.lst ys) = .ok (.lst (xs ++ ys)) := by
  simp only [dAdd, le_maxSeq h, if_true]
theorem dTup_ok {ms : Av} {env env' : En} {ds : List D} (h : ms env = .ok (ds, env')) (hl : ds.length ≤ 1000) : dTup ms env = .ok (.tup ds, env') := by
  unfold dTup
  rw [h, bnd_ok]
  simp only [le_maxSeq hl, if_true]
theorem sSet_to {i : Nat} {m : Ev} {env e' e2 : En} {d : D} (h : m env = .ok (d, e')) (k : e'.set (i + 1) (.va d) = e2) : sSet (i + 1) m env = .ok (.nx, e2) := by rw [sSet_ok h, k]
theorem forL_nxi {mt : Gv} {mb : Sv} (I : Nat → En → Prop) : ∀ (ds : List D) (j : Nat) (env : En), (∀ (i : Nat) (d : D), ds[i]? = some d → ∀ e, I (j + i) e → ∃ e1 e2, mt d e = .ok e1 ∧ mb e1 = .ok (.nx, e2) ∧ I (j + i + 1) e2) → I j env → ∃ e', forL mt mb ds env = .ok (.nx, e') ∧ I (j + ds.length) e'
  | [], j, env, _, h => ⟨env, rfl, h⟩
  | d :: r, j, env, hs, h => by
    obtain ⟨e1, e2, q1, q2, q3⟩ := hs 0 d rfl env h
    obtain ⟨e', q4, q5⟩ := forL_nxi I r (j + 1) e2 (fun i d' hd e he => by
      have := hs (i + 1) d' (by simpa using hd) e (by rw [← Nat.add_assoc, Nat.add_right_comm]; exact he)
      rw [← Nat.add_assoc, Nat.add_right_comm j i 1] at this
      exact this) q3
    refine ⟨e', ?_, by rw [List.length_cons, ← Nat.add_assoc, Nat.add_right_comm]; exact q5⟩
    unfold forL
    rw [q1, ns_ok, bnd_ok, q2, bnd_ok]
    exact q4
theorem mulT_rep (x : D) {n : Nat} (h : 2 ≤ n) (h2 : n ≤ 1000) : dMul (.tup [x]) (.int n) = .ok (.tup (List.replicate n x)) := by
  have e : repD n [x] = List.replicate n x := by
    unfold repD
    rw [Int.toNat_natCast]
    clear h h2
    induction n with
    | zero => rfl
    | succ n ih => rw [List.replicate_succ, List.flatten_cons, ih]; rfl
  have h1 : (2 : Int) ≤ n := by omega
  have h3 : (n : Int) ≤ 1000 := by omega
  simp [dMul, e, h1, h3]
theorem rngc {n : Nat} (h : n ≤ 1000) {env : En} : dRng (dCons (dC (.int n)) (dNil)) env = .ok (rngD 0 1 n, env) := dRng_ok (n := n) (dCons_ok rfl rfl) (smallI_of_le (by omega) (by omega))
theorem sDrop_err {m : Ev} {env : En} {x : Exn} (h : m env = .error x) : sDrop m env = .error x := by unfold sDrop; rw [h]; rfl
theorem dCall_err {f : List D → M D} {ms : Av} {env e1 : En} {as : List D} {x : Exn} (h1 : ms env = .ok (as, e1)) (hf : f as = .error x) : dCall f ms env = .error x := by unfold dCall; rw [h1, bnd_ok, hf]; rfl
theorem pick1 {sc st : D} {R : List Sl} {m : Ev} {xs : List D} (g : Good st) (hm : m (.va sc :: .ow st :: R) = .ok (.lst xs, .va sc :: .ow st :: R)) (h0 : xs ≠ []) (h1 : xs.length < 1000000) : ∃ d st', dCallO m__law_pick 1 (dCons m (dNil)) (.va sc :: .ow st :: R) = .ok (d, .va sc :: .ow st' :: R) ∧ d ∈ xs ∧ Good st' := by
  obtain ⟨⟨d, st'⟩, e, hd, g'⟩ := wm_out (pick_ok g h0 h1)
  exact ⟨d, st', dCallO_ok (i := 1) (s0 := st) (e1 := .va sc :: .ow st :: R) rfl (dCons_ok hm rfl) rfl e, hd, g'⟩
theorem call1 {f : D → List D → M (D × D)} {sc st st' d : D} {R : List Sl} (h : f st [] = .ok (d, st')) : dCallO f 1 (dNil) (.va sc :: .ow st :: R) = .ok (d, .va sc :: .ow st' :: R) :=
  dCallO_ok (i := 1) (s0 := st) (e1 := .va sc :: .ow st :: R) rfl rfl rfl h
theorem sSetO_to {i : Nat} {m : Ev} {env e' e2 : En} {d : D} (h : m env = .ok (d, e')) (k : e'.set (i + 1) (.ow d) = e2) : sSetO (i + 1) m env = .ok (.nx, e2) := by
  unfold sSetO
  rw [h, bnd_ok]
  show bnd (put (i + 1) (.ow d) e') _ = _
  rw [put_succ, bnd_ok, k]
theorem meth_app {env : En} {i : Nat} {ms : Av} {ds : List D} {a : D} (h0 : env[i]? = some (.ow (.lst ds))) (h : ms env = .ok ([a], env)) (hl : ds.length < 1000) : sDrop (dMeth fApp i ms) env = .ok (.nx, env.set i (.ow (.lst (ds ++ [a])))) := by
  refine sDrop_ok (d := .non) ?_
  unfold dMeth
  rw [h0]
  simp only []
  rw [h, bnd_ok]
  simp only [h0]
  have : ds.length < maxSeq := Nat.lt_of_lt_of_le hl (le_maxSeq (Nat.le_refl _))
  simp only [fApp, this, if_true, bnd_ok]
theorem ne_non : dNe (.lst [.non]) (.lst [.non]) = .ok (.bl false) := by simp [dNe, D.ok, D.lay, D.lays, D.dep, D.deps, D.eqv, D.eqvs]
theorem w_form : wordOf 2 (.str "form") = .ok (.str "paper form") := rfl
theorem dLe_int (i j : Int) : dLe (.int i) (.int j) = .ok (.bl (decide (i ≤ j))) := rfl
theorem draw1 {sc st : D} {R : List Sl} {m : Ev} {n : Int} (g : Good st) (hm : m (.va sc :: .ow st :: R) = .ok (.int n, .va sc :: .ow st :: R)) (h0 : 0 < n) (h1 : n < 1099511627776) : ∃ k st', dCallO m__law_draw 1 (dCons m (dNil)) (.va sc :: .ow st :: R) = .ok (.int k, .va sc :: .ow st' :: R) ∧ 0 ≤ k ∧ k < n ∧ Good st' := by
  obtain ⟨⟨d, st'⟩, e, k, hd, k0, k1, g'⟩ := wm_out (draw_ok g h0 h1)
  simp only at hd g'
  subst hd
  exact ⟨k, st', dCallO_ok (i := 1) (s0 := st) (e1 := .va sc :: .ow st :: R) rfl (dCons_ok hm rfl) rfl e, k0, k1, g'⟩
theorem btw {i lo hi : Int} (h : lo ≤ i) (h2 : i ≤ hi) : m_is_between [.int i, .int lo, .int hi] = .ok (.bl true) := by
  rw [between_int, decide_eq_true h, decide_eq_true h2]; rfl
theorem sFor_ok {mi : Iv} {mt : Gv} {mb : Sv} {env e1 : En} {ds : List D} {r : M (Fl × En)} (h : mi env = .ok (ds, e1)) (h2 : forL mt mb ds e1 = r) : sFor mi mt mb env = r := by
  unfold sFor
  rw [h, bnd_ok]
  exact h2
theorem forL_cons {mt : Gv} {mb : Sv} {d : D} {ds : List D} {env e1 e2 : En} {r : M (Fl × En)} (h1 : mt d env = .ok e1) (h2 : mb e1 = .ok (.nx, e2)) (h3 : forL mt mb ds e2 = r) : forL mt mb (d :: ds) env = r := by
  unfold forL
  rw [h1, ns_ok, bnd_ok, h2, bnd_ok]
  exact h3
theorem fin_ok {s : Sv} {env e' : En} {d : D} (h : s env = .ok (.rt d, e')) : fin (s env) = .ok d := by rw [h]; rfl
theorem fin_nx {s : Sv} {env e' : En} (h : s env = .ok (.nx, e')) : fin (s env) = .ok .non := by rw [h]; rfl
theorem fin_err {s : Sv} {env : En} {x : Exn} (h : s env = .error x) : fin (s env) = .error x := by rw [h]; rfl
theorem mulOk60 {i j : Int} (h1 : i.natAbs < 2 ^ 600) (h2 : j.natAbs < 2 ^ 600) : mulOk i j = true := mulOk_of h1 h2 (by decide)
end LW
end Dn

/-! P24b -/
set_option Elab.async false
set_option linter.all false
set_option maxRecDepth 100000
set_option maxHeartbeats 2000000
namespace Dn
namespace LW
open PySem
/-! ### k24: steps -/
abbrev S4 := Int × Int × Int × Int
def stD (s : S4) : D := .tup [.int s.1, .int s.2.1, .tup [.int s.2.2.1, .int s.2.2.2]]
def stsD (ss : List S4) : D := .tup (ss.map stD)
structure OkS (s : S4) : Prop where
  a0 : 0 ≤ s.1
  a1 : s.1 ≤ 1000000000000
  b0 : 0 ≤ s.2.1
  b1 : s.2.1 ≤ 1000000000000
  f0 : 0 ≤ s.2.2.1
  f1 : s.2.2.1 < s.2.2.2
  d1 : s.2.2.2 ≤ 1000
structure Sts (ss : List S4) : Prop where
  l1 : 1 ≤ ss.length
  l2 : ss.length ≤ 20
  ok : ∀ s, s ∈ ss → OkS s
theorem len_sts (ss : List S4) : bLen [stsD ss] = .ok (.int ss.length) := by unfold stsD; simp [bLen]
abbrev CK1 : Sv := (bSeq (sIf (dTOr (dTNot (dTr (dIsi "tuple" (dVar 1)))) (dTb (dBin dNe (dCall bLen (dCons (dVar 1) (dNil))) (dC (.int 3))))) (sRaise 0 (dC (.str "steps"))) (bNil))
  (bSeq (sIf (dTNot (dTr (dCall bAll (dCons (dLc (dItems (dSlice (dVar 1) (dONone) (dOSome (dC (.int 2))))) (gSet 3) (dYes) (dCall m_is_between (dCons (dVar 3) (dCons (dC (.int 0)) (dCons (dC (.int 1000000000000)) (dNil))))) [3]) (dNil))))) (sRaise 0 (dC (.str "steps"))) (bNil))
  (bSeq (sSet 2 (dBin dIx (dVar 1) (dC (.int 2))))
  (bSeq (sIf (dTOr (dTNot (dTr (dIsi "tuple" (dVar 2)))) (dTOr (dTb (dBin dNe (dCall bLen (dCons (dVar 2) (dNil))) (dC (.int 2)))) (dTNot (dTr (dCall m_is_between (dCons (dBin dIx (dVar 2) (dC (.int 1))) (dCons (dC (.int 1)) (dCons (dC (.int 1000)) (dNil))))))))) (sRaise 0 (dC (.str "steps"))) (bNil))
  (sIf (dTNot (dTr (dCall m_is_between (dCons (dBin dIx (dVar 2) (dC (.int 0))) (dCons (dC (.int 0)) (dCons (dBin dSub (dBin dIx (dVar 2) (dC (.int 1))) (dC (.int 1))) (dNil))))))) (sRaise 0 (dC (.str "steps"))) (bNil))))))
theorem ck1_ok {A : D} {s : S4} {y : Sl} (h : OkS s) : CK1 [.va A, .va (stD s), y, .un] = .ok (.nx, [.va A, .va (stD s), .va (.tup [.int s.2.2.1, .int s.2.2.2]), .un]) := by
  obtain ⟨a, b, f, d⟩ := s
  obtain ⟨a0, a1, b0, b1, f0, f1, d1⟩ := h
  simp only at a0 a1 b0 b1 f0 f1 d1
  have lc : dLc (dItems (dSlice (dVar 1) (dONone) (dOSome (dC (.int 2))))) (gSet 3) (dYes) (dCall m_is_between (dCons (dVar 3) (dCons (dC (.int 0)) (dCons (dC (.int 1000000000000)) (dNil))))) [3] [.va A, .va (stD (a, b, f, d)), y, .un] = .ok (.lst ([D.int a, .int b].map fun _ => D.bl true), [.va A, .va (stD (a, b, f, d)), y, .un]) :=
    dLc_ok2 (ds := [.int a, .int b]) rfl rfl rfl (lcL_map _ fun x hx => by
      simp only [List.mem_cons, List.not_mem_nil, or_false] at hx
      rcases hx with rfl | rfl
      · exact ⟨[.va A, .va (stD (a, b, f, d)), y, .va (.int a)], [.va A, .va (stD (a, b, f, d)), y, .va (.int a)], rfl, dCall3 rfl rfl rfl (btw a0 a1), rfl⟩
      · exact ⟨[.va A, .va (stD (a, b, f, d)), y, .va (.int b)], [.va A, .va (stD (a, b, f, d)), y, .va (.int b)], rfl, dCall3 rfl rfl rfl (btw b0 b1), rfl⟩) (by simp)
  unfold CK1
  rw [stp (sIf_f (e' := [.va A, .va (stD (a, b, f, d)), y, .un]) rfl)]
  rw [stp (sIf_f (e' := [.va A, .va (stD (a, b, f, d)), y, .un]) (dTNot_ok (b := true) (dTr_bl (dCall1 lc rfl))))]
  rw [stp (sSet_to (i := 1) (d := .tup [.int f, .int d]) (e' := [.va A, .va (stD (a, b, f, d)), y, .un]) (e2 := [.va A, .va (stD (a, b, f, d)), .va (.tup [.int f, .int d]), .un]) rfl rfl)]
  have c3 : dTOr (dTNot (dTr (dIsi "tuple" (dVar 2)))) (dTOr (dTb (dBin dNe (dCall bLen (dCons (dVar 2) (dNil))) (dC (.int 2)))) (dTNot (dTr (dCall m_is_between (dCons (dBin dIx (dVar 2) (dC (.int 1))) (dCons (dC (.int 1)) (dCons (dC (.int 1000)) (dNil)))))))) [.va A, .va (stD (a, b, f, d)), .va (.tup [.int f, .int d]), .un] = .ok (false, [.va A, .va (stD (a, b, f, d)), .va (.tup [.int f, .int d]), .un]) := by
    rw [dTOr_f (e1 := [.va A, .va (stD (a, b, f, d)), .va (.tup [.int f, .int d]), .un]) rfl, dTOr_f (e1 := [.va A, .va (stD (a, b, f, d)), .va (.tup [.int f, .int d]), .un]) rfl]
    exact dTNot_ok (b := true) (dTr_bl (dCall3 (a := .int d) (b := .int 1) (c := .int 1000) rfl rfl rfl (btw (by omega) d1)))
  rw [stp ((sIf_f c3).trans rfl)]
  exact (sIf_f (dTNot_ok (b := true) (dTr_bl (dCall3 (a := .int f) (b := .int 0) (c := .int (d - 1)) rfl rfl rfl (btw f0 (by omega)))))).trans rfl
theorem check_steps_ok {ss : List S4} (h : Sts ss) : m_check_steps [stsD ss] = .ok .non := by
  have h1 : (1 : Int) ≤ ss.length := by have := h.l1; omega
  have h2 : (ss.length : Int) ≤ 20 := by have := h.l2; omega
  have lr := len_sts ss
  have c0 : sIf (dTOr (dTNot (dTr (dIsi "tuple" (dVar 0)))) (dTNot (dTb (dChain dLe dLe (dC (.int 1)) (dCall bLen (dCons (dVar 0) (dNil))) (dC (.int 20)))))) (sRaise 0 (dC (.str "steps"))) (bNil) [.va (stsD ss), .un, .un, .un] = .ok (.nx, [.va (stsD ss), .un, .un, .un]) := by
    refine (sIf_f (e' := [.va (stsD ss), .un, .un, .un]) ?_).trans rfl
    rw [dTOr_f (e1 := [.va (stsD ss), .un, .un, .un]) rfl]
    simp [dTNot, dTb, dChain, dLe, dCmpI, dC, dCall, dCons, dNil, dVar, lr, h1, h2]
  obtain ⟨e', k1, y1, y2, k2⟩ := forL_nx (mt := gSet 1) (mb := CK1) (fun e => ∃ y1 y2, e = [.va (stsD ss), y1, y2, .un]) (ss.map stD) [.va (stsD ss), .un, .un, .un] (by
    rintro d hd e ⟨y1, y2, rfl⟩
    obtain ⟨s, hs, rfl⟩ := List.mem_map.mp hd
    exact ⟨[.va (stsD ss), .va (stD s), y2, .un], _, rfl, ck1_ok (h.ok s hs), _, _, rfl⟩) ⟨_, _, rfl⟩
  unfold m_check_steps b_check_steps
  rw [show enter 4 [stsD ss] = [.va (stsD ss), .un, .un, .un] from rfl, stp c0]
  exact fin_nx (sFor_ok (e1 := [.va (stsD ss), .un, .un, .un]) (ds := ss.map stD) rfl k1)

/-! ### weights, nearer -/
def wt (s : S4) : Int := s.1 * s.2.2.2 + s.2.1 * (s.2.2.2 - s.2.2.1)
theorem na {x : Int} {n : Nat} (h0 : 0 ≤ x) (h : x < 2 ^ n) : x.natAbs < 2 ^ n := by
  have : ((2 ^ n : Nat) : Int) = 2 ^ n := by norm_cast
  omega
theorem p2 : (2 : Int) ^ 50 = 1125899906842624 ∧ (2 : Int) ^ 60 = 1152921504606846976 ∧ (2 : Int) ^ 20 = 1048576 := by decide
theorem OkS.na (s : S4) (h : OkS s) : s.1.natAbs < 2 ^ 50 ∧ s.2.1.natAbs < 2 ^ 50 ∧ s.2.2.1.natAbs < 2 ^ 20 ∧ s.2.2.2.natAbs < 2 ^ 20 ∧ (s.2.2.2 - s.2.2.1).natAbs < 2 ^ 20 := by
  obtain ⟨a0, a1, b0, b1, f0, f1, d1⟩ := h
  obtain ⟨q1, q2, q3⟩ := p2
  refine ⟨LW.na a0 ?_, LW.na b0 ?_, LW.na f0 ?_, LW.na (by omega) ?_, LW.na (by omega) ?_⟩ <;> omega
theorem wt_rng {s : S4} (h : OkS s) : 0 ≤ wt s ∧ wt s ≤ 2000000000000000 := by
  obtain ⟨a0, a1, b0, b1, f0, f1, d1⟩ := h
  unfold wt
  have h1 : 0 ≤ s.1 * s.2.2.2 := Int.mul_nonneg a0 (by omega)
  have h2 : 0 ≤ s.2.1 * (s.2.2.2 - s.2.2.1) := Int.mul_nonneg b0 (by omega)
  have h3 : s.1 * s.2.2.2 ≤ 1000000000000 * 1000 := Int.mul_le_mul a1 d1 (by omega) (by decide)
  have h4 : s.2.1 * (s.2.2.2 - s.2.2.1) ≤ 1000000000000 * 1000 := Int.mul_le_mul b1 (by omega) (by omega) (by decide)
  omega
theorem wt_na {s : S4} (h : OkS s) : (wt s).natAbs < 2 ^ 60 := by
  have := wt_rng h
  obtain ⟨q1, q2, q3⟩ := p2
  exact LW.na this.1 (by omega)
theorem st_ix {s : S4} : dIx (stD s) (.int 0) = .ok (.int s.1) ∧ dIx (stD s) (.int 1) = .ok (.int s.2.1) ∧ dIx (stD s) (.int 2) = .ok (.tup [.int s.2.2.1, .int s.2.2.2]) := ⟨rfl, rfl, rfl⟩
theorem weight_ok {s : S4} (h : OkS s) : m_weight_of [stD s] = .ok (.int (wt s)) := by
  obtain ⟨n1, n2, n3, n4, n5⟩ := OkS.na s h
  have m1 : mulOk s.1 s.2.2.2 = true := mulOk_of n1 n4 (by decide)
  have m2 : mulOk s.2.1 (s.2.2.2 - s.2.2.1) = true := mulOk_of n2 n5 (by decide)
  have q1 : dMul (.int s.1) (.int s.2.2.2) = .ok (.int (s.1 * s.2.2.2)) := by simp only [dMul, m1, if_true]
  have q2 : dMul (.int s.2.1) (.int (s.2.2.2 - s.2.2.1)) = .ok (.int (s.2.1 * (s.2.2.2 - s.2.2.1))) := by simp only [dMul, m2, if_true]
  unfold m_weight_of b_weight_of
  exact fin_ok (e' := [.va (stD s)]) (sRet_ok (dBin_ok (dBin_ok (e1 := [.va (stD s)]) (a := .int s.1) (b := .int s.2.2.2) rfl rfl q1) (dBin_ok (e1 := [.va (stD s)]) (a := .int s.2.1) (b := .int (s.2.2.2 - s.2.2.1)) rfl rfl q2) rfl))
/-- is_nearer's plain form -/
def nr (s t : S4) (i j : Nat) : Bool :=
  if s.2.2.1 = 0 ∨ t.2.2.1 = 0 then (if (decide (s.2.2.1 = 0)) = (decide (t.2.2.1 = 0)) then decide (i < j) else decide (t.2.2.1 = 0))
  else decide (wt s * t.2.2.1 < wt t * s.2.2.1) || (decide (wt s * t.2.2.1 = wt t * s.2.2.1) && decide (i < j))
theorem ix_sts {ss : List S4} {i : Nat} {s : S4} (h : ss[i]? = some s) : dIx (stsD ss) (.int i) = .ok (stD s) := by
  unfold stsD
  exact ix_tup (by rw [List.getElem?_map, h]; rfl)
end LW
end Dn

/-! P24c -/
set_option Elab.async false
set_option linter.all false
set_option maxRecDepth 100000
set_option maxHeartbeats 2000000
namespace Dn
namespace LW
open PySem
theorem sPar_to {i j : Nat} {ms : Av} {env e1 e2 : En} {a b : D} (h : ms env = .ok ([a, b], e1)) (k : (e1.set (i + 1) (.va a)).set (j + 1) (.va b) = e2) : sPar (i + 1) (j + 1) ms env = .ok (.nx, e2) := by
  unfold sPar
  rw [h, bnd_ok]
  show bnd (put (i + 1) (.va a) e1) _ = _
  rw [put_succ, bnd_ok, put_succ, bnd_ok, k]
theorem dOrV_ok {m1 m2 : Ev} {env e1 : En} {b : Bool} {r : M (D × En)} (h : m1 env = .ok (.bl b, e1)) (h2 : b = true → r = .ok (.bl true, e1)) (h3 : b = false → m2 e1 = r) : dOrV m1 m2 env = r := by
  unfold dOrV
  rw [h, bnd_ok]
  cases b with
  | true => exact (h2 rfl).symm
  | false => exact h3 rfl
theorem dAndV_ok {m1 m2 : Ev} {env e1 : En} {b : Bool} {r : M (D × En)} (h : m1 env = .ok (.bl b, e1)) (h2 : b = false → r = .ok (.bl false, e1)) (h3 : b = true → m2 e1 = r) : dAndV m1 m2 env = r := by
  unfold dAndV
  rw [h, bnd_ok]
  cases b with
  | false => exact (h2 rfl).symm
  | true => exact h3 rfl
theorem orand_ok {m1 m2 m3 : Ev} {env : En} {a b c : Bool} (h1 : m1 env = .ok (.bl a, env)) (h2 : m2 env = .ok (.bl b, env)) (h3 : m3 env = .ok (.bl c, env)) : dOrV m1 (dAndV m2 m3) env = .ok (.bl (a || (b && c)), env) := by
  refine dOrV_ok h1 (fun e => by rw [e]; rfl) fun e => dAndV_ok h2 (fun e2 => by rw [e, e2]; rfl) fun e2 => by rw [h3, e, e2]; rfl
theorem int_bl (p : Prop) [Decidable p] : bInt [.bl (decide p)] = .ok (.int (if p then 1 else 0)) := by
  rw [bInt_bl]
  by_cases h : p <;> simp [h]
theorem st_f {s : S4} {m : Ev} {env : En} (h : m env = .ok (stD s, env)) : dBin dIx (dBin dIx m (dC (.int 2))) (dC (.int 0)) env = .ok (.int s.2.2.1, env) := dBin_ok (dBin_ok h rfl st_ix.2.2) rfl rfl
theorem nearer_ok {ss : List S4} {i j : Nat} {s t : S4} (h : Sts ss) (hi : ss[i]? = some s) (hj : ss[j]? = some t) : m_is_nearer [stsD ss, .int (i : Nat), .int (j : Nat)] = .ok (.bl (nr s t i j)) := by
  have hs := h.ok s (List.mem_of_getElem? hi)
  have ht := h.ok t (List.mem_of_getElem? hj)
  obtain ⟨_, _, n3, _, _⟩ := OkS.na s hs
  obtain ⟨_, _, n3', _, _⟩ := OkS.na t ht
  have m1 : mulOk (wt s) t.2.2.1 = true := mulOk_of (wt_na hs) n3' (by decide)
  have m2 : mulOk (wt t) s.2.2.1 = true := mulOk_of (wt_na ht) n3 (by decide)
  have q1 : dMul (.int (wt s)) (.int t.2.2.1) = .ok (.int (wt s * t.2.2.1)) := by simp only [dMul, m1, if_true]
  have q2 : dMul (.int (wt t)) (.int s.2.2.1) = .ok (.int (wt t * s.2.2.1)) := by simp only [dMul, m2, if_true]
  have i1 := ix_sts hi
  have i2 := ix_sts hj
  have w1 := weight_ok hs
  have w2 := weight_ok ht
  unfold m_is_nearer b_is_nearer
  rw [show enter 7 [stsD ss, .int (i : Nat), .int (j : Nat)] = [.va (stsD ss), .va (.int (i : Nat)), .va (.int (j : Nat)), .un, .un, .un, .un] from rfl]
  rw [stp (sPar_to (i := 4) (j := 5) (a := stD s) (b := stD t) (e2 := [.va (stsD ss), .va (.int (i : Nat)), .va (.int (j : Nat)), .un, .un, .va (stD s), .va (stD t)]) (dCons_ok (dBin_ok rfl rfl i1) (dCons_ok (dBin_ok rfl rfl i2) rfl)) rfl)]
  rw [stp (sSet_to (i := 2) (d := .int (wt s * t.2.2.1)) (e2 := [.va (stsD ss), .va (.int (i : Nat)), .va (.int (j : Nat)), .va (.int (wt s * t.2.2.1)), .un, .va (stD s), .va (stD t)]) (dBin_ok (dCall1 rfl w1) (st_f (s := t) rfl) q1) rfl)]
  rw [stp (sSet_to (i := 3) (d := .int (wt t * s.2.2.1)) (e2 := [.va (stsD ss), .va (.int (i : Nat)), .va (.int (j : Nat)), .va (.int (wt s * t.2.2.1)), .va (.int (wt t * s.2.2.1)), .va (stD s), .va (stD t)]) (dBin_ok (dCall1 rfl w2) (st_f (s := s) rfl) q2) rfl)]
  have z1 : dBin dEq (dBin dIx (dBin dIx (dVar 5) (dC (.int 2))) (dC (.int 0))) (dC (.int 0)) [.va (stsD ss), .va (.int (i : Nat)), .va (.int (j : Nat)), .va (.int (wt s * t.2.2.1)), .va (.int (wt t * s.2.2.1)), .va (stD s), .va (stD t)] = .ok (.bl (decide (s.2.2.1 = 0)), [.va (stsD ss), .va (.int (i : Nat)), .va (.int (j : Nat)), .va (.int (wt s * t.2.2.1)), .va (.int (wt t * s.2.2.1)), .va (stD s), .va (stD t)]) := dBin_ok (st_f (s := s) rfl) rfl rfl
  have z2 : dBin dEq (dBin dIx (dBin dIx (dVar 6) (dC (.int 2))) (dC (.int 0))) (dC (.int 0)) [.va (stsD ss), .va (.int (i : Nat)), .va (.int (j : Nat)), .va (.int (wt s * t.2.2.1)), .va (.int (wt t * s.2.2.1)), .va (stD s), .va (stD t)] = .ok (.bl (decide (t.2.2.1 = 0)), [.va (stsD ss), .va (.int (i : Nat)), .va (.int (j : Nat)), .va (.int (wt s * t.2.2.1)), .va (.int (wt t * s.2.2.1)), .va (stD s), .va (stD t)]) := dBin_ok (st_f (s := t) rfl) rfl rfl
  have last : ∀ l r : Int, (sRet (dOrV (dBin dLt (dVar 3) (dVar 4)) (dAndV (dBin dEq (dVar 3) (dVar 4)) (dBin dLt (dVar 1) (dVar 2))))) [.va (stsD ss), .va (.int (i : Nat)), .va (.int (j : Nat)), .va (.int l), .va (.int r), .va (stD s), .va (stD t)] = .ok (.rt (.bl (decide (l < r) || (decide (l = r) && decide (i < j)))), [.va (stsD ss), .va (.int (i : Nat)), .va (.int (j : Nat)), .va (.int l), .va (.int r), .va (stD s), .va (stD t)]) := fun l r => by
    refine sRet_ok (orand_ok rfl rfl ?_)
    refine dBin_ok rfl rfl ((dLt_int _ _).trans ?_)
    have : ((i : Int) < (j : Int)) ↔ i < j := by omega
    rw [decide_eq_decide.mpr this]
  by_cases hz : s.2.2.1 = 0 ∨ t.2.2.1 = 0
  · have tt : dTOr (dTb (dBin dEq (dBin dIx (dBin dIx (dVar 5) (dC (.int 2))) (dC (.int 0))) (dC (.int 0)))) (dTb (dBin dEq (dBin dIx (dBin dIx (dVar 6) (dC (.int 2))) (dC (.int 0))) (dC (.int 0)))) [.va (stsD ss), .va (.int (i : Nat)), .va (.int (j : Nat)), .va (.int (wt s * t.2.2.1)), .va (.int (wt t * s.2.2.1)), .va (stD s), .va (stD t)] = .ok (true, [.va (stsD ss), .va (.int (i : Nat)), .va (.int (j : Nat)), .va (.int (wt s * t.2.2.1)), .va (.int (wt t * s.2.2.1)), .va (stD s), .va (stD t)]) := by
      by_cases h1 : s.2.2.1 = 0
      · rw [decide_eq_true h1] at z1
        exact dTOr_t (dTb_ok z1)
      · rw [decide_eq_false h1] at z1
        rw [decide_eq_true (hz.resolve_left h1)] at z2
        rw [dTOr_f (dTb_ok z1)]
        exact dTb_ok z2
    rw [stp ((sIf_t tt).trans (sPar_to (i := 2) (j := 3) (e2 := [.va (stsD ss), .va (.int (i : Nat)), .va (.int (j : Nat)), .va (.int (if s.2.2.1 = 0 then 1 else 0)), .va (.int (if t.2.2.1 = 0 then 1 else 0)), .va (stD s), .va (stD t)]) (dCons_ok (dCall1 z1 (int_bl _)) (dCons_ok (dCall1 z2 (int_bl _)) rfl)) rfl))]
    refine (fin_ok (last _ _)).trans ?_
    congr 2
    unfold nr
    rw [if_pos hz]
    by_cases h1 : s.2.2.1 = 0 <;> by_cases h2 : t.2.2.1 = 0 <;> simp [h1, h2]
  · rw [not_or] at hz
    have tt : dTOr (dTb (dBin dEq (dBin dIx (dBin dIx (dVar 5) (dC (.int 2))) (dC (.int 0))) (dC (.int 0)))) (dTb (dBin dEq (dBin dIx (dBin dIx (dVar 6) (dC (.int 2))) (dC (.int 0))) (dC (.int 0)))) [.va (stsD ss), .va (.int (i : Nat)), .va (.int (j : Nat)), .va (.int (wt s * t.2.2.1)), .va (.int (wt t * s.2.2.1)), .va (stD s), .va (stD t)] = .ok (false, [.va (stsD ss), .va (.int (i : Nat)), .va (.int (j : Nat)), .va (.int (wt s * t.2.2.1)), .va (.int (wt t * s.2.2.1)), .va (stD s), .va (stD t)]) := by
      rw [decide_eq_false hz.1] at z1
      rw [decide_eq_false hz.2] at z2
      rw [dTOr_f (dTb_ok z1)]
      exact dTb_ok z2
    rw [stp ((sIf_f tt).trans rfl)]
    refine (fin_ok (last _ _)).trans ?_
    unfold nr
    rw [if_neg (not_or.mpr hz)]
end LW
end Dn

/-! P24d -/
set_option Elab.async false
set_option linter.all false
set_option maxRecDepth 100000
set_option maxHeartbeats 2000000
namespace Dn
namespace LW
open PySem
/-! ### rows_of -/
def pw : Nat → Int
  | 0 => 1
  | k + 1 => pw k * 1024
theorem pw_pos : ∀ k, 0 < pw k
  | 0 => by decide
  | k + 1 => by unfold pw; have := pw_pos k; omega
theorem pw_le {a b : Nat} (h : a ≤ b) : pw a ≤ pw b := by
  induction h with
  | refl => exact Int.le_refl _
  | @step m h ih =>
    have := pw_pos m
    have e : pw (m + 1) = pw m * 1024 := rfl
    show pw a ≤ pw (m + 1)
    omega
theorem pw21 : pw 21 = 1645504557321206042154969182557350504982735865633579863348609024 := by decide
theorem pw_na {x : Int} {k : Nat} (h0 : 0 ≤ x) (h : x ≤ pw k) (hk : k ≤ 21) : x.natAbs < 2 ^ 211 := by
  have h1 := pw_le hk
  rw [pw21] at h1
  have e : (2 : Nat) ^ 211 = 3291009114642412084309938365114701009965471731267159726697218048 := by decide
  omega
def RowOk (d : D) : Prop := ∃ u v c : Int, d = .tup [.int u, .int v, .int c] ∧ 0 ≤ u ∧ u ≤ pw 21 ∧ 0 < v ∧ v ≤ pw 21 ∧ 0 ≤ c ∧ c ≤ 1000000000000000
abbrev RB : Sv := (bSeq (sAsg (dBin dIx (dVar 0) (dVar 3)) (gTupD (lenOf 3 (gsCons (gSet 8) (gsCons (gSet 9) (gsCons (gSet 10) (gsNil)))))))
  (bSeq (sAug 6 aAdd (dVar 8))
  (bSeq (sDrop (dMeth fApp 2 (dCons (dTup (dCons (dBin dMul (dVar 4) (dBin dIx (dVar 10) (dC (.int 0)))) (dCons (dBin dMul (dVar 5) (dBin dIx (dVar 10) (dC (.int 1)))) (dCons (dBin dAdd (dVar 6) (dVar 7)) (dNil))))) (dNil))))
  (bSeq (sPar 4 5 (dCons (dBin dMul (dVar 4) (dBin dSub (dBin dIx (dVar 10) (dC (.int 1))) (dBin dIx (dVar 10) (dC (.int 0))))) (dCons (dBin dMul (dVar 5) (dBin dIx (dVar 10) (dC (.int 1)))) (dNil))))
  (sAug 7 aAdd (dVar 9))))))
theorem mul_ok {i j : Int} (h1 : i.natAbs < 2 ^ 600) (h2 : j.natAbs < 2 ^ 600) : dMul (.int i) (.int j) = .ok (.int (i * j)) := by
  simp only [dMul, mulOk60 h1 h2, if_true]
theorem na_mono {x : Int} {a b : Nat} (h : x.natAbs < 2 ^ a) (hab : a ≤ b) : x.natAbs < 2 ^ b := Nat.lt_of_lt_of_le h (Nat.pow_le_pow_right (by decide) hab)
theorem sAug_to {i : Nat} {m : Ev} {env e2 : En} {a b : Int} (h0 : env[i + 1]? = some (.va (.int a))) (h : m env = .ok (.int b, env)) (k : env.set (i + 1) (.va (.int (a + b))) = e2) : sAug (i + 1) aAdd m env = .ok (.nx, e2) := by
  unfold sAug
  rw [h0]
  simp only []
  rw [h, bnd_ok, show aAdd (.int a) (.int b) = .ok (.int (a + b)) from rfl, bnd_ok, put_succ, bnd_ok, k]
theorem sAsg_to {m : Ev} {mt : Gv} {env e1 e2 : En} {d : D} (h : m env = .ok (d, e1)) (k : mt d e1 = .ok e2) : sAsg m mt env = .ok (.nx, e2) := by
  unfold sAsg
  rw [h, bnd_ok]
  simp only [k, ns_ok, bnd_ok]
theorem rb_ok {A O : D} {s : S4} {n : Nat} {rows : List D} {up down spent back : Int} {y8 y9 y10 : Sl} (h : OkS s) (hi : dIx A (.int n) = .ok (stD s)) (hl : rows.length < 1000) (nu : up.natAbs < 2 ^ 211) (nd : down.natAbs < 2 ^ 211) :
    RB [.va A, .va O, .ow (.lst rows), .va (.int n), .va (.int up), .va (.int down), .va (.int spent), .va (.int back), y8, y9, y10] = .ok (.nx, [.va A, .va O, .ow (.lst (rows ++ [.tup [.int (up * s.2.2.1), .int (down * s.2.2.2), .int (spent + s.1 + back)]])), .va (.int n), .va (.int (up * (s.2.2.2 - s.2.2.1))), .va (.int (down * s.2.2.2)), .va (.int (spent + s.1)), .va (.int (back + s.2.1)), .va (.int s.1), .va (.int s.2.1), .va (.tup [.int s.2.2.1, .int s.2.2.2])]) := by
  obtain ⟨n1, n2, n3, n4, n5⟩ := OkS.na s h
  have w : ∀ {x : Int} {a : Nat}, x.natAbs < 2 ^ a → a ≤ 600 → x.natAbs < 2 ^ 600 := fun h1 h2 => na_mono h1 h2
  have q1 := mul_ok (w nu (by decide)) (w n3 (by decide))
  have q2 := mul_ok (w nd (by decide)) (w n4 (by decide))
  have q3 := mul_ok (w nu (by decide)) (w n5 (by decide))
  unfold RB
  rw [stp (sAsg_to (e2 := [.va A, .va O, .ow (.lst rows), .va (.int n), .va (.int up), .va (.int down), .va (.int spent), .va (.int back), .va (.int s.1), .va (.int s.2.1), .va (.tup [.int s.2.2.1, .int s.2.2.2])]) (dBin_ok rfl rfl hi) rfl)]
  rw [stp (sAug_to (i := 5) (a := spent) (b := s.1) (e2 := [.va A, .va O, .ow (.lst rows), .va (.int n), .va (.int up), .va (.int down), .va (.int (spent + s.1)), .va (.int back), .va (.int s.1), .va (.int s.2.1), .va (.tup [.int s.2.2.1, .int s.2.2.2])]) rfl rfl rfl)]
  rw [stp (meth_app (i := 2) (ds := rows) rfl (dCons_ok (dTup_ok (dCons_ok (dBin_ok rfl (dBin_ok rfl rfl rfl) q1) (dCons_ok (dBin_ok rfl (dBin_ok rfl rfl rfl) q2) (dCons_ok (dBin_ok rfl rfl rfl) rfl))) (by simp)) rfl) hl)]
  rw [stp (sPar_to (i := 3) (j := 4) (a := .int (up * (s.2.2.2 - s.2.2.1))) (b := .int (down * s.2.2.2)) (e2 := [.va A, .va O, .ow (.lst (rows ++ [.tup [.int (up * s.2.2.1), .int (down * s.2.2.2), .int (spent + s.1 + back)]])), .va (.int n), .va (.int (up * (s.2.2.2 - s.2.2.1))), .va (.int (down * s.2.2.2)), .va (.int (spent + s.1)), .va (.int back), .va (.int s.1), .va (.int s.2.1), .va (.tup [.int s.2.2.1, .int s.2.2.2])]) (dCons_ok (dBin_ok rfl (dBin_ok (dBin_ok rfl rfl rfl) (dBin_ok rfl rfl rfl) rfl) q3) (dCons_ok (dBin_ok rfl (dBin_ok rfl rfl rfl) q2) rfl)) rfl)]
  exact sAug_to (i := 6) (a := back) (b := s.2.1) rfl rfl rfl
def natL (ns : List Nat) : D := .lst (ns.map fun k => D.int ((k : Nat) : Int))
def Ord (ss : List S4) (ns : List Nat) : Prop := ns.length ≤ 20 ∧ ∀ n, n ∈ ns → ∃ s, ss[n]? = some s
theorem rows_ok {ss : List S4} {ns : List Nat} (h : Sts ss) (ho : Ord ss ns) : ∃ rows, m_rows_of [stsD ss, natL ns] = .ok (.lst rows) ∧ rows.length ≤ 21 ∧ ∀ r, r ∈ rows → RowOk r := by
  obtain ⟨e', k1, rows, y3, up, down, spent, back, y8, y9, y10, rfl, hl, hr, u0, u1, d0, d1, s0, s1, b0, b1⟩ := forL_nxi (mt := gSet 3) (mb := RB) (fun k e => ∃ (rows : List D) (y3 : Sl) (up down spent back : Int) (y8 y9 y10 : Sl), e = [.va (stsD ss), .va (natL ns), .ow (.lst rows), y3, .va (.int up), .va (.int down), .va (.int spent), .va (.int back), y8, y9, y10] ∧ rows.length = k ∧ (∀ r, r ∈ rows → RowOk r) ∧
      0 ≤ up ∧ up ≤ pw k ∧ 0 < down ∧ down ≤ pw k ∧ 0 ≤ spent ∧ spent ≤ k * 1000000000000 ∧ 0 ≤ back ∧ back ≤ k * 1000000000000) (ns.map fun k => D.int ((k : Nat) : Int)) 0 [.va (stsD ss), .va (natL ns), .ow (.lst []), .un, .va (.int 1), .va (.int 1), .va (.int 0), .va (.int 0), .un, .un, .un] (by
    rintro i d hd e ⟨rows, y3, up, down, spent, back, y8, y9, y10, rfl, hl, hr, u0, u1, d0, d1, s0, s1, b0, b1⟩
    rw [Nat.zero_add] at hl u1 d1 s1 b1
    rw [Nat.zero_add]
    rw [List.getElem?_map] at hd
    obtain ⟨n, hn, rfl⟩ := Option.map_eq_some_iff.mp hd
    have hi20 : i < 20 := Nat.lt_of_lt_of_le (List.getElem?_eq_some_iff.mp hn).1 ho.1
    obtain ⟨s, hs⟩ := ho.2 n (List.mem_of_getElem? hn)
    have os := h.ok s (List.mem_of_getElem? hs)
    have q := rb_ok (A := stsD ss) (O := natL ns) (n := n) (rows := rows) (spent := spent) (back := back) (y8 := y8) (y9 := y9) (y10 := y10) os (ix_sts hs) (by omega) (pw_na u0 u1 (by omega)) (pw_na (Int.le_of_lt d0) d1 (by omega))
    obtain ⟨a0, a1, c0, c1, f0, f1, g1⟩ := os
    have m21 : pw (i + 1) ≤ pw 21 := pw_le (by omega)
    have up1 : ∀ x : Int, 0 ≤ x → x ≤ 1000 → 0 ≤ up * x ∧ up * x ≤ pw (i + 1) := fun x x0 x1 => by
      have := Int.mul_le_mul u1 (show x ≤ 1024 by omega) x0 (Int.le_of_lt (pw_pos i))
      exact ⟨Int.mul_nonneg u0 x0, this⟩
    have dn1 : 0 < down * s.2.2.2 ∧ down * s.2.2.2 ≤ pw (i + 1) := by
      have := Int.mul_le_mul d1 (show s.2.2.2 ≤ 1024 by omega) (by omega) (Int.le_of_lt (pw_pos i))
      exact ⟨Int.mul_pos d0 (by omega), this⟩
    obtain ⟨p1, p2⟩ := up1 s.2.2.1 f0 (by omega)
    obtain ⟨p3, p4⟩ := up1 (s.2.2.2 - s.2.2.1) (by omega) (by omega)
    refine ⟨[.va (stsD ss), .va (natL ns), .ow (.lst rows), .va (.int n), .va (.int up), .va (.int down), .va (.int spent), .va (.int back), y8, y9, y10], _, rfl, q, _, _, _, _, _, _, _, _, _, rfl, by simp [hl], fun r hr' => ?_, p3, p4, dn1.1, dn1.2, by omega, by omega, by omega, by omega⟩
    rcases List.mem_append.mp hr' with z | z
    · exact hr r z
    · rw [List.mem_singleton.mp z]
      exact ⟨_, _, _, rfl, p1, by omega, dn1.1, by omega, by omega, by omega⟩) ⟨[], .un, 1, 1, 0, 0, .un, .un, .un, rfl, rfl, (fun _ z => by cases z), by decide, by decide, by decide, by decide, by decide, by decide, by decide, by decide⟩
  rw [Nat.zero_add, List.length_map] at hl u1 d1 s1 b1
  have m20 : pw ns.length ≤ pw 21 := pw_le (by have := ho.1; omega)
  have hns := ho.1
  refine ⟨rows ++ [.tup [.int up, .int down, .int spent]], ?_, by simp; omega, fun r hr' => ?_⟩
  · unfold m_rows_of b_rows_of
    rw [show enter 11 [stsD ss, natL ns] = [.va (stsD ss), .va (natL ns), .un, .un, .un, .un, .un, .un, .un, .un, .un] from rfl]
    rw [stp (sAsg_to (d := .tup [.int 1, .int 1, .int 0, .int 0]) (e1 := [.va (stsD ss), .va (natL ns), .un, .un, .un, .un, .un, .un, .un, .un, .un]) (e2 := [.va (stsD ss), .va (natL ns), .un, .un, .va (.int 1), .va (.int 1), .va (.int 0), .va (.int 0), .un, .un, .un]) (dTup_ok (dCons_ok rfl (dCons_ok rfl (dCons_ok rfl (dCons_ok rfl rfl)))) (by simp)) rfl)]
    rw [stp (sSetO_to (i := 1) (d := .lst []) (e2 := [.va (stsD ss), .va (natL ns), .ow (.lst []), .un, .va (.int 1), .va (.int 1), .va (.int 0), .va (.int 0), .un, .un, .un]) (dLst_ok rfl (by simp)) rfl)]
    rw [stp (sFor_ok (mi := dItems (dVar 1)) rfl k1)]
    exact fin_ok (sRet_ok (dBin_ok rfl (dLst_ok (dCons_ok (dTup_ok (dCons_ok rfl (dCons_ok rfl (dCons_ok rfl rfl))) (by simp)) rfl) (by simp)) (add_lst (by simp; omega))))
  · rcases List.mem_append.mp hr' with z | z
    · exact hr r z
    · rw [List.mem_singleton.mp z]
      exact ⟨_, _, _, rfl, u0, by omega, d0, by omega, by omega, by omega⟩
end LW
end Dn

/-! P24e -/
set_option Elab.async false
set_option linter.all false
set_option maxRecDepth 100000
set_option maxHeartbeats 2000000
namespace Dn
namespace LW
open PySem
/-! ### mean_of -/
theorem dLc_okv {mi : Iv} {mt : Gv} {tt : Tv} {te : Ev} {vs : List Nat} {env env0 : En} {ds rs : List D} (h : mi env = .ok (ds, env)) (h0 : noOw env vs = true) (h1 : wipeE env vs = env0) (h2 : lcL mt tt te vs ds env0 = .ok (rs, env0)) (h3 : rs.length ≤ 1000) (h4 : resE env env0 vs = env) : dLc mi mt tt te vs env = .ok (.lst rs, env) := by
  unfold dLc
  rw [h, bnd_ok]
  simp only [h0, if_true, h1, h2, ns_ok, bnd_ok, le_maxSeq h3, h4]
def tv (w : Int) : D → Int
  | .tup [.int u, .int v, .int c] => u * (w / v) * c
  | _ => 0
theorem tv_rng {w : Int} {r : D} (h0 : 0 < w) (h1 : w ≤ pw 20) (h : RowOk r) : 0 ≤ tv w r ∧ (tv w r).natAbs < 2 ^ 500 := by
  obtain ⟨u, v, c, rfl, u0, u1, v0, v1, c0, c1⟩ := h
  show 0 ≤ u * (w / v) * c ∧ (u * (w / v) * c).natAbs < 2 ^ 500
  have q0 : 0 ≤ w / v := Int.ediv_nonneg (by omega) (by omega)
  have q1 : w / v ≤ w := Int.ediv_le_self v (by omega)
  have m20 : pw 20 ≤ pw 21 := pw_le (by omega)
  have a1 : u.natAbs < 2 ^ 211 := pw_na u0 u1 (by omega)
  have a2 : (w / v).natAbs < 2 ^ 211 := pw_na q0 (show w / v ≤ pw 21 by omega) (by omega)
  have a3 : c.natAbs < 2 ^ 60 := by
    obtain ⟨z1, z2, z3⟩ := p2
    exact na c0 (by omega)
  refine ⟨Int.mul_nonneg (Int.mul_nonneg u0 q0) c0, ?_⟩
  exact na_mono (natAbs_mul_lt (natAbs_mul_lt a1 a2) a3) (by decide)
theorem sum_rng : ∀ {xs : List Int} {B : Int}, (∀ x, x ∈ xs → 0 ≤ x ∧ x ≤ B) → 0 ≤ xs.sum ∧ xs.sum ≤ xs.length * B
  | [], B, _ => by simp
  | x :: r, B, h => by
    have h1 := h x List.mem_cons_self
    have h2 := sum_rng (xs := r) (B := B) fun y hy => h y (List.mem_cons_of_mem _ hy)
    rw [List.sum_cons, List.length_cons]
    have e : ((r.length + 1 : Nat) : Int) * B = r.length * B + B := by rw [Int.natCast_add, Int.add_mul]; simp
    rw [e]
    omega
theorem whole_loop {A O : D} {y4 y5 y6 : Sl} : ∀ (ts : List S4) (w : Int) (k : Nat) (y3 : Sl), (∀ s, s ∈ ts → OkS s) → 0 < w → w ≤ pw k → k + ts.length ≤ 20 → ∃ (w' : Int) (y3' : Sl), forL (gSet 3) (sAug 2 aMul (dBin dIx (dBin dIx (dVar 3) (dC (.int 2))) (dC (.int 1)))) (ts.map stD) [.va A, .va O, .va (.int w), y3, y4, y5, y6] = .ok (.nx, [.va A, .va O, .va (.int w'), y3', y4, y5, y6]) ∧ 0 < w' ∧ w' ≤ pw 20
  | [], w, k, y3, _, h0, h1, h2 => ⟨w, y3, rfl, h0, Int.le_trans h1 (pw_le (by simpa using h2))⟩
  | s :: ts, w, k, y3, hs, h0, h1, h2 => by
    have os := hs s List.mem_cons_self
    obtain ⟨n1, n2, n3, n4, n5⟩ := OkS.na s os
    obtain ⟨a0, a1, b0, b1, f0, f1, d1⟩ := os
    rw [List.length_cons] at h2
    have p1 : w * s.2.2.2 ≤ pw (k + 1) := Int.mul_le_mul h1 (show s.2.2.2 ≤ 1024 by omega) (by omega) (Int.le_of_lt (pw_pos k))
    obtain ⟨w', y3', e, e1, e2⟩ := whole_loop ts (w * s.2.2.2) (k + 1) (.va (stD s)) (fun t ht => hs t (List.mem_cons_of_mem _ ht)) (Int.mul_pos h0 (by omega)) p1 (by omega)
    refine ⟨w', y3', ?_, e1, e2⟩
    refine forL_cons (e1 := [.va A, .va O, .va (.int w), .va (stD s), y4, y5, y6]) rfl (e2 := [.va A, .va O, .va (.int (w * s.2.2.2)), .va (stD s), y4, y5, y6]) ?_ e
    have qa : aMul (.int w) (.int s.2.2.2) = .ok (.int (w * s.2.2.2)) := by
      have q : (decide (w.natAbs < 18446744073709551616) || decide ((s.2.2.2).natAbs < 18446744073709551616)) = true := by
        rw [Bool.or_eq_true]
        exact .inr (decide_eq_true (by omega))
      simp only [aMul, dIntOp, q, if_true]
    unfold sAug
    show bnd (dBin dIx (dBin dIx (dVar 3) (dC (.int 2))) (dC (.int 1)) [.va A, .va O, .va (.int w), .va (stD s), y4, y5, y6]) _ = _
    rw [dBin_ok (dBin_ok (m1 := dVar 3) (m2 := dC (.int 2)) (a := stD s) rfl rfl rfl) rfl (show dIx (.tup [.int s.2.2.1, .int s.2.2.2]) (.int 1) = .ok (.int s.2.2.2) from rfl), bnd_ok]
    simp only [qa, bnd_ok, put_succ]
    rfl
theorem mean_ok {ss : List S4} {ns : List Nat} (h : Sts ss) (ho : Ord ss ns) : ∃ a b : Int, m_mean_of [stsD ss, natL ns] = .ok (.tup [.int a, .int b]) ∧ 0 ≤ a ∧ 0 < b ∧ a.natAbs < 2 ^ 600 ∧ b.natAbs < 2 ^ 600 := by
  obtain ⟨rows, e1, l1, hr⟩ := rows_ok h ho
  obtain ⟨w, y3, e2, w0, w1⟩ := whole_loop (A := stsD ss) (O := natL ns) (y4 := .un) (y5 := .un) (y6 := .un) ss 1 0 .un h.ok (by decide) (by decide) (by have := h.l2; omega)
  have b20 : w.natAbs < 2 ^ 211 := pw_na (Int.le_of_lt w0) w1 (by omega)
  have sb : 0 ≤ (rows.map (tv w)).sum ∧ (rows.map (tv w)).sum ≤ (rows.map (tv w)).length * ((2 ^ 500 : Nat) : Int) := sum_rng fun x hx => by
    obtain ⟨r, h1, rfl⟩ := List.mem_map.mp hx
    have := tv_rng w0 w1 (hr r h1)
    omega
  rw [List.length_map] at sb
  refine ⟨(rows.map (tv w)).sum, w, ?_, sb.1, w0, ?_, na_mono b20 (by decide)⟩
  · unfold m_mean_of b_mean_of
    rw [show enter 7 [stsD ss, natL ns] = [.va (stsD ss), .va (natL ns), .un, .un, .un, .un, .un] from rfl]
    rw [stp (sSet_to (i := 1) (d := .int 1) (e' := [.va (stsD ss), .va (natL ns), .un, .un, .un, .un, .un]) (e2 := [.va (stsD ss), .va (natL ns), .va (.int 1), .un, .un, .un, .un]) rfl rfl)]
    rw [stp (sFor_ok (mi := dItems (dVar 0)) (e1 := [.va (stsD ss), .va (natL ns), .va (.int 1), .un, .un, .un, .un]) rfl e2)]
    have lc : dLc (dItems (dCall m_rows_of (dCons (dVar 0) (dCons (dVar 1) (dNil))))) (gTupD (lenOf 3 (gsCons (gSet 4) (gsCons (gSet 5) (gsCons (gSet 6) (gsNil)))))) (dYes) (dBin dMul (dBin dMul (dVar 4) (dBin dFdiv (dVar 2) (dVar 5))) (dVar 6)) [4, 5, 6] [.va (stsD ss), .va (natL ns), .va (.int w), y3, .un, .un, .un] = .ok (.lst (rows.map fun r => .int (tv w r)), [.va (stsD ss), .va (natL ns), .va (.int w), y3, .un, .un, .un]) := by
      refine dLc_okv (dItems_lst (dCall2 rfl rfl e1)) rfl rfl (lcL_map _ fun r hr' => ?_) (by rw [List.length_map]; omega) rfl
      have t0 := tv_rng w0 w1 (hr r hr')
      obtain ⟨u, v, c, rfl, u0, u1, v0, v1, c0, c1⟩ := hr r hr'
      have a1 : u.natAbs < 2 ^ 211 := pw_na u0 u1 (by omega)
      have a2 : v.natAbs < 2 ^ 211 := pw_na (Int.le_of_lt v0) v1 (by omega)
      have q0 : 0 ≤ w / v := Int.ediv_nonneg (by omega) (by omega)
      have q1 : w / v ≤ w := Int.ediv_le_self v (by omega)
      have a4 : (w / v).natAbs < 2 ^ 211 := pw_na q0 (show w / v ≤ pw 20 by omega) (by omega)
      have a3 : c.natAbs < 2 ^ 60 := by
        obtain ⟨z1, z2, z3⟩ := p2
        exact na c0 (by omega)
      have dv : dFdiv (.int w) (.int v) = .ok (.int (w / v)) := by
        have : divOk w v = true := divOk_of v0 a2 (by decide)
        simp only [dFdiv, dIntOp, this, if_true]
      have m1 := mul_ok (na_mono a1 (show 211 ≤ 600 by decide)) (na_mono a4 (show 211 ≤ 600 by decide))
      have m2 := mul_ok (na_mono (natAbs_mul_lt a1 a4) (show 211 + 211 ≤ 600 by decide)) (na_mono a3 (show 60 ≤ 600 by decide))
      refine ⟨[.va (stsD ss), .va (natL ns), .va (.int w), y3, .va (.int u), .va (.int v), .va (.int c)], [.va (stsD ss), .va (natL ns), .va (.int w), y3, .va (.int u), .va (.int v), .va (.int c)], rfl, ?_, rfl⟩
      exact dBin_ok (dBin_ok rfl (dBin_ok rfl rfl dv) m1) rfl m2
    refine fin_ok (sRet_ok (dTup_ok (dCons_ok (dCall1 lc ?_) (dCons_ok rfl rfl)) (by simp)))
    rw [show (rows.map fun r => D.int (tv w r)) = (rows.map (tv w)).map D.int by rw [List.map_map]; rfl, bSum_map]
  · have h1 : (rows.length : Int) ≤ 21 := by omega
    have h2 : (rows.length : Int) * ((2 ^ 500 : Nat) : Int) ≤ 21 * ((2 ^ 500 : Nat) : Int) := Int.mul_le_mul_of_nonneg_right h1 (by omega)
    have h3 : 21 * 2 ^ 500 < 2 ^ 600 := by decide
    omega
end LW
end Dn

/-! P24f -/
set_option Elab.async false
set_option linter.all false
set_option maxRecDepth 100000
set_option maxHeartbeats 2000000
namespace Dn
namespace LW
open PySem
/-! ### the order by weights -/
def near (ss : List S4) (y x : Nat) : Bool := match ss[y]?, ss[x]? with
  | some s, some t => nr s t y x
  | _, _ => false
theorem near_of {ss : List S4} {y x : Nat} {s t : S4} (h : ss[y]? = some s) (h2 : ss[x]? = some t) : near ss y x = nr s t y x := by unfold near; rw [h, h2]
theorem near_some {ss : List S4} {y x : Nat} (h : near ss y x = true) : ∃ s t, ss[y]? = some s ∧ ss[x]? = some t ∧ nr s t y x = true := by
  unfold near at h
  split at h
  · rename_i s t h1 h2; exact ⟨s, t, h1, h2, h⟩
  · cases h
theorem le_cancel {a b c : Int} (hc : 0 < c) (h : a * c ≤ b * c) : a ≤ b := Int.le_of_mul_le_mul_right h hc
theorem nr_trans {s t u : S4} {i j k : Nat} (hs : OkS s) (ht : OkS t) (hu : OkS u) (h1 : nr s t i j = true) (h2 : nr t u j k = true) : nr s u i k = true := by
  have s0 := hs.f0
  have t0 := ht.f0
  have u0 := hu.f0
  unfold nr at h1 h2 ⊢
  by_cases zs : s.2.2.1 = 0 <;> by_cases zt : t.2.2.1 = 0 <;> by_cases zu : u.2.2.1 = 0 <;> simp [zs, zt, zu] at h1 h2 ⊢
  · omega
  · have sp : 0 < s.2.2.1 := by omega
    have tp : 0 < t.2.2.1 := by omega
    have up : 0 < u.2.2.1 := by omega
    have a1 : wt s * t.2.2.1 ≤ wt t * s.2.2.1 := by rcases h1 with h | h <;> omega
    have a2 : wt t * u.2.2.1 ≤ wt u * t.2.2.1 := by rcases h2 with h | h <;> omega
    have b1 : wt s * t.2.2.1 * u.2.2.1 ≤ wt t * s.2.2.1 * u.2.2.1 := Int.mul_le_mul_of_nonneg_right a1 (by omega)
    have b2 : wt t * u.2.2.1 * s.2.2.1 ≤ wt u * t.2.2.1 * s.2.2.1 := Int.mul_le_mul_of_nonneg_right a2 (by omega)
    have e1 : wt s * t.2.2.1 * u.2.2.1 = wt s * u.2.2.1 * t.2.2.1 := Int.mul_right_comm _ _ _
    have e2 : wt t * s.2.2.1 * u.2.2.1 = wt t * u.2.2.1 * s.2.2.1 := Int.mul_right_comm _ _ _
    have e3 : wt u * t.2.2.1 * s.2.2.1 = wt u * s.2.2.1 * t.2.2.1 := Int.mul_right_comm _ _ _
    have c1 : wt s * u.2.2.1 ≤ wt u * s.2.2.1 := le_cancel tp (by omega)
    by_cases c2 : wt s * u.2.2.1 = wt u * s.2.2.1
    · refine .inr ⟨c2, ?_⟩
      have e4 : wt s * u.2.2.1 * t.2.2.1 = wt u * s.2.2.1 * t.2.2.1 := by rw [c2]
      rcases h1 with h | ⟨_, h⟩
      · exfalso
        have := Int.mul_lt_mul_of_pos_right h up
        omega
      · rcases h2 with h' | ⟨_, h'⟩
        · exfalso
          have := Int.mul_lt_mul_of_pos_right h' sp
          omega
        · omega
    · exact .inl (by omega)
theorem nr_total {s t : S4} {i j : Nat} (hij : i ≠ j) : nr s t i j = true ∨ nr t s j i = true := by
  unfold nr
  by_cases zs : s.2.2.1 = 0 <;> by_cases zt : t.2.2.1 = 0 <;> simp [zs, zt]
  · omega
  · omega
def insN (ss : List S4) (x : Nat) (fs : List Nat) : List Nat :=
  fs.take (fs.filter fun y => near ss y x).length ++ [x] ++ fs.drop (fs.filter fun y => near ss y x).length
theorem take_drop_mem {fs : List Nat} {n y : Nat} : y ∈ fs.take n ∨ y ∈ fs.drop n ↔ y ∈ fs := by
  rw [← List.mem_append, List.take_append_drop]
theorem split_near {ss : List S4} {x : Nat} {P : Nat → Prop} (ht : ∀ y z, P y → P z → near ss y z = true → near ss z x = true → near ss y x = true) : ∀ {fs : List Nat}, (∀ y, y ∈ fs → P y) → fs.Pairwise (fun y z => near ss y z = true) →
    (∀ y, y ∈ fs.take (fs.filter fun y => near ss y x).length → near ss y x = true) ∧ (∀ y, y ∈ fs.drop (fs.filter fun y => near ss y x).length → near ss y x = false)
  | [], _, _ => ⟨(fun y h => by simp at h), (fun y h => by simp at h)⟩
  | f :: fs, hP, h => by
    rw [List.pairwise_cons] at h
    have ih := split_near ht (fun y hy => hP y (List.mem_cons_of_mem _ hy)) h.2
    rw [List.filter_cons]
    cases q : near ss f x with
    | true =>
      simp only [if_true, List.length_cons, List.take_succ_cons, List.drop_succ_cons]
      refine ⟨fun y hy => ?_, ih.2⟩
      rcases List.mem_cons.mp hy with rfl | hy
      · exact q
      · exact ih.1 y hy
    | false =>
      have none : ∀ y, y ∈ fs → near ss y x = false := fun y hy => by
        cases z : near ss y x with
        | false => rfl
        | true => rw [ht f y (hP f List.mem_cons_self) (hP y (List.mem_cons_of_mem _ hy)) (h.1 y hy) z] at q; cases q
      have e : fs.filter (fun y => near ss y x) = [] := by
        rw [List.filter_eq_nil_iff]
        intro y hy
        rw [none y hy]
        exact Bool.false_ne_true
      simp only [Bool.false_eq_true, if_false, e, List.length_nil, List.take_zero, List.drop_zero]
      refine ⟨(fun y hy => by cases hy), fun y hy => ?_⟩
      rcases List.mem_cons.mp hy with rfl | hy
      · exact q
      · exact none y hy
theorem insN_perm (ss : List S4) (x : Nat) (fs : List Nat) : (insN ss x fs).Perm (x :: fs) := by
  unfold insN
  refine (List.perm_append_comm.append_right _).trans ?_
  rw [List.append_assoc, List.take_append_drop]
  exact .refl _
theorem insN_near {ss : List S4} {x : Nat} {fs : List Nat} (h : Sts ss) (hx : x < ss.length) (hf : ∀ y, y ∈ fs → y < ss.length ∧ y ≠ x) (hp : fs.Pairwise fun y z => near ss y z = true) : (insN ss x fs).Pairwise fun y z => near ss y z = true := by
  have at_ : ∀ y, y < ss.length → ∃ s, ss[y]? = some s ∧ OkS s := fun y hy => ⟨ss[y], List.getElem?_eq_getElem hy, h.ok _ (List.getElem_mem hy)⟩
  have tr : ∀ {a b c : Nat}, near ss a b = true → near ss b c = true → near ss a c = true := fun {a b c} h1 h2 => by
    obtain ⟨s, t, q1, q2, q3⟩ := near_some h1
    obtain ⟨t', u, q4, q5, q6⟩ := near_some h2
    rw [q2] at q4; cases q4
    rw [near_of q1 q5]
    exact nr_trans (h.ok _ (List.mem_of_getElem? q1)) (h.ok _ (List.mem_of_getElem? q2)) (h.ok _ (List.mem_of_getElem? q5)) q3 q6
  have sp := split_near (ss := ss) (x := x) (P := fun _ => True) (fun y z _ _ h1 h2 => tr h1 h2) (fun _ _ => trivial) hp
  have pre := sp.1
  have post : ∀ y, y ∈ fs.drop (fs.filter fun y => near ss y x).length → near ss x y = true := fun y hy => by
    have hy' := hf y (List.mem_of_mem_drop hy)
    obtain ⟨s, e1, _⟩ := at_ y hy'.1
    obtain ⟨t, e2, _⟩ := at_ x hx
    have n := sp.2 y hy
    rw [near_of e1 e2] at n
    rw [near_of e2 e1]
    rcases nr_total (s := s) (t := t) hy'.2 with z | z
    · rw [z] at n; cases n
    · exact z
  unfold insN
  rw [List.append_assoc, List.pairwise_append]
  refine ⟨List.Pairwise.sublist (List.take_sublist _ _) hp, ?_, fun a ha b hb => ?_⟩
  · rw [List.singleton_append, List.pairwise_cons]
    exact ⟨post, List.Pairwise.sublist (List.drop_sublist _ _) hp⟩
  · rcases List.mem_append.mp hb with hb | hb
    · rw [List.mem_singleton.mp hb]; exact pre a ha
    · exact tr (pre a ha) (post b hb)
def ordN (ss : List S4) : Nat → List Nat
  | 0 => []
  | k + 1 => insN ss k (ordN ss k)
theorem ordN_perm (ss : List S4) : ∀ k, (ordN ss k).Perm (List.range k)
  | 0 => .refl _
  | k + 1 => by
    rw [List.range_succ]
    exact (insN_perm ss k _).trans (((ordN_perm ss k).cons k).trans (List.perm_append_comm (l₁ := [k])))
theorem ordN_near {ss : List S4} (h : Sts ss) : ∀ {k : Nat}, k ≤ ss.length → (ordN ss k).Pairwise fun y z => near ss y z = true
  | 0, _ => List.Pairwise.nil
  | k + 1, hk => insN_near h (by omega) (fun y hy => by
      have := List.mem_range.mp ((ordN_perm ss k).mem_iff.mp hy)
      omega) (ordN_near h (by omega))
end LW
end Dn

/-! P24g -/
set_option Elab.async false
set_option linter.all false
set_option maxRecDepth 100000
set_option maxHeartbeats 2000000
namespace Dn
namespace LW
open PySem
/-! ### best_order -/
theorem dOSome_ok {m : Ev} {env e1 : En} {i : Int} (h : m env = .ok (.int i, e1)) : dOSome m env = .ok (some i, e1) := by
  unfold dOSome
  rw [h]
  rfl
theorem slice_lst {m : Ev} {ml mh : Ov} {env e1 e2 e3 : En} {ds : List D} {lo hi : Option Int} (h : m env = .ok (.lst ds, e1)) (h1 : ml e1 = .ok (lo, e2)) (h2 : mh e2 = .ok (hi, e3)) : dSlice m ml mh env = .ok (.lst (cutD ds lo hi), e3) := by
  unfold dSlice
  rw [h, bnd_ok, h1, bnd_ok, h2, bnd_ok]
  rfl
theorem slice_tup {m : Ev} {ml mh : Ov} {env e1 e2 e3 : En} {ds : List D} {lo hi : Option Int} (h : m env = .ok (.tup ds, e1)) (h1 : ml e1 = .ok (lo, e2)) (h2 : mh e2 = .ok (hi, e3)) : dSlice m ml mh env = .ok (.tup (cutD ds lo hi), e3) := by
  unfold dSlice
  rw [h, bnd_ok, h1, bnd_ok, h2, bnd_ok]
  rfl
theorem cut_take {α : Type} (ds : List α) (k : Nat) : cutD ds none (some ((k : Nat) : Int)) = ds.take k := by
  unfold cutD
  rw [HT.sIx_none, HT.sIx_nat, List.drop_zero, Nat.sub_zero, List.take_eq_take_iff]
  omega
theorem cut_drop {α : Type} (ds : List α) (k : Nat) : cutD ds (some ((k : Nat) : Int)) none = ds.drop k := by
  unfold cutD
  rw [HT.sIx_none, HT.sIx_nat]
  by_cases h : k ≤ ds.length
  · rw [Nat.min_eq_left h, List.take_of_length_le (by rw [List.length_drop]; omega)]
  · rw [Nat.min_eq_right (by omega), List.drop_of_length_le (Nat.le_refl _), List.drop_of_length_le (by omega)]
    simp
def nearD (ss : List S4) (x : Nat) : D → Bool
  | .int i => near ss i.toNat x
  | _ => false
abbrev QB : Sv := (bSeq (sSet 3 (dCall bLen (dCons (dLc (dItems (dVar 1)) (gSet 6) (dTr (dCall m_is_nearer (dCons (dVar 0) (dCons (dVar 6) (dCons (dVar 2) (dNil)))))) (dVar 6) [6]) (dNil))))
  (sSet 1 (dBin dAdd (dBin dAdd (dSlice (dVar 1) (dONone) (dOSome (dVar 3))) (dLst (dCons (dVar 2) (dNil)))) (dSlice (dVar 1) (dOSome (dVar 3)) (dONone)))))
theorem natL_filter (ss : List S4) (x : Nat) (fs : List Nat) : ((fs.map fun k => D.int ((k : Nat) : Int)).filter (nearD ss x)).length = (fs.filter fun y => near ss y x).length := by
  rw [List.filter_map, List.length_map]
  rfl
theorem qb_ok {ss : List S4} {x : Nat} {fs : List Nat} {y3 : Sl} (h : Sts ss) (hx : x < ss.length) (hf : ∀ y, y ∈ fs → y < ss.length) (hl : fs.length ≤ 20) :
    ∃ z3, QB [.va (stsD ss), .va (natL fs), .va (.int (x : Nat)), y3, .un, .un, .un] = .ok (.nx, [.va (stsD ss), .va (natL (insN ss x fs)), .va (.int (x : Nat)), z3, .un, .un, .un]) := by
  generalize hn : (fs.filter fun y => near ss y x).length = n
  have hnl : n ≤ fs.length := by rw [← hn]; exact List.length_filter_le _ _
  have lc : ∀ y3, (isOw [.va (stsD ss), .va (natL fs), .va (.int (x : Nat)), y3, .un, .un, .un] 6 = false) → dLc (dItems (dVar 1)) (gSet 6) (dTr (dCall m_is_nearer (dCons (dVar 0) (dCons (dVar 6) (dCons (dVar 2) (dNil)))))) (dVar 6) [6] [.va (stsD ss), .va (natL fs), .va (.int (x : Nat)), y3, .un, .un, .un] = .ok (.lst ((((fs.map fun k => D.int ((k : Nat) : Int)).filter (nearD ss x)).map id)), [.va (stsD ss), .va (natL fs), .va (.int (x : Nat)), y3, .un, .un, .un]) := fun y3 ho => by
    refine dLc_ok2 (ds := fs.map fun k => D.int ((k : Nat) : Int)) rfl ho rfl (lcL_fmap _ fun d hd => ?_) (by
      rw [List.length_map, natL_filter, hn]; omega)
    obtain ⟨y, hy, rfl⟩ := List.mem_map.mp hd
    have hy' := hf y hy
    have e1 := List.getElem?_eq_getElem hy'
    have e2 := List.getElem?_eq_getElem hx
    refine ⟨[.va (stsD ss), .va (natL fs), .va (.int (x : Nat)), y3, .un, .un, .va (.int (y : Nat))], [.va (stsD ss), .va (natL fs), .va (.int (x : Nat)), y3, .un, .un, .va (.int (y : Nat))], [.va (stsD ss), .va (natL fs), .va (.int (x : Nat)), y3, .un, .un, .va (.int (y : Nat))], rfl, dTr_bl (dCall3 rfl rfl rfl ?_), rfl, fun _ => ⟨rfl, rfl⟩⟩
    rw [nearer_ok h e1 e2]
    show _ = Except.ok (D.bl (near ss (Int.toNat (y : Int)) x))
    rw [Int.toNat_natCast, near_of e1 e2]
  refine ⟨.va (.int (n : Nat)), ?_⟩
  unfold QB
  rw [stp (sSet_to (i := 2) (d := .int (n : Nat)) (e2 := [.va (stsD ss), .va (natL fs), .va (.int (x : Nat)), .va (.int (n : Nat)), .un, .un, .un]) (dCall1 (lc y3 rfl) (by
    rw [List.map_id, show bLen [.lst ((fs.map fun k => D.int ((k : Nat) : Int)).filter (nearD ss x))] = .ok (.int (((fs.map fun k => D.int ((k : Nat) : Int)).filter (nearD ss x)).length : Nat)) by simp [bLen], natL_filter, hn])) rfl)]
  have s1 : dSlice (dVar 1) (dONone) (dOSome (dVar 3)) [.va (stsD ss), .va (natL fs), .va (.int (x : Nat)), .va (.int (n : Nat)), .un, .un, .un] = .ok (.lst ((fs.map fun k => D.int ((k : Nat) : Int)).take n), [.va (stsD ss), .va (natL fs), .va (.int (x : Nat)), .va (.int (n : Nat)), .un, .un, .un]) := by
    rw [← cut_take]
    exact slice_lst rfl rfl (dOSome_ok rfl)
  have s2 : dSlice (dVar 1) (dOSome (dVar 3)) (dONone) [.va (stsD ss), .va (natL fs), .va (.int (x : Nat)), .va (.int (n : Nat)), .un, .un, .un] = .ok (.lst ((fs.map fun k => D.int ((k : Nat) : Int)).drop n), [.va (stsD ss), .va (natL fs), .va (.int (x : Nat)), .va (.int (n : Nat)), .un, .un, .un]) := by
    rw [← cut_drop]
    exact slice_lst rfl (dOSome_ok rfl) rfl
  refine sSet_to (i := 0) (dBin_ok (dBin_ok s1 (dLst_ok (dCons_ok rfl rfl) (by simp)) (add_lst (by simp; omega))) s2 (add_lst (by simp; omega))) ?_
  unfold natL insN
  rw [hn, List.map_append, List.map_append, List.map_take, List.map_drop]
  rfl
theorem ord_of {ss : List S4} {k : Nat} (h : Sts ss) (hk : k ≤ ss.length) : (ordN ss k).length = k ∧ ∀ y, y ∈ ordN ss k → y < k := by
  have p := ordN_perm ss k
  exact ⟨by rw [p.length_eq, List.length_range], fun y hy => List.mem_range.mp (p.mem_iff.mp hy)⟩
def natT (ns : List Nat) : D := .tup (ns.map fun k => D.int ((k : Nat) : Int))
theorem best_ok {ss : List S4} (h : Sts ss) : ∃ r, m_best_order [stsD ss] = .ok (.tup [r, natT (ordN ss ss.length)]) := by
  have hl := h.l2
  obtain ⟨e', k1, y2, y3, rfl⟩ := forL_nxi (mt := gSet 2) (mb := QB) (fun k e => ∃ (y2 y3 : Sl), e = [.va (stsD ss), .va (natL (ordN ss k)), y2, y3, .un, .un, .un]) (rngD 0 1 ss.length) 0 [.va (stsD ss), .va (natL []), .un, .un, .un, .un, .un] (by
    rintro i d hd e ⟨y2, y3, rfl⟩
    rw [Nat.zero_add]
    rw [rng_eq, List.getElem?_map] at hd
    obtain ⟨j, hj, rfl⟩ := Option.map_eq_some_iff.mp hd
    obtain ⟨hlt, hj⟩ := List.getElem?_eq_some_iff.mp hj
    rw [List.getElem_range] at hj
    subst hj
    rw [List.length_range] at hlt
    obtain ⟨o1, o2⟩ := ord_of h (Nat.le_of_lt hlt)
    obtain ⟨z3, q⟩ := qb_ok (y3 := y3) h hlt (fun y hy => Nat.lt_trans (o2 y hy) hlt) (by omega)
    exact ⟨[.va (stsD ss), .va (natL (ordN ss i)), .va (.int (i : Nat)), y3, .un, .un, .un], _, rfl, q, _, _, rfl⟩) ⟨_, _, rfl⟩
  rw [Nat.zero_add, show (rngD 0 1 ss.length).length = ss.length by rw [rng_eq, List.length_map, List.length_range]] at k1
  obtain ⟨o1, o2⟩ := ord_of h (Nat.le_refl _)
  obtain ⟨a, b, q1, a0, b0, a1, b1⟩ := mean_ok h (ns := ordN ss ss.length) ⟨by omega, fun n hn => ⟨_, List.getElem?_eq_getElem (o2 n hn)⟩⟩
  obtain ⟨r, q2⟩ := lowest_ok a0 b0 a1 b1
  have bt : bTuple [natL (ordN ss ss.length)] = .ok (natT (ordN ss ss.length)) := by unfold natL natT; simp [bTuple]
  refine ⟨r, ?_⟩
  unfold m_best_order b_best_order
  rw [show enter 7 [stsD ss] = [.va (stsD ss), .un, .un, .un, .un, .un, .un] from rfl]
  rw [stp (sDrop_ok (dCall1 rfl (check_steps_ok h)))]
  rw [stp (sSet_to (i := 0) (d := natL []) (e2 := [.va (stsD ss), .va (natL []), .un, .un, .un, .un, .un]) (dLst_ok rfl (by simp)) rfl)]
  rw [stp (sFor_ok (dRng_ok (n := ss.length) (dCons_ok (dCall1 rfl (len_sts ss)) rfl) (smallI_of_le (by omega) (by omega))) k1)]
  rw [stp (sAsg_to (d := .tup [.int a, .int b]) (e1 := [.va (stsD ss), .va (natL (ordN ss ss.length)), y2, y3, .un, .un, .un]) (e2 := [.va (stsD ss), .va (natL (ordN ss ss.length)), y2, y3, .va (.int a), .va (.int b), .un]) (dCall2 rfl rfl q1) rfl)]
  exact fin_ok (sRet_ok (dTup_ok (dCons_ok (dCall2 rfl rfl q2) (dCons_ok (dCall1 rfl bt) rfl)) (by simp)))
end LW
end Dn

/-! P24h -/
set_option Elab.async false
set_option linter.all false
set_option maxRecDepth 100000
set_option maxHeartbeats 2000000
namespace Dn
namespace LW
open PySem
/-! ### k24: papers that are asked about -/
def SmallB (n : Nat) (ss : List Int) : Prop := ∀ s, s ∈ ss → s.natAbs < 2 ^ n
def OE (x : D) : Prop := x.ty ≠ none ∧ ∀ i, x = .int i → i.natAbs < 2 ^ 120
structure Own (d : D) : Prop where
  ty : d.ty ≠ none
  it : ∀ ds, d = .tup ds → ds.length ≤ 100 ∧ ∀ x, x ∈ ds → x.ty ≠ none ∧ ∀ i, x = .int i → i.natAbs < 2 ^ 120
theorem ix_seq {W : D} {ws : List Int} {k : Nat} (hW : seqD W = some (ws.map D.int)) (hk : k < ws.length) : dIx W (.int k) = .ok (.int ((ws[k]?).getD 0)) := by
  rw [List.getElem?_eq_getElem hk]
  cases W <;> first | cases hW; done | skip
  all_goals
    have e := Option.some.inj hW
    subst e
    simp [dIx, L2.atI, L2.ixN, hk]
theorem seq_ints (c : List Int) : seqD (intsD c) = some (c.map D.int) := rfl
theorem draw_ev {st : D} {R : List Sl} {m : Ev} {n : Int} (g : Good st) (hm : m (.ow st :: R) = .ok (.int n, .ow st :: R)) (h0 : 0 < n) (h1 : n < 1099511627776) : ∃ k st', dCallO m__law_draw 0 (dCons m (dNil)) (.ow st :: R) = .ok (.int k, .ow st' :: R) ∧ 0 ≤ k ∧ k < n ∧ Good st' := by
  obtain ⟨⟨d, st'⟩, e, k, hd, k0, k1, g'⟩ := wm_out (draw_ok g h0 h1)
  simp only at hd g'
  subst hd
  exact ⟨k, st', dCallO0 (dCons_ok hm rfl) e, k0, k1, g'⟩
theorem pick_ev {st : D} {R : List Sl} {m : Ev} {xs : List D} {st1 : D} (g : Good st1) (hm : m (.ow st :: R) = .ok (.lst xs, .ow st1 :: R)) (h0 : xs ≠ []) (h1 : xs.length < 1000000) : ∃ d st', dCallO m__law_pick 0 (dCons m (dNil)) (.ow st :: R) = .ok (d, .ow st' :: R) ∧ d ∈ xs ∧ Good st' := by
  obtain ⟨⟨d, st'⟩, e, hd, g'⟩ := wm_out (pick_ok g h0 h1)
  exact ⟨d, st', dCallO0 (dCons_ok hm rfl) e, hd, g'⟩
theorem slice_ok {m : Ev} {ml mh : Ov} {env e1 e2 e3 : En} {ds : List D} {lo hi : Option Int} (h : m env = .ok (.tup ds, e1)) (h1 : ml e1 = .ok (lo, e2)) (h2 : mh e2 = .ok (hi, e3)) : dSlice m ml mh env = .ok (.tup (cutD ds lo hi), e3) := by
  unfold dSlice
  rw [h, bnd_ok]
  simp only []
  rw [h1, bnd_ok]
  simp only []
  rw [h2]
  rfl
theorem mem_cut {ds : List D} {lo hi : Option Int} {x : D} (h : x ∈ cutD ds lo hi) : x ∈ ds := List.mem_of_mem_drop (List.mem_of_mem_take h)
theorem len_cut (ds : List D) (lo hi : Option Int) : (cutD ds lo hi).length ≤ ds.length := by
  unfold cutD
  rw [List.length_take, List.length_drop]
  omega
theorem add_tup {xs ys : List D} (h : xs.length + ys.length ≤ 1000) : dAdd (.tup xs) (.tup ys) = .ok (.tup (xs ++ ys)) := by
  simp only [dAdd, le_maxSeq h, if_true]
theorem own_tup {ds : List D} (h : ds.length ≤ 100) (h2 : ∀ x, x ∈ ds → OE x) : Own (.tup ds) := ⟨(fun e => by cases e), fun ds' e => by cases e; exact ⟨h, h2⟩⟩
theorem own_of {d : D} (h : d.ty ≠ none) (h2 : ∀ ds, d ≠ .tup ds) : Own d := ⟨h, fun ds e => absurd e (h2 ds)⟩
theorem own_ints {ws : List Int} (h : ws.length ≤ 100) (h2 : SmallB 120 ws) : Own (intsD ws) := own_tup (by rw [List.length_map]; exact h) fun x hx => by
  obtain ⟨i, hi, rfl⟩ := List.mem_map.mp hx
  exact ⟨(fun e => by cases e), fun j e => by cases e; exact h2 i hi⟩
theorem oe_int {i : Int} (h : i.natAbs < 2 ^ 120) : OE (.int i) := ⟨(fun e => by cases e), fun j e => by cases e; exact h⟩
theorem oe_non : OE .non := ⟨(fun e => by cases e), fun j e => by cases e⟩
theorem oe_bl (b : Bool) : OE (.bl b) := ⟨(fun e => by cases e), fun j e => by cases e⟩
theorem bent_ok {st : D} {ws : List Int} (g : Good st) (h0 : ws ≠ []) (hl : ws.length ≤ 40) (hb : SmallB 100 ws) : ∃ d st', m__law_bent st [intsD ws] = .ok (d, st') ∧ Own d ∧ Good st' := by
  have hlen : 0 < ws.length := List.length_pos_iff.mpr h0
  have lw := len_ints ws
  have wn : ∀ x, x ∈ ws.map D.int → OE x := fun x hx => by
    obtain ⟨i, hi, rfl⟩ := List.mem_map.mp hx
    exact oe_int (Nat.lt_trans (hb i hi) (by decide))
  obtain ⟨at', st1, q1, a0, a1, g1⟩ := draw_ev (R := [.va (intsD ws), .un, .un, .un]) (m := dCall bLen (dCons (dVar 1) (dNil))) g (dCall1 rfl lw) (by omega) (by omega)
  obtain ⟨how, st2, q2, b0, b1, g2⟩ := draw_ev (R := [.va (intsD ws), .un, .un, .un]) (m := dC (.int 7)) (n := 7) g1 rfl (by omega) (by omega)
  obtain ⟨k, rfl⟩ : ∃ k : Nat, at' = k := ⟨at'.toNat, by omega⟩
  have hk : k < ws.length := by omega
  have ip : dIx (intsD ws) (.int k) = .ok (.int ((ws[k]?).getD 0)) := ix_seq (seq_ints ws) hk
  have hp : ((ws[k]?).getD 0).natAbs < 2 ^ 100 := by rw [List.getElem?_eq_getElem hk]; exact hb _ (List.getElem_mem _)
  generalize (ws[k]?).getD 0 = p at ip hp
  unfold m__law_bent b__law_bent
  rw [show enterO 5 st [intsD ws] = [.ow st, .va (intsD ws), .un, .un, .un] from rfl]
  have t1 : dTr (dIsi "tuple" (dVar 1)) [.ow st, .va (intsD ws), .un, .un, .un] = .ok (true, [.ow st, .va (intsD ws), .un, .un, .un]) := rfl
  have t2 : dTr (dVar 1) [.ow st, .va (intsD ws), .un, .un, .un] = .ok (true, [.ow st, .va (intsD ws), .un, .un, .un]) := by
    unfold dTr
    rw [show dVar 1 [.ow st, .va (intsD ws), .un, .un, .un] = .ok (intsD ws, [.ow st, .va (intsD ws), .un, .un, .un]) from rfl, bnd_ok]
    cases ws with
    | nil => exact absurd rfl h0
    | cons _ _ => rfl
  rw [stp (e' := [.ow st, .va (intsD ws), .un, .un, .un]) (by rw [sIf_f (by rw [dTOr_f (dTNot_ok t1)]; exact dTNot_ok t2)]; rfl)]
  have sp : sPar 3 4 (dCons (dCallO m__law_draw 0 (dCons (dCall bLen (dCons (dVar 1) (dNil))) (dNil))) (dCons (dCallO m__law_draw 0 (dCons (dC (.int 7)) (dNil))) (dNil))) [.ow st, .va (intsD ws), .un, .un, .un] = .ok (.nx, [.ow st2, .va (intsD ws), .un, .va (.int k), .va (.int how)]) := by
    unfold sPar
    rw [dCons_ok q1 (dCons_ok q2 rfl)]
    rfl
  rw [stp sp]
  have s2 : sSet 2 (dBin dIx (dVar 1) (dVar 3)) [.ow st2, .va (intsD ws), .un, .va (.int k), .va (.int how)] = .ok (.nx, [.ow st2, .va (intsD ws), .va (.int p), .va (.int k), .va (.int how)]) := by
    rw [sSet_ok (i := 1) (e' := [.ow st2, .va (intsD ws), .un, .va (.int k), .va (.int how)]) (dBin_ok rfl rfl ip)]
    rfl
  rw [stp s2]
  have tl : dTb (dBin dLt (dVar 4) (dC (.int 4))) [.ow st2, .va (intsD ws), .va (.int p), .va (.int k), .va (.int how)] = .ok (decide (how < 4), [.ow st2, .va (intsD ws), .va (.int p), .va (.int k), .va (.int how)]) := dTb_ok (dBin_ok rfl rfl (dLt_int _ _))
  have sl1 : dSlice (dVar 1) (dONone) (dOSome (dVar 3)) [.ow st2, .va (intsD ws), .va (.int p), .va (.int k), .va (.int how)] = .ok (.tup (cutD (ws.map D.int) none (some k)), [.ow st2, .va (intsD ws), .va (.int p), .va (.int k), .va (.int how)]) := slice_ok rfl rfl (dOSome_ok rfl)
  have sl2 : ∀ st2, dSlice (dVar 1) (dOSome (dBin dAdd (dVar 3) (dC (.int 1)))) (dONone) [.ow st2, .va (intsD ws), .va (.int p), .va (.int k), .va (.int how)] = .ok (.tup (cutD (ws.map D.int) (some ((k : Int) + 1)) none), [.ow st2, .va (intsD ws), .va (.int p), .va (.int k), .va (.int how)]) := fun st2 => slice_ok rfl (dOSome_ok (dBin_ok rfl rfl rfl)) rfl
  have lc1 := len_cut (ws.map D.int) none (some (k : Int))
  have lc2 := len_cut (ws.map D.int) (some ((k : Int) + 1)) none
  rw [List.length_map] at lc1 lc2
  have m1 : ∀ x, x ∈ cutD (ws.map D.int) none (some (k : Int)) → OE x := fun x hx => wn x (mem_cut hx)
  have m2 : ∀ x, x ∈ cutD (ws.map D.int) (some ((k : Int) + 1)) none → OE x := fun x hx => wn x (mem_cut hx)
  generalize cutD (ws.map D.int) none (some (k : Int)) = c1 at sl1 lc1 m1
  generalize cutD (ws.map D.int) (some ((k : Int) + 1)) none = c2 at sl2 lc2 m2
  have nb : ∀ d, (how < 4 → d = false) → dTr (dIsi "tuple" (dVar 2)) [.ow st2, .va (intsD ws), .va (.int p), .va (.int k), .va (.int how)] = .ok (false, [.ow st2, .va (intsD ws), .va (.int p), .va (.int k), .va (.int how)]) := fun _ _ => rfl
  by_cases hh : how < 4
  · rw [decide_eq_true hh] at tl
    rw [stp (e' := [.ow st2, .va (intsD ws), .va (.int p), .va (.int k), .va (.int how)]) (by rw [sIf_f (by rw [dTAnd_t tl]; rfl)]; rfl)]
    have pe := pick_ev (st := st2) (st1 := st2) (R := [.va (intsD ws), .va (.int p), .va (.int k), .va (.int how)]) (m := dLst (dCons (dBin dAdd (dVar 2) (dC (.int 1))) (dCons (dBin dSub (dVar 2) (dC (.int 1))) (dCons (dBin dEq (dVar 2) (dC (.int 1))) (dCons (dC .non) (dCons (dBin dAdd (dVar 2) (dC (.int 3))) (dNil))))))) (xs := [.int (p + 1), .int (p - 1), .bl (decide (p = 1)), .non, .int (p + 3)]) g2
      (dLst_ok (dCons_ok (dBin_ok rfl rfl rfl) (dCons_ok (dBin_ok rfl rfl rfl) (dCons_ok (dBin_ok rfl rfl (dEq_int _ _)) (dCons_ok rfl (dCons_ok (dBin_ok rfl rfl rfl) rfl))))) (by simp)) (by simp) (by simp)
    obtain ⟨x, st3, q3, hx, g3⟩ := pe
    have ox : OE x := by
      ((simp only [List.mem_cons, List.not_mem_nil, or_false] at hx))
      rcases hx with rfl | rfl | rfl | rfl | rfl
      · exact oe_int (by omega)
      · exact oe_int (by omega)
      · exact oe_bl _
      · exact oe_non
      · exact oe_int (by omega)
    refine ⟨.tup ((c1 ++ [x]) ++ c2), st3, ?_, own_tup (by simp; omega) ?_, g3⟩
    · rw [bSeq_rt (by rw [sIf_t (by rw [dTAnd_t tl]; rfl)]; exact sRet_ok (dBin_ok (dBin_ok sl1 (dTup_ok (dCons_ok q3 rfl) (by simp)) (add_tup (by simp; omega))) (sl2 st3) (add_tup (by simp; omega))))]
      rfl
    · intro y hy
      simp only [List.mem_append, List.mem_singleton] at hy
      rcases hy with (hy | rfl) | hy
      · exact m1 y hy
      · exact ox
      · exact m2 y hy
  · rw [decide_eq_false hh] at tl
    rw [stp (e' := [.ow st2, .va (intsD ws), .va (.int p), .va (.int k), .va (.int how)]) (by rw [sIf_f (by rw [dTAnd_f tl])]; rfl)]
    rw [stp (e' := [.ow st2, .va (intsD ws), .va (.int p), .va (.int k), .va (.int how)]) (by rw [sIf_f (by rw [dTAnd_f tl])]; rfl)]
    rw [stp (e' := [.ow st2, .va (intsD ws), .va (.int p), .va (.int k), .va (.int how)]) (by rw [sIf_f tl]; rfl)]
    have li : dLst (dCons (dBin dAdd (dSlice (dVar 1) (dONone) (dOSome (dVar 3))) (dSlice (dVar 1) (dOSome (dBin dAdd (dVar 3) (dC (.int 1)))) (dONone))) (dCons (dBin dAdd (dVar 1) (dTup (dCons (dVar 2) (dNil)))) (dCons (dCall bList (dCons (dVar 1) (dNil))) (dNil)))) [.ow st2, .va (intsD ws), .va (.int p), .va (.int k), .va (.int how)]
        = .ok (.lst [.tup (c1 ++ c2), .tup (ws.map D.int ++ [.int p]), .lst (ws.map D.int)], [.ow st2, .va (intsD ws), .va (.int p), .va (.int k), .va (.int how)]) :=
      dLst_ok (dCons_ok (dBin_ok sl1 (sl2 st2) (add_tup (by omega))) (dCons_ok (dBin_ok rfl (dTup_ok (dCons_ok rfl rfl) (by simp)) (add_tup (by simp; omega))) (dCons_ok (dCall1 rfl rfl) rfl))) (by simp)
    have ho : how = 4 ∨ how = 5 ∨ how = 6 := by omega
    rcases ho with rfl | rfl | rfl
    · refine ⟨.tup (c1 ++ c2), st2, ?_, own_tup (by simp; omega) ?_, g2⟩
      · rw [sRet_ok (dBin_ok li (dBin_ok rfl rfl rfl) rfl)]
        rfl
      · intro y hy
        rcases List.mem_append.mp hy with hy | hy
        · exact m1 y hy
        · exact m2 y hy
    · refine ⟨.tup (ws.map D.int ++ [.int p]), st2, ?_, own_tup (by simp; omega) ?_, g2⟩
      · rw [sRet_ok (dBin_ok li (dBin_ok rfl rfl rfl) rfl)]
        rfl
      · intro y hy
        rcases List.mem_append.mp hy with hy | hy
        · exact wn y hy
        · rw [List.mem_singleton.mp hy]; exact oe_int (by omega)
    · refine ⟨.lst (ws.map D.int), st2, ?_, own_of (fun e => by cases e) (fun ds e => by cases e), g2⟩
      rw [sRet_ok (dBin_ok li (dBin_ok rfl rfl rfl) rfl)]
      rfl
end LW
end Dn

/-! P24i -/
set_option Elab.async false
set_option linter.all false
set_option maxRecDepth 100000
set_option maxHeartbeats 2000000
namespace Dn
namespace LW
open PySem
/-! ### orders -/
def isTup : D → Bool
  | .tup _ => true
  | _ => false
theorem isi_tup {d : D} {env : En} {i : Nat} (h : env[i]? = some (.va d)) (hd : d.ty ≠ none) : dTr (dIsi "tuple" (dVar i)) env = .ok (isTup d, env) := by
  refine dTr_bl ?_
  unfold dIsi dVar
  rw [h, bnd_ok]
  cases d <;> first | exact absurd rfl hd | rfl
theorem lays_int : ∀ (xs : List Int), D.lays (xs.map D.int) = true ∧ D.deps (xs.map D.int) = 0
  | [] => by simp [D.lays, D.deps]
  | x :: r => by
    obtain ⟨a, b⟩ := lays_int r
    simp [D.lays, D.deps, D.lay, D.dep, a, b]
theorem eqvs_int : ∀ (xs ys : List Int), D.eqvs (xs.map D.int) (ys.map D.int) = decide (xs = ys)
  | [], [] => by simp [D.eqvs]
  | [], _ :: _ => by simp [D.eqvs]
  | _ :: _, [] => by simp [D.eqvs]
  | x :: r, y :: s => by
    have ih := eqvs_int r s
    simp only [List.map_cons, D.eqvs, D.eqv, ih]
    by_cases h : x = y <;> simp [h]
theorem okL_int (xs : List Int) : (D.lst (xs.map D.int)).ok = true := by
  obtain ⟨a, b⟩ := lays_int xs
  unfold D.ok
  simp only [D.lay, D.dep, a, b]
  rfl
theorem eq_intL (xs ys : List Int) : dEq (.lst (xs.map D.int)) (.lst (ys.map D.int)) = .ok (.bl (decide (xs = ys))) := by
  unfold dEq
  simp only [okL_int, Bool.and_self, if_true, D.eqv, eqvs_int]
theorem ne_intL (xs ys : List Int) : dNe (.lst (xs.map D.int)) (.lst (ys.map D.int)) = .ok (.bl (!decide (xs = ys))) := by
  unfold dNe
  simp only [okL_int, Bool.and_self, if_true, D.eqv, eqvs_int]
def rngI (n : Nat) : List Int := (List.range n).map fun k => ((k : Nat) : Int)
theorem rngD_rngI (n : Nat) : rngD 0 1 n = (rngI n).map D.int := by
  unfold rngI
  rw [rng_eq, List.map_map]
  rfl
/-- own as an order of n steps -/
def ordOf (n : Nat) : D → Option (List Int)
  | .tup xs => match intsOf xs with
    | some ns => if sortI ns = rngI n then some ns else none
    | none => none
  | _ => none
theorem ordOf_none {n : Nat} {xs : List D} (h : intsOf xs = none) : ordOf n (.tup xs) = none := by
  show (match intsOf xs with | some ns => if sortI ns = rngI n then some ns else none | none => none) = none
  rw [h]
theorem ordOf_some {n : Nat} {xs : List D} {ns : List Int} (h : intsOf xs = some ns) : ordOf n (.tup xs) = if sortI ns = rngI n then some ns else none := by
  show (match intsOf xs with | some ns => if sortI ns = rngI n then some ns else none | none => none) = _
  rw [h]
theorem lstRg_ok {m : Ev} {env : En} {n : Nat} (h : m env = .ok (.int n, env)) (hn : n ≤ 1000) : dLstRg m env = .ok (.lst ((rngI n).map D.int), env) := by
  unfold dLstRg
  rw [h, bnd_ok]
  have h1 : (0 : Int) ≤ n := by omega
  have h2 : (n : Int) ≤ 16777216 := by omega
  simp only [h1, h2, decide_true, Bool.and_self, if_true, Int.toNat_natCast, rngD_rngI]
theorem all_lc {te : Ev} {i v : Nat} {env : En} {s : Sl} {xs : List D} (h : env[i]? = some (.va (.tup xs))) (hs : env[v]? = some s) (how : isOw env v = false) (hl : xs.length ≤ 100) (hte : ∀ x, x ∈ xs → te ((env.set v .un).set v (.va x)) = .ok (.bl (isI x), (env.set v .un).set v (.va x))) (hv : ∀ d e, gSet v d e = .ok (e.set v (.va d))) :
    dTr (dCall bAll (dCons (dLc (dItems (dVar i)) (gSet v) (dYes) te [v]) (dNil))) env = .ok ((intsOf xs).isSome, env) := by
  have lc : dLc (dItems (dVar i)) (gSet v) (dYes) te [v] env = .ok (.lst (xs.map fun x => D.bl (isI x)), env) := by
    refine dLc_ok2 (dItems_tup ?_) how hs (lcL_map _ fun x hx => ⟨_, _, hv _ _, hte x hx, ?_⟩) (by rw [List.length_map]; omega)
    · unfold dVar; rw [h]
    · show List.set ((env.set v .un).set v (.va x)) v .un = env.set v .un
      rw [List.set_set, List.set_set]
  refine dTr_bl (dCall1 lc ?_)
  rw [bAll_mapf, all_isI]
theorem sorted_ok {xs : List D} {ns : List Int} (h : intsOf xs = some ns) : bSorted [.tup xs] = .ok (.lst ((sortI ns).map D.int)) := by
  simp only [bSorted, h]
theorem is_order_ok {ss : List S4} {own : D} (h : Sts ss) (ho : Own own) : m_is_order [stsD ss, own] = .ok (.bl (ordOf ss.length own).isSome) := by
  have hl := h.l2
  unfold m_is_order b_is_order
  rw [show enter 3 [stsD ss, own] = [.va (stsD ss), .va own, .un] from rfl]
  have i1 := isi_tup (env := [.va (stsD ss), .va own, .un]) (i := 1) rfl ho.ty
  have other : isTup own = false → fin (bSeq (sIf (dTOr (dTNot (dTr (dIsi "tuple" (dVar 1)))) (dTNot (dTr (dCall bAll (dCons (dLc (dItems (dVar 1)) (gSet 2) (dYes) (dCall m_is_integer (dCons (dVar 2) (dNil))) [2]) (dNil)))))) (sRet (dC (.bl false))) (bNil)) (sRet (dBin dEq (dCall bSorted (dCons (dVar 1) (dNil))) (dLstRg (dCall bLen (dCons (dVar 0) (dNil)))))) [.va (stsD ss), .va own, .un]) = .ok (.bl false) := fun e => by
    rw [e] at i1
    rw [bSeq_rt (d := .bl false) (e' := [.va (stsD ss), .va own, .un]) ((sIf_t (dTOr_t (dTNot_ok i1))).trans rfl)]
    rfl
  cases own with
  | tup xs =>
    obtain ⟨l1, hx⟩ := ho.it xs rfl
    have al := all_lc (te := dCall m_is_integer (dCons (dVar 2) (dNil))) (env := [.va (stsD ss), .va (.tup xs), .un]) (i := 1) (v := 2) rfl rfl rfl l1 (fun x hx' => dCall1 rfl (is_integer_ok x (hx x hx').1)) (fun _ _ => rfl)
    cases hn : intsOf xs with
    | none =>
      rw [hn] at al
      rw [bSeq_rt (d := .bl false) (e' := [.va (stsD ss), .va (.tup xs), .un]) ((sIf_t ((dTOr_f (dTNot_ok i1)).trans (dTNot_ok al))).trans rfl)]
      rw [ordOf_none hn]
      rfl
    | some ns =>
      rw [hn] at al
      rw [stp ((sIf_f ((dTOr_f (dTNot_ok i1)).trans (dTNot_ok al))).trans rfl)]
      refine (fin_ok (sRet_ok (dBin_ok (dCall1 rfl (sorted_ok hn)) (lstRg_ok (dCall1 rfl (len_sts ss)) (by omega)) (eq_intL _ _)))).trans ?_
      rw [ordOf_some hn]
      by_cases q : sortI ns = rngI ss.length
      · rw [if_pos q, decide_eq_true q]; rfl
      · rw [if_neg q, decide_eq_false q]; rfl
  | _ => first | exact other rfl | exact absurd rfl ho.ty
end LW
end Dn

/-! P24j -/
set_option Elab.async false
set_option linter.all false
set_option maxRecDepth 100000
set_option maxHeartbeats 2000000
namespace Dn
namespace LW
open PySem
/-! ### accept_best beside _law_best_due -/
def swp (a b : S4) : Bool := decide (wt b * a.2.2.1 < wt a * b.2.2.1)
def swapped : List S4 → Bool
  | a :: b :: r => swp a b || swapped (b :: r)
  | _ => false
def kept (s : S4) : Bool := decide (0 < wt s) || decide (0 < s.2.2.1)
def rowsS (ss : List S4) (js : List Nat) : List S4 := js.filterMap fun j => ss[j]?
def keptD (ss : List S4) : D → Bool
  | .int i => match ss[i.toNat]? with
    | some s => kept s
    | none => false
  | _ => false
def rowD (ss : List S4) : D → D
  | .int i => match ss[i.toNat]? with
    | some s => stD s
    | none => .non
  | _ => .non
theorem keptD_at {ss : List S4} {j : Nat} {s : S4} (h : ss[j]? = some s) : keptD ss (.int (j : Nat)) = kept s := by
  unfold keptD
  simp only [Int.toNat_natCast, h]
theorem rowD_at {ss : List S4} {j : Nat} {s : S4} (h : ss[j]? = some s) : rowD ss (.int (j : Nat)) = stD s := by
  unfold rowD
  simp only [Int.toNat_natCast, h]
theorem kept_map {ss : List S4} : ∀ (js : List Nat), (∀ j, j ∈ js → ∃ s, ss[j]? = some s) → (((js.map fun k => D.int ((k : Nat) : Int)).filter (keptD ss)).map (rowD ss)) = ((rowsS ss js).filter kept).map stD
  | [], _ => rfl
  | j :: r, h => by
    obtain ⟨s, hs⟩ := h j List.mem_cons_self
    have ih := kept_map r fun i hi => h i (List.mem_cons_of_mem _ hi)
    have e : rowsS ss (j :: r) = s :: rowsS ss r := by unfold rowsS; rw [List.filterMap_cons, hs]
    rw [e, List.map_cons, List.filter_cons, List.filter_cons, keptD_at hs]
    cases kept s with
    | true => simp only [if_true, List.map_cons, rowD_at hs, ih]
    | false => simp only [Bool.false_eq_true, if_false, ih]
theorem rowsS_ok {ss : List S4} {js : List Nat} (h : Sts ss) : ∀ s, s ∈ rowsS ss js → OkS s := fun s hs => by
  unfold rowsS at hs
  obtain ⟨j, _, e⟩ := List.mem_filterMap.mp hs
  exact h.ok s (List.mem_of_getElem? e)
theorem rowsS_len (ss : List S4) (js : List Nat) : (rowsS ss js).length ≤ js.length := List.length_filterMap_le _ _
abbrev KT : Tv := (dTOr (dTb (dBin dGt (dCall m_weight_of (dCons (dBin dIx (dVar 0) (dVar 4)) (dNil))) (dC (.int 0)))) (dTb (dBin dGt (dBin dIx (dBin dIx (dBin dIx (dVar 0) (dVar 4)) (dC (.int 2))) (dC (.int 0))) (dC (.int 0)))))
theorem gt0 (i : Int) : dGt (.int i) (.int 0) = .ok (.bl (decide (0 < i))) := rfl
theorem tor_ok {t1 t2 : Tv} {env : En} {a b : Bool} (h1 : t1 env = .ok (a, env)) (h2 : t2 env = .ok (b, env)) : dTOr t1 t2 env = .ok (a || b, env) := by
  cases a with
  | true => exact dTOr_t h1
  | false => exact (dTOr_f h1).trans h2
theorem kt_ok {ss : List S4} {O : D} {j : Nat} {s : S4} {y2 y3 : Sl} (h : Sts ss) (hj : ss[j]? = some s) : KT [.va (stsD ss), .va O, y2, y3, .va (.int (j : Nat))] = .ok (kept s, [.va (stsD ss), .va O, y2, y3, .va (.int (j : Nat))]) := by
  have i1 := ix_sts hj
  have w1 := weight_ok (h.ok s (List.mem_of_getElem? hj))
  exact tor_ok (dTb_ok (dBin_ok (dCall1 (dBin_ok rfl rfl i1) w1) rfl (gt0 _))) (dTb_ok (dBin_ok (st_f (s := s) (dBin_ok rfl rfl i1)) rfl (gt0 _)))
theorem ix_lst {ds : List D} {i : Nat} {a : D} (h : ds[i]? = some a) : dIx (.lst ds) (.int i) = .ok a := by
  have hi := (List.getElem?_eq_some_iff.mp h).1
  have e : ds[i] = a := by rw [List.getElem?_eq_getElem hi] at h; exact Option.some.inj h
  simp [dIx, L2.atI, L2.ixN, hi, e]
abbrev SWB : Sv := (sIf (dTb (dBin dLt (dBin dMul (dCall m_weight_of (dCons (dBin dIx (dVar 2) (dBin dAdd (dVar 3) (dC (.int 1)))) (dNil))) (dBin dIx (dBin dIx (dBin dIx (dVar 2) (dVar 3)) (dC (.int 2))) (dC (.int 0)))) (dBin dMul (dCall m_weight_of (dCons (dBin dIx (dVar 2) (dVar 3)) (dNil))) (dBin dIx (dBin dIx (dBin dIx (dVar 2) (dBin dAdd (dVar 3) (dC (.int 1)))) (dC (.int 2))) (dC (.int 0)))))) (sRaise 2 (dC (.str "swap"))) (bNil))
theorem sw_ok {A O : D} {L : List S4} {k : Nat} {a b : S4} (ha : L[k]? = some a) (hb : L[k + 1]? = some b) (oa : OkS a) (ob : OkS b) :
    SWB [.va A, .va O, .va (.lst (L.map stD)), .va (.int (k : Nat)), .un] = if swp a b = true then .error (.raise 2 (.str "swap")) else .ok (.nx, [.va A, .va O, .va (.lst (L.map stD)), .va (.int (k : Nat)), .un]) := by
  obtain ⟨_, _, n3, _, _⟩ := OkS.na a oa
  obtain ⟨_, _, n3', _, _⟩ := OkS.na b ob
  have q1 := mul_ok (na_mono (wt_na ob) (show 60 ≤ 600 by decide)) (na_mono n3 (show 20 ≤ 600 by decide))
  have q2 := mul_ok (na_mono (wt_na oa) (show 60 ≤ 600 by decide)) (na_mono n3' (show 20 ≤ 600 by decide))
  have i1 : dIx (.lst (L.map stD)) (.int (k : Nat)) = .ok (stD a) := ix_lst (by rw [List.getElem?_map, ha]; rfl)
  have i2 : dIx (.lst (L.map stD)) (.int ((k + 1 : Nat) : Int)) = .ok (stD b) := ix_lst (by rw [List.getElem?_map, hb]; rfl)
  have x1 : dBin dIx (dVar 2) (dVar 3) [.va A, .va O, .va (.lst (L.map stD)), .va (.int (k : Nat)), .un] = .ok (stD a, [.va A, .va O, .va (.lst (L.map stD)), .va (.int (k : Nat)), .un]) := dBin_ok rfl rfl i1
  have x2 : dBin dIx (dVar 2) (dBin dAdd (dVar 3) (dC (.int 1))) [.va A, .va O, .va (.lst (L.map stD)), .va (.int (k : Nat)), .un] = .ok (stD b, [.va A, .va O, .va (.lst (L.map stD)), .va (.int (k : Nat)), .un]) := dBin_ok rfl (dBin_ok (r := .int ((k + 1 : Nat) : Int)) rfl rfl rfl) i2
  have t : dTb (dBin dLt (dBin dMul (dCall m_weight_of (dCons (dBin dIx (dVar 2) (dBin dAdd (dVar 3) (dC (.int 1)))) (dNil))) (dBin dIx (dBin dIx (dBin dIx (dVar 2) (dVar 3)) (dC (.int 2))) (dC (.int 0)))) (dBin dMul (dCall m_weight_of (dCons (dBin dIx (dVar 2) (dVar 3)) (dNil))) (dBin dIx (dBin dIx (dBin dIx (dVar 2) (dBin dAdd (dVar 3) (dC (.int 1)))) (dC (.int 2))) (dC (.int 0))))) [.va A, .va O, .va (.lst (L.map stD)), .va (.int (k : Nat)), .un] = .ok (swp a b, [.va A, .va O, .va (.lst (L.map stD)), .va (.int (k : Nat)), .un]) :=
    dTb_ok (dBin_ok (dBin_ok (dCall1 x2 (weight_ok ob)) (st_f (s := a) x1) q1) (dBin_ok (dCall1 x1 (weight_ok oa)) (st_f (s := b) x2) q2) (dLt_int _ _))
  cases hs : swp a b with
  | true => rw [hs] at t; exact (sIf_t t).trans rfl
  | false => rw [hs] at t; exact (sIf_f t).trans rfl
theorem sw_loop {A O : D} {L : List S4} (hL : ∀ s, s ∈ L → OkS s) : ∀ (r : List S4) (k : Nat) (y3 : Sl), L.drop k = r → ∃ z3, forL (gSet 3) SWB ((List.range' k (r.length - 1)).map fun j => D.int ((j : Nat) : Int)) [.va A, .va O, .va (.lst (L.map stD)), y3, .un] = if swapped r = true then .error (.raise 2 (.str "swap")) else .ok (.nx, [.va A, .va O, .va (.lst (L.map stD)), z3, .un])
  | [], k, y3, _ => ⟨y3, rfl⟩
  | [a], k, y3, _ => ⟨y3, rfl⟩
  | a :: b :: r, k, y3, h => by
    have ha : L[k]? = some a := by have := congrArg (fun l => l[0]?) h; simpa [List.getElem?_drop] using this
    have hb : L[k + 1]? = some b := by have := congrArg (fun l => l[1]?) h; simpa [List.getElem?_drop] using this
    have hd : L.drop (k + 1) = b :: r := by rw [← List.drop_drop, h]; rfl
    obtain ⟨z3, ih⟩ := sw_loop (A := A) (O := O) hL (b :: r) (k + 1) (.va (.int (k : Nat))) hd
    refine ⟨z3, ?_⟩
    have q := sw_ok (A := A) (O := O) ha hb (hL a (List.mem_of_getElem? ha)) (hL b (List.mem_of_getElem? hb))
    rw [show (a :: b :: r).length - 1 = r.length + 1 from rfl, List.range'_succ, List.map_cons]
    unfold forL
    rw [show gSet 3 (D.int ((k : Nat) : Int)) [.va A, .va O, .va (.lst (L.map stD)), y3, .un] = .ok [.va A, .va O, .va (.lst (L.map stD)), .va (.int (k : Nat)), .un] from rfl, ns_ok, bnd_ok, q]
    unfold swapped
    cases hs : swp a b with
    | true => rfl
    | false =>
      simp only [Bool.false_eq_true, if_false, bnd_ok, Bool.false_or]
      exact ih
theorem accept_ok {ss : List S4} {js : List Nat} (h : Sts ss) (hj : ∀ j, j ∈ js → ∃ s, ss[j]? = some s) (hl : js.length ≤ 20) (ho : m_is_order [stsD ss, natT js] = .ok (.bl true)) :
    m_accept_best [stsD ss, natT js] = if swapped ((rowsS ss js).filter kept) = true then .error (.raise 2 (.str "swap")) else .ok .non := by
  have hL : ∀ s, s ∈ (rowsS ss js).filter kept → OkS s := fun s hs => rowsS_ok h s ((List.mem_filter.mp hs).1)
  have km := kept_map js hj
  have len : ((rowsS ss js).filter kept).length ≤ 20 := Nat.le_trans (List.length_filter_le _ _) (Nat.le_trans (rowsS_len ss js) hl)
  have lc : dLc (dItems (dVar 1)) (gSet 4) KT (dBin dIx (dVar 0) (dVar 4)) [4] [.va (stsD ss), .va (natT js), .un, .un, .un] = .ok (.lst (((js.map fun k => D.int ((k : Nat) : Int)).filter (keptD ss)).map (rowD ss)), [.va (stsD ss), .va (natT js), .un, .un, .un]) := by
    refine dLc_ok2 (ds := js.map fun k => D.int ((k : Nat) : Int)) rfl rfl rfl (lcL_fmap _ fun d hd => ?_) (by rw [km, List.length_map]; omega)
    obtain ⟨j, hj', rfl⟩ := List.mem_map.mp hd
    obtain ⟨s, hs⟩ := hj j hj'
    refine ⟨[.va (stsD ss), .va (natT js), .un, .un, .va (.int (j : Nat))], [.va (stsD ss), .va (natT js), .un, .un, .va (.int (j : Nat))], [.va (stsD ss), .va (natT js), .un, .un, .va (.int (j : Nat))], rfl, ?_, rfl, fun _ => ⟨?_, rfl⟩⟩
    · rw [keptD_at hs]; exact kt_ok h hs
    · rw [rowD_at hs]; exact dBin_ok rfl rfl (ix_sts hs)
  rw [km] at lc
  generalize (rowsS ss js).filter kept = L at lc hL len
  obtain ⟨z3, lp⟩ := sw_loop (A := stsD ss) (O := natT js) hL L 0 .un rfl
  unfold m_accept_best b_accept_best
  rw [show enter 5 [stsD ss, natT js] = [.va (stsD ss), .va (natT js), .un, .un, .un] from rfl]
  rw [stp (sDrop_ok (dCall1 rfl (check_steps_ok h)))]
  rw [stp ((sIf_f (dTNot_ok (b := true) (dTr_bl (dCall2 rfl rfl ho)))).trans rfl)]
  rw [stp (sSet_to (i := 1) (e2 := [.va (stsD ss), .va (natT js), .va (.lst (L.map stD)), .un, .un]) lc rfl)]
  have rg : dRng (dCons (dBin dSub (dCall bLen (dCons (dVar 2) (dNil))) (dC (.int 1))) (dNil)) [.va (stsD ss), .va (natT js), .va (.lst (L.map stD)), .un, .un] = .ok ((List.range' 0 (L.length - 1)).map fun j => D.int ((j : Nat) : Int), [.va (stsD ss), .va (natT js), .va (.lst (L.map stD)), .un, .un]) := by
    have e : bLen [.lst (L.map stD)] = .ok (.int (L.length : Nat)) := by simp [bLen]
    have r := dRng_ok (ms := dCons (dBin dSub (dCall bLen (dCons (dVar 2) (dNil))) (dC (.int 1))) (dNil)) (env := [.va (stsD ss), .va (natT js), .va (.lst (L.map stD)), .un, .un]) (n := (L.length : Int) - 1) (dCons_ok (dBin_ok (dCall1 rfl e) rfl rfl) rfl) (by
      unfold smallI
      rw [Bool.and_eq_true, decide_eq_true_eq, decide_eq_true_eq]
      omega)
    rw [r, rng_eq, ← List.range_eq_range', show ((L.length : Int) - 1).toNat = L.length - 1 by omega]
  have lp' := sFor_ok rg lp
  cases hs : swapped L with
  | true => rw [hs] at lp'; exact fin_err lp'
  | false => rw [hs] at lp'; exact fin_nx lp'
end LW
end Dn

/-! P24k -/
set_option Elab.async false
set_option linter.all false
set_option maxRecDepth 100000
set_option maxHeartbeats 2000000
namespace Dn
namespace LW
open PySem
/-! ### _law_best_due -/
def lastD : Option S4 → D
  | none => .non
  | some a => .tup [.int (wt a), .int a.2.2.1]
def PSwap : D := .str "paper swap"
abbrev DB : Sv := (bSeq (sAsg (dBin dIx (dVar 0) (dVar 3)) (gTupD (lenOf 3 (gsCons (gSet 5) (gsCons (gSet 6) (gsCons (gSet 7) (gsNil)))))))
  (bSeq (sSet 4 (dBin dAdd (dBin dMul (dVar 5) (dBin dIx (dVar 7) (dC (.int 1)))) (dBin dMul (dVar 6) (dBin dSub (dBin dIx (dVar 7) (dC (.int 1))) (dBin dIx (dVar 7) (dC (.int 0)))))))
  (sIf (dTOr (dTb (dBin dGt (dVar 4) (dC (.int 0)))) (dTb (dBin dGt (dBin dIx (dVar 7) (dC (.int 0))) (dC (.int 0))))) (bSeq (sIf (dTAnd (dTb (dBin dNotN (dVar 2) (dC .non))) (dTb (dBin dLt (dBin dMul (dVar 4) (dBin dIx (dVar 2) (dC (.int 1)))) (dBin dMul (dBin dIx (dVar 2) (dC (.int 0))) (dBin dIx (dVar 7) (dC (.int 0))))))) (sRet (dC (.str "paper swap"))) (bNil))
  (sSet 2 (dTup (dCons (dVar 4) (dCons (dBin dIx (dVar 7) (dC (.int 0))) (dNil)))))) (bNil))))
def bad (l : Option S4) (s : S4) : Bool := match l with
  | none => false
  | some a => swp a s
theorem db_ok {ss : List S4} {O : D} {l : Option S4} {j : Nat} {s : S4} {y4 y5 y6 y7 : Sl} (h : Sts ss) (hj : ss[j]? = some s) (hl : ∀ a, l = some a → OkS a) :
    ∃ z4 z5 z6 z7, DB [.va (stsD ss), .va O, .va (lastD l), .va (.int (j : Nat)), y4, y5, y6, y7, .un] =
      if (kept s && bad l s) = true then .ok (.rt PSwap, [.va (stsD ss), .va O, .va (lastD l), .va (.int (j : Nat)), z4, z5, z6, z7, .un])
      else .ok (.nx, [.va (stsD ss), .va O, .va (lastD (if kept s = true then some s else l)), .va (.int (j : Nat)), z4, z5, z6, z7, .un]) := by
  have os := h.ok s (List.mem_of_getElem? hj)
  obtain ⟨n1, n2, n3, n4, n5⟩ := OkS.na s os
  have w : ∀ {x : Int} {a : Nat}, x.natAbs < 2 ^ a → a ≤ 600 → x.natAbs < 2 ^ 600 := fun h1 h2 => na_mono h1 h2
  have q1 := mul_ok (w n1 (by decide)) (w n4 (by decide))
  have q2 := mul_ok (w n2 (by decide)) (w n5 (by decide))
  refine ⟨.va (.int (wt s)), .va (.int s.1), .va (.int s.2.1), .va (.tup [.int s.2.2.1, .int s.2.2.2]), ?_⟩
  unfold DB
  rw [stp (sAsg_to (e2 := [.va (stsD ss), .va O, .va (lastD l), .va (.int (j : Nat)), y4, .va (.int s.1), .va (.int s.2.1), .va (.tup [.int s.2.2.1, .int s.2.2.2]), .un]) (dBin_ok rfl rfl (ix_sts hj)) rfl)]
  rw [stp (sSet_to (i := 3) (d := .int (wt s)) (e2 := [.va (stsD ss), .va O, .va (lastD l), .va (.int (j : Nat)), .va (.int (wt s)), .va (.int s.1), .va (.int s.2.1), .va (.tup [.int s.2.2.1, .int s.2.2.2]), .un]) (dBin_ok (dBin_ok rfl (dBin_ok rfl rfl rfl) q1) (dBin_ok rfl (dBin_ok (dBin_ok rfl rfl rfl) (dBin_ok rfl rfl rfl) rfl) q2) rfl) rfl)]
  generalize hE : ([.va (stsD ss), .va O, .va (lastD l), .va (.int (j : Nat)), .va (.int (wt s)), .va (.int s.1), .va (.int s.2.1), .va (.tup [.int s.2.2.1, .int s.2.2.2]), .un] : En) = E
  have f7 : dBin dIx (dVar 7) (dC (.int 0)) E = .ok (.int s.2.2.1, E) := by rw [← hE]; exact dBin_ok rfl rfl rfl
  have v4 : dVar 4 E = .ok (.int (wt s), E) := by rw [← hE]; rfl
  have tk : dTOr (dTb (dBin dGt (dVar 4) (dC (.int 0)))) (dTb (dBin dGt (dBin dIx (dVar 7) (dC (.int 0))) (dC (.int 0)))) E = .ok (kept s, E) := tor_ok (dTb_ok (dBin_ok v4 rfl (gt0 _))) (dTb_ok (dBin_ok f7 rfl (gt0 _)))
  have tb : dTAnd (dTb (dBin dNotN (dVar 2) (dC .non))) (dTb (dBin dLt (dBin dMul (dVar 4) (dBin dIx (dVar 2) (dC (.int 1)))) (dBin dMul (dBin dIx (dVar 2) (dC (.int 0))) (dBin dIx (dVar 7) (dC (.int 0)))))) E = .ok (bad l s, E) := by
    have v2 : dVar 2 E = .ok (lastD l, E) := by rw [← hE]; rfl
    cases l with
    | none => exact dTAnd_f (dTb_ok (dBin_ok v2 rfl rfl))
    | some a =>
      have oa := hl a rfl
      obtain ⟨_, _, a3, _, _⟩ := OkS.na a oa
      have m1 := mul_ok (w (wt_na os) (by decide)) (w a3 (by decide))
      have m2 := mul_ok (w (wt_na oa) (by decide)) (w n3 (by decide))
      rw [dTAnd_t (dTb_ok (b := true) (dBin_ok v2 rfl rfl))]
      exact dTb_ok (dBin_ok (dBin_ok v4 (dBin_ok v2 rfl rfl) m1) (dBin_ok (dBin_ok v2 rfl rfl) f7 m2) (dLt_int _ _))
  cases hk : kept s with
  | false =>
    rw [hk] at tk
    rw [sIf_f tk, ← hE]
    rfl
  | true =>
    rw [hk] at tk
    rw [sIf_t tk]
    cases hb : bad l s with
    | true =>
      rw [hb] at tb
      rw [bSeq_rt (d := PSwap) (e' := E) ((sIf_t tb).trans rfl), ← hE]
      rfl
    | false =>
      rw [hb] at tb
      rw [stp ((sIf_f tb).trans rfl)]
      refine (sSet_to (i := 1) (dTup_ok (dCons_ok v4 (dCons_ok f7 rfl)) (by simp)) ?_)
      rw [← hE]
      rfl
theorem swapped_none : ∀ (s : S4) (r : List S4), swapped (s :: r) = swapped ([s] ++ r) := fun _ _ => rfl
theorem db_loop {ss : List S4} {O : D} (h : Sts ss) : ∀ (js : List Nat) (l : Option S4) (y3 y4 y5 y6 y7 : Sl), (∀ j, j ∈ js → ∃ s, ss[j]? = some s) → (∀ a, l = some a → OkS a) →
    ∃ e', forL (gSet 3) DB (js.map fun k => D.int ((k : Nat) : Int)) [.va (stsD ss), .va O, .va (lastD l), y3, y4, y5, y6, y7, .un] =
      if swapped (l.toList ++ (rowsS ss js).filter kept) = true then .ok (.rt PSwap, e') else .ok (.nx, e')
  | [], l, y3, y4, y5, y6, y7, _, _ => ⟨[.va (stsD ss), .va O, .va (lastD l), y3, y4, y5, y6, y7, .un], by
      have e : swapped (l.toList ++ (rowsS ss []).filter kept) = false := by cases l <;> rfl
      rw [e]
      rfl⟩
  | j :: r, l, y3, y4, y5, y6, y7, hj, hl => by
    obtain ⟨s, hs⟩ := hj j List.mem_cons_self
    have os := h.ok s (List.mem_of_getElem? hs)
    obtain ⟨z4, z5, z6, z7, q⟩ := db_ok (O := O) (y4 := y4) (y5 := y5) (y6 := y6) (y7 := y7) h hs hl
    obtain ⟨e', ih⟩ := db_loop (O := O) h r (if kept s = true then some s else l) (.va (.int (j : Nat))) z4 z5 z6 z7 (fun i hi => hj i (List.mem_cons_of_mem _ hi)) (fun a ha => by
      split at ha
      · cases ha; exact os
      · exact hl a ha)
    have e : rowsS ss (j :: r) = s :: rowsS ss r := by unfold rowsS; rw [List.filterMap_cons, hs]
    rw [e, List.filter_cons, List.map_cons]
    unfold forL
    rw [show gSet 3 (D.int ((j : Nat) : Int)) [.va (stsD ss), .va O, .va (lastD l), y3, y4, y5, y6, y7, .un] = .ok [.va (stsD ss), .va O, .va (lastD l), .va (.int (j : Nat)), y4, y5, y6, y7, .un] from rfl, ns_ok, bnd_ok, q]
    cases hk : kept s with
    | false =>
      rw [hk] at ih
      simp only [Bool.false_and, Bool.false_eq_true, if_false, bnd_ok] at ih ⊢
      exact ⟨e', ih⟩
    | true =>
      rw [hk] at ih
      simp only [Bool.true_and, if_true] at ih ⊢
      cases l with
      | none =>
        simp only [bad, Bool.false_eq_true, if_false, bnd_ok]
        exact ⟨e', ih⟩
      | some a =>
        have es : swapped ((some a).toList ++ s :: (rowsS ss r).filter kept) = (swp a s || swapped ((some s).toList ++ (rowsS ss r).filter kept)) := rfl
        rw [es]
        show ∃ e', bnd (if swp a s = true then _ else _) _ = _
        cases hb : swp a s with
        | true => exact ⟨_, rfl⟩
        | false =>
          simp only [Bool.false_eq_true, if_false, bnd_ok, Bool.false_or]
          exact ⟨e', ih⟩
def dueT1 (env : En) : Prop := True
theorem due_form {ss : List S4} {own : D} (h : Sts ss) (ho : Own own) (hn : ordOf ss.length own = none) : m__law_best_due [stsD ss, own] = .ok (.str "paper form") := by
  have hl := h.l2
  unfold m__law_best_due b__law_best_due
  rw [show enter 9 [stsD ss, own] = [.va (stsD ss), .va own, .un, .un, .un, .un, .un, .un, .un] from rfl]
  have i1 := isi_tup (env := [.va (stsD ss), .va own, .un, .un, .un, .un, .un, .un, .un]) (i := 1) rfl ho.ty
  have fin1 : ∀ {t : Tv} {r : Sv}, t [.va (stsD ss), .va own, .un, .un, .un, .un, .un, .un, .un] = .ok (true, [.va (stsD ss), .va own, .un, .un, .un, .un, .un, .un, .un]) → fin (bSeq (sIf t (sRet (dC (.str "paper form"))) (bNil)) r [.va (stsD ss), .va own, .un, .un, .un, .un, .un, .un, .un]) = .ok (.str "paper form") := fun ht => by
    rw [bSeq_rt (d := .str "paper form") (e' := [.va (stsD ss), .va own, .un, .un, .un, .un, .un, .un, .un]) ((sIf_t ht).trans rfl)]
    rfl
  refine fin1 ?_
  cases own with
  | tup xs =>
    obtain ⟨l1, hx⟩ := ho.it xs rfl
    have al := all_lc (te := dCall m__law_whole (dCons (dVar 8) (dNil))) (env := [.va (stsD ss), .va (.tup xs), .un, .un, .un, .un, .un, .un, .un]) (i := 1) (v := 8) rfl rfl rfl l1 (fun x hx' => dCall1 rfl (whole_ok x (hx x hx').1)) (fun _ _ => rfl)
    cases hi : intsOf xs with
    | none =>
      rw [hi] at al
      exact (dTOr_f (dTNot_ok i1)).trans (dTOr_t (dTNot_ok al))
    | some ns =>
      rw [hi] at al
      rw [ordOf_some hi] at hn
      have q : ¬ sortI ns = rngI ss.length := fun q => by rw [if_pos q] at hn; cases hn
      refine (dTOr_f (dTNot_ok i1)).trans ((dTOr_f (dTNot_ok al)).trans (dTb_ok (dBin_ok (dCall1 rfl (sorted_ok hi)) (lstRg_ok (dCall1 rfl (len_sts ss)) (by omega)) ?_)))
      rw [ne_intL, decide_eq_false q]
      rfl
  | _ => first | exact dTOr_t (dTNot_ok i1) | exact absurd rfl ho.ty
theorem due_ok {ss : List S4} {js : List Nat} (h : Sts ss) (ho : Own (natT js)) (hj : ∀ j, j ∈ js → ∃ s, ss[j]? = some s) (hn : (ordOf ss.length (natT js)).isSome = true) :
    m__law_best_due [stsD ss, natT js] = if swapped ((rowsS ss js).filter kept) = true then .ok PSwap else .ok (.lst [.non]) := by
  have hl := h.l2
  obtain ⟨l1, hx⟩ := ho.it _ rfl
  have i1 : dTr (dIsi "tuple" (dVar 1)) [.va (stsD ss), .va (natT js), .un, .un, .un, .un, .un, .un, .un] = .ok (true, [.va (stsD ss), .va (natT js), .un, .un, .un, .un, .un, .un, .un]) := isi_tup (i := 1) rfl ho.ty
  have al := all_lc (te := dCall m__law_whole (dCons (dVar 8) (dNil))) (env := [.va (stsD ss), .va (natT js), .un, .un, .un, .un, .un, .un, .un]) (i := 1) (v := 8) rfl rfl rfl l1 (fun x hx' => dCall1 rfl (whole_ok x (hx x hx').1)) (fun _ _ => rfl)
  have hi : ∃ ns, intsOf (js.map fun k => D.int ((k : Nat) : Int)) = some ns ∧ sortI ns = rngI ss.length := by
    cases q : intsOf (js.map fun k => D.int ((k : Nat) : Int)) with
    | none => unfold natT at hn; rw [ordOf_none q] at hn; cases hn
    | some ns =>
      refine ⟨ns, rfl, ?_⟩
      unfold natT at hn
      rw [ordOf_some q] at hn
      by_cases z : sortI ns = rngI ss.length
      · exact z
      · rw [if_neg z] at hn; cases hn
  obtain ⟨ns, hi, hs⟩ := hi
  rw [hi] at al
  obtain ⟨e', lp⟩ := db_loop (O := natT js) h js none .un .un .un .un .un hj (fun a z => by cases z)
  have lp' := sFor_ok (mi := dItems (dVar 1)) (e1 := [.va (stsD ss), .va (natT js), .va .non, .un, .un, .un, .un, .un, .un]) (env := [.va (stsD ss), .va (natT js), .va .non, .un, .un, .un, .un, .un, .un]) rfl lp
  unfold m__law_best_due b__law_best_due
  rw [show enter 9 [stsD ss, natT js] = [.va (stsD ss), .va (natT js), .un, .un, .un, .un, .un, .un, .un] from rfl]
  have t0 : dTOr (dTNot (dTr (dIsi "tuple" (dVar 1)))) (dTOr (dTNot (dTr (dCall bAll (dCons (dLc (dItems (dVar 1)) (gSet 8) (dYes) (dCall m__law_whole (dCons (dVar 8) (dNil))) [8]) (dNil))))) (dTb (dBin dNe (dCall bSorted (dCons (dVar 1) (dNil))) (dLstRg (dCall bLen (dCons (dVar 0) (dNil))))))) [.va (stsD ss), .va (natT js), .un, .un, .un, .un, .un, .un, .un] = .ok (false, [.va (stsD ss), .va (natT js), .un, .un, .un, .un, .un, .un, .un]) := by
    refine (dTOr_f (dTNot_ok i1)).trans ((dTOr_f (dTNot_ok al)).trans (dTb_ok (dBin_ok (dCall1 rfl (sorted_ok hi)) (lstRg_ok (dCall1 rfl (len_sts ss)) (by omega)) ?_)))
    rw [ne_intL, decide_eq_true hs]
    rfl
  rw [stp ((sIf_f t0).trans rfl)]
  rw [stp (sSet_to (i := 1) (d := .non) (e' := [.va (stsD ss), .va (natT js), .un, .un, .un, .un, .un, .un, .un]) (e2 := [.va (stsD ss), .va (natT js), .va .non, .un, .un, .un, .un, .un, .un]) rfl rfl)]
  show _ = if swapped (([] : List S4) ++ (rowsS ss js).filter kept) = true then _ else _
  rw [show (Option.toList none : List S4) = [] from rfl] at lp'
  generalize hsw : swapped (([] : List S4) ++ (rowsS ss js).filter kept) = b at lp'
  cases b with
  | true =>
    rw [bSeq_rt lp']
    rfl
  | false =>
    rw [stp lp']
    exact fin_ok (sRet_ok (dLst_ok (dCons_ok rfl rfl) (by simp)))
end LW
end Dn

/-! P24l -/
set_option Elab.async false
set_option linter.all false
set_option maxRecDepth 100000
set_option maxHeartbeats 2000000
namespace Dn
namespace LW
open PySem
/-! ### accept_best is heard to say what _law_best_due says -/
theorem ord_nat {n : Nat} {own : D} {ns : List Int} (h : ordOf n own = some ns) : ∃ js : List Nat, own = natT js ∧ (∀ j, j ∈ js → j < n) ∧ js.length = n := by
  cases own with
  | tup xs =>
    cases hi : intsOf xs with
    | none => rw [ordOf_none hi] at h; cases h
    | some ms =>
      rw [ordOf_some hi] at h
      by_cases q : sortI ms = rngI n
      · have p := sortI_perm ms
        rw [q] at p
        have mem : ∀ i, i ∈ ms → ∃ k : Nat, k < n ∧ i = (k : Int) := fun i hi => by
          have := p.mem_iff.mpr hi
          unfold rngI at this
          obtain ⟨k, h1, h2⟩ := List.mem_map.mp this
          exact ⟨k, List.mem_range.mp h1, h2.symm⟩
        refine ⟨ms.map Int.toNat, ?_, fun j hj => ?_, ?_⟩
        · rw [intsOf_some hi]
          unfold natT
          rw [List.map_map]
          congr 1
          refine List.map_congr_left fun i hi' => ?_
          obtain ⟨k, _, rfl⟩ := mem i hi'
          rfl
        · obtain ⟨i, h1, rfl⟩ := List.mem_map.mp hj
          obtain ⟨k, h2, rfl⟩ := mem i h1
          exact h2
        · rw [List.length_map, ← p.length_eq]
          unfold rngI
          rw [List.length_map, List.length_range]
      · rw [if_neg q] at h; cases h
  | _ => cases h
theorem accept_form {ss : List S4} {own : D} (h : Sts ss) (ho : Own own) (hn : ordOf ss.length own = none) : m_accept_best [stsD ss, own] = .error (.raise 2 (.str "form")) := by
  have o := is_order_ok h ho
  rw [hn] at o
  unfold m_accept_best b_accept_best
  rw [show enter 5 [stsD ss, own] = [.va (stsD ss), .va own, .un, .un, .un] from rfl]
  rw [stp (sDrop_ok (dCall1 rfl (check_steps_ok h)))]
  refine fin_err (bSeq_err ((sIf_t (dTNot_ok (b := false) (dTr_bl (dCall2 rfl rfl o)))).trans (sRaise_ok rfl)))
theorem w_swap : wordOf 2 (.str "swap") = .ok PSwap := rfl
theorem tbl2 : tbl 2 = some (2, m_accept_best) := rfl
theorem best_eq {ss : List S4} {own : D} (h : Sts ss) (ho : Own own) : ∃ r, m__law_heard [.fn 2, .lst [stsD ss, own]] = .ok r ∧ m__law_best_due [stsD ss, own] = .ok r ∧ dNe r r = .ok (.bl false) := by
  have o := is_order_ok h ho
  cases hn : ordOf ss.length own with
  | none => exact ⟨.str "paper form", h2e tbl2 (accept_form h ho hn) w_form, due_form h ho hn, ne_lit (by decide +kernel)⟩
  | some ns =>
    obtain ⟨js, rfl, j1, j2⟩ := ord_nat hn
    have hl := h.l2
    have hj : ∀ j, j ∈ js → ∃ s, ss[j]? = some s := fun j hj => ⟨_, List.getElem?_eq_getElem (j1 j hj)⟩
    have a := accept_ok h hj (by omega) (by rw [o, hn]; rfl)
    have d := due_ok h ho hj (by rw [hn]; rfl)
    generalize swapped ((rowsS ss js).filter kept) = b at a d
    cases b with
    | true => exact ⟨PSwap, h2e tbl2 a w_swap, d, ne_lit (by decide +kernel)⟩
    | false => exact ⟨.lst [.non], h2o tbl2 a, d, ne_non⟩
theorem own_nat {js : List Nat} (h : js.length ≤ 100) (h2 : ∀ j, j ∈ js → j ≤ 1000) : Own (natT js) := own_tup (by rw [List.length_map]; exact h) fun x hx => by
  obtain ⟨j, hj, rfl⟩ := List.mem_map.mp hx
  have := h2 j hj
  refine oe_int ?_
  have e : (2 : Nat) ^ 120 = 1329227995784915872903807060280344576 := by decide
  omega
theorem rngI_sorted (n : Nat) : (rngI n).Pairwise (· ≤ ·) := by
  unfold rngI
  rw [List.pairwise_map]
  exact List.Pairwise.imp (fun {a b} (z : a < b) => by omega) List.pairwise_lt_range
theorem ordOf_ordN {ss : List S4} : ordOf ss.length (natT (ordN ss ss.length)) = some ((ordN ss ss.length).map fun k => ((k : Nat) : Int)) := by
  have e : intsOf ((ordN ss ss.length).map fun k => D.int ((k : Nat) : Int)) = some ((ordN ss ss.length).map fun k => ((k : Nat) : Int)) := by
    rw [show ((ordN ss ss.length).map fun k => D.int ((k : Nat) : Int)) = ((ordN ss ss.length).map fun k => ((k : Nat) : Int)).map D.int by rw [List.map_map]; rfl, intsOf_map]
  unfold natT
  rw [ordOf_some e, if_pos]
  refine (sortI_of ?_ (rngI_sorted _)).symm
  unfold rngI
  exact ((ordN_perm ss ss.length).map _).symm
theorem swp_of {s t : S4} {i j : Nat} (hs : OkS s) (ht : OkS t) (h : nr s t i j = true) : swp s t = false := by
  have s0 := hs.f0
  have t0 := ht.f0
  obtain ⟨ws, _⟩ := wt_rng hs
  obtain ⟨wt', _⟩ := wt_rng ht
  unfold nr at h
  unfold swp
  rw [decide_eq_false_iff_not]
  by_cases zs : s.2.2.1 = 0 <;> by_cases zt : t.2.2.1 = 0 <;> simp [zs, zt] at h ⊢
  · exact Int.mul_nonneg wt' s0
  · rcases h with h | h <;> omega
theorem not_swapped : ∀ {L : List S4}, L.Pairwise (fun a b => swp a b = false) → swapped L = false
  | [], _ => rfl
  | [_], _ => rfl
  | a :: b :: r, h => by
    rw [List.pairwise_cons] at h
    unfold swapped
    rw [h.1 b List.mem_cons_self, not_swapped h.2]
    rfl
theorem right_ok {ss : List S4} (h : Sts ss) : Own (natT (ordN ss ss.length)) ∧ m__law_heard [.fn 2, .lst [stsD ss, natT (ordN ss ss.length)]] = .ok (.lst [.non]) := by
  have hl := h.l2
  obtain ⟨o1, o2⟩ := ord_of h (Nat.le_refl _)
  have ow : Own (natT (ordN ss ss.length)) := own_nat (by omega) fun j hj => by have := o2 j hj; omega
  have o := is_order_ok h ow
  rw [ordOf_ordN] at o
  have a := accept_ok h (fun j hj => ⟨_, List.getElem?_eq_getElem (o2 j hj)⟩) (by omega) o
  have pw1 : (rowsS ss (ordN ss ss.length)).Pairwise (fun a b => swp a b = false) := by
    unfold rowsS
    rw [List.pairwise_filterMap]
    refine List.Pairwise.imp (fun {i j} hij s hs t ht => ?_) (ordN_near h (Nat.le_refl _))
    rw [near_of hs ht] at hij
    exact swp_of (h.ok s (List.mem_of_getElem? hs)) (h.ok t (List.mem_of_getElem? ht)) hij
  rw [not_swapped (List.Pairwise.filter _ pw1)] at a
  exact ⟨ow, h2o tbl2 a⟩
end LW
end Dn

/-! P24m -/
set_option Elab.async false
set_option linter.all false
set_option maxRecDepth 100000
set_option maxHeartbeats 2000000
namespace Dn
namespace LW
open PySem
/-! ### k24: one turn -/
theorem sPar3_to {i j l : Nat} {ms : Av} {env e1 e2 : En} {a b c : D} (h : ms env = .ok ([a, b, c], e1)) (k : ((e1.set (i + 1) (.va a)).set (j + 1) (.va b)).set (l + 1) (.va c) = e2) : sPar3 (i + 1) (j + 1) (l + 1) ms env = .ok (.nx, e2) := by
  unfold sPar3
  rw [h, bnd_ok]
  show bnd (put (i + 1) (.va a) e1) _ = _
  rw [put_succ, bnd_ok, put_succ, bnd_ok, put_succ, bnd_ok, k]
theorem meth_app2 {env e1 : En} {i : Nat} {ms : Av} {d0 : D} {ds0 ds : List D} {a : D} (h0 : env[i]? = some (.ow (.lst ds0))) (h : ms env = .ok ([a], e1)) (h1 : e1[i]? = some (.ow (.lst ds))) (hl : ds.length < 1000) : sDrop (dMeth fApp i ms) env = .ok (.nx, e1.set i (.ow (.lst (ds ++ [a])))) := by
  refine sDrop_ok (d := .non) ?_
  unfold dMeth
  rw [h0]
  simp only []
  rw [h, bnd_ok]
  simp only [h1]
  have : ds.length < maxSeq := Nat.lt_of_lt_of_le hl (le_maxSeq (Nat.le_refl _))
  simp only [fApp, this, if_true, bnd_ok]
theorem cut_map {α β : Type} (f : α → β) (xs : List α) (lo hi : Option Int) : cutD (xs.map f) lo hi = (cutD xs lo hi).map f := by
  unfold cutD
  rw [List.length_map, List.map_take, List.map_drop]
theorem cut_mem {α : Type} {xs : List α} {lo hi : Option Int} {x : α} (h : x ∈ cutD xs lo hi) : x ∈ xs := List.mem_of_mem_drop (List.mem_of_mem_take h)
theorem cut_len {α : Type} (xs : List α) (lo hi : Option Int) : (cutD xs lo hi).length ≤ xs.length := by
  unfold cutD
  rw [List.length_take, List.length_drop]
  omega
theorem slice_nat {m : Ev} {ml mh : Ov} {env e1 e2 e3 : En} {js : List Nat} {lo hi : Option Int} (h : m env = .ok (natT js, e1)) (h1 : ml e1 = .ok (lo, e2)) (h2 : mh e2 = .ok (hi, e3)) : dSlice m ml mh env = .ok (natT (cutD js lo hi), e3) := by
  unfold natT
  rw [← cut_map]
  exact slice_tup h h1 h2
theorem rev_nat {m : Ev} {env e1 : En} {js : List Nat} (h : m env = .ok (natT js, e1)) : dRev m env = .ok (natT js.reverse, e1) := by
  unfold dRev
  rw [h, bnd_ok]
  unfold natT
  simp only [List.map_reverse]
theorem add_nat {a b : List Nat} (h : a.length + b.length ≤ 1000) : dAdd (natT a) (natT b) = .ok (natT (a ++ b)) := by
  unfold natT
  rw [List.map_append]
  exact add_tup (by rw [List.length_map, List.length_map]; exact h)
theorem nat_ints (js : List Nat) : natT js = intsD (js.map fun k => ((k : Nat) : Int)) := by
  unfold natT intsD
  rw [List.map_map]
  rfl
/-- some numbers below 21 -/
def Few (n : Nat) (js : List Nat) : Prop := js.length ≤ n ∧ ∀ j, j ∈ js → j ≤ 20
theorem Few.own {n : Nat} {js : List Nat} (h : Few n js) (hn : n ≤ 100) : Own (natT js) := own_nat (Nat.le_trans h.1 hn) fun j hj => by have := h.2 j hj; omega
theorem Few.cut {n : Nat} {js : List Nat} (h : Few n js) (lo hi : Option Int) : Few n (cutD js lo hi) := ⟨Nat.le_trans (cut_len _ _ _) h.1, fun j hj => h.2 j (cut_mem hj)⟩
theorem Few.app {n m : Nat} {a b : List Nat} (h : Few n a) (h2 : Few m b) : Few (n + m) (a ++ b) := ⟨by rw [List.length_append]; have := h.1; have := h2.1; omega, fun j hj => (List.mem_append.mp hj).elim (h.2 j) (h2.2 j)⟩
theorem Few.rev {n : Nat} {a : List Nat} (h : Few n a) : Few n a.reverse := ⟨by rw [List.length_reverse]; exact h.1, fun j hj => h.2 j (List.mem_reverse.mp hj)⟩
theorem max_ok (a : Nat) : ∃ lo : Int, bMax [.lst [.int 0, .int ((a : Int) - 1)]] = .ok (.int lo) := ⟨_, rfl⟩
abbrev FB : Sv := (bSeq (sSet 20 (dBin dAdd (dC (.int 1)) (dCallO m__law_draw 1 (dCons (dVar 19) (dNil)))))
  (sDrop (dMeth fApp 10 (dCons (dTup (dCons (dCallO m__law_draw 1 (dCons (dVar 18) (dNil))) (dCons (dCallO m__law_draw 1 (dCons (dVar 18) (dNil))) (dCons (dTup (dCons (dCallO m__law_draw 1 (dCons (dVar 20) (dNil))) (dCons (dVar 20) (dNil)))) (dNil))))) (dNil)))))
theorem fb_ok {sc st d : D} {n : Nat} {z w : Int} {ts : List S4} {y2 y12 y13 y14 y15 y16 y20 : Sl} (g : Good st) (z0 : 0 < z) (z1 : z ≤ 1000000000000) (w0 : 0 < w) (w1 : w ≤ 1000) (hl : ts.length < 1000) :
    ∃ (s : S4) (st' : D) (x20 : Sl), FB [.va sc, .ow st, y2, .un, .un, .un, .un, .un, .un, .un, .ow (.lst (ts.map stD)), .va d, y12, y13, y14, y15, y16, .va (.int (n : Nat)), .va (.int z), .va (.int w), y20, .un] = .ok (.nx, [.va sc, .ow st', y2, .un, .un, .un, .un, .un, .un, .un, .ow (.lst ((ts ++ [s]).map stD)), .va d, y12, y13, y14, y15, y16, .va (.int (n : Nat)), .va (.int z), .va (.int w), x20, .un]) ∧ OkS s ∧ Good st' := by
  obtain ⟨c, st1, q1, c0, c1, g1⟩ := draw1 (sc := sc) (R := [.va sc, .ow st, y2, .un, .un, .un, .un, .un, .un, .un, .ow (.lst (ts.map stD)), .va d, y12, y13, y14, y15, y16, .va (.int (n : Nat)), .va (.int z), .va (.int w), y20, .un].drop 2) (m := dVar 19) (n := w) g rfl w0 (by omega)
  obtain ⟨a, st2, q2, a0, a1, g2⟩ := draw1 (sc := sc) (R := [.va sc, .ow st1, y2, .un, .un, .un, .un, .un, .un, .un, .ow (.lst (ts.map stD)), .va d, y12, y13, y14, y15, y16, .va (.int (n : Nat)), .va (.int z), .va (.int w), .va (.int (1 + c)), .un].drop 2) (m := dVar 18) (n := z) g1 rfl z0 (by omega)
  obtain ⟨b, st3, q3, b0, b1, g3⟩ := draw1 (sc := sc) (R := [.va sc, .ow st1, y2, .un, .un, .un, .un, .un, .un, .un, .ow (.lst (ts.map stD)), .va d, y12, y13, y14, y15, y16, .va (.int (n : Nat)), .va (.int z), .va (.int w), .va (.int (1 + c)), .un].drop 2) (m := dVar 18) (n := z) g2 rfl z0 (by omega)
  obtain ⟨f, st4, q4, f0, f1, g4⟩ := draw1 (sc := sc) (R := [.va sc, .ow st1, y2, .un, .un, .un, .un, .un, .un, .un, .ow (.lst (ts.map stD)), .va d, y12, y13, y14, y15, y16, .va (.int (n : Nat)), .va (.int z), .va (.int w), .va (.int (1 + c)), .un].drop 2) (m := dVar 20) (n := 1 + c) g3 rfl (by omega) (by omega)
  refine ⟨(a, b, f, 1 + c), st4, .va (.int (1 + c)), ?_, ⟨a0, (show a ≤ 1000000000000 by omega), b0, (show b ≤ 1000000000000 by omega), f0, f1, (show 1 + c ≤ 1000 by omega)⟩, g4⟩
  unfold FB
  rw [stp (sSet_to (i := 19) (d := .int (1 + c)) (e2 := [.va sc, .ow st1, y2, .un, .un, .un, .un, .un, .un, .un, .ow (.lst (ts.map stD)), .va d, y12, y13, y14, y15, y16, .va (.int (n : Nat)), .va (.int z), .va (.int w), .va (.int (1 + c)), .un]) (dBin_ok rfl q1 rfl) rfl)]
  refine (meth_app2 (d0 := .non) (i := 10) (ds0 := ts.map stD) (ds := ts.map stD) (e1 := [.va sc, .ow st4, y2, .un, .un, .un, .un, .un, .un, .un, .ow (.lst (ts.map stD)), .va d, y12, y13, y14, y15, y16, .va (.int (n : Nat)), .va (.int z), .va (.int w), .va (.int (1 + c)), .un]) rfl (dCons_ok (dTup_ok (dCons_ok q2 (dCons_ok q3 (dCons_ok (dTup_ok (dCons_ok q4 (dCons_ok rfl rfl)) (by simp)) rfl))) (by simp)) rfl) rfl (by rw [List.length_map]; exact hl)).trans ?_
  rw [List.map_append]
  rfl
theorem steps_ok {sc st : D} {n : Nat} {z w : Int} {y2 y11 y12 y13 y14 y15 y16 y20 : Sl} (g : Good st) (z0 : 0 < z) (z1 : z ≤ 1000000000000) (w0 : 0 < w) (w1 : w ≤ 1000) (n0 : 1 ≤ n) (n1 : n ≤ 20) :
    ∃ (ts : List S4) (st' : D) (x11 x20 : Sl), sFor (dRng (dCons (dVar 17) (dNil))) (gSet 11) (bSeq (sSet 20 (dBin dAdd (dC (.int 1)) (dCallO m__law_draw 1 (dCons (dVar 19) (dNil)))))
  (sDrop (dMeth fApp 10 (dCons (dTup (dCons (dCallO m__law_draw 1 (dCons (dVar 18) (dNil))) (dCons (dCallO m__law_draw 1 (dCons (dVar 18) (dNil))) (dCons (dTup (dCons (dCallO m__law_draw 1 (dCons (dVar 20) (dNil))) (dCons (dVar 20) (dNil)))) (dNil))))) (dNil))))) [.va sc, .ow st, y2, .un, .un, .un, .un, .un, .un, .un, .ow (.lst []), y11, y12, y13, y14, y15, y16, .va (.int (n : Nat)), .va (.int z), .va (.int w), y20, .un] = .ok (.nx, [.va sc, .ow st', y2, .un, .un, .un, .un, .un, .un, .un, .ow (.lst (ts.map stD)), x11, y12, y13, y14, y15, y16, .va (.int (n : Nat)), .va (.int z), .va (.int w), x20, .un]) ∧ Sts ts ∧ ts.length = n ∧ Good st' := by
  obtain ⟨e', k1, ts, st', x11, x20, rfl, hl, hok, g'⟩ := forL_nxi (mt := gSet 11) (mb := FB) (fun k e => ∃ (ts : List S4) (st : D) (y11 y20 : Sl), e = [.va sc, .ow st, y2, .un, .un, .un, .un, .un, .un, .un, .ow (.lst (ts.map stD)), y11, y12, y13, y14, y15, y16, .va (.int (n : Nat)), .va (.int z), .va (.int w), y20, .un] ∧ ts.length = k ∧ (∀ s, s ∈ ts → OkS s) ∧ Good st) (rngD 0 1 n) 0 [.va sc, .ow st, y2, .un, .un, .un, .un, .un, .un, .un, .ow (.lst []), y11, y12, y13, y14, y15, y16, .va (.int (n : Nat)), .va (.int z), .va (.int w), y20, .un] (by
    rintro i d hd e ⟨ts, st, y11, y20, rfl, hl, hok, g⟩
    have hi : i < n := by
      have := (List.getElem?_eq_some_iff.mp hd).1
      rw [rng_eq, List.length_map, List.length_range] at this
      exact this
    obtain ⟨s, st', x20, q, os, g'⟩ := fb_ok (sc := sc) (d := d) (n := n) (ts := ts) (y2 := y2) (y12 := y12) (y13 := y13) (y14 := y14) (y15 := y15) (y16 := y16) (y20 := y20) g z0 z1 w0 w1 (by omega)
    exact ⟨[.va sc, .ow st, y2, .un, .un, .un, .un, .un, .un, .un, .ow (.lst (ts.map stD)), .va d, y12, y13, y14, y15, y16, .va (.int (n : Nat)), .va (.int z), .va (.int w), y20, .un], _, rfl, q, ts ++ [s], st', _, _, rfl, by rw [List.length_append, hl]; rfl, (fun t ht => (List.mem_append.mp ht).elim (hok t) fun ht => by rw [List.mem_singleton.mp ht]; exact os), g'⟩) ⟨[], st, y11, y20, rfl, rfl, (fun _ z => by cases z), g⟩
  rw [Nat.zero_add, rng_eq, List.length_map, List.length_range] at hl
  refine ⟨ts, st', x11, x20, sFor_ok (dRng_ok (n := n) (dCons_ok rfl rfl) (smallI_of_le (by omega) (by omega))) ?_, ⟨by omega, by omega, hok⟩, hl, g'⟩
  exact k1
theorem many_ok {d : D} (h : d ∈ [D.int 1, .int 2, .int 3, .int 5, .int 20]) : ∃ n : Nat, d = .int (n : Nat) ∧ 1 ≤ n ∧ n ≤ 20 := by
  ((simp only [List.mem_cons, List.not_mem_nil, or_false] at h))
  rcases h with rfl | rfl | rfl | rfl | rfl
  · exact ⟨1, rfl, by decide, by decide⟩
  · exact ⟨2, rfl, by decide, by decide⟩
  · exact ⟨3, rfl, by decide, by decide⟩
  · exact ⟨5, rfl, by decide, by decide⟩
  · exact ⟨20, rfl, by decide, by decide⟩
theorem size_ok {d : D} (h : d ∈ [D.int 2, .int 9, .int 1000000000000]) : ∃ z : Int, d = .int z ∧ 0 < z ∧ z ≤ 1000000000000 := by
  ((simp only [List.mem_cons, List.not_mem_nil, or_false] at h))
  rcases h with rfl | rfl | rfl
  · exact ⟨2, rfl, by decide, by decide⟩
  · exact ⟨9, rfl, by decide, by decide⟩
  · exact ⟨_, rfl, by decide, by decide⟩
theorem most_ok {d : D} (h : d ∈ [D.int 1, .int 3, .int 1000]) : ∃ z : Int, d = .int z ∧ 0 < z ∧ z ≤ 1000 := by
  ((simp only [List.mem_cons, List.not_mem_nil, or_false] at h))
  rcases h with rfl | rfl | rfl
  · exact ⟨1, rfl, by decide, by decide⟩
  · exact ⟨3, rfl, by decide, by decide⟩
  · exact ⟨_, rfl, by decide, by decide⟩
theorem b0_ok {sc st : D} {y2 y10 y11 y12 y13 y14 y15 y16 y17 y18 y19 y20 : Sl} (g : Good st) : ∃ (n : Nat) (z w : Int) (st' : D), sPar3 17 18 19 (dCons (dCallO m__law_pick 1 (dCons (dLst (dCons (dC (.int 1)) (dCons (dC (.int 2)) (dCons (dC (.int 3)) (dCons (dC (.int 5)) (dCons (dC (.int 20)) (dNil))))))) (dNil))) (dCons (dCallO m__law_pick 1 (dCons (dLst (dCons (dC (.int 2)) (dCons (dC (.int 9)) (dCons (dBin dPow (dC (.int 10)) (dC (.int 12))) (dNil))))) (dNil))) (dCons (dCallO m__law_pick 1 (dCons (dLst (dCons (dC (.int 1)) (dCons (dC (.int 3)) (dCons (dC (.int 1000)) (dNil))))) (dNil))) (dNil)))) [.va sc, .ow st, y2, .un, .un, .un, .un, .un, .un, .un, y10, y11, y12, y13, y14, y15, y16, y17, y18, y19, y20, .un] = .ok (.nx, [.va sc, .ow st', y2, .un, .un, .un, .un, .un, .un, .un, y10, y11, y12, y13, y14, y15, y16, .va (.int (n : Nat)), .va (.int z), .va (.int w), y20, .un]) ∧ 1 ≤ n ∧ n ≤ 20 ∧ 0 < z ∧ z ≤ 1000000000000 ∧ 0 < w ∧ w ≤ 1000 ∧ Good st' := by
  obtain ⟨d1, st1, q1, h1, g1⟩ := pick1 (sc := sc) (R := [.va sc, .ow st, y2, .un, .un, .un, .un, .un, .un, .un, y10, y11, y12, y13, y14, y15, y16, y17, y18, y19, y20, .un].drop 2) (m := (dLst (dCons (dC (.int 1)) (dCons (dC (.int 2)) (dCons (dC (.int 3)) (dCons (dC (.int 5)) (dCons (dC (.int 20)) (dNil)))))))) (xs := [D.int 1, .int 2, .int 3, .int 5, .int 20]) g (by kernel_rfl) (by simp) (by simp)
  obtain ⟨d2, st2, q2, h2, g2⟩ := pick1 (sc := sc) (R := [.va sc, .ow st, y2, .un, .un, .un, .un, .un, .un, .un, y10, y11, y12, y13, y14, y15, y16, y17, y18, y19, y20, .un].drop 2) (m := (dLst (dCons (dC (.int 2)) (dCons (dC (.int 9)) (dCons (dBin dPow (dC (.int 10)) (dC (.int 12))) (dNil)))))) (xs := [D.int 2, .int 9, .int 1000000000000]) g1 (by kernel_rfl) (by simp) (by simp)
  obtain ⟨d3, st3, q3, h3, g3⟩ := pick1 (sc := sc) (R := [.va sc, .ow st, y2, .un, .un, .un, .un, .un, .un, .un, y10, y11, y12, y13, y14, y15, y16, y17, y18, y19, y20, .un].drop 2) (m := (dLst (dCons (dC (.int 1)) (dCons (dC (.int 3)) (dCons (dC (.int 1000)) (dNil)))))) (xs := [D.int 1, .int 3, .int 1000]) g2 (by kernel_rfl) (by simp) (by simp)
  obtain ⟨n, rfl, n0, n1⟩ := many_ok h1
  obtain ⟨z, rfl, z0, z1⟩ := size_ok h2
  obtain ⟨w, rfl, w0, w1⟩ := most_ok h3
  exact ⟨n, z, w, st3, sPar3_to (i := 16) (j := 17) (l := 18) (dCons_ok q1 (dCons_ok q2 (dCons_ok q3 rfl))) rfl, n0, n1, z0, z1, w0, w1, g3⟩
theorem b5_ok {sc st : D} {n : Nat} {ts : List S4} {r : List Nat} {y2 y11 y13 y14 y15 y16 y18 y19 y20 : Sl} (g : Good st) (n0 : 1 ≤ n) (n1 : n ≤ 20) : ∃ (a : Nat) (st' : D), sSet 13 (dCallO m__law_pick 1 (dCons (dLst (dCons (dBin dSub (dVar 17) (dC (.int 1))) (dCons (dCallO m__law_draw 1 (dCons (dVar 17) (dNil))) (dNil)))) (dNil))) [.va sc, .ow st, y2, .un, .un, .un, .un, .un, .un, .un, .va (stsD ts), y11, .va (natT r), y13, y14, y15, y16, .va (.int (n : Nat)), y18, y19, y20, .un] = .ok (.nx, [.va sc, .ow st', y2, .un, .un, .un, .un, .un, .un, .un, .va (stsD ts), y11, .va (natT r), .va (.int (a : Nat)), y14, y15, y16, .va (.int (n : Nat)), y18, y19, y20, .un]) ∧ a < n ∧ Good st' := by
  obtain ⟨k, st1, q1, k0, k1, g1⟩ := draw1 (sc := sc) (R := [.va sc, .ow st, y2, .un, .un, .un, .un, .un, .un, .un, .va (stsD ts), y11, .va (natT r), y13, y14, y15, y16, .va (.int (n : Nat)), y18, y19, y20, .un].drop 2) (m := dVar 17) (n := (n : Int)) g rfl (by omega) (by omega)
  obtain ⟨⟨d, st'⟩, e, hd, g'⟩ := wm_out (pick_ok (xs := [.int ((n : Int) - 1), .int k]) g1 (by simp) (by simp))
  have hv : ∃ a : Nat, d = .int (a : Nat) ∧ a < n := by
    simp only [List.mem_cons, List.not_mem_nil, or_false] at hd
    rcases hd with rfl | rfl
    · exact ⟨n - 1, by rw [show ((n - 1 : Nat) : Int) = (n : Int) - 1 by omega], by omega⟩
    · exact ⟨k.toNat, by rw [show ((k.toNat : Nat) : Int) = k by omega], by omega⟩
  obtain ⟨a, rfl, ha⟩ := hv
  exact ⟨a, st', sSet_to (i := 12) (dCallO_ok (i := 1) (s0 := st) (s := st1) rfl (dCons_ok (dLst_ok (dCons_ok (dBin_ok rfl rfl rfl) (dCons_ok q1 rfl)) (by simp)) rfl) rfl e) rfl, ha, g'⟩
theorem b6_ok {sc st : D} {n a : Nat} {ts : List S4} {r : List Nat} {y2 y11 y14 y15 y16 y18 y19 y20 : Sl} (hr : Few 20 r) : ∃ (v : List Nat), sSet 14 (dBin dAdd (dBin dAdd (dSlice (dVar 12) (dONone) (dOSome (dCall bMax (dCons (dLst (dCons (dC (.int 0)) (dCons (dBin dSub (dVar 13) (dC (.int 1))) (dNil)))) (dNil))))) (dRev (dSlice (dVar 12) (dOSome (dCall bMax (dCons (dLst (dCons (dC (.int 0)) (dCons (dBin dSub (dVar 13) (dC (.int 1))) (dNil)))) (dNil)))) (dOSome (dBin dAdd (dVar 13) (dC (.int 1))))))) (dSlice (dVar 12) (dOSome (dBin dAdd (dVar 13) (dC (.int 1)))) (dONone))) [.va sc, .ow st, y2, .un, .un, .un, .un, .un, .un, .un, .va (stsD ts), y11, .va (natT r), .va (.int (a : Nat)), y14, y15, y16, .va (.int (n : Nat)), y18, y19, y20, .un] = .ok (.nx, [.va sc, .ow st, y2, .un, .un, .un, .un, .un, .un, .un, .va (stsD ts), y11, .va (natT r), .va (.int (a : Nat)), .va (natT v), y15, y16, .va (.int (n : Nat)), y18, y19, y20, .un]) ∧ Few 60 v := by
  obtain ⟨lo, hlo⟩ := max_ok a
  have ml : dOSome (dCall bMax (dCons (dLst (dCons (dC (.int 0)) (dCons (dBin dSub (dVar 13) (dC (.int 1))) (dNil)))) (dNil))) [.va sc, .ow st, y2, .un, .un, .un, .un, .un, .un, .un, .va (stsD ts), y11, .va (natT r), .va (.int (a : Nat)), y14, y15, y16, .va (.int (n : Nat)), y18, y19, y20, .un] = .ok (some lo, [.va sc, .ow st, y2, .un, .un, .un, .un, .un, .un, .un, .va (stsD ts), y11, .va (natT r), .va (.int (a : Nat)), y14, y15, y16, .va (.int (n : Nat)), y18, y19, y20, .un]) := dOSome_ok (dCall1 (dLst_ok (dCons_ok rfl (dCons_ok (dBin_ok rfl rfl rfl) rfl)) (by simp)) hlo)
  have mh : dOSome (dBin dAdd (dVar 13) (dC (.int 1))) [.va sc, .ow st, y2, .un, .un, .un, .un, .un, .un, .un, .va (stsD ts), y11, .va (natT r), .va (.int (a : Nat)), y14, y15, y16, .va (.int (n : Nat)), y18, y19, y20, .un] = .ok (some ((a : Int) + 1), [.va sc, .ow st, y2, .un, .un, .un, .un, .un, .un, .un, .va (stsD ts), y11, .va (natT r), .va (.int (a : Nat)), y14, y15, y16, .va (.int (n : Nat)), y18, y19, y20, .un]) := dOSome_ok (dBin_ok rfl rfl rfl)
  have f1 := hr.cut none (some lo)
  have f2 := (hr.cut (some lo) (some ((a : Int) + 1))).rev
  have f3 := hr.cut (some ((a : Int) + 1)) none
  refine ⟨_, sSet_to (i := 13) (dBin_ok (dBin_ok (slice_nat rfl rfl ml) (rev_nat (slice_nat rfl ml mh)) (add_nat (by have := f1.1; have := f2.1; omega))) (slice_nat rfl mh rfl) (add_nat (by rw [List.length_append]; have := f1.1; have := f2.1; have := f3.1; omega))) rfl, (f1.app f2).app f3⟩
theorem b7_ok {sc st : D} {n a : Nat} {ts : List S4} {r v : List Nat} {y2 y11 y15 y16 y18 y19 y20 : Sl} (g : Good st) (hr : Few 20 r) (r0 : r ≠ []) (hv : Few 60 v) (n1 : n ≤ 20) : ∃ (bs : List D) (st' : D), sSet 15 (dLst (dCons (dVar 12) (dCons (dVar 14) (dCons (dRev (dVar 12)) (dCons (dBin dAdd (dSlice (dVar 12) (dOSome (dC (.int 1))) (dONone)) (dSlice (dVar 12) (dONone) (dOSome (dC (.int 1))))) (dCons (dSlice (dVar 12) (dONone) (dOSome (dNeg (dC (.int 1))))) (dCons (dBin dAdd (dVar 12) (dSlice (dVar 12) (dOSome (dNeg (dC (.int 1)))) (dONone))) (dCons (dBin dAdd (dSlice (dVar 12) (dONone) (dOSome (dNeg (dC (.int 1))))) (dTup (dCons (dVar 17) (dNil)))) (dCons (dCallO m__law_bent 1 (dCons (dVar 12) (dNil))) (dCons (dC .non) (dCons (dCall bTuple (dCons (dLstRg (dVar 17)) (dNil))) (dNil)))))))))))) [.va sc, .ow st, y2, .un, .un, .un, .un, .un, .un, .un, .va (stsD ts), y11, .va (natT r), .va (.int (a : Nat)), .va (natT v), y15, y16, .va (.int (n : Nat)), y18, y19, y20, .un] = .ok (.nx, [.va sc, .ow st', y2, .un, .un, .un, .un, .un, .un, .un, .va (stsD ts), y11, .va (natT r), .va (.int (a : Nat)), .va (natT v), .va (.lst bs), y16, .va (.int (n : Nat)), y18, y19, y20, .un]) ∧ (∀ b, b ∈ bs → Own b) ∧ Good st' := by
  obtain ⟨bd, st', e, ob, g'⟩ := bent_ok (ws := r.map fun k => ((k : Nat) : Int)) g (by intro z; exact r0 (List.map_eq_nil_iff.mp z)) (by rw [List.length_map]; have := hr.1; omega) (fun s hs => by
    obtain ⟨k, hk, rfl⟩ := List.mem_map.mp hs
    have := hr.2 k hk
    have e : (2 : Nat) ^ 100 = 1267650600228229401496703205376 := by decide
    omega)
  rw [← nat_ints] at e
  have m1 : ∀ E : En, dOSome (dNeg (dC (.int 1))) E = .ok (some (-1), E) := fun _ => rfl
  have c1 : ∀ E : En, dOSome (dC (.int 1)) E = .ok (some 1, E) := fun _ => rfl
  have fn : Few 1 [n] := ⟨by simp, fun j hj => by rw [List.mem_singleton.mp hj]; exact n1⟩
  have fr : Few 20 (List.range n) := ⟨by rw [List.length_range]; exact n1, fun j hj => by have := List.mem_range.mp hj; omega⟩
  have rg : ∀ st, dCall bTuple (dCons (dLstRg (dVar 17)) (dNil)) [.va sc, .ow st, y2, .un, .un, .un, .un, .un, .un, .un, .va (stsD ts), y11, .va (natT r), .va (.int (a : Nat)), .va (natT v), y15, y16, .va (.int (n : Nat)), y18, y19, y20, .un] = .ok (natT (List.range n), [.va sc, .ow st, y2, .un, .un, .un, .un, .un, .un, .un, .va (stsD ts), y11, .va (natT r), .va (.int (a : Nat)), .va (natT v), y15, y16, .va (.int (n : Nat)), y18, y19, y20, .un]) := fun st => by
    refine dCall1 (lstRg_ok (n := n) rfl (by omega)) ?_
    unfold natT rngI
    rw [List.map_map]
    rfl
  have hl := hr.1
  refine ⟨_, st', sSet_to (i := 14) (dLst_ok (dCons_ok rfl (dCons_ok rfl (dCons_ok (rev_nat rfl) (dCons_ok (dBin_ok (slice_nat rfl (c1 _) rfl) (slice_nat rfl rfl (c1 _)) (add_nat (by have := (hr.cut (some 1) none).1; have := (hr.cut none (some 1)).1; omega))) (dCons_ok (slice_nat rfl rfl (m1 _)) (dCons_ok (dBin_ok rfl (slice_nat rfl (m1 _) rfl) (add_nat (by have := (hr.cut (some (-1)) none).1; omega)))
    (dCons_ok (dBin_ok (slice_nat rfl rfl (m1 _)) (dTup_ok (ds := [.int (n : Nat)]) (dCons_ok rfl rfl) (by simp)) (add_nat (b := [n]) (by have := (hr.cut none (some (-1))).1; simp; omega))) (dCons_ok (dCallO_ok (i := 1) (s0 := st) (s := st) rfl (dCons_ok rfl rfl) rfl e) (dCons_ok rfl (dCons_ok (rg st') rfl)))))))))) (by simp)) rfl, ?_, g'⟩
  intro b hb
  simp only [List.mem_cons, List.not_mem_nil, or_false] at hb
  rcases hb with rfl | rfl | rfl | rfl | rfl | rfl | rfl | rfl | rfl | rfl
  · exact hr.own (by decide)
  · exact hv.own (by decide)
  · exact hr.rev.own (by decide)
  · exact ((hr.cut (some 1) none).app (hr.cut none (some 1))).own (by decide)
  · exact (hr.cut none (some (-1))).own (by decide)
  · exact (hr.app (hr.cut (some (-1)) none)).own (by decide)
  · exact ((hr.cut none (some (-1))).app fn).own (by decide)
  · exact ob
  · exact own_of (fun z => by cases z) (fun ds z => by cases z)
  · exact fr.own (by decide)
abbrev LB : Sv := (sIf (dTb (dBin dNe (dCall m__law_heard (dCons (dC (.fn 2)) (dCons (dLst (dCons (dVar 10) (dCons (dVar 16) (dNil)))) (dNil)))) (dCall m__law_best_due (dCons (dVar 10) (dCons (dVar 16) (dNil)))))) (sNever) (bNil))
theorem lb_ok {sc st d : D} {n a : Nat} {ts : List S4} {r v : List Nat} {bs : List D} {y2 y11 y18 y19 y20 : Sl} (h : Sts ts) (ho : Own d) : LB [.va sc, .ow st, y2, .un, .un, .un, .un, .un, .un, .un, .va (stsD ts), y11, .va (natT r), .va (.int (a : Nat)), .va (natT v), .va (.lst bs), .va d, .va (.int (n : Nat)), y18, y19, y20, .un] = .ok (.nx, [.va sc, .ow st, y2, .un, .un, .un, .un, .un, .un, .un, .va (stsD ts), y11, .va (natT r), .va (.int (a : Nat)), .va (natT v), .va (.lst bs), .va d, .va (.int (n : Nat)), y18, y19, y20, .un]) := by
  obtain ⟨x, q1, q2, q3⟩ := best_eq h ho
  exact (sIf_f (dTb_ok (dBin_ok (dCall2 rfl (dLst_ok (dCons_ok rfl (dCons_ok rfl rfl)) (by simp)) q1) (dCall2 rfl rfl q2) q3))).trans rfl
theorem b8_ok {sc st : D} {n a : Nat} {ts : List S4} {r v : List Nat} {bs : List D} {y2 y11 y16 y18 y19 y20 : Sl} (h : Sts ts) (hb : ∀ b, b ∈ bs → Own b) : ∃ x16, sFor (dItems (dVar 15)) (gSet 16) (sIf (dTb (dBin dNe (dCall m__law_heard (dCons (dC (.fn 2)) (dCons (dLst (dCons (dVar 10) (dCons (dVar 16) (dNil)))) (dNil)))) (dCall m__law_best_due (dCons (dVar 10) (dCons (dVar 16) (dNil)))))) (sNever) (bNil)) [.va sc, .ow st, y2, .un, .un, .un, .un, .un, .un, .un, .va (stsD ts), y11, .va (natT r), .va (.int (a : Nat)), .va (natT v), .va (.lst bs), y16, .va (.int (n : Nat)), y18, y19, y20, .un] = .ok (.nx, [.va sc, .ow st, y2, .un, .un, .un, .un, .un, .un, .un, .va (stsD ts), y11, .va (natT r), .va (.int (a : Nat)), .va (natT v), .va (.lst bs), x16, .va (.int (n : Nat)), y18, y19, y20, .un]) := by
  obtain ⟨e', k1, x16, rfl⟩ := forL_nx (mt := gSet 16) (mb := LB) (fun e => ∃ (y16 : Sl), e = [.va sc, .ow st, y2, .un, .un, .un, .un, .un, .un, .un, .va (stsD ts), y11, .va (natT r), .va (.int (a : Nat)), .va (natT v), .va (.lst bs), y16, .va (.int (n : Nat)), y18, y19, y20, .un]) bs [.va sc, .ow st, y2, .un, .un, .un, .un, .un, .un, .un, .va (stsD ts), y11, .va (natT r), .va (.int (a : Nat)), .va (natT v), .va (.lst bs), y16, .va (.int (n : Nat)), y18, y19, y20, .un] (by
    rintro d hd e ⟨y16, rfl⟩
    exact ⟨[.va sc, .ow st, y2, .un, .un, .un, .un, .un, .un, .un, .va (stsD ts), y11, .va (natT r), .va (.int (a : Nat)), .va (natT v), .va (.lst bs), .va d, .va (.int (n : Nat)), y18, y19, y20, .un], [.va sc, .ow st, y2, .un, .un, .un, .un, .un, .un, .un, .va (stsD ts), y11, .va (natT r), .va (.int (a : Nat)), .va (natT v), .va (.lst bs), .va d, .va (.int (n : Nat)), y18, y19, y20, .un], rfl, lb_ok h (hb d hd), _, rfl⟩) ⟨_, rfl⟩
  exact ⟨x16, sFor_ok (mi := dItems (dVar 15)) rfl k1⟩
abbrev TB : Sv := (bSeq (sPar3 17 18 19 (dCons (dCallO m__law_pick 1 (dCons (dLst (dCons (dC (.int 1)) (dCons (dC (.int 2)) (dCons (dC (.int 3)) (dCons (dC (.int 5)) (dCons (dC (.int 20)) (dNil))))))) (dNil))) (dCons (dCallO m__law_pick 1 (dCons (dLst (dCons (dC (.int 2)) (dCons (dC (.int 9)) (dCons (dBin dPow (dC (.int 10)) (dC (.int 12))) (dNil))))) (dNil))) (dCons (dCallO m__law_pick 1 (dCons (dLst (dCons (dC (.int 1)) (dCons (dC (.int 3)) (dCons (dC (.int 1000)) (dNil))))) (dNil))) (dNil)))))
  (bSeq (sSetO 10 (dLst (dNil)))
  (bSeq (sFor (dRng (dCons (dVar 17) (dNil))) (gSet 11) (bSeq (sSet 20 (dBin dAdd (dC (.int 1)) (dCallO m__law_draw 1 (dCons (dVar 19) (dNil)))))
  (sDrop (dMeth fApp 10 (dCons (dTup (dCons (dCallO m__law_draw 1 (dCons (dVar 18) (dNil))) (dCons (dCallO m__law_draw 1 (dCons (dVar 18) (dNil))) (dCons (dTup (dCons (dCallO m__law_draw 1 (dCons (dVar 20) (dNil))) (dCons (dVar 20) (dNil)))) (dNil))))) (dNil))))))
  (bSeq (sSet 10 (dCall bTuple (dCons (dVarO 10) (dNil))))
  (bSeq (sSet 12 (dBin dIx (dCall m_best_order (dCons (dVar 10) (dNil))) (dC (.int 1))))
  (bSeq (sSet 13 (dCallO m__law_pick 1 (dCons (dLst (dCons (dBin dSub (dVar 17) (dC (.int 1))) (dCons (dCallO m__law_draw 1 (dCons (dVar 17) (dNil))) (dNil)))) (dNil))))
  (bSeq (sSet 14 (dBin dAdd (dBin dAdd (dSlice (dVar 12) (dONone) (dOSome (dCall bMax (dCons (dLst (dCons (dC (.int 0)) (dCons (dBin dSub (dVar 13) (dC (.int 1))) (dNil)))) (dNil))))) (dRev (dSlice (dVar 12) (dOSome (dCall bMax (dCons (dLst (dCons (dC (.int 0)) (dCons (dBin dSub (dVar 13) (dC (.int 1))) (dNil)))) (dNil)))) (dOSome (dBin dAdd (dVar 13) (dC (.int 1))))))) (dSlice (dVar 12) (dOSome (dBin dAdd (dVar 13) (dC (.int 1)))) (dONone))))
  (bSeq (sSet 15 (dLst (dCons (dVar 12) (dCons (dVar 14) (dCons (dRev (dVar 12)) (dCons (dBin dAdd (dSlice (dVar 12) (dOSome (dC (.int 1))) (dONone)) (dSlice (dVar 12) (dONone) (dOSome (dC (.int 1))))) (dCons (dSlice (dVar 12) (dONone) (dOSome (dNeg (dC (.int 1))))) (dCons (dBin dAdd (dVar 12) (dSlice (dVar 12) (dOSome (dNeg (dC (.int 1)))) (dONone))) (dCons (dBin dAdd (dSlice (dVar 12) (dONone) (dOSome (dNeg (dC (.int 1))))) (dTup (dCons (dVar 17) (dNil)))) (dCons (dCallO m__law_bent 1 (dCons (dVar 12) (dNil))) (dCons (dC .non) (dCons (dCall bTuple (dCons (dLstRg (dVar 17)) (dNil))) (dNil)))))))))))))
  (bSeq (sFor (dItems (dVar 15)) (gSet 16) (sIf (dTb (dBin dNe (dCall m__law_heard (dCons (dC (.fn 2)) (dCons (dLst (dCons (dVar 10) (dCons (dVar 16) (dNil)))) (dNil)))) (dCall m__law_best_due (dCons (dVar 10) (dCons (dVar 16) (dNil)))))) (sNever) (bNil)))
  (sIf (dTb (dBin dNe (dCall m__law_heard (dCons (dC (.fn 2)) (dCons (dLst (dCons (dVar 10) (dCons (dVar 12) (dNil)))) (dNil)))) (dLst (dCons (dC .non) (dNil))))) (sNever) (bNil)))))))))))
theorem tb_ok {sc st : D} {y2 y10 y11 y12 y13 y14 y15 y16 y17 y18 y19 y20 : Sl} (g : Good st) : ∃ (st' : D) (x2 x10 x11 x12 x13 x14 x15 x16 x17 x18 x19 x20 : Sl), TB [.va sc, .ow st, y2, .un, .un, .un, .un, .un, .un, .un, y10, y11, y12, y13, y14, y15, y16, y17, y18, y19, y20, .un] = .ok (.nx, [.va sc, .ow st', x2, .un, .un, .un, .un, .un, .un, .un, x10, x11, x12, x13, x14, x15, x16, x17, x18, x19, x20, .un]) ∧ Good st' := by
  obtain ⟨n, z, w, st1, q0, n0, n1, z0, z1, w0, w1, g1⟩ := b0_ok (sc := sc) (y2 := y2) (y10 := y10) (y11 := y11) (y12 := y12) (y13 := y13) (y14 := y14) (y15 := y15) (y16 := y16) (y17 := y17) (y18 := y18) (y19 := y19) (y20 := y20) g
  obtain ⟨ts, st2, x11, x20, q2, h, hn, g2⟩ := steps_ok (sc := sc) (n := n) (y2 := y2) (y11 := y11) (y12 := y12) (y13 := y13) (y14 := y14) (y15 := y15) (y16 := y16) (y20 := y20) g1 z0 z1 w0 w1 n0 n1
  obtain ⟨rr, qb⟩ := best_ok h
  obtain ⟨orr, hh⟩ := right_ok h
  obtain ⟨o1, o2⟩ := ord_of h (Nat.le_refl _)
  generalize ordN ts ts.length = r at qb orr hh o1 o2
  have hr : Few 20 r := ⟨by have := h.l2; omega, fun j hj => by have := o2 j hj; have := h.l2; omega⟩
  have r0 : r ≠ [] := fun z => by rw [z] at o1; have := h.l1; simp at o1; omega
  obtain ⟨a, st3, q5, a1, g3⟩ := b5_ok (sc := sc) (n := n) (ts := ts) (r := r) (y2 := y2) (y11 := x11) (y13 := y13) (y14 := y14) (y15 := y15) (y16 := y16) (y18 := .va (.int z)) (y19 := .va (.int w)) (y20 := x20) g2 n0 n1
  obtain ⟨v, q6, fv⟩ := b6_ok (sc := sc) (st := st3) (n := n) (a := a) (ts := ts) (y2 := y2) (y11 := x11) (y14 := y14) (y15 := y15) (y16 := y16) (y18 := .va (.int z)) (y19 := .va (.int w)) (y20 := x20) hr
  obtain ⟨bs, st4, q7, hb, g4⟩ := b7_ok (sc := sc) (n := n) (a := a) (ts := ts) (y2 := y2) (y11 := x11) (y15 := y15) (y16 := y16) (y18 := .va (.int z)) (y19 := .va (.int w)) (y20 := x20) g3 hr r0 fv n1
  obtain ⟨x16, q8⟩ := b8_ok (sc := sc) (st := st4) (n := n) (a := a) (r := r) (v := v) (y2 := y2) (y11 := x11) (y16 := y16) (y18 := .va (.int z)) (y19 := .va (.int w)) (y20 := x20) h hb
  refine ⟨st4, y2, .va (stsD ts), x11, .va (natT r), .va (.int (a : Nat)), .va (natT v), .va (.lst bs), x16, .va (.int (n : Nat)), .va (.int z), .va (.int w), x20, ?_, g4⟩
  unfold TB
  rw [stp q0]
  rw [stp (sSetO_to (i := 9) (d := .lst []) (e2 := [.va sc, .ow st1, y2, .un, .un, .un, .un, .un, .un, .un, .ow (.lst []), y11, y12, y13, y14, y15, y16, .va (.int (n : Nat)), .va (.int z), .va (.int w), y20, .un]) (dLst_ok rfl (by simp)) rfl)]
  rw [stp q2]
  rw [stp (sSet_to (i := 9) (d := stsD ts) (e' := [.va sc, .ow st2, y2, .un, .un, .un, .un, .un, .un, .un, .ow (.lst (ts.map stD)), x11, y12, y13, y14, y15, y16, .va (.int (n : Nat)), .va (.int z), .va (.int w), x20, .un]) (e2 := [.va sc, .ow st2, y2, .un, .un, .un, .un, .un, .un, .un, .va (stsD ts), x11, y12, y13, y14, y15, y16, .va (.int (n : Nat)), .va (.int z), .va (.int w), x20, .un]) rfl rfl)]
  rw [stp (sSet_to (i := 11) (d := natT r) (e2 := [.va sc, .ow st2, y2, .un, .un, .un, .un, .un, .un, .un, .va (stsD ts), x11, .va (natT r), y13, y14, y15, y16, .va (.int (n : Nat)), .va (.int z), .va (.int w), x20, .un]) (dBin_ok (dCall1 rfl qb) rfl rfl) rfl)]
  rw [stp q5, stp q6, stp q7, stp q8]
  exact (sIf_f (dTb_ok (dBin_ok (dCall2 rfl (dLst_ok (dCons_ok rfl (dCons_ok rfl rfl)) (by simp)) hh) (dLst_ok (dCons_ok rfl rfl) (by simp)) ne_non))).trans rfl
theorem turns_ok {sc st : D} (g : Good st) : ∃ (st' : D) (y2 y10 y11 y12 y13 y14 y15 y16 y17 y18 y19 y20 : Sl), sFor (dRng (dCons (dC (.int 4)) (dNil))) (gSet 2) (bSeq (sPar3 17 18 19 (dCons (dCallO m__law_pick 1 (dCons (dLst (dCons (dC (.int 1)) (dCons (dC (.int 2)) (dCons (dC (.int 3)) (dCons (dC (.int 5)) (dCons (dC (.int 20)) (dNil))))))) (dNil))) (dCons (dCallO m__law_pick 1 (dCons (dLst (dCons (dC (.int 2)) (dCons (dC (.int 9)) (dCons (dBin dPow (dC (.int 10)) (dC (.int 12))) (dNil))))) (dNil))) (dCons (dCallO m__law_pick 1 (dCons (dLst (dCons (dC (.int 1)) (dCons (dC (.int 3)) (dCons (dC (.int 1000)) (dNil))))) (dNil))) (dNil)))))
  (bSeq (sSetO 10 (dLst (dNil)))
  (bSeq (sFor (dRng (dCons (dVar 17) (dNil))) (gSet 11) (bSeq (sSet 20 (dBin dAdd (dC (.int 1)) (dCallO m__law_draw 1 (dCons (dVar 19) (dNil)))))
  (sDrop (dMeth fApp 10 (dCons (dTup (dCons (dCallO m__law_draw 1 (dCons (dVar 18) (dNil))) (dCons (dCallO m__law_draw 1 (dCons (dVar 18) (dNil))) (dCons (dTup (dCons (dCallO m__law_draw 1 (dCons (dVar 20) (dNil))) (dCons (dVar 20) (dNil)))) (dNil))))) (dNil))))))
  (bSeq (sSet 10 (dCall bTuple (dCons (dVarO 10) (dNil))))
  (bSeq (sSet 12 (dBin dIx (dCall m_best_order (dCons (dVar 10) (dNil))) (dC (.int 1))))
  (bSeq (sSet 13 (dCallO m__law_pick 1 (dCons (dLst (dCons (dBin dSub (dVar 17) (dC (.int 1))) (dCons (dCallO m__law_draw 1 (dCons (dVar 17) (dNil))) (dNil)))) (dNil))))
  (bSeq (sSet 14 (dBin dAdd (dBin dAdd (dSlice (dVar 12) (dONone) (dOSome (dCall bMax (dCons (dLst (dCons (dC (.int 0)) (dCons (dBin dSub (dVar 13) (dC (.int 1))) (dNil)))) (dNil))))) (dRev (dSlice (dVar 12) (dOSome (dCall bMax (dCons (dLst (dCons (dC (.int 0)) (dCons (dBin dSub (dVar 13) (dC (.int 1))) (dNil)))) (dNil)))) (dOSome (dBin dAdd (dVar 13) (dC (.int 1))))))) (dSlice (dVar 12) (dOSome (dBin dAdd (dVar 13) (dC (.int 1)))) (dONone))))
  (bSeq (sSet 15 (dLst (dCons (dVar 12) (dCons (dVar 14) (dCons (dRev (dVar 12)) (dCons (dBin dAdd (dSlice (dVar 12) (dOSome (dC (.int 1))) (dONone)) (dSlice (dVar 12) (dONone) (dOSome (dC (.int 1))))) (dCons (dSlice (dVar 12) (dONone) (dOSome (dNeg (dC (.int 1))))) (dCons (dBin dAdd (dVar 12) (dSlice (dVar 12) (dOSome (dNeg (dC (.int 1)))) (dONone))) (dCons (dBin dAdd (dSlice (dVar 12) (dONone) (dOSome (dNeg (dC (.int 1))))) (dTup (dCons (dVar 17) (dNil)))) (dCons (dCallO m__law_bent 1 (dCons (dVar 12) (dNil))) (dCons (dC .non) (dCons (dCall bTuple (dCons (dLstRg (dVar 17)) (dNil))) (dNil)))))))))))))
  (bSeq (sFor (dItems (dVar 15)) (gSet 16) (sIf (dTb (dBin dNe (dCall m__law_heard (dCons (dC (.fn 2)) (dCons (dLst (dCons (dVar 10) (dCons (dVar 16) (dNil)))) (dNil)))) (dCall m__law_best_due (dCons (dVar 10) (dCons (dVar 16) (dNil)))))) (sNever) (bNil)))
  (sIf (dTb (dBin dNe (dCall m__law_heard (dCons (dC (.fn 2)) (dCons (dLst (dCons (dVar 10) (dCons (dVar 12) (dNil)))) (dNil)))) (dLst (dCons (dC .non) (dNil))))) (sNever) (bNil))))))))))) [.va sc, .ow st, .un, .un, .un, .un, .un, .un, .un, .un, .un, .un, .un, .un, .un, .un, .un, .un, .un, .un, .un, .un] = .ok (.nx, [.va sc, .ow st', y2, .un, .un, .un, .un, .un, .un, .un, y10, y11, y12, y13, y14, y15, y16, y17, y18, y19, y20, .un]) ∧ Good st' := by
  obtain ⟨e', k1, st', y2, y10, y11, y12, y13, y14, y15, y16, y17, y18, y19, y20, rfl, g'⟩ := forL_nx (mt := gSet 2) (mb := TB) (fun e => ∃ (st : D) (y2 y10 y11 y12 y13 y14 y15 y16 y17 y18 y19 y20 : Sl), e = [.va sc, .ow st, y2, .un, .un, .un, .un, .un, .un, .un, y10, y11, y12, y13, y14, y15, y16, y17, y18, y19, y20, .un] ∧ Good st) (rngD 0 1 4) [.va sc, .ow st, .un, .un, .un, .un, .un, .un, .un, .un, .un, .un, .un, .un, .un, .un, .un, .un, .un, .un, .un, .un] (by
    rintro d hd e ⟨st, y2, y10, y11, y12, y13, y14, y15, y16, y17, y18, y19, y20, rfl, g⟩
    obtain ⟨st', x2, x10, x11, x12, x13, x14, x15, x16, x17, x18, x19, x20, q, g'⟩ := tb_ok (sc := sc) (y2 := .va d) (y10 := y10) (y11 := y11) (y12 := y12) (y13 := y13) (y14 := y14) (y15 := y15) (y16 := y16) (y17 := y17) (y18 := y18) (y19 := y19) (y20 := y20) g
    exact ⟨[.va sc, .ow st, .va d, .un, .un, .un, .un, .un, .un, .un, y10, y11, y12, y13, y14, y15, y16, y17, y18, y19, y20, .un], _, rfl, q, st', _, _, _, _, _, _, _, _, _, _, _, _, rfl, g'⟩) ⟨st, _, _, _, _, _, _, _, _, _, _, _, _, rfl, g⟩
  exact ⟨st', y2, y10, y11, y12, y13, y14, y15, y16, y17, y18, y19, y20, sFor_ok (rngc (n := 4) (by decide)) k1, g'⟩
end LW
end Dn

/-! P24n -/
set_option Elab.async false
set_option linter.all false
set_option maxRecDepth 100000
set_option maxHeartbeats 2000000
namespace Dn
namespace LW
open PySem
/-! ### k24: the end, on constants: the kernel runs the mirrors -/
def gd : List D := [D.tup [D.int 1, D.int 2, D.tup [D.int 1, D.int 2]], D.tup [D.int 3, D.int 4, D.tup [D.int 0, D.int 1]], D.tup [D.int 5, D.int 6, D.tup [D.int 1, D.int 3]]]
def GD : D := .tup gd
def odL : List D := [D.non, D.tup [], D.tup [D.int 1, D.int 2], D.tup [D.int 1, D.int 2, D.tup [D.int 1, D.int 1]], D.tup [D.int 1, D.int 2, D.tup [D.int (-1), D.int 2]], D.tup [D.int 1, D.int 2, D.tup [D.int 0, D.int 0]], D.tup [D.int 1, D.int 2, D.tup [D.int 1, D.int 1001]], D.tup [D.int (-1), D.int 2, D.tup [D.int 0, D.int 1]], D.tup [D.int 1, D.int 1000000000001, D.tup [D.int 0, D.int 1]], D.tup [D.bl true, D.int 2, D.tup [D.int 0, D.int 1]], D.tup [D.int 1, D.int 2, D.tup [D.bl false, D.int 1]]]
def ODL : List D := [D.non, D.tup [], D.tup [D.int 1, D.int 2], D.tup [D.int 1, D.int 2, D.tup [D.int 1, D.int 1]], D.tup [D.int 1, D.int 2, D.tup [D.int (-1), D.int 2]], D.tup [D.int 1, D.int 2, D.tup [D.int 0, D.int 0]], D.tup [D.int 1, D.int 2, D.tup [D.int 1, D.int 1001]], D.tup [D.int (-1), D.int 2, D.tup [D.int 0, D.int 1]], D.tup [D.int 1, D.int 1000000000001, D.tup [D.int 0, D.int 1]], D.tup [D.bl true, D.int 2, D.tup [D.int 0, D.int 1]], D.tup [D.int 1, D.int 2, D.tup [D.bl false, D.int 1]], D.tup [D.int 1, D.int 2, D.tup [D.int 0, D.bl true]], D.tup [D.int 1, D.int 2, D.non], D.tup [D.int 1, D.int 2, D.tup [D.int 0]], D.tup [D.int 1, D.non, D.tup [D.int 0, D.int 1]], D.tup [D.int 1, D.int 2, D.tup [D.int 0, D.int 1], D.int 3], D.lst [D.int 1, D.int 2, D.tup [D.int 0, D.int 1]], D.tup [D.int 1, D.int 2, D.lst [D.int 0, D.int 1]], D.int 5]
def firstL : List D := [D.non, D.tup [], D.tup [D.tup [D.int 1, D.int 2, D.tup [D.int 1, D.int 2]], D.tup [D.int 3, D.int 4, D.tup [D.int 0, D.int 1]], D.tup [D.int 5, D.int 6, D.tup [D.int 1, D.int 3]], D.tup [D.int 1, D.int 2, D.tup [D.int 1, D.int 2]], D.tup [D.int 3, D.int 4, D.tup [D.int 0, D.int 1]], D.tup [D.int 5, D.int 6, D.tup [D.int 1, D.int 3]], D.tup [D.int 1, D.int 2, D.tup [D.int 1, D.int 2]], D.tup [D.int 3, D.int 4, D.tup [D.int 0, D.int 1]], D.tup [D.int 5, D.int 6, D.tup [D.int 1, D.int 3]], D.tup [D.int 1, D.int 2, D.tup [D.int 1, D.int 2]], D.tup [D.int 3, D.int 4, D.tup [D.int 0, D.int 1]], D.tup [D.int 5, D.int 6, D.tup [D.int 1, D.int 3]], D.tup [D.int 1, D.int 2, D.tup [D.int 1, D.int 2]], D.tup [D.int 3, D.int 4, D.tup [D.int 0, D.int 1]], D.tup [D.int 5, D.int 6, D.tup [D.int 1, D.int 3]], D.tup [D.int 1, D.int 2, D.tup [D.int 1, D.int 2]], D.tup [D.int 3, D.int 4, D.tup [D.int 0, D.int 1]], D.tup [D.int 5, D.int 6, D.tup [D.int 1, D.int 3]], D.tup [D.int 1, D.int 2, D.tup [D.int 1, D.int 2]], D.tup [D.int 3, D.int 4, D.tup [D.int 0, D.int 1]], D.tup [D.int 5, D.int 6, D.tup [D.int 1, D.int 3]]], D.int 5, D.lst [D.tup [D.int 1, D.int 2, D.tup [D.int 1, D.int 2]], D.tup [D.int 3, D.int 4, D.tup [D.int 0, D.int 1]], D.tup [D.int 5, D.int 6, D.tup [D.int 1, D.int 3]]]]
def ordL : List D := [D.non, D.tup [D.int 0, D.int 1], D.tup [D.int 0, D.int 1, D.int 1], D.tup [D.int 0, D.int 1, D.int 3], D.tup [D.int 0, D.bl true, D.int 2], D.tup [D.int 0, D.int 1, D.int 2, D.int 2], D.tup [D.str "0", D.int 1, D.int 2], D.int 5, D.lst [D.int 0, D.int 1, D.int 2], D.tup []]
def lnkL : List D := [D.non, D.tup [D.tup [D.int 0, D.int 1, D.int 2]], D.tup [D.tup [D.int 0, D.int 0]], D.tup [D.tup [D.int 0, D.int 3]], D.tup [D.tup [D.int (-1), D.int 0]], D.tup [D.tup [D.int 0, D.bl true]], D.tup [D.int 5], D.int 5, D.lst [D.tup [D.int 0, D.int 1]], D.tup [D.tup [D.int 0, D.int 1], D.tup [D.int 0, D.int 1], D.tup [D.int 0, D.int 1], D.tup [D.int 0, D.int 1], D.tup [D.int 0, D.int 1], D.tup [D.int 0, D.int 1], D.tup [D.int 0, D.int 1], D.tup [D.int 0, D.int 1], D.tup [D.int 0, D.int 1], D.tup [D.int 0, D.int 1], D.tup [D.int 0, D.int 1], D.tup [D.int 0, D.int 1], D.tup [D.int 0, D.int 1], D.tup [D.int 0, D.int 1], D.tup [D.int 0, D.int 1], D.tup [D.int 0, D.int 1], D.tup [D.int 0, D.int 1], D.tup [D.int 0, D.int 1], D.tup [D.int 0, D.int 1], D.tup [D.int 0, D.int 1], D.tup [D.int 0, D.int 1], D.tup [D.int 0, D.int 1], D.tup [D.int 0, D.int 1], D.tup [D.int 0, D.int 1], D.tup [D.int 0, D.int 1], D.tup [D.int 0, D.int 1], D.tup [D.int 0, D.int 1], D.tup [D.int 0, D.int 1], D.tup [D.int 0, D.int 1], D.tup [D.int 0, D.int 1], D.tup [D.int 0, D.int 1], D.tup [D.int 0, D.int 1], D.tup [D.int 0, D.int 1], D.tup [D.int 0, D.int 1], D.tup [D.int 0, D.int 1], D.tup [D.int 0, D.int 1], D.tup [D.int 0, D.int 1], D.tup [D.int 0, D.int 1], D.tup [D.int 0, D.int 1], D.tup [D.int 0, D.int 1], D.tup [D.int 0, D.int 1], D.tup [D.int 0, D.int 1], D.tup [D.int 0, D.int 1], D.tup [D.int 0, D.int 1], D.tup [D.int 0, D.int 1], D.tup [D.int 0, D.int 1], D.tup [D.int 0, D.int 1], D.tup [D.int 0, D.int 1], D.tup [D.int 0, D.int 1], D.tup [D.int 0, D.int 1], D.tup [D.int 0, D.int 1], D.tup [D.int 0, D.int 1], D.tup [D.int 0, D.int 1], D.tup [D.int 0, D.int 1], D.tup [D.int 0, D.int 1], D.tup [D.int 0, D.int 1], D.tup [D.int 0, D.int 1], D.tup [D.int 0, D.int 1], D.tup [D.int 0, D.int 1], D.tup [D.int 0, D.int 1], D.tup [D.int 0, D.int 1]], D.tup [D.tup [D.int 0, D.non]]]
def rngL : List D := [D.tup [D.tup [D.int 0, D.int 1], D.tup [D.int 1, D.int 0]], D.tup [D.tup [D.int 0, D.int 1], D.tup [D.int 1, D.int 2], D.tup [D.int 2, D.int 0]], D.tup [D.tup [D.int 0, D.int 1], D.tup [D.int 0, D.int 1], D.tup [D.int 0, D.int 1], D.tup [D.int 0, D.int 1], D.tup [D.int 0, D.int 1], D.tup [D.int 0, D.int 1], D.tup [D.int 0, D.int 1], D.tup [D.int 0, D.int 1], D.tup [D.int 0, D.int 1], D.tup [D.int 0, D.int 1], D.tup [D.int 0, D.int 1], D.tup [D.int 0, D.int 1], D.tup [D.int 0, D.int 1], D.tup [D.int 0, D.int 1], D.tup [D.int 0, D.int 1], D.tup [D.int 0, D.int 1], D.tup [D.int 0, D.int 1], D.tup [D.int 0, D.int 1], D.tup [D.int 0, D.int 1], D.tup [D.int 0, D.int 1], D.tup [D.int 0, D.int 1], D.tup [D.int 0, D.int 1], D.tup [D.int 0, D.int 1], D.tup [D.int 0, D.int 1], D.tup [D.int 0, D.int 1], D.tup [D.int 0, D.int 1], D.tup [D.int 0, D.int 1], D.tup [D.int 0, D.int 1], D.tup [D.int 0, D.int 1], D.tup [D.int 0, D.int 1], D.tup [D.int 0, D.int 1], D.tup [D.int 0, D.int 1], D.tup [D.int 0, D.int 1], D.tup [D.int 0, D.int 1], D.tup [D.int 0, D.int 1], D.tup [D.int 0, D.int 1], D.tup [D.int 0, D.int 1], D.tup [D.int 0, D.int 1], D.tup [D.int 0, D.int 1], D.tup [D.int 0, D.int 1], D.tup [D.int 0, D.int 1], D.tup [D.int 0, D.int 1], D.tup [D.int 0, D.int 1], D.tup [D.int 0, D.int 1], D.tup [D.int 0, D.int 1], D.tup [D.int 0, D.int 1], D.tup [D.int 0, D.int 1], D.tup [D.int 0, D.int 1], D.tup [D.int 0, D.int 1], D.tup [D.int 0, D.int 1], D.tup [D.int 0, D.int 1], D.tup [D.int 0, D.int 1], D.tup [D.int 0, D.int 1], D.tup [D.int 0, D.int 1], D.tup [D.int 0, D.int 1], D.tup [D.int 0, D.int 1], D.tup [D.int 0, D.int 1], D.tup [D.int 0, D.int 1], D.tup [D.int 1, D.int 2], D.tup [D.int 2, D.int 1]]]
def FSt : D := .str "flow steps"
theorem v2_ok {sc st : D} {y2 y10 y11 y12 y13 y14 y15 y16 y17 y18 y19 y20 : Sl} : sSet 3 (dTup (dCons (dTup (dCons (dC (.int 1)) (dCons (dC (.int 2)) (dCons (dTup (dCons (dC (.int 1)) (dCons (dC (.int 2)) (dNil)))) (dNil))))) (dCons (dTup (dCons (dC (.int 3)) (dCons (dC (.int 4)) (dCons (dTup (dCons (dC (.int 0)) (dCons (dC (.int 1)) (dNil)))) (dNil))))) (dCons (dTup (dCons (dC (.int 5)) (dCons (dC (.int 6)) (dCons (dTup (dCons (dC (.int 1)) (dCons (dC (.int 3)) (dNil)))) (dNil))))) (dNil))))) [.va sc, .ow st, y2, .un, .un, .un, .un, .un, .un, .un, y10, y11, y12, y13, y14, y15, y16, y17, y18, y19, y20, .un] = .ok (.nx, [.va sc, .ow st, y2, .va GD, .un, .un, .un, .un, .un, .un, y10, y11, y12, y13, y14, y15, y16, y17, y18, y19, y20, .un]) := by kernel_rfl
theorem v3_ok {sc st : D} {y2 y10 y11 y12 y13 y14 y15 y16 y17 y18 y19 y20 : Sl} : sSet 4 (dLst (dCons (dC .non) (dCons (dTup (dNil)) (dCons (dTup (dCons (dC (.int 1)) (dCons (dC (.int 2)) (dNil)))) (dCons (dTup (dCons (dC (.int 1)) (dCons (dC (.int 2)) (dCons (dTup (dCons (dC (.int 1)) (dCons (dC (.int 1)) (dNil)))) (dNil))))) (dCons (dTup (dCons (dC (.int 1)) (dCons (dC (.int 2)) (dCons (dTup (dCons (dNeg (dC (.int 1))) (dCons (dC (.int 2)) (dNil)))) (dNil))))) (dCons (dTup (dCons (dC (.int 1)) (dCons (dC (.int 2)) (dCons (dTup (dCons (dC (.int 0)) (dCons (dC (.int 0)) (dNil)))) (dNil))))) (dCons (dTup (dCons (dC (.int 1)) (dCons (dC (.int 2)) (dCons (dTup (dCons (dC (.int 1)) (dCons (dC (.int 1001)) (dNil)))) (dNil))))) (dCons (dTup (dCons (dNeg (dC (.int 1))) (dCons (dC (.int 2)) (dCons (dTup (dCons (dC (.int 0)) (dCons (dC (.int 1)) (dNil)))) (dNil))))) (dCons (dTup (dCons (dC (.int 1)) (dCons (dBin dAdd (dBin dPow (dC (.int 10)) (dC (.int 12))) (dC (.int 1))) (dCons (dTup (dCons (dC (.int 0)) (dCons (dC (.int 1)) (dNil)))) (dNil))))) (dCons (dTup (dCons (dC (.bl true)) (dCons (dC (.int 2)) (dCons (dTup (dCons (dC (.int 0)) (dCons (dC (.int 1)) (dNil)))) (dNil))))) (dCons (dTup (dCons (dC (.int 1)) (dCons (dC (.int 2)) (dCons (dTup (dCons (dC (.bl false)) (dCons (dC (.int 1)) (dNil)))) (dNil))))) (dNil))))))))))))) [.va sc, .ow st, y2, .va GD, .un, .un, .un, .un, .un, .un, y10, y11, y12, y13, y14, y15, y16, y17, y18, y19, y20, .un] = .ok (.nx, [.va sc, .ow st, y2, .va GD, .va (.lst odL), .un, .un, .un, .un, .un, y10, y11, y12, y13, y14, y15, y16, y17, y18, y19, y20, .un]) := by kernel_rfl
theorem v4_ok {sc st : D} {y2 y10 y11 y12 y13 y14 y15 y16 y17 y18 y19 y20 : Sl} : sSet 4 (dBin dAdd (dVar 4) (dLst (dCons (dTup (dCons (dC (.int 1)) (dCons (dC (.int 2)) (dCons (dTup (dCons (dC (.int 0)) (dCons (dC (.bl true)) (dNil)))) (dNil))))) (dCons (dTup (dCons (dC (.int 1)) (dCons (dC (.int 2)) (dCons (dC .non) (dNil))))) (dCons (dTup (dCons (dC (.int 1)) (dCons (dC (.int 2)) (dCons (dTup (dCons (dC (.int 0)) (dNil))) (dNil))))) (dCons (dTup (dCons (dC (.int 1)) (dCons (dC .non) (dCons (dTup (dCons (dC (.int 0)) (dCons (dC (.int 1)) (dNil)))) (dNil))))) (dCons (dTup (dCons (dC (.int 1)) (dCons (dC (.int 2)) (dCons (dTup (dCons (dC (.int 0)) (dCons (dC (.int 1)) (dNil)))) (dCons (dC (.int 3)) (dNil)))))) (dCons (dLst (dCons (dC (.int 1)) (dCons (dC (.int 2)) (dCons (dTup (dCons (dC (.int 0)) (dCons (dC (.int 1)) (dNil)))) (dNil))))) (dCons (dTup (dCons (dC (.int 1)) (dCons (dC (.int 2)) (dCons (dLst (dCons (dC (.int 0)) (dCons (dC (.int 1)) (dNil)))) (dNil))))) (dCons (dC (.int 5)) (dNil))))))))))) [.va sc, .ow st, y2, .va GD, .va (.lst odL), .un, .un, .un, .un, .un, y10, y11, y12, y13, y14, y15, y16, y17, y18, y19, y20, .un] = .ok (.nx, [.va sc, .ow st, y2, .va GD, .va (.lst ODL), .un, .un, .un, .un, .un, y10, y11, y12, y13, y14, y15, y16, y17, y18, y19, y20, .un]) := by kernel_rfl
abbrev VB : Sv := (bSeq (sSet 9 (dLc (dItems (dLst (dCons (dC (.fn 3)) (dCons (dC (.fn 4)) (dNil))))) (gSet 21) (dYes) (dCall m__law_heard (dCons (dVar 21) (dCons (dLst (dCons (dVar 5) (dNil))) (dNil)))) [21]))
  (sIf (dTb (dBin dNe (dBin dAdd (dVar 9) (dLc (dItems (dLst (dCons (dC (.fn 5)) (dCons (dC (.fn 6)) (dCons (dC (.fn 1)) (dCons (dC (.fn 2)) (dCons (dC (.fn 0)) (dNil)))))))) (gSet 21) (dYes) (dCall m__law_heard (dCons (dVar 21) (dCons (dLst (dCons (dVar 5) (dCons (dC .non) (dNil)))) (dNil)))) [21])) (dBin dMul (dLst (dCons (dC (.str "flow steps")) (dNil))) (dC (.int 7))))) (sNever) (bNil)))
def wrL : List D := firstL ++ (ODL.map fun o => .tup [D.tup [D.int 1, D.int 2, D.tup [D.int 1, D.int 2]], D.tup [D.int 3, D.int 4, D.tup [D.int 0, D.int 1]], o]) ++ (ODL.map fun o => .tup [o, D.tup [D.int 3, D.int 4, D.tup [D.int 0, D.int 1]], D.tup [D.int 5, D.int 6, D.tup [D.int 1, D.int 3]]])
theorem vb_all {sc st : D} {y2 y10 y11 y12 y13 y14 y15 y16 y17 y18 y19 y20 yt : Sl} : (wrL.map fun w => VB [.va sc, .ow st, y2, .va GD, .va (.lst ODL), .va w, .un, .un, .un, yt, y10, y11, y12, y13, y14, y15, y16, y17, y18, y19, y20, .un]) = wrL.map fun w => Except.ok (Fl.nx, [.va sc, .ow st, y2, .va GD, .va (.lst ODL), .va w, .un, .un, .un, .va (.lst [FSt, FSt]), y10, y11, y12, y13, y14, y15, y16, y17, y18, y19, y20, .un]) := by kernel_rfl
theorem vb_ok {sc st w : D} {y2 y10 y11 y12 y13 y14 y15 y16 y17 y18 y19 y20 yt : Sl} (h : w ∈ wrL) : VB [.va sc, .ow st, y2, .va GD, .va (.lst ODL), .va w, .un, .un, .un, yt, y10, y11, y12, y13, y14, y15, y16, y17, y18, y19, y20, .un] = .ok (.nx, [.va sc, .ow st, y2, .va GD, .va (.lst ODL), .va w, .un, .un, .un, .va (.lst [FSt, FSt]), y10, y11, y12, y13, y14, y15, y16, y17, y18, y19, y20, .un]) := List.map_inj_left.mp (vb_all (sc := sc) (st := st) (y2 := y2) (y10 := y10) (y11 := y11) (y12 := y12) (y13 := y13) (y14 := y14) (y15 := y15) (y16 := y16) (y17 := y17) (y18 := y18) (y19 := y19) (y20 := y20) (yt := yt)) w h
theorem items_ok {sc st : D} {y2 y10 y11 y12 y13 y14 y15 y16 y17 y18 y19 y20 : Sl} (g : Good st) : ∃ (o1 o2 st' : D), dItems (dLst (dCons (dC .non) (dCons (dTup (dNil)) (dCons (dBin dMul (dVar 3) (dC (.int 7))) (dCons (dC (.int 5)) (dCons (dCall bList (dCons (dVar 3) (dNil))) (dCons (dBin dAdd (dSlice (dVar 3) (dONone) (dOSome (dC (.int 2)))) (dTup (dCons (dCallO m__law_pick 1 (dCons (dVar 4) (dNil))) (dNil)))) (dCons (dBin dAdd (dTup (dCons (dCallO m__law_pick 1 (dCons (dVar 4) (dNil))) (dNil))) (dSlice (dVar 3) (dOSome (dC (.int 1))) (dONone))) (dNil))))))))) [.va sc, .ow st, y2, .va GD, .va (.lst ODL), .un, .un, .un, .un, .un, y10, y11, y12, y13, y14, y15, y16, y17, y18, y19, y20, .un] = .ok (firstL ++ [.tup [D.tup [D.int 1, D.int 2, D.tup [D.int 1, D.int 2]], D.tup [D.int 3, D.int 4, D.tup [D.int 0, D.int 1]], o1], .tup [o2, D.tup [D.int 3, D.int 4, D.tup [D.int 0, D.int 1]], D.tup [D.int 5, D.int 6, D.tup [D.int 1, D.int 3]]]], [.va sc, .ow st', y2, .va GD, .va (.lst ODL), .un, .un, .un, .un, .un, y10, y11, y12, y13, y14, y15, y16, y17, y18, y19, y20, .un]) ∧ o1 ∈ ODL ∧ o2 ∈ ODL ∧ Good st' := by
  obtain ⟨o1, st1, q1, h1, g1⟩ := pick1 (sc := sc) (R := [.va sc, .ow st, y2, .va GD, .va (.lst ODL), .un, .un, .un, .un, .un, y10, y11, y12, y13, y14, y15, y16, y17, y18, y19, y20, .un].drop 2) (m := dVar 4) (xs := ODL) g rfl (by decide) (by decide)
  obtain ⟨o2, st2, q2, h2, g2⟩ := pick1 (sc := sc) (R := [.va sc, .ow st, y2, .va GD, .va (.lst ODL), .un, .un, .un, .un, .un, y10, y11, y12, y13, y14, y15, y16, y17, y18, y19, y20, .un].drop 2) (m := dVar 4) (xs := ODL) g1 rfl (by decide) (by decide)
  have s1 : ∀ st, dSlice (dVar 3) (dONone) (dOSome (dC (.int 2))) [.va sc, .ow st, y2, .va GD, .va (.lst ODL), .un, .un, .un, .un, .un, y10, y11, y12, y13, y14, y15, y16, y17, y18, y19, y20, .un] = .ok (.tup [D.tup [D.int 1, D.int 2, D.tup [D.int 1, D.int 2]], D.tup [D.int 3, D.int 4, D.tup [D.int 0, D.int 1]]], [.va sc, .ow st, y2, .va GD, .va (.lst ODL), .un, .un, .un, .un, .un, y10, y11, y12, y13, y14, y15, y16, y17, y18, y19, y20, .un]) := fun st => by kernel_rfl
  have s2 : ∀ st, dSlice (dVar 3) (dOSome (dC (.int 1))) (dONone) [.va sc, .ow st, y2, .va GD, .va (.lst ODL), .un, .un, .un, .un, .un, y10, y11, y12, y13, y14, y15, y16, y17, y18, y19, y20, .un] = .ok (.tup [D.tup [D.int 3, D.int 4, D.tup [D.int 0, D.int 1]], D.tup [D.int 5, D.int 6, D.tup [D.int 1, D.int 3]]], [.va sc, .ow st, y2, .va GD, .va (.lst ODL), .un, .un, .un, .un, .un, y10, y11, y12, y13, y14, y15, y16, y17, y18, y19, y20, .un]) := fun st => by kernel_rfl
  have m7 : dBin dMul (dVar 3) (dC (.int 7)) [.va sc, .ow st, y2, .va GD, .va (.lst ODL), .un, .un, .un, .un, .un, y10, y11, y12, y13, y14, y15, y16, y17, y18, y19, y20, .un] = .ok (D.tup [D.tup [D.int 1, D.int 2, D.tup [D.int 1, D.int 2]], D.tup [D.int 3, D.int 4, D.tup [D.int 0, D.int 1]], D.tup [D.int 5, D.int 6, D.tup [D.int 1, D.int 3]], D.tup [D.int 1, D.int 2, D.tup [D.int 1, D.int 2]], D.tup [D.int 3, D.int 4, D.tup [D.int 0, D.int 1]], D.tup [D.int 5, D.int 6, D.tup [D.int 1, D.int 3]], D.tup [D.int 1, D.int 2, D.tup [D.int 1, D.int 2]], D.tup [D.int 3, D.int 4, D.tup [D.int 0, D.int 1]], D.tup [D.int 5, D.int 6, D.tup [D.int 1, D.int 3]], D.tup [D.int 1, D.int 2, D.tup [D.int 1, D.int 2]], D.tup [D.int 3, D.int 4, D.tup [D.int 0, D.int 1]], D.tup [D.int 5, D.int 6, D.tup [D.int 1, D.int 3]], D.tup [D.int 1, D.int 2, D.tup [D.int 1, D.int 2]], D.tup [D.int 3, D.int 4, D.tup [D.int 0, D.int 1]], D.tup [D.int 5, D.int 6, D.tup [D.int 1, D.int 3]], D.tup [D.int 1, D.int 2, D.tup [D.int 1, D.int 2]], D.tup [D.int 3, D.int 4, D.tup [D.int 0, D.int 1]], D.tup [D.int 5, D.int 6, D.tup [D.int 1, D.int 3]], D.tup [D.int 1, D.int 2, D.tup [D.int 1, D.int 2]], D.tup [D.int 3, D.int 4, D.tup [D.int 0, D.int 1]], D.tup [D.int 5, D.int 6, D.tup [D.int 1, D.int 3]]], [.va sc, .ow st, y2, .va GD, .va (.lst ODL), .un, .un, .un, .un, .un, y10, y11, y12, y13, y14, y15, y16, y17, y18, y19, y20, .un]) := by kernel_rfl
  have b5 : dCall bList (dCons (dVar 3) (dNil)) [.va sc, .ow st, y2, .va GD, .va (.lst ODL), .un, .un, .un, .un, .un, y10, y11, y12, y13, y14, y15, y16, y17, y18, y19, y20, .un] = .ok (D.lst [D.tup [D.int 1, D.int 2, D.tup [D.int 1, D.int 2]], D.tup [D.int 3, D.int 4, D.tup [D.int 0, D.int 1]], D.tup [D.int 5, D.int 6, D.tup [D.int 1, D.int 3]]], [.va sc, .ow st, y2, .va GD, .va (.lst ODL), .un, .un, .un, .un, .un, y10, y11, y12, y13, y14, y15, y16, y17, y18, y19, y20, .un]) := by kernel_rfl
  have t0 : dTup (dNil) [.va sc, .ow st, y2, .va GD, .va (.lst ODL), .un, .un, .un, .un, .un, y10, y11, y12, y13, y14, y15, y16, y17, y18, y19, y20, .un] = .ok (.tup [], [.va sc, .ow st, y2, .va GD, .va (.lst ODL), .un, .un, .un, .un, .un, y10, y11, y12, y13, y14, y15, y16, y17, y18, y19, y20, .un]) := dTup_ok rfl (by simp)
  refine ⟨o1, o2, st2, dItems_lst (dLst_ok (dCons_ok rfl (dCons_ok t0 (dCons_ok m7 (dCons_ok rfl (dCons_ok b5 (dCons_ok (dBin_ok (s1 st) (dTup_ok (dCons_ok q1 rfl) (by simp)) (add_tup (by simp))) (dCons_ok (dBin_ok (dTup_ok (dCons_ok q2 rfl) (by simp)) (s2 st2) (add_tup (by simp))) rfl))))))) (by simp [firstL])), h1, h2, g2⟩
theorem v5_ok {sc st : D} {y2 y10 y11 y12 y13 y14 y15 y16 y17 y18 y19 y20 : Sl} (g : Good st) : ∃ (st' : D) (x5 x9 : Sl), sFor (dItems (dLst (dCons (dC .non) (dCons (dTup (dNil)) (dCons (dBin dMul (dVar 3) (dC (.int 7))) (dCons (dC (.int 5)) (dCons (dCall bList (dCons (dVar 3) (dNil))) (dCons (dBin dAdd (dSlice (dVar 3) (dONone) (dOSome (dC (.int 2)))) (dTup (dCons (dCallO m__law_pick 1 (dCons (dVar 4) (dNil))) (dNil)))) (dCons (dBin dAdd (dTup (dCons (dCallO m__law_pick 1 (dCons (dVar 4) (dNil))) (dNil))) (dSlice (dVar 3) (dOSome (dC (.int 1))) (dONone))) (dNil)))))))))) (gSet 5) (bSeq (sSet 9 (dLc (dItems (dLst (dCons (dC (.fn 3)) (dCons (dC (.fn 4)) (dNil))))) (gSet 21) (dYes) (dCall m__law_heard (dCons (dVar 21) (dCons (dLst (dCons (dVar 5) (dNil))) (dNil)))) [21]))
  (sIf (dTb (dBin dNe (dBin dAdd (dVar 9) (dLc (dItems (dLst (dCons (dC (.fn 5)) (dCons (dC (.fn 6)) (dCons (dC (.fn 1)) (dCons (dC (.fn 2)) (dCons (dC (.fn 0)) (dNil)))))))) (gSet 21) (dYes) (dCall m__law_heard (dCons (dVar 21) (dCons (dLst (dCons (dVar 5) (dCons (dC .non) (dNil)))) (dNil)))) [21])) (dBin dMul (dLst (dCons (dC (.str "flow steps")) (dNil))) (dC (.int 7))))) (sNever) (bNil))) [.va sc, .ow st, y2, .va GD, .va (.lst ODL), .un, .un, .un, .un, .un, y10, y11, y12, y13, y14, y15, y16, y17, y18, y19, y20, .un] = .ok (.nx, [.va sc, .ow st', y2, .va GD, .va (.lst ODL), x5, .un, .un, .un, x9, y10, y11, y12, y13, y14, y15, y16, y17, y18, y19, y20, .un]) ∧ Good st' := by
  obtain ⟨o1, o2, st', q, h1, h2, g'⟩ := items_ok (sc := sc) (y2 := y2) (y10 := y10) (y11 := y11) (y12 := y12) (y13 := y13) (y14 := y14) (y15 := y15) (y16 := y16) (y17 := y17) (y18 := y18) (y19 := y19) (y20 := y20) g
  obtain ⟨e', k1, x5, x9, rfl⟩ := forL_nx (mt := gSet 5) (mb := VB) (fun e => ∃ (x5 x9 : Sl), e = [.va sc, .ow st', y2, .va GD, .va (.lst ODL), x5, .un, .un, .un, x9, y10, y11, y12, y13, y14, y15, y16, y17, y18, y19, y20, .un]) (firstL ++ [.tup [D.tup [D.int 1, D.int 2, D.tup [D.int 1, D.int 2]], D.tup [D.int 3, D.int 4, D.tup [D.int 0, D.int 1]], o1], .tup [o2, D.tup [D.int 3, D.int 4, D.tup [D.int 0, D.int 1]], D.tup [D.int 5, D.int 6, D.tup [D.int 1, D.int 3]]]]) [.va sc, .ow st', y2, .va GD, .va (.lst ODL), .un, .un, .un, .un, .un, y10, y11, y12, y13, y14, y15, y16, y17, y18, y19, y20, .un] (by
    rintro d hd e ⟨x5, x9, rfl⟩
    have hw : d ∈ wrL := by
      unfold wrL
      rw [List.mem_append, List.mem_append]
      rcases List.mem_append.mp hd with hd | hd
      · exact .inl (.inl hd)
      · simp only [List.mem_cons, List.not_mem_nil, or_false] at hd
        rcases hd with rfl | rfl
        · exact .inl (.inr (List.mem_map.mpr ⟨o1, h1, rfl⟩))
        · exact .inr (List.mem_map.mpr ⟨o2, h2, rfl⟩)
    exact ⟨[.va sc, .ow st', y2, .va GD, .va (.lst ODL), .va d, .un, .un, .un, x9, y10, y11, y12, y13, y14, y15, y16, y17, y18, y19, y20, .un], _, rfl, vb_ok hw, _, _, rfl⟩) ⟨_, _, rfl⟩
  exact ⟨st', x5, x9, sFor_ok q k1, g'⟩
theorem v6_ok {sc st : D} {y2 y10 y11 y12 y13 y14 y15 y16 y17 y18 y19 y20 x5 x9 : Sl} (g : Good st) : ∃ (w st' : D), sSet 6 (dCallO m__law_pick 1 (dCons (dLst (dCons (dC .non) (dCons (dTup (dCons (dC (.int 0)) (dCons (dC (.int 1)) (dNil)))) (dCons (dTup (dCons (dC (.int 0)) (dCons (dC (.int 1)) (dCons (dC (.int 1)) (dNil))))) (dCons (dTup (dCons (dC (.int 0)) (dCons (dC (.int 1)) (dCons (dC (.int 3)) (dNil))))) (dCons (dTup (dCons (dC (.int 0)) (dCons (dC (.bl true)) (dCons (dC (.int 2)) (dNil))))) (dCons (dTup (dCons (dC (.int 0)) (dCons (dC (.int 1)) (dCons (dC (.int 2)) (dCons (dC (.int 2)) (dNil)))))) (dCons (dTup (dCons (dC (.str "0")) (dCons (dC (.int 1)) (dCons (dC (.int 2)) (dNil))))) (dCons (dC (.int 5)) (dCons (dLst (dCons (dC (.int 0)) (dCons (dC (.int 1)) (dCons (dC (.int 2)) (dNil))))) (dCons (dTup (dNil)) (dNil)))))))))))) (dNil))) [.va sc, .ow st, y2, .va GD, .va (.lst ODL), x5, .un, .un, .un, x9, y10, y11, y12, y13, y14, y15, y16, y17, y18, y19, y20, .un] = .ok (.nx, [.va sc, .ow st', y2, .va GD, .va (.lst ODL), x5, .va w, .un, .un, x9, y10, y11, y12, y13, y14, y15, y16, y17, y18, y19, y20, .un]) ∧ w ∈ ordL ∧ Good st' := by
  obtain ⟨w, st', q, hw, g'⟩ := pick1 (sc := sc) (R := [.va sc, .ow st, y2, .va GD, .va (.lst ODL), x5, .un, .un, .un, x9, y10, y11, y12, y13, y14, y15, y16, y17, y18, y19, y20, .un].drop 2) (m := (dLst (dCons (dC .non) (dCons (dTup (dCons (dC (.int 0)) (dCons (dC (.int 1)) (dNil)))) (dCons (dTup (dCons (dC (.int 0)) (dCons (dC (.int 1)) (dCons (dC (.int 1)) (dNil))))) (dCons (dTup (dCons (dC (.int 0)) (dCons (dC (.int 1)) (dCons (dC (.int 3)) (dNil))))) (dCons (dTup (dCons (dC (.int 0)) (dCons (dC (.bl true)) (dCons (dC (.int 2)) (dNil))))) (dCons (dTup (dCons (dC (.int 0)) (dCons (dC (.int 1)) (dCons (dC (.int 2)) (dCons (dC (.int 2)) (dNil)))))) (dCons (dTup (dCons (dC (.str "0")) (dCons (dC (.int 1)) (dCons (dC (.int 2)) (dNil))))) (dCons (dC (.int 5)) (dCons (dLst (dCons (dC (.int 0)) (dCons (dC (.int 1)) (dCons (dC (.int 2)) (dNil))))) (dCons (dTup (dNil)) (dNil))))))))))))) (xs := ordL) g (by kernel_rfl) (by decide) (by decide)
  exact ⟨w, st', sSet_to (i := 5) q rfl, hw, g'⟩
theorem v7_all {sc st : D} {y2 y10 y11 y12 y13 y14 y15 y16 y17 y18 y19 y20 x5 x9 : Sl} : (ordL.map fun w => (sIf (dTb (dBin dNe (dLc (dItems (dLst (dCons (dC (.fn 5)) (dCons (dC (.fn 6)) (dCons (dC (.fn 1)) (dNil)))))) (gSet 21) (dYes) (dCall m__law_heard (dCons (dVar 21) (dCons (dLst (dCons (dVar 3) (dCons (dVar 6) (dNil)))) (dNil)))) [21]) (dBin dMul (dLst (dCons (dC (.str "argument order")) (dNil))) (dC (.int 3))))) (sNever) (bNil)) [.va sc, .ow st, y2, .va GD, .va (.lst ODL), x5, .va w, .un, .un, x9, y10, y11, y12, y13, y14, y15, y16, y17, y18, y19, y20, .un]) = ordL.map fun w => Except.ok (Fl.nx, [.va sc, .ow st, y2, .va GD, .va (.lst ODL), x5, .va w, .un, .un, x9, y10, y11, y12, y13, y14, y15, y16, y17, y18, y19, y20, .un]) := by kernel_rfl
theorem v7_ok {w : D} {sc st : D} {y2 y10 y11 y12 y13 y14 y15 y16 y17 y18 y19 y20 x5 x9 : Sl} (h : w ∈ ordL) : sIf (dTb (dBin dNe (dLc (dItems (dLst (dCons (dC (.fn 5)) (dCons (dC (.fn 6)) (dCons (dC (.fn 1)) (dNil)))))) (gSet 21) (dYes) (dCall m__law_heard (dCons (dVar 21) (dCons (dLst (dCons (dVar 3) (dCons (dVar 6) (dNil)))) (dNil)))) [21]) (dBin dMul (dLst (dCons (dC (.str "argument order")) (dNil))) (dC (.int 3))))) (sNever) (bNil) [.va sc, .ow st, y2, .va GD, .va (.lst ODL), x5, .va w, .un, .un, x9, y10, y11, y12, y13, y14, y15, y16, y17, y18, y19, y20, .un] = .ok (.nx, [.va sc, .ow st, y2, .va GD, .va (.lst ODL), x5, .va w, .un, .un, x9, y10, y11, y12, y13, y14, y15, y16, y17, y18, y19, y20, .un]) := List.map_inj_left.mp v7_all w h
theorem v8_ok {w : D} {sc st : D} {y2 y10 y11 y12 y13 y14 y15 y16 y17 y18 y19 y20 x5 x9 : Sl} (g : Good st) : ∃ (l st' : D), sSet 7 (dCallO m__law_pick 1 (dCons (dLst (dCons (dC .non) (dCons (dTup (dCons (dTup (dCons (dC (.int 0)) (dCons (dC (.int 1)) (dCons (dC (.int 2)) (dNil))))) (dNil))) (dCons (dTup (dCons (dTup (dCons (dC (.int 0)) (dCons (dC (.int 0)) (dNil)))) (dNil))) (dCons (dTup (dCons (dTup (dCons (dC (.int 0)) (dCons (dC (.int 3)) (dNil)))) (dNil))) (dCons (dTup (dCons (dTup (dCons (dNeg (dC (.int 1))) (dCons (dC (.int 0)) (dNil)))) (dNil))) (dCons (dTup (dCons (dTup (dCons (dC (.int 0)) (dCons (dC (.bl true)) (dNil)))) (dNil))) (dCons (dTup (dCons (dC (.int 5)) (dNil))) (dCons (dC (.int 5)) (dCons (dLst (dCons (dTup (dCons (dC (.int 0)) (dCons (dC (.int 1)) (dNil)))) (dNil))) (dCons (dBin dMul (dTup (dCons (dTup (dCons (dC (.int 0)) (dCons (dC (.int 1)) (dNil)))) (dNil))) (dC (.int 61))) (dCons (dTup (dCons (dTup (dCons (dC (.int 0)) (dCons (dC .non) (dNil)))) (dNil))) (dNil))))))))))))) (dNil))) [.va sc, .ow st, y2, .va GD, .va (.lst ODL), x5, .va w, .un, .un, x9, y10, y11, y12, y13, y14, y15, y16, y17, y18, y19, y20, .un] = .ok (.nx, [.va sc, .ow st', y2, .va GD, .va (.lst ODL), x5, .va w, .va l, .un, x9, y10, y11, y12, y13, y14, y15, y16, y17, y18, y19, y20, .un]) ∧ l ∈ lnkL ∧ Good st' := by
  obtain ⟨l, st', q, hl, g'⟩ := pick1 (sc := sc) (R := [.va sc, .ow st, y2, .va GD, .va (.lst ODL), x5, .va w, .un, .un, x9, y10, y11, y12, y13, y14, y15, y16, y17, y18, y19, y20, .un].drop 2) (m := (dLst (dCons (dC .non) (dCons (dTup (dCons (dTup (dCons (dC (.int 0)) (dCons (dC (.int 1)) (dCons (dC (.int 2)) (dNil))))) (dNil))) (dCons (dTup (dCons (dTup (dCons (dC (.int 0)) (dCons (dC (.int 0)) (dNil)))) (dNil))) (dCons (dTup (dCons (dTup (dCons (dC (.int 0)) (dCons (dC (.int 3)) (dNil)))) (dNil))) (dCons (dTup (dCons (dTup (dCons (dNeg (dC (.int 1))) (dCons (dC (.int 0)) (dNil)))) (dNil))) (dCons (dTup (dCons (dTup (dCons (dC (.int 0)) (dCons (dC (.bl true)) (dNil)))) (dNil))) (dCons (dTup (dCons (dC (.int 5)) (dNil))) (dCons (dC (.int 5)) (dCons (dLst (dCons (dTup (dCons (dC (.int 0)) (dCons (dC (.int 1)) (dNil)))) (dNil))) (dCons (dBin dMul (dTup (dCons (dTup (dCons (dC (.int 0)) (dCons (dC (.int 1)) (dNil)))) (dNil))) (dC (.int 61))) (dCons (dTup (dCons (dTup (dCons (dC (.int 0)) (dCons (dC .non) (dNil)))) (dNil))) (dNil)))))))))))))) (xs := lnkL) g (by kernel_rfl) (by decide) (by decide)
  exact ⟨l, st', sSet_to (i := 6) q rfl, hl, g'⟩
theorem v9_ok {w l : D} {sc st : D} {y2 y10 y11 y12 y13 y14 y15 y16 y17 y18 y19 y20 x5 x9 : Sl} (g : Good st) : ∃ (r st' : D), sSet 8 (dCallO m__law_pick 1 (dCons (dLst (dCons (dTup (dCons (dTup (dCons (dC (.int 0)) (dCons (dC (.int 1)) (dNil)))) (dCons (dTup (dCons (dC (.int 1)) (dCons (dC (.int 0)) (dNil)))) (dNil)))) (dCons (dTup (dCons (dTup (dCons (dC (.int 0)) (dCons (dC (.int 1)) (dNil)))) (dCons (dTup (dCons (dC (.int 1)) (dCons (dC (.int 2)) (dNil)))) (dCons (dTup (dCons (dC (.int 2)) (dCons (dC (.int 0)) (dNil)))) (dNil))))) (dCons (dBin dAdd (dBin dMul (dTup (dCons (dTup (dCons (dC (.int 0)) (dCons (dC (.int 1)) (dNil)))) (dNil))) (dC (.int 58))) (dTup (dCons (dTup (dCons (dC (.int 1)) (dCons (dC (.int 2)) (dNil)))) (dCons (dTup (dCons (dC (.int 2)) (dCons (dC (.int 1)) (dNil)))) (dNil))))) (dNil))))) (dNil))) [.va sc, .ow st, y2, .va GD, .va (.lst ODL), x5, .va w, .va l, .un, x9, y10, y11, y12, y13, y14, y15, y16, y17, y18, y19, y20, .un] = .ok (.nx, [.va sc, .ow st', y2, .va GD, .va (.lst ODL), x5, .va w, .va l, .va r, x9, y10, y11, y12, y13, y14, y15, y16, y17, y18, y19, y20, .un]) ∧ r ∈ rngL ∧ Good st' := by
  obtain ⟨r, st', q, hr, g'⟩ := pick1 (sc := sc) (R := [.va sc, .ow st, y2, .va GD, .va (.lst ODL), x5, .va w, .va l, .un, x9, y10, y11, y12, y13, y14, y15, y16, y17, y18, y19, y20, .un].drop 2) (m := (dLst (dCons (dTup (dCons (dTup (dCons (dC (.int 0)) (dCons (dC (.int 1)) (dNil)))) (dCons (dTup (dCons (dC (.int 1)) (dCons (dC (.int 0)) (dNil)))) (dNil)))) (dCons (dTup (dCons (dTup (dCons (dC (.int 0)) (dCons (dC (.int 1)) (dNil)))) (dCons (dTup (dCons (dC (.int 1)) (dCons (dC (.int 2)) (dNil)))) (dCons (dTup (dCons (dC (.int 2)) (dCons (dC (.int 0)) (dNil)))) (dNil))))) (dCons (dBin dAdd (dBin dMul (dTup (dCons (dTup (dCons (dC (.int 0)) (dCons (dC (.int 1)) (dNil)))) (dNil))) (dC (.int 58))) (dTup (dCons (dTup (dCons (dC (.int 1)) (dCons (dC (.int 2)) (dNil)))) (dCons (dTup (dCons (dC (.int 2)) (dCons (dC (.int 1)) (dNil)))) (dNil))))) (dNil)))))) (xs := rngL) g (by kernel_rfl) (by decide) (by decide)
  exact ⟨r, st', sSet_to (i := 7) q rfl, hr, g'⟩
theorem h_steps : (lnkL.map fun l => m__law_heard [.fn 0, .lst [D.tup [D.tup [D.int 1, D.int 2, D.tup [D.int 1, D.int 2]], D.tup [D.int 3, D.int 4, D.tup [D.int 0, D.int 1]], D.tup [D.int 5, D.int 6, D.tup [D.int 1, D.int 3]], D.tup [D.int 1, D.int 2, D.tup [D.int 1, D.int 2]], D.tup [D.int 3, D.int 4, D.tup [D.int 0, D.int 1]], D.tup [D.int 5, D.int 6, D.tup [D.int 1, D.int 3]], D.tup [D.int 1, D.int 2, D.tup [D.int 1, D.int 2]], D.tup [D.int 3, D.int 4, D.tup [D.int 0, D.int 1]], D.tup [D.int 5, D.int 6, D.tup [D.int 1, D.int 3]], D.tup [D.int 1, D.int 2, D.tup [D.int 1, D.int 2]], D.tup [D.int 3, D.int 4, D.tup [D.int 0, D.int 1]], D.tup [D.int 5, D.int 6, D.tup [D.int 1, D.int 3]], D.tup [D.int 1, D.int 2, D.tup [D.int 1, D.int 2]], D.tup [D.int 3, D.int 4, D.tup [D.int 0, D.int 1]], D.tup [D.int 5, D.int 6, D.tup [D.int 1, D.int 3]]], l]]) = lnkL.map fun _ => Except.ok (D.str "argument steps") := by kernel_rfl
theorem h_links : (lnkL.map fun l => m__law_heard [.fn 0, .lst [GD, l]]) = lnkL.map fun _ => Except.ok (D.str "argument links") := by kernel_rfl
theorem h_ring : (rngL.map fun l => m__law_heard [.fn 0, .lst [GD, l]]) = rngL.map fun _ => Except.ok (D.str "argument ring") := by kernel_rfl
theorem v10_ok {w l r : D} {sc st : D} {y2 y10 y11 y12 y13 y14 y15 y16 y17 y18 y19 y20 x5 x9 : Sl} (hl : l ∈ lnkL) (hr : r ∈ rngL) : sSet 9 (dLst (dCons (dCall m__law_heard (dCons (dC (.fn 0)) (dCons (dLst (dCons (dBin dMul (dVar 3) (dC (.int 5))) (dCons (dVar 7) (dNil)))) (dNil)))) (dCons (dCall m__law_heard (dCons (dC (.fn 0)) (dCons (dLst (dCons (dVar 3) (dCons (dVar 7) (dNil)))) (dNil)))) (dCons (dCall m__law_heard (dCons (dC (.fn 0)) (dCons (dLst (dCons (dVar 3) (dCons (dVar 8) (dNil)))) (dNil)))) (dNil))))) [.va sc, .ow st, y2, .va GD, .va (.lst ODL), x5, .va w, .va l, .va r, x9, y10, y11, y12, y13, y14, y15, y16, y17, y18, y19, y20, .un] = .ok (.nx, [.va sc, .ow st, y2, .va GD, .va (.lst ODL), x5, .va w, .va l, .va r, .va (.lst [D.str "argument steps", D.str "argument links", D.str "argument ring"]), y10, y11, y12, y13, y14, y15, y16, y17, y18, y19, y20, .un]) := by
  have a1 := List.map_inj_left.mp h_steps l hl
  have a2 := List.map_inj_left.mp h_links l hl
  have a3 := List.map_inj_left.mp h_ring r hr
  have m5 : dBin dMul (dVar 3) (dC (.int 5)) [.va sc, .ow st, y2, .va GD, .va (.lst ODL), x5, .va w, .va l, .va r, x9, y10, y11, y12, y13, y14, y15, y16, y17, y18, y19, y20, .un] = .ok (D.tup [D.tup [D.int 1, D.int 2, D.tup [D.int 1, D.int 2]], D.tup [D.int 3, D.int 4, D.tup [D.int 0, D.int 1]], D.tup [D.int 5, D.int 6, D.tup [D.int 1, D.int 3]], D.tup [D.int 1, D.int 2, D.tup [D.int 1, D.int 2]], D.tup [D.int 3, D.int 4, D.tup [D.int 0, D.int 1]], D.tup [D.int 5, D.int 6, D.tup [D.int 1, D.int 3]], D.tup [D.int 1, D.int 2, D.tup [D.int 1, D.int 2]], D.tup [D.int 3, D.int 4, D.tup [D.int 0, D.int 1]], D.tup [D.int 5, D.int 6, D.tup [D.int 1, D.int 3]], D.tup [D.int 1, D.int 2, D.tup [D.int 1, D.int 2]], D.tup [D.int 3, D.int 4, D.tup [D.int 0, D.int 1]], D.tup [D.int 5, D.int 6, D.tup [D.int 1, D.int 3]], D.tup [D.int 1, D.int 2, D.tup [D.int 1, D.int 2]], D.tup [D.int 3, D.int 4, D.tup [D.int 0, D.int 1]], D.tup [D.int 5, D.int 6, D.tup [D.int 1, D.int 3]]], [.va sc, .ow st, y2, .va GD, .va (.lst ODL), x5, .va w, .va l, .va r, x9, y10, y11, y12, y13, y14, y15, y16, y17, y18, y19, y20, .un]) := by kernel_rfl
  exact sSet_to (i := 8) (dLst_ok (dCons_ok (dCall2 rfl (dLst_ok (dCons_ok m5 (dCons_ok rfl rfl)) (by simp)) a1) (dCons_ok (dCall2 rfl (dLst_ok (dCons_ok rfl (dCons_ok rfl rfl)) (by simp)) a2) (dCons_ok (dCall2 rfl (dLst_ok (dCons_ok rfl (dCons_ok rfl rfl)) (by simp)) a3) rfl))) (by simp)) rfl
theorem v11_ok {w l r : D} {sc st : D} {y2 y10 y11 y12 y13 y14 y15 y16 y17 y18 y19 y20 x5 x9 : Sl} : sIf (dTb (dBin dNe (dVar 9) (dLst (dCons (dC (.str "argument steps")) (dCons (dC (.str "argument links")) (dCons (dC (.str "argument ring")) (dNil))))))) (sNever) (bNil) [.va sc, .ow st, y2, .va GD, .va (.lst ODL), x5, .va w, .va l, .va r, .va (.lst [D.str "argument steps", D.str "argument links", D.str "argument ring"]), y10, y11, y12, y13, y14, y15, y16, y17, y18, y19, y20, .un] = .ok (.nx, [.va sc, .ow st, y2, .va GD, .va (.lst ODL), x5, .va w, .va l, .va r, .va (.lst [D.str "argument steps", D.str "argument links", D.str "argument ring"]), y10, y11, y12, y13, y14, y15, y16, y17, y18, y19, y20, .un]) := by kernel_rfl
theorem v12_ok {w l r : D} {sc st : D} {y2 y10 y11 y12 y13 y14 y15 y16 y17 y18 y19 y20 x5 x9 : Sl} : sSet 9 (dLst (dCons (dCall m__law_heard (dCons (dC (.fn 0)) (dCons (dLst (dCons (dSlice (dVar 3) (dOSome (dC (.int 1))) (dOSome (dC (.int 2)))) (dCons (dTup (dNil)) (dNil)))) (dNil)))) (dCons (dCall m__law_heard (dCons (dC (.fn 0)) (dCons (dLst (dCons (dVar 3) (dCons (dBin dMul (dTup (dCons (dTup (dCons (dC (.int 2)) (dCons (dC (.int 1)) (dNil)))) (dNil))) (dC (.int 60))) (dNil)))) (dNil)))) (dCons (dCall m__law_heard (dCons (dC (.fn 1)) (dCons (dLst (dCons (dBin dMul (dSlice (dVar 3) (dONone) (dOSome (dC (.int 1)))) (dC (.int 20))) (dCons (dCall bTuple (dCons (dLstRg (dC (.int 20))) (dNil))) (dNil)))) (dNil)))) (dNil))))) [.va sc, .ow st, y2, .va GD, .va (.lst ODL), x5, .va w, .va l, .va r, .va (.lst [D.str "argument steps", D.str "argument links", D.str "argument ring"]), y10, y11, y12, y13, y14, y15, y16, y17, y18, y19, y20, .un] = .ok (.nx, [.va sc, .ow st, y2, .va GD, .va (.lst ODL), x5, .va w, .va l, .va r, .va (.lst [D.lst [D.tup [D.tup [D.int 3, D.int 1], D.tup [D.int 0]]], D.lst [D.tup [D.tup [D.int 29, D.int 6], D.tup [D.int 0, D.int 2, D.int 1]]], D.lst [D.int 58]]), y10, y11, y12, y13, y14, y15, y16, y17, y18, y19, y20, .un]) := by kernel_rfl
theorem v13_ok {w l r : D} {sc st : D} {y2 y10 y11 y12 y13 y14 y15 y16 y17 y18 y19 y20 x5 x9 : Sl} : sRet (dAndV (dBin dEq (dBin dIx (dVar 9) (dC (.int 0))) (dLst (dCons (dTup (dCons (dTup (dCons (dC (.int 3)) (dCons (dC (.int 1)) (dNil)))) (dCons (dTup (dCons (dC (.int 0)) (dNil))) (dNil)))) (dNil)))) (dAndV (dIsi "list" (dBin dIx (dVar 9) (dC (.int 1)))) (dBin dEq (dBin dIx (dVar 9) (dC (.int 2))) (dLst (dCons (dBin dAdd (dC (.int 20)) (dBin dMul (dC (.int 2)) (dC (.int 19)))) (dNil)))))) [.va sc, .ow st, y2, .va GD, .va (.lst ODL), x5, .va w, .va l, .va r, .va (.lst [D.lst [D.tup [D.tup [D.int 3, D.int 1], D.tup [D.int 0]]], D.lst [D.tup [D.tup [D.int 29, D.int 6], D.tup [D.int 0, D.int 2, D.int 1]]], D.lst [D.int 58]]), y10, y11, y12, y13, y14, y15, y16, y17, y18, y19, y20, .un] = .ok (.rt (.bl true), [.va sc, .ow st, y2, .va GD, .va (.lst ODL), x5, .va w, .va l, .va r, .va (.lst [D.lst [D.tup [D.tup [D.int 3, D.int 1], D.tup [D.int 0]]], D.lst [D.tup [D.tup [D.int 29, D.int 6], D.tup [D.int 0, D.int 2, D.int 1]]], D.lst [D.int 58]]), y10, y11, y12, y13, y14, y15, y16, y17, y18, y19, y20, .un]) := by kernel_rfl
theorem law_true (ns : List Int) : m_law [.scr ns] = .ok (.bl true) := by
  obtain ⟨s0, e0, g0⟩ := start_ok ns
  obtain ⟨st1, y2, y10, y11, y12, y13, y14, y15, y16, y17, y18, y19, y20, v1, g1⟩ := turns_ok (sc := .scr ns) g0
  obtain ⟨st2, x5, x9, v5, g2⟩ := v5_ok (sc := .scr ns) (y2 := y2) (y10 := y10) (y11 := y11) (y12 := y12) (y13 := y13) (y14 := y14) (y15 := y15) (y16 := y16) (y17 := y17) (y18 := y18) (y19 := y19) (y20 := y20) g1
  obtain ⟨w, st3, v6, hw, g3⟩ := v6_ok (sc := .scr ns) (y2 := y2) (y10 := y10) (y11 := y11) (y12 := y12) (y13 := y13) (y14 := y14) (y15 := y15) (y16 := y16) (y17 := y17) (y18 := y18) (y19 := y19) (y20 := y20) (x5 := x5) (x9 := x9) g2
  obtain ⟨l, st4, v8, hl, g4⟩ := v8_ok (sc := .scr ns) (w := w) (y2 := y2) (y10 := y10) (y11 := y11) (y12 := y12) (y13 := y13) (y14 := y14) (y15 := y15) (y16 := y16) (y17 := y17) (y18 := y18) (y19 := y19) (y20 := y20) (x5 := x5) (x9 := x9) g3
  obtain ⟨r, st5, v9, hr, g5⟩ := v9_ok (sc := .scr ns) (w := w) (l := l) (y2 := y2) (y10 := y10) (y11 := y11) (y12 := y12) (y13 := y13) (y14 := y14) (y15 := y15) (y16 := y16) (y17 := y17) (y18 := y18) (y19 := y19) (y20 := y20) (x5 := x5) (x9 := x9) g4
  unfold m_law b_law
  rw [show enter 22 [.scr ns] = [.va (.scr ns), .un, .un, .un, .un, .un, .un, .un, .un, .un, .un, .un, .un, .un, .un, .un, .un, .un, .un, .un, .un, .un] from rfl]
  rw [stp (sSetO_to (i := 0) (e2 := [.va (.scr ns), .ow s0, .un, .un, .un, .un, .un, .un, .un, .un, .un, .un, .un, .un, .un, .un, .un, .un, .un, .un, .un, .un]) (dCall1 rfl e0) rfl)]
  rw [stp v1, stp v2_ok, stp v3_ok, stp v4_ok, stp v5, stp v6, stp (v7_ok hw), stp v8, stp v9, stp (v10_ok hl hr), stp (v11_ok (x9 := x9)), stp (v12_ok (x9 := x9))]
  exact fin_ok (v13_ok (x9 := x9))
end LW
end Dn

/-! H24 -/
set_option Elab.async false
set_option linter.all false
set_option maxRecDepth 100000
set_option maxHeartbeats 4000000
namespace Dn
namespace LW
open PySem PySem.Spec L2
open PyProof.Rows hiding St
def iA0 : Arguments := Sup.iA ⟨6, 17, 6, 21⟩ ⟨6, 23, 6, 29⟩
def iB0 : List Stmt := Sup.iB "the work is refused" 0 ⟨7, 8, 7, 13⟩ ⟨7, 8, 7, 15⟩ ⟨7, 8, 7, 24⟩ ⟨7, 25, 7, 46⟩ ⟨7, 8, 7, 47⟩ ⟨7, 8, 7, 47⟩ ⟨8, 8, 8, 12⟩ ⟨8, 8, 8, 19⟩ ⟨8, 22, 8, 28⟩ ⟨8, 8, 8, 28⟩
def iA1 : Arguments := Sup.iA ⟨11, 17, 11, 21⟩ ⟨11, 23, 11, 29⟩
def iB1 : List Stmt := Sup.iB "an argument is refused" 0 ⟨12, 8, 12, 13⟩ ⟨12, 8, 12, 15⟩ ⟨12, 8, 12, 24⟩ ⟨12, 25, 12, 49⟩ ⟨12, 8, 12, 50⟩ ⟨12, 8, 12, 50⟩ ⟨13, 8, 13, 12⟩ ⟨13, 8, 13, 19⟩ ⟨13, 22, 13, 28⟩ ⟨13, 8, 13, 28⟩
def iA2 : Arguments := Sup.iA ⟨16, 17, 16, 21⟩ ⟨16, 23, 16, 29⟩
def iB2 : List Stmt := Sup.iB "the paper is refused" 0 ⟨17, 8, 17, 13⟩ ⟨17, 8, 17, 15⟩ ⟨17, 8, 17, 24⟩ ⟨17, 25, 17, 47⟩ ⟨17, 8, 17, 48⟩ ⟨17, 8, 17, 48⟩ ⟨18, 8, 18, 12⟩ ⟨18, 8, 18, 19⟩ ⟨18, 22, 18, 28⟩ ⟨18, 8, 18, 28⟩
def iA3 : Arguments := Sup.iA ⟨21, 17, 21, 21⟩ ⟨21, 23, 21, 29⟩
def iB3 : List Stmt := Sup.iB "too many" 0 ⟨22, 8, 22, 13⟩ ⟨22, 8, 22, 15⟩ ⟨22, 8, 22, 24⟩ ⟨22, 25, 22, 35⟩ ⟨22, 8, 22, 36⟩ ⟨22, 8, 22, 36⟩ ⟨23, 8, 23, 12⟩ ⟨23, 8, 23, 19⟩ ⟨23, 22, 23, 28⟩ ⟨23, 8, 23, 28⟩
def four {α : Type} (a b c d : α) (i : Nat) : α := match i with
  | 0 => a
  | 1 => b
  | 2 => c
  | _ => d
theorem four_all {φ : Nat → Prop} (h0 : φ 0) (h1 : φ 1) (h2 : φ 2) (h3 : φ 3) : ∀ i, i < 4 → φ i := fun i h => match i, h with
  | 0, _ => h0
  | 1, _ => h1
  | 2, _ => h2
  | 3, _ => h3
theorem tf_mk {K : PySem.W.Frag} {h : Heap} {mg : Str → Option Value} {p__law_start : Addr} {oc__law_start kV__law_start dc__law_start pm__law_start cd__law_start ct__law_start : Value} {od__law_start an__law_start : Option Addr} {sl__law_start : Array (Option Value)}
  {p__law_draw : Addr} {oc__law_draw kV__law_draw dc__law_draw pm__law_draw cd__law_draw ct__law_draw : Value} {od__law_draw an__law_draw : Option Addr} {sl__law_draw : Array (Option Value)}
  {p__law_pick : Addr} {oc__law_pick kV__law_pick dc__law_pick pm__law_pick cd__law_pick ct__law_pick : Value} {od__law_pick an__law_pick : Option Addr} {sl__law_pick : Array (Option Value)}
  {p_is_integer : Addr} {oc_is_integer kV_is_integer dc_is_integer pm_is_integer cd_is_integer ct_is_integer : Value} {od_is_integer an_is_integer : Option Addr} {sl_is_integer : Array (Option Value)}
  {p_is_between : Addr} {oc_is_between kV_is_between dc_is_between pm_is_between cd_is_between ct_is_between : Value} {od_is_between an_is_between : Option Addr} {sl_is_between : Array (Option Value)}
  {p_check_steps : Addr} {oc_check_steps kV_check_steps dc_check_steps pm_check_steps cd_check_steps ct_check_steps : Value} {od_check_steps an_check_steps : Option Addr} {sl_check_steps : Array (Option Value)}
  {p_weight_of : Addr} {oc_weight_of kV_weight_of dc_weight_of pm_weight_of cd_weight_of ct_weight_of : Value} {od_weight_of an_weight_of : Option Addr} {sl_weight_of : Array (Option Value)}
  {p_is_nearer : Addr} {oc_is_nearer kV_is_nearer dc_is_nearer pm_is_nearer cd_is_nearer ct_is_nearer : Value} {od_is_nearer an_is_nearer : Option Addr} {sl_is_nearer : Array (Option Value)}
  {p_rows_of : Addr} {oc_rows_of kV_rows_of dc_rows_of pm_rows_of cd_rows_of ct_rows_of : Value} {od_rows_of an_rows_of : Option Addr} {sl_rows_of : Array (Option Value)}
  {p_mean_of : Addr} {oc_mean_of kV_mean_of dc_mean_of pm_mean_of cd_mean_of ct_mean_of : Value} {od_mean_of an_mean_of : Option Addr} {sl_mean_of : Array (Option Value)}
  {p_common_divisor : Addr} {oc_common_divisor kV_common_divisor dc_common_divisor pm_common_divisor cd_common_divisor ct_common_divisor : Value} {od_common_divisor an_common_divisor : Option Addr} {sl_common_divisor : Array (Option Value)}
  {p_lowest : Addr} {oc_lowest kV_lowest dc_lowest pm_lowest cd_lowest ct_lowest : Value} {od_lowest an_lowest : Option Addr} {sl_lowest : Array (Option Value)}
  {p_best_order : Addr} {oc_best_order kV_best_order dc_best_order pm_best_order cd_best_order ct_best_order : Value} {od_best_order an_best_order : Option Addr} {sl_best_order : Array (Option Value)}
  {p__law_bent : Addr} {oc__law_bent kV__law_bent dc__law_bent pm__law_bent cd__law_bent ct__law_bent : Value} {od__law_bent an__law_bent : Option Addr} {sl__law_bent : Array (Option Value)}
  {p_free_in : Addr} {oc_free_in kV_free_in dc_free_in pm_free_in cd_free_in ct_free_in : Value} {od_free_in an_free_in : Option Addr} {sl_free_in : Array (Option Value)}
  {p_sets_by : Addr} {oc_sets_by kV_sets_by dc_sets_by pm_sets_by cd_sets_by ct_sets_by : Value} {od_sets_by an_sets_by : Option Addr} {sl_sets_by : Array (Option Value)}
  {p_needs_by : Addr} {oc_needs_by kV_needs_by dc_needs_by pm_needs_by cd_needs_by ct_needs_by : Value} {od_needs_by an_needs_by : Option Addr} {sl_needs_by : Array (Option Value)}
  {p_check_links : Addr} {oc_check_links kV_check_links dc_check_links pm_check_links cd_check_links ct_check_links : Value} {od_check_links an_check_links : Option Addr} {sl_check_links : Array (Option Value)}
  {p_best_linked : Addr} {oc_best_linked kV_best_linked dc_best_linked pm_best_linked cd_best_linked ct_best_linked : Value} {od_best_linked an_best_linked : Option Addr} {sl_best_linked : Array (Option Value)}
  {p_is_order : Addr} {oc_is_order kV_is_order dc_is_order pm_is_order cd_is_order ct_is_order : Value} {od_is_order an_is_order : Option Addr} {sl_is_order : Array (Option Value)}
  {p_check_order : Addr} {oc_check_order kV_check_order dc_check_order pm_check_order cd_check_order ct_check_order : Value} {od_check_order an_check_order : Option Addr} {sl_check_order : Array (Option Value)}
  {p_worst_of : Addr} {oc_worst_of kV_worst_of dc_worst_of pm_worst_of cd_worst_of ct_worst_of : Value} {od_worst_of an_worst_of : Option Addr} {sl_worst_of : Array (Option Value)}
  {p_worst_cost : Addr} {oc_worst_cost kV_worst_cost dc_worst_cost pm_worst_cost cd_worst_cost ct_worst_cost : Value} {od_worst_cost an_worst_cost : Option Addr} {sl_worst_cost : Array (Option Value)}
  {p_accept_best : Addr} {oc_accept_best kV_accept_best dc_accept_best pm_accept_best cd_accept_best ct_accept_best : Value} {od_accept_best an_accept_best : Option Addr} {sl_accept_best : Array (Option Value)}
  {p_least_worst : Addr} {oc_least_worst kV_least_worst dc_least_worst pm_least_worst cd_least_worst ct_least_worst : Value} {od_least_worst an_least_worst : Option Addr} {sl_least_worst : Array (Option Value)}
  {p_chances : Addr} {oc_chances kV_chances dc_chances pm_chances cd_chances ct_chances : Value} {od_chances an_chances : Option Addr} {sl_chances : Array (Option Value)}
  {p_mean_cost : Addr} {oc_mean_cost kV_mean_cost dc_mean_cost pm_mean_cost cd_mean_cost ct_mean_cost : Value} {od_mean_cost an_mean_cost : Option Addr} {sl_mean_cost : Array (Option Value)}
  {p__law_called : Addr} {oc__law_called kV__law_called dc__law_called pm__law_called cd__law_called ct__law_called : Value} {od__law_called an__law_called : Option Addr} {sl__law_called : Array (Option Value)}
  {p__law_word : Addr} {oc__law_word kV__law_word dc__law_word pm__law_word cd__law_word ct__law_word : Value} {od__law_word an__law_word : Option Addr} {sl__law_word : Array (Option Value)}
  {p__law_heard : Addr} {oc__law_heard kV__law_heard dc__law_heard pm__law_heard cd__law_heard ct__law_heard : Value} {od__law_heard an__law_heard : Option Addr} {sl__law_heard : Array (Option Value)}
  {p__law_whole : Addr} {oc__law_whole kV__law_whole dc__law_whole pm__law_whole cd__law_whole ct__law_whole : Value} {od__law_whole an__law_whole : Option Addr} {sl__law_whole : Array (Option Value)}
  {p__law_best_due : Addr} {oc__law_best_due kV__law_best_due dc__law_best_due pm__law_best_due cd__law_best_due ct__law_best_due : Value} {od__law_best_due an__law_best_due : Option Addr} {sl__law_best_due : Array (Option Value)}
  {p_law : Addr} {oc_law kV_law dc_law pm_law cd_law ct_law : Value} {od_law an_law : Option Addr} {sl_law : Array (Option Value)}
  {t_MAX_DONE : Tok}
  {t_MAX_ODDS : Tok}
  {t_MAX_ROWS : Tok}
  {t_MAX_SIZE : Tok}
  {t_MAX_STEPS : Tok}
  {AW : Addr}
  {C0 I0 N0 cc0 cda0 : Addr} {nm0 qn0 : Str} {bs0 sub0 : List Value} {sn0 : List Str} {ab0 : Bool} {col0 : Option Bool} {dd0 od0 an0 cdd0 cld0 : Option Addr} {x00 x10 x20 x30 x50 : Option Value} {oc0 dc0 pm0 ct0 ccl0 cl0 : Value} {osl0 ccs0 csl0 : Array (Option Value)} {vs0 : Array Value} {tf0 : Tok}
  {C1 I1 N1 cc1 cda1 : Addr} {nm1 qn1 : Str} {bs1 sub1 : List Value} {sn1 : List Str} {ab1 : Bool} {col1 : Option Bool} {dd1 od1 an1 cdd1 cld1 : Option Addr} {x01 x11 x21 x31 x51 : Option Value} {oc1 dc1 pm1 ct1 ccl1 cl1 : Value} {osl1 ccs1 csl1 : Array (Option Value)} {vs1 : Array Value} {tf1 : Tok}
  {C2 I2 N2 cc2 cda2 : Addr} {nm2 qn2 : Str} {bs2 sub2 : List Value} {sn2 : List Str} {ab2 : Bool} {col2 : Option Bool} {dd2 od2 an2 cdd2 cld2 : Option Addr} {x02 x12 x22 x32 x52 : Option Value} {oc2 dc2 pm2 ct2 ccl2 cl2 : Value} {osl2 ccs2 csl2 : Array (Option Value)} {vs2 : Array Value} {tf2 : Tok}
  {C3 I3 N3 cc3 cda3 : Addr} {nm3 qn3 : Str} {bs3 sub3 : List Value} {sn3 : List Str} {ab3 : Bool} {col3 : Option Bool} {dd3 od3 an3 cdd3 cld3 : Option Addr} {x03 x13 x23 x33 x53 : Option Value} {oc3 dc3 pm3 ct3 ccl3 cl3 : Value} {osl3 ccs3 csl3 : Array (Option Value)} {vs3 : Array Value} {tf3 : Tok}
  (X : K.In h) (G : h.Ns mainGlobals mg)
  (a__law_start : PySem.W.nsIn K mainGlobals "_law_start" = some (some (.ref p__law_start)))
  (l__law_start : K.lookup p__law_start = some ⟨oc__law_start, od__law_start, .func (PySem.W.fnOf "_law_start" "_law_start" (defArgs (top 38)) (defBody (top 38)) (defScope (top 38)) .none kV__law_start dc__law_start pm__law_start an__law_start cd__law_start ct__law_start), sl__law_start⟩)
  (c__law_start : PySem.W.codeIn K cd__law_start "_law_start" = true)
  (k__law_start : PySem.W.keepIn K (.ref p__law_start) = true)
  (a__law_draw : PySem.W.nsIn K mainGlobals "_law_draw" = some (some (.ref p__law_draw)))
  (l__law_draw : K.lookup p__law_draw = some ⟨oc__law_draw, od__law_draw, .func (PySem.W.fnOf "_law_draw" "_law_draw" (defArgs (top 39)) (defBody (top 39)) (defScope (top 39)) .none kV__law_draw dc__law_draw pm__law_draw an__law_draw cd__law_draw ct__law_draw), sl__law_draw⟩)
  (c__law_draw : PySem.W.codeIn K cd__law_draw "_law_draw" = true)
  (k__law_draw : PySem.W.keepIn K (.ref p__law_draw) = true)
  (a__law_pick : PySem.W.nsIn K mainGlobals "_law_pick" = some (some (.ref p__law_pick)))
  (l__law_pick : K.lookup p__law_pick = some ⟨oc__law_pick, od__law_pick, .func (PySem.W.fnOf "_law_pick" "_law_pick" (defArgs (top 40)) (defBody (top 40)) (defScope (top 40)) .none kV__law_pick dc__law_pick pm__law_pick an__law_pick cd__law_pick ct__law_pick), sl__law_pick⟩)
  (c__law_pick : PySem.W.codeIn K cd__law_pick "_law_pick" = true)
  (k__law_pick : PySem.W.keepIn K (.ref p__law_pick) = true)
  (a_is_integer : PySem.W.nsIn K mainGlobals "is_integer" = some (some (.ref p_is_integer)))
  (l_is_integer : K.lookup p_is_integer = some ⟨oc_is_integer, od_is_integer, .func (PySem.W.fnOf "is_integer" "is_integer" (defArgs (top 12)) (defBody (top 12)) (defScope (top 12)) .none kV_is_integer dc_is_integer pm_is_integer an_is_integer cd_is_integer ct_is_integer), sl_is_integer⟩)
  (c_is_integer : PySem.W.codeIn K cd_is_integer "is_integer" = true)
  (k_is_integer : PySem.W.keepIn K (.ref p_is_integer) = true)
  (a_is_between : PySem.W.nsIn K mainGlobals "is_between" = some (some (.ref p_is_between)))
  (l_is_between : K.lookup p_is_between = some ⟨oc_is_between, od_is_between, .func (PySem.W.fnOf "is_between" "is_between" (defArgs (top 13)) (defBody (top 13)) (defScope (top 13)) .none kV_is_between dc_is_between pm_is_between an_is_between cd_is_between ct_is_between), sl_is_between⟩)
  (c_is_between : PySem.W.codeIn K cd_is_between "is_between" = true)
  (k_is_between : PySem.W.keepIn K (.ref p_is_between) = true)
  (a_check_steps : PySem.W.nsIn K mainGlobals "check_steps" = some (some (.ref p_check_steps)))
  (l_check_steps : K.lookup p_check_steps = some ⟨oc_check_steps, od_check_steps, .func (PySem.W.fnOf "check_steps" "check_steps" (defArgs (top 17)) (defBody (top 17)) (defScope (top 17)) .none kV_check_steps dc_check_steps pm_check_steps an_check_steps cd_check_steps ct_check_steps), sl_check_steps⟩)
  (c_check_steps : PySem.W.codeIn K cd_check_steps "check_steps" = true)
  (k_check_steps : PySem.W.keepIn K (.ref p_check_steps) = true)
  (a_weight_of : PySem.W.nsIn K mainGlobals "weight_of" = some (some (.ref p_weight_of)))
  (l_weight_of : K.lookup p_weight_of = some ⟨oc_weight_of, od_weight_of, .func (PySem.W.fnOf "weight_of" "weight_of" (defArgs (top 28)) (defBody (top 28)) (defScope (top 28)) .none kV_weight_of dc_weight_of pm_weight_of an_weight_of cd_weight_of ct_weight_of), sl_weight_of⟩)
  (c_weight_of : PySem.W.codeIn K cd_weight_of "weight_of" = true)
  (k_weight_of : PySem.W.keepIn K (.ref p_weight_of) = true)
  (a_is_nearer : PySem.W.nsIn K mainGlobals "is_nearer" = some (some (.ref p_is_nearer)))
  (l_is_nearer : K.lookup p_is_nearer = some ⟨oc_is_nearer, od_is_nearer, .func (PySem.W.fnOf "is_nearer" "is_nearer" (defArgs (top 27)) (defBody (top 27)) (defScope (top 27)) .none kV_is_nearer dc_is_nearer pm_is_nearer an_is_nearer cd_is_nearer ct_is_nearer), sl_is_nearer⟩)
  (c_is_nearer : PySem.W.codeIn K cd_is_nearer "is_nearer" = true)
  (k_is_nearer : PySem.W.keepIn K (.ref p_is_nearer) = true)
  (a_rows_of : PySem.W.nsIn K mainGlobals "rows_of" = some (some (.ref p_rows_of)))
  (l_rows_of : K.lookup p_rows_of = some ⟨oc_rows_of, od_rows_of, .func (PySem.W.fnOf "rows_of" "rows_of" (defArgs (top 22)) (defBody (top 22)) (defScope (top 22)) .none kV_rows_of dc_rows_of pm_rows_of an_rows_of cd_rows_of ct_rows_of), sl_rows_of⟩)
  (c_rows_of : PySem.W.codeIn K cd_rows_of "rows_of" = true)
  (k_rows_of : PySem.W.keepIn K (.ref p_rows_of) = true)
  (a_mean_of : PySem.W.nsIn K mainGlobals "mean_of" = some (some (.ref p_mean_of)))
  (l_mean_of : K.lookup p_mean_of = some ⟨oc_mean_of, od_mean_of, .func (PySem.W.fnOf "mean_of" "mean_of" (defArgs (top 23)) (defBody (top 23)) (defScope (top 23)) .none kV_mean_of dc_mean_of pm_mean_of an_mean_of cd_mean_of ct_mean_of), sl_mean_of⟩)
  (c_mean_of : PySem.W.codeIn K cd_mean_of "mean_of" = true)
  (k_mean_of : PySem.W.keepIn K (.ref p_mean_of) = true)
  (a_common_divisor : PySem.W.nsIn K mainGlobals "common_divisor" = some (some (.ref p_common_divisor)))
  (l_common_divisor : K.lookup p_common_divisor = some ⟨oc_common_divisor, od_common_divisor, .func (PySem.W.fnOf "common_divisor" "common_divisor" (defArgs (top 15)) (defBody (top 15)) (defScope (top 15)) .none kV_common_divisor dc_common_divisor pm_common_divisor an_common_divisor cd_common_divisor ct_common_divisor), sl_common_divisor⟩)
  (c_common_divisor : PySem.W.codeIn K cd_common_divisor "common_divisor" = true)
  (k_common_divisor : PySem.W.keepIn K (.ref p_common_divisor) = true)
  (a_lowest : PySem.W.nsIn K mainGlobals "lowest" = some (some (.ref p_lowest)))
  (l_lowest : K.lookup p_lowest = some ⟨oc_lowest, od_lowest, .func (PySem.W.fnOf "lowest" "lowest" (defArgs (top 20)) (defBody (top 20)) (defScope (top 20)) .none kV_lowest dc_lowest pm_lowest an_lowest cd_lowest ct_lowest), sl_lowest⟩)
  (c_lowest : PySem.W.codeIn K cd_lowest "lowest" = true)
  (k_lowest : PySem.W.keepIn K (.ref p_lowest) = true)
  (a_best_order : PySem.W.nsIn K mainGlobals "best_order" = some (some (.ref p_best_order)))
  (l_best_order : K.lookup p_best_order = some ⟨oc_best_order, od_best_order, .func (PySem.W.fnOf "best_order" "best_order" (defArgs (top 29)) (defBody (top 29)) (defScope (top 29)) .none kV_best_order dc_best_order pm_best_order an_best_order cd_best_order ct_best_order), sl_best_order⟩)
  (c_best_order : PySem.W.codeIn K cd_best_order "best_order" = true)
  (k_best_order : PySem.W.keepIn K (.ref p_best_order) = true)
  (a__law_bent : PySem.W.nsIn K mainGlobals "_law_bent" = some (some (.ref p__law_bent)))
  (l__law_bent : K.lookup p__law_bent = some ⟨oc__law_bent, od__law_bent, .func (PySem.W.fnOf "_law_bent" "_law_bent" (defArgs (top 45)) (defBody (top 45)) (defScope (top 45)) .none kV__law_bent dc__law_bent pm__law_bent an__law_bent cd__law_bent ct__law_bent), sl__law_bent⟩)
  (c__law_bent : PySem.W.codeIn K cd__law_bent "_law_bent" = true)
  (k__law_bent : PySem.W.keepIn K (.ref p__law_bent) = true)
  (a_free_in : PySem.W.nsIn K mainGlobals "free_in" = some (some (.ref p_free_in)))
  (l_free_in : K.lookup p_free_in = some ⟨oc_free_in, od_free_in, .func (PySem.W.fnOf "free_in" "free_in" (defArgs (top 34)) (defBody (top 34)) (defScope (top 34)) .none kV_free_in dc_free_in pm_free_in an_free_in cd_free_in ct_free_in), sl_free_in⟩)
  (c_free_in : PySem.W.codeIn K cd_free_in "free_in" = true)
  (k_free_in : PySem.W.keepIn K (.ref p_free_in) = true)
  (a_sets_by : PySem.W.nsIn K mainGlobals "sets_by" = some (some (.ref p_sets_by)))
  (l_sets_by : K.lookup p_sets_by = some ⟨oc_sets_by, od_sets_by, .func (PySem.W.fnOf "sets_by" "sets_by" (defArgs (top 35)) (defBody (top 35)) (defScope (top 35)) .none kV_sets_by dc_sets_by pm_sets_by an_sets_by cd_sets_by ct_sets_by), sl_sets_by⟩)
  (c_sets_by : PySem.W.codeIn K cd_sets_by "sets_by" = true)
  (k_sets_by : PySem.W.keepIn K (.ref p_sets_by) = true)
  (a_needs_by : PySem.W.nsIn K mainGlobals "needs_by" = some (some (.ref p_needs_by)))
  (l_needs_by : K.lookup p_needs_by = some ⟨oc_needs_by, od_needs_by, .func (PySem.W.fnOf "needs_by" "needs_by" (defArgs (top 33)) (defBody (top 33)) (defScope (top 33)) .none kV_needs_by dc_needs_by pm_needs_by an_needs_by cd_needs_by ct_needs_by), sl_needs_by⟩)
  (c_needs_by : PySem.W.codeIn K cd_needs_by "needs_by" = true)
  (k_needs_by : PySem.W.keepIn K (.ref p_needs_by) = true)
  (a_check_links : PySem.W.nsIn K mainGlobals "check_links" = some (some (.ref p_check_links)))
  (l_check_links : K.lookup p_check_links = some ⟨oc_check_links, od_check_links, .func (PySem.W.fnOf "check_links" "check_links" (defArgs (top 32)) (defBody (top 32)) (defScope (top 32)) .none kV_check_links dc_check_links pm_check_links an_check_links cd_check_links ct_check_links), sl_check_links⟩)
  (c_check_links : PySem.W.codeIn K cd_check_links "check_links" = true)
  (k_check_links : PySem.W.keepIn K (.ref p_check_links) = true)
  (a_best_linked : PySem.W.nsIn K mainGlobals "best_linked" = some (some (.ref p_best_linked)))
  (l_best_linked : K.lookup p_best_linked = some ⟨oc_best_linked, od_best_linked, .func (PySem.W.fnOf "best_linked" "best_linked" (defArgs (top 36)) (defBody (top 36)) (defScope (top 36)) .none kV_best_linked dc_best_linked pm_best_linked an_best_linked cd_best_linked ct_best_linked), sl_best_linked⟩)
  (c_best_linked : PySem.W.codeIn K cd_best_linked "best_linked" = true)
  (k_best_linked : PySem.W.keepIn K (.ref p_best_linked) = true)
  (a_is_order : PySem.W.nsIn K mainGlobals "is_order" = some (some (.ref p_is_order)))
  (l_is_order : K.lookup p_is_order = some ⟨oc_is_order, od_is_order, .func (PySem.W.fnOf "is_order" "is_order" (defArgs (top 19)) (defBody (top 19)) (defScope (top 19)) .none kV_is_order dc_is_order pm_is_order an_is_order cd_is_order ct_is_order), sl_is_order⟩)
  (c_is_order : PySem.W.codeIn K cd_is_order "is_order" = true)
  (k_is_order : PySem.W.keepIn K (.ref p_is_order) = true)
  (a_check_order : PySem.W.nsIn K mainGlobals "check_order" = some (some (.ref p_check_order)))
  (l_check_order : K.lookup p_check_order = some ⟨oc_check_order, od_check_order, .func (PySem.W.fnOf "check_order" "check_order" (defArgs (top 18)) (defBody (top 18)) (defScope (top 18)) .none kV_check_order dc_check_order pm_check_order an_check_order cd_check_order ct_check_order), sl_check_order⟩)
  (c_check_order : PySem.W.codeIn K cd_check_order "check_order" = true)
  (k_check_order : PySem.W.keepIn K (.ref p_check_order) = true)
  (a_worst_of : PySem.W.nsIn K mainGlobals "worst_of" = some (some (.ref p_worst_of)))
  (l_worst_of : K.lookup p_worst_of = some ⟨oc_worst_of, od_worst_of, .func (PySem.W.fnOf "worst_of" "worst_of" (defArgs (top 25)) (defBody (top 25)) (defScope (top 25)) .none kV_worst_of dc_worst_of pm_worst_of an_worst_of cd_worst_of ct_worst_of), sl_worst_of⟩)
  (c_worst_of : PySem.W.codeIn K cd_worst_of "worst_of" = true)
  (k_worst_of : PySem.W.keepIn K (.ref p_worst_of) = true)
  (a_worst_cost : PySem.W.nsIn K mainGlobals "worst_cost" = some (some (.ref p_worst_cost)))
  (l_worst_cost : K.lookup p_worst_cost = some ⟨oc_worst_cost, od_worst_cost, .func (PySem.W.fnOf "worst_cost" "worst_cost" (defArgs (top 26)) (defBody (top 26)) (defScope (top 26)) .none kV_worst_cost dc_worst_cost pm_worst_cost an_worst_cost cd_worst_cost ct_worst_cost), sl_worst_cost⟩)
  (c_worst_cost : PySem.W.codeIn K cd_worst_cost "worst_cost" = true)
  (k_worst_cost : PySem.W.keepIn K (.ref p_worst_cost) = true)
  (a_accept_best : PySem.W.nsIn K mainGlobals "accept_best" = some (some (.ref p_accept_best)))
  (l_accept_best : K.lookup p_accept_best = some ⟨oc_accept_best, od_accept_best, .func (PySem.W.fnOf "accept_best" "accept_best" (defArgs (top 30)) (defBody (top 30)) (defScope (top 30)) .none kV_accept_best dc_accept_best pm_accept_best an_accept_best cd_accept_best ct_accept_best), sl_accept_best⟩)
  (c_accept_best : PySem.W.codeIn K cd_accept_best "accept_best" = true)
  (k_accept_best : PySem.W.keepIn K (.ref p_accept_best) = true)
  (a_least_worst : PySem.W.nsIn K mainGlobals "least_worst" = some (some (.ref p_least_worst)))
  (l_least_worst : K.lookup p_least_worst = some ⟨oc_least_worst, od_least_worst, .func (PySem.W.fnOf "least_worst" "least_worst" (defArgs (top 31)) (defBody (top 31)) (defScope (top 31)) .none kV_least_worst dc_least_worst pm_least_worst an_least_worst cd_least_worst ct_least_worst), sl_least_worst⟩)
  (c_least_worst : PySem.W.codeIn K cd_least_worst "least_worst" = true)
  (k_least_worst : PySem.W.keepIn K (.ref p_least_worst) = true)
  (a_chances : PySem.W.nsIn K mainGlobals "chances" = some (some (.ref p_chances)))
  (l_chances : K.lookup p_chances = some ⟨oc_chances, od_chances, .func (PySem.W.fnOf "chances" "chances" (defArgs (top 21)) (defBody (top 21)) (defScope (top 21)) .none kV_chances dc_chances pm_chances an_chances cd_chances ct_chances), sl_chances⟩)
  (c_chances : PySem.W.codeIn K cd_chances "chances" = true)
  (k_chances : PySem.W.keepIn K (.ref p_chances) = true)
  (a_mean_cost : PySem.W.nsIn K mainGlobals "mean_cost" = some (some (.ref p_mean_cost)))
  (l_mean_cost : K.lookup p_mean_cost = some ⟨oc_mean_cost, od_mean_cost, .func (PySem.W.fnOf "mean_cost" "mean_cost" (defArgs (top 24)) (defBody (top 24)) (defScope (top 24)) .none kV_mean_cost dc_mean_cost pm_mean_cost an_mean_cost cd_mean_cost ct_mean_cost), sl_mean_cost⟩)
  (c_mean_cost : PySem.W.codeIn K cd_mean_cost "mean_cost" = true)
  (k_mean_cost : PySem.W.keepIn K (.ref p_mean_cost) = true)
  (a__law_called : PySem.W.nsIn K mainGlobals "_law_called" = some (some (.ref p__law_called)))
  (l__law_called : K.lookup p__law_called = some ⟨oc__law_called, od__law_called, .func (PySem.W.fnOf "_law_called" "_law_called" (defArgs (top 42)) (defBody (top 42)) (defScope (top 42)) .none kV__law_called dc__law_called pm__law_called an__law_called cd__law_called ct__law_called), sl__law_called⟩)
  (c__law_called : PySem.W.codeIn K cd__law_called "_law_called" = true)
  (k__law_called : PySem.W.keepIn K (.ref p__law_called) = true)
  (a__law_word : PySem.W.nsIn K mainGlobals "_law_word" = some (some (.ref p__law_word)))
  (l__law_word : K.lookup p__law_word = some ⟨oc__law_word, od__law_word, .func (PySem.W.fnOf "_law_word" "_law_word" (defArgs (top 41)) (defBody (top 41)) (defScope (top 41)) .none kV__law_word dc__law_word pm__law_word an__law_word cd__law_word ct__law_word), sl__law_word⟩)
  (c__law_word : PySem.W.codeIn K cd__law_word "_law_word" = true)
  (k__law_word : PySem.W.keepIn K (.ref p__law_word) = true)
  (a__law_heard : PySem.W.nsIn K mainGlobals "_law_heard" = some (some (.ref p__law_heard)))
  (l__law_heard : K.lookup p__law_heard = some ⟨oc__law_heard, od__law_heard, .func (PySem.W.fnOf "_law_heard" "_law_heard" (defArgs (top 43)) (defBody (top 43)) (defScope (top 43)) .none kV__law_heard dc__law_heard pm__law_heard an__law_heard cd__law_heard ct__law_heard), sl__law_heard⟩)
  (c__law_heard : PySem.W.codeIn K cd__law_heard "_law_heard" = true)
  (k__law_heard : PySem.W.keepIn K (.ref p__law_heard) = true)
  (a__law_whole : PySem.W.nsIn K mainGlobals "_law_whole" = some (some (.ref p__law_whole)))
  (l__law_whole : K.lookup p__law_whole = some ⟨oc__law_whole, od__law_whole, .func (PySem.W.fnOf "_law_whole" "_law_whole" (defArgs (top 44)) (defBody (top 44)) (defScope (top 44)) .none kV__law_whole dc__law_whole pm__law_whole an__law_whole cd__law_whole ct__law_whole), sl__law_whole⟩)
  (c__law_whole : PySem.W.codeIn K cd__law_whole "_law_whole" = true)
  (k__law_whole : PySem.W.keepIn K (.ref p__law_whole) = true)
  (a__law_best_due : PySem.W.nsIn K mainGlobals "_law_best_due" = some (some (.ref p__law_best_due)))
  (l__law_best_due : K.lookup p__law_best_due = some ⟨oc__law_best_due, od__law_best_due, .func (PySem.W.fnOf "_law_best_due" "_law_best_due" (defArgs (top 46)) (defBody (top 46)) (defScope (top 46)) .none kV__law_best_due dc__law_best_due pm__law_best_due an__law_best_due cd__law_best_due ct__law_best_due), sl__law_best_due⟩)
  (c__law_best_due : PySem.W.codeIn K cd__law_best_due "_law_best_due" = true)
  (k__law_best_due : PySem.W.keepIn K (.ref p__law_best_due) = true)
  (a_law : PySem.W.nsIn K mainGlobals "law" = some (some (.ref p_law)))
  (l_law : K.lookup p_law = some ⟨oc_law, od_law, .func (PySem.W.fnOf "law" "law" (defArgs (top 47)) (defBody (top 47)) (defScope (top 47)) .none kV_law dc_law pm_law an_law cd_law ct_law), sl_law⟩)
  (c_law : PySem.W.codeIn K cd_law "law" = true)
  (k_law : PySem.W.keepIn K (.ref p_law) = true)
  (n_MAX_DONE : PySem.W.nsIn K mainGlobals "MAX_DONE" = some (some (.int 14 t_MAX_DONE)))
  (n_MAX_ODDS : PySem.W.nsIn K mainGlobals "MAX_ODDS" = some (some (.int 1000 t_MAX_ODDS)))
  (n_MAX_ROWS : PySem.W.nsIn K mainGlobals "MAX_ROWS" = some (some (.int 60 t_MAX_ROWS)))
  (n_MAX_SIZE : PySem.W.nsIn K mainGlobals "MAX_SIZE" = some (some (.int 1000000000000 t_MAX_SIZE)))
  (n_MAX_STEPS : PySem.W.nsIn K mainGlobals "MAX_STEPS" = some (some (.int 20 t_MAX_STEPS)))
  (b_ValueError : PySem.W.nsIn K mainGlobals "ValueError" = some none)
  (b_abs : PySem.W.nsIn K mainGlobals "abs" = some none)
  (b_all : PySem.W.nsIn K mainGlobals "all" = some none)
  (b_bool : PySem.W.nsIn K mainGlobals "bool" = some none)
  (b_enumerate : PySem.W.nsIn K mainGlobals "enumerate" = some none)
  (b_int : PySem.W.nsIn K mainGlobals "int" = some none)
  (b_isinstance : PySem.W.nsIn K mainGlobals "isinstance" = some none)
  (b_len : PySem.W.nsIn K mainGlobals "len" = some none)
  (b_list : PySem.W.nsIn K mainGlobals "list" = some none)
  (b_max : PySem.W.nsIn K mainGlobals "max" = some none)
  (b_range : PySem.W.nsIn K mainGlobals "range" = some none)
  (b_sorted : PySem.W.nsIn K mainGlobals "sorted" = some none)
  (b_sum : PySem.W.nsIn K mainGlobals "sum" = some none)
  (b_super : PySem.W.nsIn K mainGlobals "super" = some none)
  (b_tuple : PySem.W.nsIn K mainGlobals "tuple" = some none)
  (aW : PySem.W.nsIn K mainGlobals "WorkError" = some (some (.ref AW)))
  (hst : PySem.W.nsIn K cStatics "thirdparty.any" = some none)
  (e_n : PySem.W.specialIn K (.builtin "object.__class__") "__get__" = some (some (.builtin "getset_descriptor.__get__")))
  (e_t : PySem.W.takesIn K (.builtin "object.__class__") = some true)
  (aC0 : PySem.W.nsIn K mainGlobals "FlowError" = some (some (.ref C0)))
  (xL0 : K.lookup C0 = some (excClassObj nm0 qn0 C0 N0 bs0 [.ref AW, .type "ValueError", .type "Exception", .type "BaseException", .type "object"] true sn0 sub0 ab0 col0 dd0 x00 x10 x20 x30 x50 "ValueError.__new__"))
  (sa0 : PySem.W.findIn K (.ref C0) "__setattr__" = some (some (.builtin "object.__setattr__")))
  (nr0 : PySem.W.findIn K (.ref C0) "reason" = some none)
  (iC0 : PySem.W.findIn K (.ref C0) "__init__" = some (some (.ref I0)))
  (tI0 : PySem.W.typeIn K (.ref I0) = some (.type "function"))
  (kC0 : PySem.W.keepIn K (.ref C0) = true)
  (eC0 : PySem.W.subIn K (.ref C0) (.type "BaseException") = some true)
  (tC0 : PySem.W.typeIn K (.ref C0) = some (.type "type"))
  (ms0 : PySem.W.mroIn K C0 (.ref C0) = some true)
  (mv0 : PySem.W.mroIn K C0 (.type "ValueError") = some true)
  (si0 : PySem.W.ks_superIn K C0 C0 "__init__" = some (some (.builtin "ValueError.__init__")))
  (lI0 : K.lookup I0 = some ⟨oc0, od0, .func (PySem.W.ksFn "__init__" "FlowError.__init__" iA0 iB0 Sup.iS .none .none dc0 pm0 an0 (.ref cda0) ct0 cc0), osl0⟩)
  (cI0 : PySem.W.codeIn K (.ref cda0) "FlowError.__init__" = true)
  (lD0 : K.lookup cda0 = some ⟨ccl0, cdd0, .fields vs0, ccs0⟩)
  (fD0 : vs0[2]? = some (.str PP.main.file tf0))
  (lK0 : K.lookup cc0 = some ⟨cl0, cld0, .cell (some (.ref C0)), csl0⟩)
  (ga0 : PySem.W.findIn K (.ref C0) "__getattribute__" = some (some (.builtin "BaseException.__getattribute__")))
  (gt0 : PySem.W.findIn K (.ref C0) "__getattr__" = some none)
  (hd0 : PySem.W.hasDictIn K C0 = true)
  (hc0 : PySem.W.findIn K (.ref C0) "__class__" = some (some (.builtin "object.__class__")))
  (hm0 : PySem.W.mroIn K C0 (.type "object") = some true)
  (iv0 : PySem.W.kitOne K (.ref C0) (.type "ValueError") = some true)
  (hx0 : PySem.W.exmOne K (.ref C0) (.ref AW) = some true)
  (aC1 : PySem.W.nsIn K mainGlobals "ArgumentError" = some (some (.ref C1)))
  (xL1 : K.lookup C1 = some (excClassObj nm1 qn1 C1 N1 bs1 [.ref AW, .type "ValueError", .type "Exception", .type "BaseException", .type "object"] true sn1 sub1 ab1 col1 dd1 x01 x11 x21 x31 x51 "ValueError.__new__"))
  (sa1 : PySem.W.findIn K (.ref C1) "__setattr__" = some (some (.builtin "object.__setattr__")))
  (nr1 : PySem.W.findIn K (.ref C1) "reason" = some none)
  (iC1 : PySem.W.findIn K (.ref C1) "__init__" = some (some (.ref I1)))
  (tI1 : PySem.W.typeIn K (.ref I1) = some (.type "function"))
  (kC1 : PySem.W.keepIn K (.ref C1) = true)
  (eC1 : PySem.W.subIn K (.ref C1) (.type "BaseException") = some true)
  (tC1 : PySem.W.typeIn K (.ref C1) = some (.type "type"))
  (ms1 : PySem.W.mroIn K C1 (.ref C1) = some true)
  (mv1 : PySem.W.mroIn K C1 (.type "ValueError") = some true)
  (si1 : PySem.W.ks_superIn K C1 C1 "__init__" = some (some (.builtin "ValueError.__init__")))
  (lI1 : K.lookup I1 = some ⟨oc1, od1, .func (PySem.W.ksFn "__init__" "ArgumentError.__init__" iA1 iB1 Sup.iS .none .none dc1 pm1 an1 (.ref cda1) ct1 cc1), osl1⟩)
  (cI1 : PySem.W.codeIn K (.ref cda1) "ArgumentError.__init__" = true)
  (lD1 : K.lookup cda1 = some ⟨ccl1, cdd1, .fields vs1, ccs1⟩)
  (fD1 : vs1[2]? = some (.str PP.main.file tf1))
  (lK1 : K.lookup cc1 = some ⟨cl1, cld1, .cell (some (.ref C1)), csl1⟩)
  (ga1 : PySem.W.findIn K (.ref C1) "__getattribute__" = some (some (.builtin "BaseException.__getattribute__")))
  (gt1 : PySem.W.findIn K (.ref C1) "__getattr__" = some none)
  (hd1 : PySem.W.hasDictIn K C1 = true)
  (hc1 : PySem.W.findIn K (.ref C1) "__class__" = some (some (.builtin "object.__class__")))
  (hm1 : PySem.W.mroIn K C1 (.type "object") = some true)
  (iv1 : PySem.W.kitOne K (.ref C1) (.type "ValueError") = some true)
  (hx1 : PySem.W.exmOne K (.ref C1) (.ref AW) = some true)
  (aC2 : PySem.W.nsIn K mainGlobals "PaperError" = some (some (.ref C2)))
  (xL2 : K.lookup C2 = some (excClassObj nm2 qn2 C2 N2 bs2 [.ref AW, .type "ValueError", .type "Exception", .type "BaseException", .type "object"] true sn2 sub2 ab2 col2 dd2 x02 x12 x22 x32 x52 "ValueError.__new__"))
  (sa2 : PySem.W.findIn K (.ref C2) "__setattr__" = some (some (.builtin "object.__setattr__")))
  (nr2 : PySem.W.findIn K (.ref C2) "reason" = some none)
  (iC2 : PySem.W.findIn K (.ref C2) "__init__" = some (some (.ref I2)))
  (tI2 : PySem.W.typeIn K (.ref I2) = some (.type "function"))
  (kC2 : PySem.W.keepIn K (.ref C2) = true)
  (eC2 : PySem.W.subIn K (.ref C2) (.type "BaseException") = some true)
  (tC2 : PySem.W.typeIn K (.ref C2) = some (.type "type"))
  (ms2 : PySem.W.mroIn K C2 (.ref C2) = some true)
  (mv2 : PySem.W.mroIn K C2 (.type "ValueError") = some true)
  (si2 : PySem.W.ks_superIn K C2 C2 "__init__" = some (some (.builtin "ValueError.__init__")))
  (lI2 : K.lookup I2 = some ⟨oc2, od2, .func (PySem.W.ksFn "__init__" "PaperError.__init__" iA2 iB2 Sup.iS .none .none dc2 pm2 an2 (.ref cda2) ct2 cc2), osl2⟩)
  (cI2 : PySem.W.codeIn K (.ref cda2) "PaperError.__init__" = true)
  (lD2 : K.lookup cda2 = some ⟨ccl2, cdd2, .fields vs2, ccs2⟩)
  (fD2 : vs2[2]? = some (.str PP.main.file tf2))
  (lK2 : K.lookup cc2 = some ⟨cl2, cld2, .cell (some (.ref C2)), csl2⟩)
  (ga2 : PySem.W.findIn K (.ref C2) "__getattribute__" = some (some (.builtin "BaseException.__getattribute__")))
  (gt2 : PySem.W.findIn K (.ref C2) "__getattr__" = some none)
  (hd2 : PySem.W.hasDictIn K C2 = true)
  (hc2 : PySem.W.findIn K (.ref C2) "__class__" = some (some (.builtin "object.__class__")))
  (hm2 : PySem.W.mroIn K C2 (.type "object") = some true)
  (iv2 : PySem.W.kitOne K (.ref C2) (.type "ValueError") = some true)
  (hx2 : PySem.W.exmOne K (.ref C2) (.ref AW) = some true)
  (aC3 : PySem.W.nsIn K mainGlobals "TooMany" = some (some (.ref C3)))
  (xL3 : K.lookup C3 = some (excClassObj nm3 qn3 C3 N3 bs3 [.ref AW, .type "ValueError", .type "Exception", .type "BaseException", .type "object"] true sn3 sub3 ab3 col3 dd3 x03 x13 x23 x33 x53 "ValueError.__new__"))
  (sa3 : PySem.W.findIn K (.ref C3) "__setattr__" = some (some (.builtin "object.__setattr__")))
  (nr3 : PySem.W.findIn K (.ref C3) "reason" = some none)
  (iC3 : PySem.W.findIn K (.ref C3) "__init__" = some (some (.ref I3)))
  (tI3 : PySem.W.typeIn K (.ref I3) = some (.type "function"))
  (kC3 : PySem.W.keepIn K (.ref C3) = true)
  (eC3 : PySem.W.subIn K (.ref C3) (.type "BaseException") = some true)
  (tC3 : PySem.W.typeIn K (.ref C3) = some (.type "type"))
  (ms3 : PySem.W.mroIn K C3 (.ref C3) = some true)
  (mv3 : PySem.W.mroIn K C3 (.type "ValueError") = some true)
  (si3 : PySem.W.ks_superIn K C3 C3 "__init__" = some (some (.builtin "ValueError.__init__")))
  (lI3 : K.lookup I3 = some ⟨oc3, od3, .func (PySem.W.ksFn "__init__" "TooMany.__init__" iA3 iB3 Sup.iS .none .none dc3 pm3 an3 (.ref cda3) ct3 cc3), osl3⟩)
  (cI3 : PySem.W.codeIn K (.ref cda3) "TooMany.__init__" = true)
  (lD3 : K.lookup cda3 = some ⟨ccl3, cdd3, .fields vs3, ccs3⟩)
  (fD3 : vs3[2]? = some (.str PP.main.file tf3))
  (lK3 : K.lookup cc3 = some ⟨cl3, cld3, .cell (some (.ref C3)), csl3⟩)
  (ga3 : PySem.W.findIn K (.ref C3) "__getattribute__" = some (some (.builtin "BaseException.__getattribute__")))
  (gt3 : PySem.W.findIn K (.ref C3) "__getattr__" = some none)
  (hd3 : PySem.W.hasDictIn K C3 = true)
  (hc3 : PySem.W.findIn K (.ref C3) "__class__" = some (some (.builtin "object.__class__")))
  (hm3 : PySem.W.mroIn K C3 (.type "object") = some true)
  (iv3 : PySem.W.kitOne K (.ref C3) (.type "ValueError") = some true)
  (hx3 : PySem.W.exmOne K (.ref C3) (.ref AW) = some true)
  (is00 : PySem.W.kitOne K (.ref C0) (.ref C0) = some true)
  (xm00 : PySem.W.exmOne K (.ref C0) (.ref C0) = some true)
  (is01 : PySem.W.kitOne K (.ref C0) (.ref C1) = some false)
  (xm01 : PySem.W.exmOne K (.ref C0) (.ref C1) = some false)
  (is02 : PySem.W.kitOne K (.ref C0) (.ref C2) = some false)
  (xm02 : PySem.W.exmOne K (.ref C0) (.ref C2) = some false)
  (is03 : PySem.W.kitOne K (.ref C0) (.ref C3) = some false)
  (xm03 : PySem.W.exmOne K (.ref C0) (.ref C3) = some false)
  (is10 : PySem.W.kitOne K (.ref C1) (.ref C0) = some false)
  (xm10 : PySem.W.exmOne K (.ref C1) (.ref C0) = some false)
  (is11 : PySem.W.kitOne K (.ref C1) (.ref C1) = some true)
  (xm11 : PySem.W.exmOne K (.ref C1) (.ref C1) = some true)
  (is12 : PySem.W.kitOne K (.ref C1) (.ref C2) = some false)
  (xm12 : PySem.W.exmOne K (.ref C1) (.ref C2) = some false)
  (is13 : PySem.W.kitOne K (.ref C1) (.ref C3) = some false)
  (xm13 : PySem.W.exmOne K (.ref C1) (.ref C3) = some false)
  (is20 : PySem.W.kitOne K (.ref C2) (.ref C0) = some false)
  (xm20 : PySem.W.exmOne K (.ref C2) (.ref C0) = some false)
  (is21 : PySem.W.kitOne K (.ref C2) (.ref C1) = some false)
  (xm21 : PySem.W.exmOne K (.ref C2) (.ref C1) = some false)
  (is22 : PySem.W.kitOne K (.ref C2) (.ref C2) = some true)
  (xm22 : PySem.W.exmOne K (.ref C2) (.ref C2) = some true)
  (is23 : PySem.W.kitOne K (.ref C2) (.ref C3) = some false)
  (xm23 : PySem.W.exmOne K (.ref C2) (.ref C3) = some false)
  (is30 : PySem.W.kitOne K (.ref C3) (.ref C0) = some false)
  (xm30 : PySem.W.exmOne K (.ref C3) (.ref C0) = some false)
  (is31 : PySem.W.kitOne K (.ref C3) (.ref C1) = some false)
  (xm31 : PySem.W.exmOne K (.ref C3) (.ref C1) = some false)
  (is32 : PySem.W.kitOne K (.ref C3) (.ref C2) = some false)
  (xm32 : PySem.W.exmOne K (.ref C3) (.ref C2) = some false)
  (is33 : PySem.W.kitOne K (.ref C3) (.ref C3) = some true)
  (xm33 : PySem.W.exmOne K (.ref C3) (.ref C3) = some true) :
  ∃ (g : Ce) (Ca Ci : Nat → Addr) (AW : Addr), TF K mg g Ca Ci AW := by
  refine ⟨⟨fun i => match i with | 0 => some p_best_linked | 1 => some p_worst_cost | 2 => some p_accept_best | 3 => some p_best_order | 4 => some p_least_worst | 5 => some p_chances | 6 => some p_mean_cost | _ => none, fun i => match i with | 0 => some C0 | 1 => some C1 | 2 => some C2 | 3 => some C3 | _ => none, fun _ => "reason"⟩, four C0 C1 C2 C3, four I0 I1 I2 I3, AW, ?_⟩
  have mk : ∀ {x : Str} {v : Value}, PySem.W.nsIn K mainGlobals x = some (some v) → mg x = some v := fun e => PySem.W.mg_of X G e
  have mn : ∀ {x : Str}, PySem.W.nsIn K mainGlobals x = some none → mg x = none := fun e => PySem.W.mg_none_of X G e
  have F__law_start : FunAt K mg "_law_start" (top 38) ["script"] := by
    have F := fun_mk (st := top 38) l__law_start c__law_start k__law_start
    exact ⟨_, _, mk a__law_start, F, k__law_start, F.binds (ps := ["script"]) fun _ _ _ _ _ _ us hl => match us, hl with | [_], _ => rfl⟩
  have F__law_draw : FunAt K mg "_law_draw" (top 39) ["state", "many"] := by
    have F := fun_mk (st := top 39) l__law_draw c__law_draw k__law_draw
    exact ⟨_, _, mk a__law_draw, F, k__law_draw, F.binds (ps := ["state", "many"]) fun _ _ _ _ _ _ us hl => match us, hl with | [_, _], _ => rfl⟩
  have F__law_pick : FunAt K mg "_law_pick" (top 40) ["state", "some"] := by
    have F := fun_mk (st := top 40) l__law_pick c__law_pick k__law_pick
    exact ⟨_, _, mk a__law_pick, F, k__law_pick, F.binds (ps := ["state", "some"]) fun _ _ _ _ _ _ us hl => match us, hl with | [_, _], _ => rfl⟩
  have F_is_integer : FunAt K mg "is_integer" (top 12) ["value"] := by
    have F := fun_mk (st := top 12) l_is_integer c_is_integer k_is_integer
    exact ⟨_, _, mk a_is_integer, F, k_is_integer, F.binds (ps := ["value"]) fun _ _ _ _ _ _ us hl => match us, hl with | [_], _ => rfl⟩
  have F_is_between : FunAt K mg "is_between" (top 13) ["value", "low", "high"] := by
    have F := fun_mk (st := top 13) l_is_between c_is_between k_is_between
    exact ⟨_, _, mk a_is_between, F, k_is_between, F.binds (ps := ["value", "low", "high"]) fun _ _ _ _ _ _ us hl => match us, hl with | [_, _, _], _ => rfl⟩
  have F_check_steps : FunAt K mg "check_steps" (top 17) ["steps"] := by
    have F := fun_mk (st := top 17) l_check_steps c_check_steps k_check_steps
    exact ⟨_, _, mk a_check_steps, F, k_check_steps, F.binds (ps := ["steps"]) fun _ _ _ _ _ _ us hl => match us, hl with | [_], _ => rfl⟩
  have F_weight_of : FunAt K mg "weight_of" (top 28) ["step"] := by
    have F := fun_mk (st := top 28) l_weight_of c_weight_of k_weight_of
    exact ⟨_, _, mk a_weight_of, F, k_weight_of, F.binds (ps := ["step"]) fun _ _ _ _ _ _ us hl => match us, hl with | [_], _ => rfl⟩
  have F_is_nearer : FunAt K mg "is_nearer" (top 27) ["steps", "one", "other"] := by
    have F := fun_mk (st := top 27) l_is_nearer c_is_nearer k_is_nearer
    exact ⟨_, _, mk a_is_nearer, F, k_is_nearer, F.binds (ps := ["steps", "one", "other"]) fun _ _ _ _ _ _ us hl => match us, hl with | [_, _, _], _ => rfl⟩
  have F_rows_of : FunAt K mg "rows_of" (top 22) ["steps", "order"] := by
    have F := fun_mk (st := top 22) l_rows_of c_rows_of k_rows_of
    exact ⟨_, _, mk a_rows_of, F, k_rows_of, F.binds (ps := ["steps", "order"]) fun _ _ _ _ _ _ us hl => match us, hl with | [_, _], _ => rfl⟩
  have F_mean_of : FunAt K mg "mean_of" (top 23) ["steps", "order"] := by
    have F := fun_mk (st := top 23) l_mean_of c_mean_of k_mean_of
    exact ⟨_, _, mk a_mean_of, F, k_mean_of, F.binds (ps := ["steps", "order"]) fun _ _ _ _ _ _ us hl => match us, hl with | [_, _], _ => rfl⟩
  have F_common_divisor : FunAt K mg "common_divisor" (top 15) ["one", "other"] := by
    have F := fun_mk (st := top 15) l_common_divisor c_common_divisor k_common_divisor
    exact ⟨_, _, mk a_common_divisor, F, k_common_divisor, F.binds (ps := ["one", "other"]) fun _ _ _ _ _ _ us hl => match us, hl with | [_, _], _ => rfl⟩
  have F_lowest : FunAt K mg "lowest" (top 20) ["up", "down"] := by
    have F := fun_mk (st := top 20) l_lowest c_lowest k_lowest
    exact ⟨_, _, mk a_lowest, F, k_lowest, F.binds (ps := ["up", "down"]) fun _ _ _ _ _ _ us hl => match us, hl with | [_, _], _ => rfl⟩
  have F_best_order : FunAt K mg "best_order" (top 29) ["steps"] := by
    have F := fun_mk (st := top 29) l_best_order c_best_order k_best_order
    exact ⟨_, _, mk a_best_order, F, k_best_order, F.binds (ps := ["steps"]) fun _ _ _ _ _ _ us hl => match us, hl with | [_], _ => rfl⟩
  have F__law_bent : FunAt K mg "_law_bent" (top 45) ["state", "value"] := by
    have F := fun_mk (st := top 45) l__law_bent c__law_bent k__law_bent
    exact ⟨_, _, mk a__law_bent, F, k__law_bent, F.binds (ps := ["state", "value"]) fun _ _ _ _ _ _ us hl => match us, hl with | [_, _], _ => rfl⟩
  have F_free_in : FunAt K mg "free_in" (top 34) ["needs", "done"] := by
    have F := fun_mk (st := top 34) l_free_in c_free_in k_free_in
    exact ⟨_, _, mk a_free_in, F, k_free_in, F.binds (ps := ["needs", "done"]) fun _ _ _ _ _ _ us hl => match us, hl with | [_, _], _ => rfl⟩
  have F_sets_by : FunAt K mg "sets_by" (top 35) ["needs"] := by
    have F := fun_mk (st := top 35) l_sets_by c_sets_by k_sets_by
    exact ⟨_, _, mk a_sets_by, F, k_sets_by, F.binds (ps := ["needs"]) fun _ _ _ _ _ _ us hl => match us, hl with | [_], _ => rfl⟩
  have F_needs_by : FunAt K mg "needs_by" (top 33) ["steps", "links"] := by
    have F := fun_mk (st := top 33) l_needs_by c_needs_by k_needs_by
    exact ⟨_, _, mk a_needs_by, F, k_needs_by, F.binds (ps := ["steps", "links"]) fun _ _ _ _ _ _ us hl => match us, hl with | [_, _], _ => rfl⟩
  have F_check_links : FunAt K mg "check_links" (top 32) ["steps", "links"] := by
    have F := fun_mk (st := top 32) l_check_links c_check_links k_check_links
    exact ⟨_, _, mk a_check_links, F, k_check_links, F.binds (ps := ["steps", "links"]) fun _ _ _ _ _ _ us hl => match us, hl with | [_, _], _ => rfl⟩
  have F_best_linked : FunAt K mg "best_linked" (top 36) ["steps", "links"] := by
    have F := fun_mk (st := top 36) l_best_linked c_best_linked k_best_linked
    exact ⟨_, _, mk a_best_linked, F, k_best_linked, F.binds (ps := ["steps", "links"]) fun _ _ _ _ _ _ us hl => match us, hl with | [_, _], _ => rfl⟩
  have F_is_order : FunAt K mg "is_order" (top 19) ["steps", "order"] := by
    have F := fun_mk (st := top 19) l_is_order c_is_order k_is_order
    exact ⟨_, _, mk a_is_order, F, k_is_order, F.binds (ps := ["steps", "order"]) fun _ _ _ _ _ _ us hl => match us, hl with | [_, _], _ => rfl⟩
  have F_check_order : FunAt K mg "check_order" (top 18) ["steps", "order"] := by
    have F := fun_mk (st := top 18) l_check_order c_check_order k_check_order
    exact ⟨_, _, mk a_check_order, F, k_check_order, F.binds (ps := ["steps", "order"]) fun _ _ _ _ _ _ us hl => match us, hl with | [_, _], _ => rfl⟩
  have F_worst_of : FunAt K mg "worst_of" (top 25) ["steps", "order"] := by
    have F := fun_mk (st := top 25) l_worst_of c_worst_of k_worst_of
    exact ⟨_, _, mk a_worst_of, F, k_worst_of, F.binds (ps := ["steps", "order"]) fun _ _ _ _ _ _ us hl => match us, hl with | [_, _], _ => rfl⟩
  have F_worst_cost : FunAt K mg "worst_cost" (top 26) ["steps", "order"] := by
    have F := fun_mk (st := top 26) l_worst_cost c_worst_cost k_worst_cost
    exact ⟨_, _, mk a_worst_cost, F, k_worst_cost, F.binds (ps := ["steps", "order"]) fun _ _ _ _ _ _ us hl => match us, hl with | [_, _], _ => rfl⟩
  have F_accept_best : FunAt K mg "accept_best" (top 30) ["steps", "order"] := by
    have F := fun_mk (st := top 30) l_accept_best c_accept_best k_accept_best
    exact ⟨_, _, mk a_accept_best, F, k_accept_best, F.binds (ps := ["steps", "order"]) fun _ _ _ _ _ _ us hl => match us, hl with | [_, _], _ => rfl⟩
  have F_least_worst : FunAt K mg "least_worst" (top 31) ["steps"] := by
    have F := fun_mk (st := top 31) l_least_worst c_least_worst k_least_worst
    exact ⟨_, _, mk a_least_worst, F, k_least_worst, F.binds (ps := ["steps"]) fun _ _ _ _ _ _ us hl => match us, hl with | [_], _ => rfl⟩
  have F_chances : FunAt K mg "chances" (top 21) ["steps", "order"] := by
    have F := fun_mk (st := top 21) l_chances c_chances k_chances
    exact ⟨_, _, mk a_chances, F, k_chances, F.binds (ps := ["steps", "order"]) fun _ _ _ _ _ _ us hl => match us, hl with | [_, _], _ => rfl⟩
  have F_mean_cost : FunAt K mg "mean_cost" (top 24) ["steps", "order"] := by
    have F := fun_mk (st := top 24) l_mean_cost c_mean_cost k_mean_cost
    exact ⟨_, _, mk a_mean_cost, F, k_mean_cost, F.binds (ps := ["steps", "order"]) fun _ _ _ _ _ _ us hl => match us, hl with | [_, _], _ => rfl⟩
  have F__law_called : FunAt K mg "_law_called" (top 42) ["call", "some"] := by
    have F := fun_mk (st := top 42) l__law_called c__law_called k__law_called
    exact ⟨_, _, mk a__law_called, F, k__law_called, F.binds (ps := ["call", "some"]) fun _ _ _ _ _ _ us hl => match us, hl with | [_, _], _ => rfl⟩
  have F__law_word : FunAt K mg "_law_word" (top 41) ["error"] := by
    have F := fun_mk (st := top 41) l__law_word c__law_word k__law_word
    exact ⟨_, _, mk a__law_word, F, k__law_word, F.binds (ps := ["error"]) fun _ _ _ _ _ _ us hl => match us, hl with | [_], _ => rfl⟩
  have F__law_heard : FunAt K mg "_law_heard" (top 43) ["call", "some"] := by
    have F := fun_mk (st := top 43) l__law_heard c__law_heard k__law_heard
    exact ⟨_, _, mk a__law_heard, F, k__law_heard, F.binds (ps := ["call", "some"]) fun _ _ _ _ _ _ us hl => match us, hl with | [_, _], _ => rfl⟩
  have F__law_whole : FunAt K mg "_law_whole" (top 44) ["value"] := by
    have F := fun_mk (st := top 44) l__law_whole c__law_whole k__law_whole
    exact ⟨_, _, mk a__law_whole, F, k__law_whole, F.binds (ps := ["value"]) fun _ _ _ _ _ _ us hl => match us, hl with | [_], _ => rfl⟩
  have F__law_best_due : FunAt K mg "_law_best_due" (top 46) ["steps", "order"] := by
    have F := fun_mk (st := top 46) l__law_best_due c__law_best_due k__law_best_due
    exact ⟨_, _, mk a__law_best_due, F, k__law_best_due, F.binds (ps := ["steps", "order"]) fun _ _ _ _ _ _ us hl => match us, hl with | [_, _], _ => rfl⟩
  have F_law : FunAt K mg "law" (top 47) ["script"] := by
    have F := fun_mk (st := top 47) l_law c_law k_law
    exact ⟨_, _, mk a_law, F, k_law, F.binds (ps := ["script"]) fun _ _ _ _ _ _ us hl => match us, hl with | [_], _ => rfl⟩
  have T0 : Sup.Txt PP K mg C0 I0 := ⟨⟨nm0, qn0, N0, bs0, _, sn0, sub0, ab0, col0, dd0, x00, x10, x20, x30, x50, xL0, rfl⟩, sa0, nr0, iC0, tI0, kC0, eC0, tC0, ms0, mv0, si0, hst, mn b_super, by decide +kernel, ⟨_, _, _, _, _, _, _, _, _, _, _, _, _, _, _, _, _, _, _, _, _, _, _, _, lI0, cI0, rfl, ⟨_, _, _, _, _, _, lD0, fD0, by decide +kernel⟩, _, _, _, lK0⟩⟩
  have E0 : ExcC K C0 := ⟨ga0, gt0, eC0, hd0, hc0, e_n, e_t, hm0⟩
  have X0 : XfC K C0 := ⟨ga0, gt0, eC0, hd0⟩
  have T1 : Sup.Txt PP K mg C1 I1 := ⟨⟨nm1, qn1, N1, bs1, _, sn1, sub1, ab1, col1, dd1, x01, x11, x21, x31, x51, xL1, rfl⟩, sa1, nr1, iC1, tI1, kC1, eC1, tC1, ms1, mv1, si1, hst, mn b_super, by decide +kernel, ⟨_, _, _, _, _, _, _, _, _, _, _, _, _, _, _, _, _, _, _, _, _, _, _, _, lI1, cI1, rfl, ⟨_, _, _, _, _, _, lD1, fD1, by decide +kernel⟩, _, _, _, lK1⟩⟩
  have E1 : ExcC K C1 := ⟨ga1, gt1, eC1, hd1, hc1, e_n, e_t, hm1⟩
  have X1 : XfC K C1 := ⟨ga1, gt1, eC1, hd1⟩
  have T2 : Sup.Txt PP K mg C2 I2 := ⟨⟨nm2, qn2, N2, bs2, _, sn2, sub2, ab2, col2, dd2, x02, x12, x22, x32, x52, xL2, rfl⟩, sa2, nr2, iC2, tI2, kC2, eC2, tC2, ms2, mv2, si2, hst, mn b_super, by decide +kernel, ⟨_, _, _, _, _, _, _, _, _, _, _, _, _, _, _, _, _, _, _, _, _, _, _, _, lI2, cI2, rfl, ⟨_, _, _, _, _, _, lD2, fD2, by decide +kernel⟩, _, _, _, lK2⟩⟩
  have E2 : ExcC K C2 := ⟨ga2, gt2, eC2, hd2, hc2, e_n, e_t, hm2⟩
  have X2 : XfC K C2 := ⟨ga2, gt2, eC2, hd2⟩
  have T3 : Sup.Txt PP K mg C3 I3 := ⟨⟨nm3, qn3, N3, bs3, _, sn3, sub3, ab3, col3, dd3, x03, x13, x23, x33, x53, xL3, rfl⟩, sa3, nr3, iC3, tI3, kC3, eC3, tC3, ms3, mv3, si3, hst, mn b_super, by decide +kernel, ⟨_, _, _, _, _, _, _, _, _, _, _, _, _, _, _, _, _, _, _, _, _, _, _, _, lI3, cI3, rfl, ⟨_, _, _, _, _, _, lD3, fD3, by decide +kernel⟩, _, _, _, lK3⟩⟩
  have E3 : ExcC K C3 := ⟨ga3, gt3, eC3, hd3, hc3, e_n, e_t, hm3⟩
  have X3 : XfC K C3 := ⟨ga3, gt3, eC3, hd3⟩
  exact ⟨F__law_start,
    F__law_draw,
    F__law_pick,
    F_is_integer,
    F_is_between,
    F_check_steps,
    F_weight_of,
    F_is_nearer,
    F_rows_of,
    F_mean_of,
    F_common_divisor,
    F_lowest,
    F_best_order,
    F__law_bent,
    F_free_in,
    F_sets_by,
    F_needs_by,
    F_check_links,
    F_best_linked,
    F_is_order,
    F_check_order,
    F_worst_of,
    F_worst_cost,
    F_accept_best,
    F_least_worst,
    F_chances,
    F_mean_cost,
    F__law_called,
    F__law_word,
    F__law_heard,
    F__law_whole,
    F__law_best_due,
    F_law,
    ⟨_, mk n_MAX_DONE⟩,
    ⟨_, mk n_MAX_ODDS⟩,
    ⟨_, mk n_MAX_ROWS⟩,
    ⟨_, mk n_MAX_SIZE⟩,
    ⟨_, mk n_MAX_STEPS⟩,
    mn b_abs,
    mn b_all,
    mn b_bool,
    mn b_enumerate,
    mn b_int,
    mn b_isinstance,
    mn b_len,
    mn b_list,
    mn b_max,
    mn b_range,
    mn b_sorted,
    mn b_sum,
    mn b_tuple,
    ⟨_, mk a_best_linked, rfl⟩,
    ⟨_, mk a_worst_cost, rfl⟩,
    ⟨_, mk a_accept_best, rfl⟩,
    ⟨_, mk a_best_order, rfl⟩,
    ⟨_, mk a_least_worst, rfl⟩,
    ⟨_, mk a_chances, rfl⟩,
    ⟨_, mk a_mean_cost, rfl⟩,
    ⟨four_all rfl rfl rfl rfl, mk aC0, mk aC1, mk aC2, mk aC3, mn b_isinstance, mn b_ValueError, four_all E0 E1 E2 E3, four_all X0 X1 X2 X3, four_all nr0 nr1 nr2 nr3, fun i j hi hj => (four_all (φ := fun i => ∀ j, j < 4 → PySem.W.kitOne K (.ref (four C0 C1 C2 C3 i)) (.ref (four C0 C1 C2 C3 j)) = some (i == j)) (four_all is00 is01 is02 is03) (four_all is10 is11 is12 is13) (four_all is20 is21 is22 is23) (four_all is30 is31 is32 is33)) i hi j hj, four_all iv0 iv1 iv2 iv3⟩,
    mk aW,
    T0,
    T1,
    T2,
    T3,
    fun _ => rfl,
    four_all hx0 hx1 hx2 hx3,
    fun i j hi hj => (four_all (φ := fun i => ∀ j, j < 4 → PySem.W.exmOne K (.ref (four C0 C1 C2 C3 i)) (.ref (four C0 C1 C2 C3 j)) = some (i == j)) (four_all xm00 xm01 xm02 xm03) (four_all xm10 xm11 xm12 xm13) (four_all xm20 xm21 xm22 xm23) (four_all xm30 xm31 xm32 xm33)) i hi j hj⟩
theorem law_at {w : World} {K : PySem.W.Frag} {mg : Str → Option Value} {fa : Addr} (hl : ∀ ns : List Int, m_law [.scr ns] = .ok (.bl true)) (hfa : mg "law" = some (.ref fa)) (T : ∃ (g : Ce) (Ca Ci : Nat → Addr) (AW : Addr), TF K mg g Ca Ci AW) :
    ∃ fd : FuncData, (∀ (s : Shared) (u : Value), BindsTo s fd ⟨[u], []⟩ [("script", u)]) ∧ ∀ base : Heap, K.In base → base.Ns mainGlobals mg → FnOk PP w K mg base (L2.CX PP w) 7 fa fd ["script"] (spL K) := by
  obtain ⟨g, Ca, Ci, AW, T⟩ := T
  obtain ⟨f, fd, h1, h2, h3, h4⟩ := T.f_law
  rw [hfa] at h1
  cases h1
  refine ⟨fd, ?_, fun base _ _ => ?_⟩
  · obtain ⟨oc, od, kV, doc, pm, an, cdv, ct, osl, rfl, lk, hcd⟩ := h2.ex
    exact fun s u => .of_eq rfl
  · exact law_fn (fn_law (w := w) (base := base) T h2) hl
end LW
end Dn
open PySem PySem.W PyProof.Rows in
set_option maxRecDepth 100000 in
set_option maxHeartbeats 0 in
theorem PySem.Challenge.cw_doneorundone_k24_papers_and_arguments_of_holds : PySem.Challenge.rw_doneorundone_k24_papers_and_arguments_of.Holds := by
  w_on; o_law; k_head; (case hw => w_witness2)
  k_fill
  refine Dn.walkD (l := PySem.Challenge.rw_doneorundone_k24_papers_and_arguments_of) (k := 7) rfl rfl ⟨rfl, by decide, by decide⟩ (fun w h Y => PySem.W.kIn_of Y) ?F
  case F =>
    intro w mg fa h KX G hmg
    refine Dn.LW.law_at Dn.LW.law_true hmg ?_
    refine' Dn.LW.tf_mk KX G ?a__law_start ?l__law_start ?c__law_start ?k__law_start ?a__law_draw ?l__law_draw ?c__law_draw ?k__law_draw ?a__law_pick ?l__law_pick ?c__law_pick ?k__law_pick ?a_is_integer ?l_is_integer ?c_is_integer ?k_is_integer ?a_is_between ?l_is_between ?c_is_between ?k_is_between ?a_check_steps ?l_check_steps ?c_check_steps ?k_check_steps ?a_weight_of ?l_weight_of ?c_weight_of ?k_weight_of ?a_is_nearer ?l_is_nearer ?c_is_nearer ?k_is_nearer ?a_rows_of ?l_rows_of ?c_rows_of ?k_rows_of ?a_mean_of ?l_mean_of ?c_mean_of ?k_mean_of ?a_common_divisor ?l_common_divisor ?c_common_divisor ?k_common_divisor ?a_lowest ?l_lowest ?c_lowest ?k_lowest ?a_best_order ?l_best_order ?c_best_order ?k_best_order ?a__law_bent ?l__law_bent ?c__law_bent ?k__law_bent ?a_free_in ?l_free_in ?c_free_in ?k_free_in ?a_sets_by ?l_sets_by ?c_sets_by ?k_sets_by ?a_needs_by ?l_needs_by ?c_needs_by ?k_needs_by ?a_check_links ?l_check_links ?c_check_links ?k_check_links ?a_best_linked ?l_best_linked ?c_best_linked ?k_best_linked ?a_is_order ?l_is_order ?c_is_order ?k_is_order ?a_check_order ?l_check_order ?c_check_order ?k_check_order ?a_worst_of ?l_worst_of ?c_worst_of ?k_worst_of ?a_worst_cost ?l_worst_cost ?c_worst_cost ?k_worst_cost ?a_accept_best ?l_accept_best ?c_accept_best ?k_accept_best ?a_least_worst ?l_least_worst ?c_least_worst ?k_least_worst ?a_chances ?l_chances ?c_chances ?k_chances ?a_mean_cost ?l_mean_cost ?c_mean_cost ?k_mean_cost ?a__law_called ?l__law_called ?c__law_called ?k__law_called ?a__law_word ?l__law_word ?c__law_word ?k__law_word ?a__law_heard ?l__law_heard ?c__law_heard ?k__law_heard ?a__law_whole ?l__law_whole ?c__law_whole ?k__law_whole ?a__law_best_due ?l__law_best_due ?c__law_best_due ?k__law_best_due ?a_law ?l_law ?c_law ?k_law ?n_MAX_DONE ?n_MAX_ODDS ?n_MAX_ROWS ?n_MAX_SIZE ?n_MAX_STEPS ?b_ValueError ?b_abs ?b_all ?b_bool ?b_enumerate ?b_int ?b_isinstance ?b_len ?b_list ?b_max ?b_range ?b_sorted ?b_sum ?b_super ?b_tuple ?aW ?hst ?e_n ?e_t ?aC0 ?xL0 ?sa0 ?nr0 ?iC0 ?tI0 ?kC0 ?eC0 ?tC0 ?ms0 ?mv0 ?si0 ?lI0 ?cI0 ?lD0 ?fD0 ?lK0 ?ga0 ?gt0 ?hd0 ?hc0 ?hm0 ?iv0 ?hx0 ?aC1 ?xL1 ?sa1 ?nr1 ?iC1 ?tI1 ?kC1 ?eC1 ?tC1 ?ms1 ?mv1 ?si1 ?lI1 ?cI1 ?lD1 ?fD1 ?lK1 ?ga1 ?gt1 ?hd1 ?hc1 ?hm1 ?iv1 ?hx1 ?aC2 ?xL2 ?sa2 ?nr2 ?iC2 ?tI2 ?kC2 ?eC2 ?tC2 ?ms2 ?mv2 ?si2 ?lI2 ?cI2 ?lD2 ?fD2 ?lK2 ?ga2 ?gt2 ?hd2 ?hc2 ?hm2 ?iv2 ?hx2 ?aC3 ?xL3 ?sa3 ?nr3 ?iC3 ?tI3 ?kC3 ?eC3 ?tC3 ?ms3 ?mv3 ?si3 ?lI3 ?cI3 ?lD3 ?fD3 ?lK3 ?ga3 ?gt3 ?hd3 ?hc3 ?hm3 ?iv3 ?hx3 ?is00 ?xm00 ?is01 ?xm01 ?is02 ?xm02 ?is03 ?xm03 ?is10 ?xm10 ?is11 ?xm11 ?is12 ?xm12 ?is13 ?xm13 ?is20 ?xm20 ?is21 ?xm21 ?is22 ?xm22 ?is23 ?xm23 ?is30 ?xm30 ?is31 ?xm31 ?is32 ?xm32 ?is33 ?xm33
    (case a__law_start => first | k_is | rfl)
    (case l__law_start => first | k_is | rfl)
    (case c__law_start => first | k_is | rfl)
    (case k__law_start => first | k_is | rfl)
    (case a__law_draw => first | k_is | rfl)
    (case l__law_draw => first | k_is | rfl)
    (case c__law_draw => first | k_is | rfl)
    (case k__law_draw => first | k_is | rfl)
    (case a__law_pick => first | k_is | rfl)
    (case l__law_pick => first | k_is | rfl)
    (case c__law_pick => first | k_is | rfl)
    (case k__law_pick => first | k_is | rfl)
    (case a_is_integer => first | k_is | rfl)
    (case l_is_integer => first | k_is | rfl)
    (case c_is_integer => first | k_is | rfl)
    (case k_is_integer => first | k_is | rfl)
    (case a_is_between => first | k_is | rfl)
    (case l_is_between => first | k_is | rfl)
    (case c_is_between => first | k_is | rfl)
    (case k_is_between => first | k_is | rfl)
    (case a_check_steps => first | k_is | rfl)
    (case l_check_steps => first | k_is | rfl)
    (case c_check_steps => first | k_is | rfl)
    (case k_check_steps => first | k_is | rfl)
    (case a_weight_of => first | k_is | rfl)
    (case l_weight_of => first | k_is | rfl)
    (case c_weight_of => first | k_is | rfl)
    (case k_weight_of => first | k_is | rfl)
    (case a_is_nearer => first | k_is | rfl)
    (case l_is_nearer => first | k_is | rfl)
    (case c_is_nearer => first | k_is | rfl)
    (case k_is_nearer => first | k_is | rfl)
    (case a_rows_of => first | k_is | rfl)
    (case l_rows_of => first | k_is | rfl)
    (case c_rows_of => first | k_is | rfl)
    (case k_rows_of => first | k_is | rfl)
    (case a_mean_of => first | k_is | rfl)
    (case l_mean_of => first | k_is | rfl)
    (case c_mean_of => first | k_is | rfl)
    (case k_mean_of => first | k_is | rfl)
    (case a_common_divisor => first | k_is | rfl)
    (case l_common_divisor => first | k_is | rfl)
    (case c_common_divisor => first | k_is | rfl)
    (case k_common_divisor => first | k_is | rfl)
    (case a_lowest => first | k_is | rfl)
    (case l_lowest => first | k_is | rfl)
    (case c_lowest => first | k_is | rfl)
    (case k_lowest => first | k_is | rfl)
    (case a_best_order => first | k_is | rfl)
    (case l_best_order => first | k_is | rfl)
    (case c_best_order => first | k_is | rfl)
    (case k_best_order => first | k_is | rfl)
    (case a__law_bent => first | k_is | rfl)
    (case l__law_bent => first | k_is | rfl)
    (case c__law_bent => first | k_is | rfl)
    (case k__law_bent => first | k_is | rfl)
    (case a_free_in => first | k_is | rfl)
    (case l_free_in => first | k_is | rfl)
    (case c_free_in => first | k_is | rfl)
    (case k_free_in => first | k_is | rfl)
    (case a_sets_by => first | k_is | rfl)
    (case l_sets_by => first | k_is | rfl)
    (case c_sets_by => first | k_is | rfl)
    (case k_sets_by => first | k_is | rfl)
    (case a_needs_by => first | k_is | rfl)
    (case l_needs_by => first | k_is | rfl)
    (case c_needs_by => first | k_is | rfl)
    (case k_needs_by => first | k_is | rfl)
    (case a_check_links => first | k_is | rfl)
    (case l_check_links => first | k_is | rfl)
    (case c_check_links => first | k_is | rfl)
    (case k_check_links => first | k_is | rfl)
    (case a_best_linked => first | k_is | rfl)
    (case l_best_linked => first | k_is | rfl)
    (case c_best_linked => first | k_is | rfl)
    (case k_best_linked => first | k_is | rfl)
    (case a_is_order => first | k_is | rfl)
    (case l_is_order => first | k_is | rfl)
    (case c_is_order => first | k_is | rfl)
    (case k_is_order => first | k_is | rfl)
    (case a_check_order => first | k_is | rfl)
    (case l_check_order => first | k_is | rfl)
    (case c_check_order => first | k_is | rfl)
    (case k_check_order => first | k_is | rfl)
    (case a_worst_of => first | k_is | rfl)
    (case l_worst_of => first | k_is | rfl)
    (case c_worst_of => first | k_is | rfl)
    (case k_worst_of => first | k_is | rfl)
    (case a_worst_cost => first | k_is | rfl)
    (case l_worst_cost => first | k_is | rfl)
    (case c_worst_cost => first | k_is | rfl)
    (case k_worst_cost => first | k_is | rfl)
    (case a_accept_best => first | k_is | rfl)
    (case l_accept_best => first | k_is | rfl)
    (case c_accept_best => first | k_is | rfl)
    (case k_accept_best => first | k_is | rfl)
    (case a_least_worst => first | k_is | rfl)
    (case l_least_worst => first | k_is | rfl)
    (case c_least_worst => first | k_is | rfl)
    (case k_least_worst => first | k_is | rfl)
    (case a_chances => first | k_is | rfl)
    (case l_chances => first | k_is | rfl)
    (case c_chances => first | k_is | rfl)
    (case k_chances => first | k_is | rfl)
    (case a_mean_cost => first | k_is | rfl)
    (case l_mean_cost => first | k_is | rfl)
    (case c_mean_cost => first | k_is | rfl)
    (case k_mean_cost => first | k_is | rfl)
    (case a__law_called => first | k_is | rfl)
    (case l__law_called => first | k_is | rfl)
    (case c__law_called => first | k_is | rfl)
    (case k__law_called => first | k_is | rfl)
    (case a__law_word => first | k_is | rfl)
    (case l__law_word => first | k_is | rfl)
    (case c__law_word => first | k_is | rfl)
    (case k__law_word => first | k_is | rfl)
    (case a__law_heard => first | k_is | rfl)
    (case l__law_heard => first | k_is | rfl)
    (case c__law_heard => first | k_is | rfl)
    (case k__law_heard => first | k_is | rfl)
    (case a__law_whole => first | k_is | rfl)
    (case l__law_whole => first | k_is | rfl)
    (case c__law_whole => first | k_is | rfl)
    (case k__law_whole => first | k_is | rfl)
    (case a__law_best_due => first | k_is | rfl)
    (case l__law_best_due => first | k_is | rfl)
    (case c__law_best_due => first | k_is | rfl)
    (case k__law_best_due => first | k_is | rfl)
    (case a_law => first | k_is | rfl)
    (case l_law => first | k_is | rfl)
    (case c_law => first | k_is | rfl)
    (case k_law => first | k_is | rfl)
    (case n_MAX_DONE => first | k_is | rfl)
    (case n_MAX_ODDS => first | k_is | rfl)
    (case n_MAX_ROWS => first | k_is | rfl)
    (case n_MAX_SIZE => first | k_is | rfl)
    (case n_MAX_STEPS => first | k_is | rfl)
    (case b_ValueError => first | k_is | rfl)
    (case b_abs => first | k_is | rfl)
    (case b_all => first | k_is | rfl)
    (case b_bool => first | k_is | rfl)
    (case b_enumerate => first | k_is | rfl)
    (case b_int => first | k_is | rfl)
    (case b_isinstance => first | k_is | rfl)
    (case b_len => first | k_is | rfl)
    (case b_list => first | k_is | rfl)
    (case b_max => first | k_is | rfl)
    (case b_range => first | k_is | rfl)
    (case b_sorted => first | k_is | rfl)
    (case b_sum => first | k_is | rfl)
    (case b_super => first | k_is | rfl)
    (case b_tuple => first | k_is | rfl)
    (case aW => first | k_is | rfl)
    (case hst => first | k_is | rfl)
    (case e_n => first | k_is | rfl)
    (case e_t => first | k_is | rfl)
    (case aC0 => first | k_is | rfl)
    (case xL0 => first | k_is | rfl)
    (case sa0 => first | k_is | rfl)
    (case nr0 => first | k_is | rfl)
    (case iC0 => first | k_is | rfl)
    (case tI0 => first | k_is | rfl)
    (case kC0 => first | k_is | rfl)
    (case eC0 => first | k_is | rfl)
    (case tC0 => first | k_is | rfl)
    (case ms0 => first | k_is | rfl)
    (case mv0 => first | k_is | rfl)
    (case si0 => first | k_is | rfl)
    (case lI0 => first | k_is | rfl)
    (case cI0 => first | k_is | rfl)
    (case lD0 => first | k_is | rfl)
    (case fD0 => first | k_is | rfl)
    (case lK0 => first | k_is | rfl)
    (case ga0 => first | k_is | rfl)
    (case gt0 => first | k_is | rfl)
    (case hd0 => first | k_is | rfl)
    (case hc0 => first | k_is | rfl)
    (case hm0 => first | k_is | rfl)
    (case iv0 => first | k_is | rfl)
    (case hx0 => first | k_is | rfl)
    (case aC1 => first | k_is | rfl)
    (case xL1 => first | k_is | rfl)
    (case sa1 => first | k_is | rfl)
    (case nr1 => first | k_is | rfl)
    (case iC1 => first | k_is | rfl)
    (case tI1 => first | k_is | rfl)
    (case kC1 => first | k_is | rfl)
    (case eC1 => first | k_is | rfl)
    (case tC1 => first | k_is | rfl)
    (case ms1 => first | k_is | rfl)
    (case mv1 => first | k_is | rfl)
    (case si1 => first | k_is | rfl)
    (case lI1 => first | k_is | rfl)
    (case cI1 => first | k_is | rfl)
    (case lD1 => first | k_is | rfl)
    (case fD1 => first | k_is | rfl)
    (case lK1 => first | k_is | rfl)
    (case ga1 => first | k_is | rfl)
    (case gt1 => first | k_is | rfl)
    (case hd1 => first | k_is | rfl)
    (case hc1 => first | k_is | rfl)
    (case hm1 => first | k_is | rfl)
    (case iv1 => first | k_is | rfl)
    (case hx1 => first | k_is | rfl)
    (case aC2 => first | k_is | rfl)
    (case xL2 => first | k_is | rfl)
    (case sa2 => first | k_is | rfl)
    (case nr2 => first | k_is | rfl)
    (case iC2 => first | k_is | rfl)
    (case tI2 => first | k_is | rfl)
    (case kC2 => first | k_is | rfl)
    (case eC2 => first | k_is | rfl)
    (case tC2 => first | k_is | rfl)
    (case ms2 => first | k_is | rfl)
    (case mv2 => first | k_is | rfl)
    (case si2 => first | k_is | rfl)
    (case lI2 => first | k_is | rfl)
    (case cI2 => first | k_is | rfl)
    (case lD2 => first | k_is | rfl)
    (case fD2 => first | k_is | rfl)
    (case lK2 => first | k_is | rfl)
    (case ga2 => first | k_is | rfl)
    (case gt2 => first | k_is | rfl)
    (case hd2 => first | k_is | rfl)
    (case hc2 => first | k_is | rfl)
    (case hm2 => first | k_is | rfl)
    (case iv2 => first | k_is | rfl)
    (case hx2 => first | k_is | rfl)
    (case aC3 => first | k_is | rfl)
    (case xL3 => first | k_is | rfl)
    (case sa3 => first | k_is | rfl)
    (case nr3 => first | k_is | rfl)
    (case iC3 => first | k_is | rfl)
    (case tI3 => first | k_is | rfl)
    (case kC3 => first | k_is | rfl)
    (case eC3 => first | k_is | rfl)
    (case tC3 => first | k_is | rfl)
    (case ms3 => first | k_is | rfl)
    (case mv3 => first | k_is | rfl)
    (case si3 => first | k_is | rfl)
    (case lI3 => first | k_is | rfl)
    (case cI3 => first | k_is | rfl)
    (case lD3 => first | k_is | rfl)
    (case fD3 => first | k_is | rfl)
    (case lK3 => first | k_is | rfl)
    (case ga3 => first | k_is | rfl)
    (case gt3 => first | k_is | rfl)
    (case hd3 => first | k_is | rfl)
    (case hc3 => first | k_is | rfl)
    (case hm3 => first | k_is | rfl)
    (case iv3 => first | k_is | rfl)
    (case hx3 => first | k_is | rfl)
    (case is00 => first | k_is | rfl)
    (case xm00 => first | k_is | rfl)
    (case is01 => first | k_is | rfl)
    (case xm01 => first | k_is | rfl)
    (case is02 => first | k_is | rfl)
    (case xm02 => first | k_is | rfl)
    (case is03 => first | k_is | rfl)
    (case xm03 => first | k_is | rfl)
    (case is10 => first | k_is | rfl)
    (case xm10 => first | k_is | rfl)
    (case is11 => first | k_is | rfl)
    (case xm11 => first | k_is | rfl)
    (case is12 => first | k_is | rfl)
    (case xm12 => first | k_is | rfl)
    (case is13 => first | k_is | rfl)
    (case xm13 => first | k_is | rfl)
    (case is20 => first | k_is | rfl)
    (case xm20 => first | k_is | rfl)
    (case is21 => first | k_is | rfl)
    (case xm21 => first | k_is | rfl)
    (case is22 => first | k_is | rfl)
    (case xm22 => first | k_is | rfl)
    (case is23 => first | k_is | rfl)
    (case xm23 => first | k_is | rfl)
    (case is30 => first | k_is | rfl)
    (case xm30 => first | k_is | rfl)
    (case is31 => first | k_is | rfl)
    (case xm31 => first | k_is | rfl)
    (case is32 => first | k_is | rfl)
    (case xm32 => first | k_is | rfl)
    (case is33 => first | k_is | rfl)
    (case xm33 => first | k_is | rfl)
