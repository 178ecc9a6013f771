import PyProof.Rows.All
import Wide.All
import OpenK.AllK
import Wide.FinOn
import HandS.ForMost
import HandS.ForExc
import HandS.IsInst
import HandS.TupAny
import HandS.TupMul
import HandS.Deep
import HandS.Wide
import HandS.WideBits
import HandS.CallSlots
import HandS.CallLocal
import HandS.ExcCtx
import HandS.SuiteRaise
import HandS.Walk
import HandS.Iter
import HandS.Zip
import HandS.Lambda
import HandS.SetFor
import HandS.Strs
import HandS.SortInts
import KE.GoesEnum
import HandS.Style
import HandS.ExcSuper
import HandS.ExcInit
import HandS.ExcField
import KE.KSuper
import HandS.RaiseFrom
import HandS.HotCalls
import HandS.ExcIs
import HandS.ExcInitHot
import KE.KExcIs
import KE.GoesNew
import KE.GoesMore
import PySem.Challenge.RW_doneorundone_k10_papers_and_arguments_of
/-! Dn1 -/
set_option Elab.async false
set_option linter.all false
set_option maxRecDepth 100000
set_option maxHeartbeats 1000000
/-! Dn1: data, the monad, how data lie in the heap, the states. -/
namespace Dn
open PySem PySem.Spec L2
open PyProof.Rows hiding St

/-- plain data -/
inductive D where
  | non | bl (b : Bool) | int (i : Int) | str (x : Str)
  | tup (xs : List D) | lst (xs : List D)
  | dct (ks vs : List D)
  | fn (i : Nat)
  | scr (ns : List Int)

inductive Exn where
  | raise (k : Nat) (d : D)
  | stuck

abbrev M := Except Exn
abbrev stuck {α : Type} : M α := .error .stuck

/-- what is fixed in a law: the written part, where the defs stand that are values, the error classes -/
structure Cc where
  K : PySem.W.Frag
  fa : Nat → Option Addr
  ec : Nat → Option Addr
  en : Nat → Str

def dk : Key → D
  | .inl i => .int i
  | .inr x => .str x

mutual
def IsD (c : Cc) (H : Hp) : D → V → Prop
  | .non, v => v = .non
  | .bl b, v => v = .bl b
  | .int i, v => v = .int i
  | .str x, v => v = .str x
  | .tup xs, v => ∃ a vs, v = .ref a ∧ SqT c.K H a vs ∧ IsDs c H xs vs
  | .lst xs, v => ∃ a vs, v = .ref a ∧ H a = some (.lst vs) ∧ IsDs c H xs vs
  | .scr ns, v => ∃ a, v = .ref a ∧ SqL c.K H a (ns.map V.int)
  | .dct ks ws, v => ∃ a, v = .ref a ∧ ((∃ kvs : List (Key × V), Rd H a (.dK kvs) ∧ ks = kvs.map (fun p => dk p.1) ∧ IsDs c H ws (kvs.map (·.2))) ∨
      ∃ kvs : List (List Key × V), Rd H a (.dT kvs) ∧ ks = kvs.map (fun p => .tup (p.1.map dk)) ∧ IsDs c H ws (kvs.map (·.2)))
  | .fn i, v => ∃ a, c.fa i = some a ∧ v = .ref a
def IsDs (c : Cc) (H : Hp) : List D → List V → Prop
  | [], vs => vs = []
  | d :: ds, vs => ∃ v r, vs = v :: r ∧ IsD c H d v ∧ IsDs c H ds r
end

theorem Rd.same {H H' : Hp} {a : Addr} {u : HO} (e : Same H H') (r : Rd H a u) : Rd H' a u := by
  rcases r with r | ⟨o, r⟩
  · exact .inl (e _ _ r)
  · exact .inr ⟨o, e _ _ r⟩
theorem SqT.same {K : PySem.W.Frag} {H H' : Hp} {a : Addr} {xs : List V} (e : Same H H') (r : SqT K H a xs) : SqT K H' a xs := by
  rcases r with r | r
  · exact .inl (Rd.same e r)
  · exact .inr r

mutual
theorem IsD.same {c : Cc} {H H' : Hp} (e : Same H H') : ∀ (d : D) (v : V), IsD c H d v → IsD c H' d v
  | .non, v, h => by unfold IsD at h ⊢; exact h
  | .bl _, v, h => by unfold IsD at h ⊢; exact h
  | .int _, v, h => by unfold IsD at h ⊢; exact h
  | .str _, v, h => by unfold IsD at h ⊢; exact h
  | .tup xs, v, h => by
    unfold IsD at h ⊢
    obtain ⟨a, vs, e1, e2, e3⟩ := h
    exact ⟨a, vs, e1, SqT.same e e2, IsDs.same e xs vs e3⟩
  | .lst xs, v, h => by
    unfold IsD at h ⊢
    obtain ⟨a, vs, e1, e2, e3⟩ := h
    exact ⟨a, vs, e1, e _ _ e2, IsDs.same e xs vs e3⟩
  | .scr ns, v, h => by
    unfold IsD at h ⊢
    obtain ⟨a, e1, e2⟩ := h
    exact ⟨a, e1, e.seq e2⟩
  | .dct ks ws, v, h => by
    unfold IsD at h ⊢
    obtain ⟨a, e1, h⟩ := h
    refine ⟨a, e1, ?_⟩
    rcases h with ⟨kvs, h1, h2, h3⟩ | ⟨kvs, h1, h2, h3⟩
    · exact .inl ⟨kvs, Rd.same e h1, h2, IsDs.same e ws _ h3⟩
    · exact .inr ⟨kvs, Rd.same e h1, h2, IsDs.same e ws _ h3⟩
  | .fn _, v, h => by unfold IsD at h ⊢; exact h
theorem IsDs.same {c : Cc} {H H' : Hp} (e : Same H H') : ∀ (ds : List D) (vs : List V), IsDs c H ds vs → IsDs c H' ds vs
  | [], vs, h => by unfold IsDs at h ⊢; exact h
  | d :: ds, vs, h => by
    unfold IsDs at h ⊢
    obtain ⟨v, r, e1, h1, h2⟩ := h
    exact ⟨v, r, e1, IsD.same e d v h1, IsDs.same e ds r h2⟩
end

section
variable {c : Cc} {H : Hp}
theorem IsDs.len : ∀ {ds : List D} {vs : List V}, IsDs c H ds vs → ds.length = vs.length
  | [], vs, h => by unfold IsDs at h; subst h; rfl
  | d :: ds, vs, h => by
    unfold IsDs at h
    obtain ⟨v, r, rfl, h1, h2⟩ := h
    simp [IsDs.len h2]
theorem IsDs.nil : IsDs c H [] [] := by unfold IsDs; rfl
theorem IsDs.cons {d : D} {v : V} {ds : List D} {vs : List V} (h : IsD c H d v) (t : IsDs c H ds vs) : IsDs c H (d :: ds) (v :: vs) := by
  unfold IsDs; exact ⟨v, vs, rfl, h, t⟩
theorem IsDs.get : ∀ {ds : List D} {vs : List V} {i : Nat} {v : V}, IsDs c H ds vs → vs[i]? = some v → ∃ d, ds[i]? = some d ∧ IsD c H d v
  | [], vs, i, v, h, e => by unfold IsDs at h; subst h; simp at e
  | d :: ds, vs, i, v, h, e => by
    unfold IsDs at h
    obtain ⟨w, r, rfl, h1, h2⟩ := h
    cases i with
    | zero => simp at e; subst e; exact ⟨d, rfl, h1⟩
    | succ i => obtain ⟨d', e1, e2⟩ := IsDs.get (i := i) h2 (by simpa using e); exact ⟨d', by simpa using e1, e2⟩
theorem IsDs.getD : ∀ {ds : List D} {vs : List V} {i : Nat} {d : D}, IsDs c H ds vs → ds[i]? = some d → ∃ v, vs[i]? = some v ∧ IsD c H d v
  | [], vs, i, v, h, e => by simp at e
  | d :: ds, vs, i, d', h, e => by
    unfold IsDs at h
    obtain ⟨w, r, rfl, h1, h2⟩ := h
    cases i with
    | zero => simp at e; subst e; exact ⟨w, rfl, h1⟩
    | succ i => obtain ⟨v', e1, e2⟩ := IsDs.getD (i := i) h2 (by simpa using e); exact ⟨v', by simpa using e1, e2⟩
theorem IsDs.append : ∀ {ds es : List D} {vs ws : List V}, IsDs c H ds vs → IsDs c H es ws → IsDs c H (ds ++ es) (vs ++ ws)
  | [], es, vs, ws, h, h' => by unfold IsDs at h; subst h; exact h'
  | d :: ds, es, vs, ws, h, h' => by
    unfold IsDs at h
    obtain ⟨w, r, rfl, h1, h2⟩ := h
    exact IsDs.cons h1 (IsDs.append h2 h')
theorem IsDs.drop : ∀ {ds : List D} {vs : List V} (n : Nat), IsDs c H ds vs → IsDs c H (ds.drop n) (vs.drop n)
  | ds, vs, 0, h => h
  | [], vs, n + 1, h => by unfold IsDs at h; subst h; exact IsDs.nil
  | d :: ds, vs, n + 1, h => by
    unfold IsDs at h
    obtain ⟨w, r, rfl, h1, h2⟩ := h
    exact IsDs.drop n h2
theorem IsDs.take : ∀ {ds : List D} {vs : List V} (n : Nat), IsDs c H ds vs → IsDs c H (ds.take n) (vs.take n)
  | ds, vs, 0, h => IsDs.nil
  | [], vs, n + 1, h => by unfold IsDs at h; subst h; exact IsDs.nil
  | d :: ds, vs, n + 1, h => by
    unfold IsDs at h
    obtain ⟨w, r, rfl, h1, h2⟩ := h
    exact IsDs.cons h1 (IsDs.take n h2)
theorem IsDs.set : ∀ {ds : List D} {vs : List V} {d : D} {v : V} (n : Nat), IsDs c H ds vs → IsD c H d v → IsDs c H (ds.set n d) (vs.set n v)
  | [], vs, d, v, n, h, _ => by unfold IsDs at h; subst h; exact IsDs.nil
  | d :: ds, vs, d', v, n, h, h' => by
    unfold IsDs at h
    obtain ⟨w, r, rfl, h1, h2⟩ := h
    cases n with
    | zero => exact IsDs.cons h' h2
    | succ n => exact IsDs.cons h1 (IsDs.set n h2 h')
theorem IsDs.reverse : ∀ {ds : List D} {vs : List V}, IsDs c H ds vs → IsDs c H ds.reverse vs.reverse
  | [], vs, h => by unfold IsDs at h; subst h; exact IsDs.nil
  | d :: ds, vs, h => by
    unfold IsDs at h
    obtain ⟨w, r, rfl, h1, h2⟩ := h
    rw [List.reverse_cons, List.reverse_cons]
    exact IsDs.append (IsDs.reverse h2) (IsDs.cons h1 IsDs.nil)
theorem IsDs.dropLast {ds : List D} {vs : List V} (h : IsDs c H ds vs) : IsDs c H ds.dropLast vs.dropLast := by
  rw [List.dropLast_eq_take, List.dropLast_eq_take, h.len]
  exact h.take _
theorem IsDs.eraseIdx : ∀ {ds : List D} {vs : List V} (n : Nat), IsDs c H ds vs → IsDs c H (ds.eraseIdx n) (vs.eraseIdx n)
  | [], vs, n, h => by unfold IsDs at h; subst h; exact IsDs.nil
  | d :: ds, vs, n, h => by
    unfold IsDs at h
    obtain ⟨w, r, rfl, h1, h2⟩ := h
    cases n with
    | zero => exact h2
    | succ n => exact IsDs.cons h1 (IsDs.eraseIdx n h2)
end

/-! ### hiding -/
open Classical in
noncomputable def hide (H : Hp) (P : Addr → Prop) : Hp := fun a => if P a then none else H a
theorem hide_of {H : Hp} {P : Addr → Prop} {a : Addr} (h : ¬ P a) : hide H P a = H a := by unfold hide; rw [if_neg h]
theorem hide_yes {H : Hp} {P : Addr → Prop} {a : Addr} (h : P a) : hide H P a = none := by unfold hide; rw [if_pos h]
theorem hide_some {H : Hp} {P : Addr → Prop} {a : Addr} {o : HO} (h : hide H P a = some o) : ¬ P a ∧ H a = some o := by
  by_cases p : P a
  · rw [hide_yes p] at h; cases h
  · rw [hide_of p] at h; exact ⟨p, h⟩
theorem hide_same {H H' : Hp} {P : Addr → Prop} (e : Same H H') : Same (hide H P) (hide H' P) := fun b o h => by
  obtain ⟨h1, h2⟩ := hide_some h
  rw [hide_of h1]; exact e _ _ h2
theorem hide_sub {H : Hp} {P P' : Addr → Prop} (e : ∀ a, P' a → P a) : Same (hide H P) (hide H P') := fun b o h => by
  obtain ⟨h1, h2⟩ := hide_some h
  rw [hide_of fun p => h1 (e _ p)]; exact h2
theorem hide_full {H : Hp} {P : Addr → Prop} : Same (hide H P) H := fun b o h => (hide_some h).2
theorem same_new {H : Hp} {p : Addr} {o : HO} (n : H p = none) : Same H (upd H p o) := fun b u h => by
  rw [upd_ne (ne_of_none h n)]; exact h

/-! ### the states -/
inductive Sl where
  | un | va (d : D) | ow (d : D)
abbrev En := List Sl

/-- an owned object's content -/
def ObjRep (c : Cc) (G : Hp) : D → HO → Prop
  | .lst ds, o => ∃ vs, o = .lst vs ∧ IsDs c G ds vs
  | .dct ks ws, o => (∃ kvs : List (Key × V), o = .dK kvs ∧ ks = kvs.map (fun p => dk p.1) ∧ IsDs c G ws (kvs.map (·.2))) ∨
      ∃ kvs : List (List Key × V), o = .dT kvs ∧ ks = kvs.map (fun p => .tup (p.1.map dk)) ∧ IsDs c G ws (kvs.map (·.2))
  | _, _ => False
theorem ObjRep.same {c : Cc} {G G' : Hp} (e : Same G G') {d : D} {o : HO} (h : ObjRep c G d o) : ObjRep c G' d o := by
  cases d with
  | lst ds => obtain ⟨vs, e1, h⟩ := h; exact ⟨vs, e1, h.same e⟩
  | dct ks ws =>
    rcases h with ⟨kvs, e1, e2, h⟩ | ⟨kvs, e1, e2, h⟩
    · exact .inl ⟨kvs, e1, e2, h.same e⟩
    · exact .inr ⟨kvs, e1, e2, h.same e⟩
  | _ => exact h

def Owns (env : En) (σ : St) (a : Addr) : Prop := ∃ (i : Nat) (d : D), env[i]? = some (Sl.ow d) ∧ σ[i]? = some (some (V.ref a))
abbrev Hid (xs : Addr → Prop) (env : En) (σ : St) : Addr → Prop := fun a => Owns env σ a ∨ xs a

structure StOk (c : Cc) (xs : Addr → Prop) (env : En) (σ : St) (H : Hp) : Prop where
  len : env.length = σ.length
  xb : ∀ a, xs a → H a ≠ none ∧ ¬ Owns env σ a
  va : ∀ (i : Nat) (d : D), env[i]? = some (Sl.va d) → ∃ v, σ[i]? = some (some v) ∧ IsD c (hide H (Hid xs env σ)) d v
  ow : ∀ (i : Nat) (d : D), env[i]? = some (Sl.ow d) → ∃ a o, σ[i]? = some (some (V.ref a)) ∧ H a = some o ∧ ObjRep c (hide H (Hid xs env σ)) d o
  inj : ∀ (i j : Nat) (d e : D) (a : Addr), env[i]? = some (Sl.ow d) → env[j]? = some (Sl.ow e) → σ[i]? = some (some (V.ref a)) → σ[j]? = some (some (V.ref a)) → i = j

section
variable {c : Cc} {xs : Addr → Prop} {env : En} {σ : St} {H H' : Hp}
/-- nothing changed -/
theorem StOk.same (S : StOk c xs env σ H) (e : Same H H') : StOk c xs env σ H' where
  len := S.len
  xb := fun a h => by
    refine ⟨fun n => ?_, (S.xb a h).2⟩
    cases q : H a with
    | none => exact (S.xb a h).1 q
    | some o => rw [e _ _ q] at n; cases n
  va := fun i d h => let ⟨v, h1, h2⟩ := S.va i d h; ⟨v, h1, h2.same (hide_same e)⟩
  ow := fun i d h => let ⟨a, o, h1, h2, h3⟩ := S.ow i d h; ⟨a, o, h1, e _ _ h2, h3.same (hide_same e)⟩
  inj := S.inj
/-- hidden addresses are taken -/
theorem StOk.hid (S : StOk c xs env σ H) {a : Addr} (h : Hid xs env σ a) : H a ≠ none := by
  rcases h with ⟨i, d, h1, h2⟩ | h
  · obtain ⟨b, o, h3, h4, _⟩ := S.ow i d h1
    rw [h2] at h3; cases h3
    rw [h4]; exact fun z => nomatch z
  · exact (S.xb a h).1
theorem StOk.newHid (S : StOk c xs env σ H) {p : Addr} (n : H p = none) : ¬ Hid xs env σ p := fun h => S.hid h n
end
end Dn

/-! Dn2 -/
set_option Elab.async false
set_option linter.all false
set_option maxRecDepth 100000
set_option maxHeartbeats 1000000
/-! Dn2: readings by data: expressions, tests, arguments, statements. -/
namespace Dn
open PySem PySem.Spec L2
open PyProof.Rows hiding St

/-- as Cc, without the written part -/
structure Ce where
  fa : Nat → Option Addr
  ec : Nat → Option Addr
  en : Nat → Str
abbrev cc (X : Cx) (g : Ce) : Cc := ⟨X.K, g.fa, g.ec, g.en⟩

def bnd {α β : Type} (x : M α) (f : α → M β) : M β :=
  match x with
  | .ok a => f a
  | .error e => .error e
@[simp] theorem bnd_ok {α β : Type} (a : α) (f : α → M β) : bnd (.ok a) f = f a := rfl
@[simp] theorem bnd_err {α β : Type} (e : Exn) (f : α → M β) : bnd (.error e : M α) f = .error e := rfl

/-! ### how a value is held: clean, or by its shell -/
def RepS (c : Cc) (P : Addr → Prop) (H : Hp) : D → V → Prop
  | .lst ds, v => ∃ a vs, v = .ref a ∧ H a = some (.lst vs) ∧ IsDs c (hide H P) ds vs
  | .dct ks ws, v => ∃ a, v = .ref a ∧ ((∃ kvs : List (Key × V), Rd H a (.dK kvs) ∧ ks = kvs.map (fun p => dk p.1) ∧ IsDs c (hide H P) ws (kvs.map (·.2))) ∨
      ∃ kvs : List (List Key × V), Rd H a (.dT kvs) ∧ ks = kvs.map (fun p => .tup (p.1.map dk)) ∧ IsDs c (hide H P) ws (kvs.map (·.2)))
  | d, v => IsD c (hide H P) d v
def Rep (c : Cc) (sh : Bool) (P : Addr → Prop) (H : Hp) (d : D) (v : V) : Prop := if sh = true then RepS c P H d v else IsD c (hide H P) d v
theorem RepS.of {c : Cc} {P : Addr → Prop} {H : Hp} {d : D} {v : V} (h : IsD c (hide H P) d v) : RepS c P H d v := by
  cases d with
  | lst ds => unfold IsD at h; obtain ⟨a, vs, e1, e2, e3⟩ := h; exact ⟨a, vs, e1, hide_full _ _ e2, e3⟩
  | dct ks ws =>
    unfold IsD at h
    obtain ⟨a, e1, h⟩ := h
    refine ⟨a, e1, ?_⟩
    rcases h with ⟨kvs, h1, h2⟩ | ⟨kvs, h1, h2⟩
    · exact .inl ⟨kvs, Rd.same hide_full h1, h2⟩
    · exact .inr ⟨kvs, Rd.same hide_full h1, h2⟩
  | _ => exact h
theorem RepS.same {c : Cc} {P : Addr → Prop} {H H' : Hp} {d : D} {v : V} (e : Same H H') (h : RepS c P H d v) : RepS c P H' d v := by
  cases d with
  | lst ds => obtain ⟨a, vs, e1, e2, e3⟩ := h; exact ⟨a, vs, e1, e _ _ e2, e3.same (hide_same e)⟩
  | dct ks ws =>
    obtain ⟨a, e1, h⟩ := h
    refine ⟨a, e1, ?_⟩
    rcases h with ⟨kvs, h1, h2, h3⟩ | ⟨kvs, h1, h2, h3⟩
    · exact .inl ⟨kvs, Rd.same e h1, h2, h3.same (hide_same e)⟩
    · exact .inr ⟨kvs, Rd.same e h1, h2, h3.same (hide_same e)⟩
  | _ => exact IsD.same (hide_same e) _ _ h
theorem Rep.shell {c : Cc} {sh : Bool} {P : Addr → Prop} {H : Hp} {d : D} {v : V} (h : Rep c sh P H d v) : RepS c P H d v := by
  unfold Rep at h
  split at h
  · exact h
  · exact RepS.of h
theorem Rep.clean {c : Cc} {P : Addr → Prop} {H : Hp} {d : D} {v : V} (h : Rep c false P H d v) : IsD c (hide H P) d v := h
theorem Rep.of {c : Cc} {sh : Bool} {P : Addr → Prop} {H : Hp} {d : D} {v : V} (h : IsD c (hide H P) d v) : Rep c sh P H d v := by
  unfold Rep
  split
  · exact RepS.of h
  · exact h

def isOw (env : En) (j : Nat) : Bool := match env[j]? with
  | some (.ow _) => true
  | _ => false
theorem isOw_of {env : En} {j : Nat} {d : D} (h : env[j]? = some (Sl.ow d)) : isOw env j = true := by unfold isOw; rw [h]
theorem of_isOw {env : En} {j : Nat} (h : isOw env j = true) : ∃ d, env[j]? = some (Sl.ow d) := by
  unfold isOw at h
  split at h
  · rename_i d q; exact ⟨d, q⟩
  · cases h
theorem owns_shape {env env' : En} {σ : St} (h : ∀ j, isOw env' j = isOw env j) : Owns env' σ = Owns env σ := by
  funext a
  apply propext
  constructor
  · rintro ⟨i, d, h1, h2⟩
    obtain ⟨e, he⟩ := of_isOw ((h i).symm.trans (isOw_of h1))
    exact ⟨i, e, he, h2⟩
  · rintro ⟨i, d, h1, h2⟩
    obtain ⟨e, he⟩ := of_isOw ((h i).trans (isOw_of h1))
    exact ⟨i, e, he, h2⟩
/-- an evaluation's step -/
structure Stp (c : Cc) (xs : Addr → Prop) (pu : Bool) (env env' : En) (σ : St) (H H' : Hp) : Prop where
  st : StOk c xs env' σ H'
  shp : ∀ j, isOw env' j = isOw env j
  sm : Same (hide H (Owns env σ)) (hide H' (Owns env σ))
  pr : pu = true → env' = env ∧ Same H H'
section
variable {c : Cc} {xs : Addr → Prop} {pu pu' : Bool} {env env' env'' : En} {σ : St} {H H' H'' : Hp}
theorem Stp.own (s : Stp c xs pu env env' σ H H') : Owns env' σ = Owns env σ := owns_shape s.shp
theorem Stp.hid (s : Stp c xs pu env env' σ H H') : Hid xs env' σ = Hid xs env σ := by
  funext a; unfold Hid; rw [s.own]
theorem Stp.smH (s : Stp c xs pu env env' σ H H') : Same (hide H (Hid xs env σ)) (hide H' (Hid xs env σ)) := fun b o h => by
  obtain ⟨h1, h2⟩ := hide_some h
  have h3 := s.sm b o (by rw [hide_of fun z => h1 (.inl z)]; exact h2)
  rw [hide_of h1]
  exact (hide_some h3).2
theorem Stp.th (s : Stp c xs pu env env' σ H H') (a : Addr) (h : H a ≠ none) : H' a ≠ none := fun n => by
  by_cases z : Owns env σ a
  · exact s.st.hid (.inl (by rw [s.own]; exact z)) n
  · cases q : H a with
    | none => exact h q
    | some o =>
      have := s.sm a o (by rw [hide_of z]; exact q)
      rw [(hide_some this).2] at n; cases n
theorem Stp.trans (s : Stp c xs pu env env' σ H H') (s' : Stp c xs pu' env' env'' σ H' H'') : Stp c xs (pu && pu') env env'' σ H H'' where
  st := s'.st
  shp := fun j => (s'.shp j).trans (s.shp j)
  sm := s.sm.trans (by have := s'.sm; rw [s.own] at this; exact this)
  pr := fun h => by
    simp only [Bool.and_eq_true] at h
    obtain ⟨e1, k1⟩ := s.pr h.1
    obtain ⟨e2, k2⟩ := s'.pr h.2
    exact ⟨e2.trans e1, k1.trans k2⟩
theorem Stp.refl (S : StOk c xs env σ H) : Stp c xs pu env env σ H H := ⟨S, fun _ => rfl, Same.refl _, fun _ => ⟨rfl, Same.refl _⟩⟩
theorem Stp.grow (s : Stp c xs pu env env' σ H H') (k : Same H' H'') : Stp c xs pu env env' σ H H'' :=
  ⟨s.st.same k, s.shp, s.sm.trans (hide_same k), fun h => ⟨(s.pr h).1, (s.pr h).2.trans k⟩⟩
theorem Stp.weak (s : Stp c xs pu env env' σ H H') (h : pu' = true → pu = true) : Stp c xs pu' env env' σ H H' := ⟨s.st, s.shp, s.sm, fun q => s.pr (h q)⟩
/-- a value held ahead of a step is held behind it -/
theorem Stp.rep (s : Stp c xs pu env env' σ H H') {sh : Bool} {d : D} {v : V} (h : sh = false ∨ pu = true) (r : Rep c sh (Hid xs env σ) H d v) : Rep c sh (Hid xs env σ) H' d v := by
  rcases h with rfl | h
  · exact IsD.same s.smH _ _ r
  · have k := (s.pr h).2
    cases sh with
    | true => exact RepS.same k r
    | false => exact IsD.same (hide_same k) _ _ r
end

def ExcRep (c : Cc) (H : Hp) (k : Nat) (p : D) (cls : Value) (dd : Option Addr) : Prop := ∃ C d v, c.ec k = some C ∧ cls = .ref C ∧ dd = some d ∧ H d = some (.xd [(c.en k, v)]) ∧ IsD c H p v

abbrev Ev := En → M (D × En)
abbrev Tv := En → M (Bool × En)
abbrev Av := En → M (List D × En)

/-- what is wanted of an evaluation's outcome -/
def Want {α β : Type} (c : Cc) (xs : Addr → Prop) (pu : Bool) (env : En) (σ : St) (H : Hp) (R : α → En → β → Hp → Prop) (W : WX) (Q : β → Hp → Prop) : M (α × En) → Prop
  | .ok (d, env') => ∀ v H', Stp c xs pu env env' σ H H' → R d env' v H' → Q v H'
  | .error (.raise k p) => ∀ cls dd H', Same (hide H (Owns env σ)) H' → ExcRep c H' k p cls dd → W cls dd σ H'
  | .error .stuck => False

def tE (c : Cc) (pu sh : Bool) (m : Ev) (W : WX) : TE := fun σ H Q => ∃ xs env, StOk c xs env σ H ∧ Want c xs pu env σ H (fun d _ v H' => Rep c sh (Hid xs env σ) H' d v) W Q (m env)
/-- a new object, by values -/
def RepV (c : Cc) (P : Addr → Prop) (H H' : Hp) (d : D) (v : V) : Prop := ∃ a o, v = .ref a ∧ H a = none ∧ H' a = some o ∧ ObjRep c (hide H' (fun b => P b ∨ b = a)) d o
/-- a new object that nothing else leans on -/
def RepF (c : Cc) (xs : Addr → Prop) (σ : St) (H : Hp) (d : D) (env' : En) (v : V) (H' : Hp) : Prop := ∃ a o, v = .ref a ∧ H a = none ∧ H' a = some o ∧ StOk c (fun b => xs b ∨ b = a) env' σ H' ∧ ObjRep c (hide H' (fun b => Hid xs env' σ b ∨ b = a)) d o
def tF (c : Cc) (pu : Bool) (m : Ev) (W : WX) : TE := fun σ H Q => ∃ xs env, StOk c xs env σ H ∧ Want c xs pu env σ H (RepF c xs σ H) W Q (m env)
theorem StOk.newX {c : Cc} {xs : Addr → Prop} {env : En} {σ : St} {H H' : Hp} {a : Addr} {o : HO} (S : StOk c xs env σ H) (k : Same H H') (n : H a = none) (ho : H' a = some o) : StOk c (fun b => xs b ∨ b = a) env σ H' := by
  have up : Same (hide H (Hid xs env σ)) (hide H' (Hid (fun b => xs b ∨ b = a) env σ)) := fun b u hb => by
    obtain ⟨h1, h2⟩ := hide_some hb
    have ne := ne_of_none h2 n
    rw [hide_of fun z => z.elim (fun z => h1 (.inl z)) fun z => z.elim (fun z => h1 (.inr z)) ne]
    exact k _ _ h2
  have S' := S.same k
  refine ⟨S.len, fun b hb => ?_, fun i d h => ?_, fun i d h => ?_, S.inj⟩
  · rcases hb with hb | rfl
    · exact S'.xb b hb
    · exact ⟨fun z => by rw [ho] at z; (cases z), fun z => S.hid (.inl z) n⟩
  · obtain ⟨v, h1, h2⟩ := S.va i d h
    exact ⟨v, h1, h2.same up⟩
  · obtain ⟨b, u, h1, h2, h3⟩ := S.ow i d h
    exact ⟨b, u, h1, k _ _ h2, h3.same up⟩
def tT (c : Cc) (pu : Bool) (m : Tv) (W : WX) : TT := fun σ H Q => ∃ xs env, StOk c xs env σ H ∧ Want c xs pu env σ H (fun d _ v _ => v = d) W Q (m env)
def Reps (c : Cc) (P : Addr → Prop) (H : Hp) : List Bool → List D → List V → Prop
  | [], [], [] => True
  | s :: ss, d :: ds, v :: vs => Rep c s P H d v ∧ Reps c P H ss ds vs
  | _, _, _ => False
def tA (c : Cc) (pu : Bool) (shs : List Bool) (m : Av) (W : WX) : TA := fun σ H Q => ∃ xs env, StOk c xs env σ H ∧ Want c xs pu env σ H (fun ds _ vs H' => Reps c (Hid xs env σ) H' shs ds vs) W Q (m env)

inductive Fl where
  | nx | bk | ct | rt (d : D) | rf (d : D) | ro (i : Nat)
abbrev Sv := En → M (Fl × En)
/-- what a statement leaves as it was -/
structure Kept (env : En) (σ : St) (H : Hp) (env' : En) (σ' : St) (H' : Hp) : Prop where
  sm : Same (hide H (Owns env σ)) (hide H' (Owns env' σ'))
  th : ∀ a, H a ≠ none → H' a ≠ none
  fx : isOw env 0 = true → isOw env' 0 = true ∧ σ'[0]? = σ[0]?
  ln : σ'.length = σ.length
theorem Kept.trans {env env' env'' : En} {σ σ' σ'' : St} {H H' H'' : Hp} (a : Kept env σ H env' σ' H') (b : Kept env' σ' H' env'' σ'' H'') : Kept env σ H env'' σ'' H'' := ⟨a.sm.trans b.sm, fun x h => b.th x (a.th x h), fun h => ⟨(b.fx (a.fx h).1).1, (b.fx (a.fx h).1).2.trans (a.fx h).2⟩, b.ln.trans a.ln⟩
theorem Kept.refl {env : En} {σ : St} {H : Hp} : Kept env σ H env σ H := ⟨Same.refl _, fun _ h => h, fun h => ⟨h, rfl⟩, rfl⟩
/-- a store in slot i: not in slot 0 while it holds a def's own list -/
def put (i : Nat) (s : Sl) (env : En) : M En := if (i == 0 && isOw env 0) = true then stuck else .ok (env.set i s)
theorem put_ok {i : Nat} {s : Sl} {env env' : En} (h : put i s env = .ok env') : env' = env.set i s ∧ (isOw env 0 = true → i ≠ 0) := by
  unfold put at h
  split at h
  · cases h
  · rename_i q
    cases h
    refine ⟨rfl, fun h z => q ?_⟩
    subst z
    simpa using h
theorem put_cases (i : Nat) (s : Sl) (env : En) : put i s env = stuck ∨ (put i s env = .ok (env.set i s) ∧ (isOw env 0 = true → i ≠ 0)) := by
  cases q : put i s env with
  | error x =>
    left
    unfold put at q
    split at q <;> cases q
    rfl
  | ok e =>
    obtain ⟨h1, h2⟩ := put_ok q
    subst h1
    exact .inr ⟨rfl, h2⟩
@[simp] theorem put_succ {i : Nat} {s : Sl} {env : En} : put (i + 1) s env = .ok (env.set (i + 1) s) := rfl
theorem Same.th {H H' : Hp} (k : Same H H') (a : Addr) (h : H a ≠ none) : H' a ≠ none := fun n => by
  cases q : H a with
  | none => exact h q
  | some o => rw [k a o q] at n; cases n
/-- a new object that is returned -/
def RepR (c : Cc) (xs : Addr → Prop) (env : En) (σ : St) (H : Hp) (env' : En) (σ' : St) (H' : Hp) (d : D) (v : V) : Prop := ∃ a o, v = .ref a ∧ H a = none ∧ H' a = some o ∧ ¬ Hid xs env' σ' a ∧ ObjRep c (hide H' (fun b => Hid xs env' σ' b ∨ b = a)) d o
def WantS (c : Cc) (xs : Addr → Prop) (env : En) (σ : St) (H : Hp) (W : WX) (E : Ends) : M (Fl × En) → Prop
  | .ok (.nx, env') => ∀ σ' H', StOk c xs env' σ' H' → Kept env σ H env' σ' H' → E.nx σ' H'
  | .ok (.bk, env') => ∀ σ' H', StOk c xs env' σ' H' → Kept env σ H env' σ' H' → E.bk σ' H'
  | .ok (.ct, env') => ∀ σ' H', StOk c xs env' σ' H' → Kept env σ H env' σ' H' → E.ct σ' H'
  | .ok (.rt d, env') => ∀ σ' v H', StOk c xs env' σ' H' → Kept env σ H env' σ' H' → IsD c (hide H' (Hid xs env' σ')) d v → E.rt v H'
  | .ok (.rf d, env') => ∀ σ' v H', StOk c xs env' σ' H' → Kept env σ H env' σ' H' → RepR c xs env σ H env' σ' H' d v → E.rt v H'
  | .ok (.ro i, env') => ∀ σ' a H', StOk c xs env' σ' H' → Kept env σ H env' σ' H' → σ'[i]? = some (some (V.ref a)) → (∃ d, env'[i]? = some (Sl.ow d)) → E.rt (.ref a) H'
  | .error (.raise k p) => ∀ cls dd σ' H', σ'.length = σ.length → Same (hide H (Owns env σ)) H' → ExcRep c H' k p cls dd → W cls dd σ' H'
  | .error .stuck => False
def tS (c : Cc) (m : Sv) (W : WX) : TS := fun E σ H => ∃ xs env, StOk c xs env σ H ∧ WantS c xs env σ H W E (m env)

/-! ### changing a reading -/
theorem PE.imp {X : Cx} {e : Expr} {t t' : TE} (h : PE X e t) (k : ∀ σ H Q, t' σ H Q → t σ H Q) : PE X e t' := ⟨fun pins s σ H Q I w => h.run pins s σ H Q I (k _ _ _ w)⟩
theorem PT.imp {X : Cx} {e : Expr} {t t' : TT} (h : PT X e t) (k : ∀ σ H Q, t' σ H Q → t σ H Q) : PT X e t' := ⟨fun pins s σ H Q I w => h.run pins s σ H Q I (k _ _ _ w)⟩
theorem PW.imp {X : Cx} {e : Expr} {t t' : TT} (h : PW X e t) (k : ∀ σ H Q, t' σ H Q → t σ H Q) : PW X e t' := ⟨fun wh pins s σ H Q I w => h.run wh pins s σ H Q I (k _ _ _ w)⟩
theorem PA.imp {X : Cx} {e : List Expr} {t t' : TA} (h : PA X e t) (k : ∀ σ H Q, t' σ H Q → t σ H Q) : PA X e t' := ⟨fun pos pins s σ H Q I w => h.run pos pins s σ H Q I (k _ _ _ w)⟩
theorem PS.imp {X : Cx} {e : Stmt} {t t' : TS} (h : PS X e t) (k : ∀ E σ H, t' E σ H → t E σ H) : PS X e t' := ⟨fun pins s σ H E I w => h.run pins s σ H E I (k _ _ _ w)⟩
theorem PSs.imp {X : Cx} {e : List Stmt} {t t' : TS} (h : PSs X e t) (k : ∀ E σ H, t' E σ H → t E σ H) : PSs X e t' := ⟨fun pins s σ H E I w => h.run pins s σ H E I (k _ _ _ w)⟩

section
variable {X : Cx} {g : Ce}
abbrev DE (X : Cx) (g : Ce) (pu sh : Bool) (e : Expr) (m : Ev) (W : WX) : Prop := PE X e (tE (cc X g) pu sh m W)
abbrev DF (X : Cx) (g : Ce) (pu : Bool) (e : Expr) (m : Ev) (W : WX) : Prop := PE X e (tF (cc X g) pu m W)
abbrev DT (X : Cx) (g : Ce) (pu : Bool) (e : Expr) (m : Tv) (W : WX) : Prop := PT X e (tT (cc X g) pu m W)
abbrev DW (X : Cx) (g : Ce) (pu : Bool) (e : Expr) (m : Tv) (W : WX) : Prop := PW X e (tT (cc X g) pu m W)
abbrev DA (X : Cx) (g : Ce) (pu : Bool) (shs : List Bool) (es : List Expr) (m : Av) (W : WX) : Prop := PA X es (tA (cc X g) pu shs m W)
abbrev DS (X : Cx) (g : Ce) (s : Stmt) (m : Sv) (W : WX) : Prop := PS X s (tS (cc X g) m W)
abbrev DSs (X : Cx) (g : Ce) (s : List Stmt) (m : Sv) (W : WX) : Prop := PSs X s (tS (cc X g) m W)
end

/-! ### combining outcomes -/
section
variable {c : Cc} {xs : Addr → Prop} {pu pu' : Bool} {env env' : En} {σ : St} {H H' : Hp} {W : WX}
/-- from an outcome to the next one -/
theorem Want.bind {α β γ δ : Type} {R : α → En → β → Hp → Prop} {R' : γ → En → δ → Hp → Prop} {Q : β → Hp → Prop} {Q' : δ → Hp → Prop} {m : M (α × En)} {f : α × En → M (γ × En)}
    (h : Want c xs pu' env σ H R' W Q' (bnd m f))
    (k : ∀ d env' v H', m = .ok (d, env') → Stp c xs pu env env' σ H H' → R d env' v H' → Want c xs pu' env σ H R' W Q' (f (d, env')) → Q v H') : Want c xs pu env σ H R W Q m := by
  cases m with
  | error e => cases e with
    | raise k p => exact h
    | stuck => exact h
  | ok p =>
    obtain ⟨d, env'⟩ := p
    exact fun v H' s r => k d env' v H' rfl s r h
/-- started again behind a step -/
theorem Want.after {α β : Type} {R : α → En → β → Hp → Prop} {Q : β → Hp → Prop} {m : M (α × En)} (s : Stp c xs pu env env' σ H H') (h : Want c xs (pu && pu') env σ H R W Q m) : Want c xs pu' env' σ H' R W Q m := by
  cases m with
  | error e => cases e with
    | raise k p => exact fun cls dd H'' q r => h cls dd H'' (s.sm.trans (by rw [s.own] at q; exact q)) r
    | stuck => exact h
  | ok p =>
    obtain ⟨d, env''⟩ := p
    exact fun v H'' s' r => h v H'' (s.trans s') r
theorem Want.imp {α β : Type} {R R' : α → En → β → Hp → Prop} {Q Q' : β → Hp → Prop} {m : M (α × En)} (h : Want c xs pu env σ H R W Q m)
    (k : ∀ d env' v H', m = .ok (d, env') → Stp c xs pu' env env' σ H H' → R' d env' v H' → (Stp c xs pu env env' σ H H' → R d env' v H' → Q v H') → Q' v H') : Want c xs pu' env σ H R' W Q' m := by
  cases m with
  | error e => cases e with
    | raise k p => exact h
    | stuck => exact h
  | ok p =>
    obtain ⟨d, env''⟩ := p
    exact fun v H'' s' r => k d env'' v H'' rfl s' r fun s r => h v H'' s r
end
end Dn

/-! Dn3 -/
set_option Elab.async false
set_option linter.all false
set_option maxRecDepth 100000
set_option maxHeartbeats 1000000
/-! Dn3: combinators: names, constants, operators, tests. -/
namespace Dn
open PySem PySem.Spec L2
open PyProof.Rows hiding St

section
variable {X : Cx} {g : Ce} {W : WX} {pu pu1 pu2 pu3 sh sh1 sh2 sh3 : Bool} {m m1 m2 m3 : Ev} {a b e : Expr} {pos : Pos}

/-! ### weakening -/
theorem DE.shell (h : DE X g pu false e m W) : DE X g pu true e m W := PE.imp h fun σ H Q ⟨xs, env, S, w⟩ =>
  ⟨xs, env, S, w.imp fun d env' v H' e s r k => k s (RepS.of r)⟩
theorem DE.impure (h : DE X g true sh e m W) : DE X g false sh e m W := PE.imp h fun σ H Q ⟨xs, env, S, w⟩ =>
  ⟨xs, env, S, w.imp fun d env' v H' e s r k => k (s.weak fun z => nomatch z) r⟩
theorem DF.impure (h : DF X g true e m W) : DF X g false e m W := PE.imp h fun σ H Q ⟨xs, env, S, w⟩ =>
  ⟨xs, env, S, w.imp fun d env' v H' e s r k => k (s.weak fun z => nomatch z) r⟩
theorem DT.impure {m : Tv} (h : DT X g true e m W) : DT X g false e m W := PT.imp h fun σ H Q ⟨xs, env, S, w⟩ =>
  ⟨xs, env, S, w.imp fun d env' v H' e s r k => k (s.weak fun z => nomatch z) r⟩
theorem DW.impure {m : Tv} (h : DW X g true e m W) : DW X g false e m W := PW.imp h fun σ H Q ⟨xs, env, S, w⟩ =>
  ⟨xs, env, S, w.imp fun d env' v H' e s r k => k (s.weak fun z => nomatch z) r⟩
theorem DA.impure {shs : List Bool} {es : List Expr} {m : Av} (h : DA X g true shs es m W) : DA X g false shs es m W := PA.imp h fun σ H Q ⟨xs, env, S, w⟩ =>
  ⟨xs, env, S, w.imp fun d env' v H' e s r k => k (s.weak fun z => nomatch z) r⟩
/-- a new object as a value -/
theorem ObjRep.isD {c : Cc} {P : Addr → Prop} {H : Hp} {d : D} {a : Addr} {o : HO} (h : ObjRep c (hide H (fun b => P b ∨ b = a)) d o) (ho : H a = some o) (hp : ¬ P a) : IsD c (hide H P) d (.ref a) := by
  have k : Same (hide H (fun b => P b ∨ b = a)) (hide H P) := hide_sub fun _ z => .inl z
  have ho' : hide H P a = some o := by rw [hide_of hp]; exact ho
  cases d with
  | lst ds => obtain ⟨vs, e1, h⟩ := h; subst e1; unfold IsD; exact ⟨a, vs, rfl, ho', h.same k⟩
  | dct ks ws =>
    unfold IsD
    refine ⟨a, rfl, ?_⟩
    rcases h with ⟨kvs, e1, e2, h⟩ | ⟨kvs, e1, e2, h⟩
    · subst e1; exact .inl ⟨kvs, Rd.of ho', e2, h.same k⟩
    · subst e1; exact .inr ⟨kvs, Rd.of ho', e2, h.same k⟩
  | _ => exact h.elim
theorem DF.val (h : DF X g pu e m W) : DE X g pu false e m W := PE.imp h fun σ H Q ⟨xs, env, S, w⟩ =>
  ⟨xs, env, S, w.imp fun d env' v H' e s r k => k s (by
    obtain ⟨a, o, rfl, n, h1, _, h2⟩ := r
    rw [s.hid] at h2
    exact h2.isD h1 (S.newHid n))⟩

/-! ### names and constants -/
def dVar (i : Nat) : Ev := fun env => match env[i]? with
  | some (.va d) => .ok (d, env)
  | _ => stuck
def dVarO (i : Nat) : Ev := fun env => match env[i]? with
  | some (.va d) => .ok (d, env)
  | some (.ow d) => .ok (d, env)
  | _ => stuck
theorem e_var (i : Nat) {x : Str} (h : PE X (.Name x pos) (tVar i)) : DE X g true false (.Name x pos) (dVar i) W := PE.imp h fun σ H Q ⟨xs, env, S, w⟩ => by
  unfold dVar at w
  split at w
  · rename_i d hd
    obtain ⟨v, h1, h2⟩ := S.va i d hd
    exact ⟨v, h1, w v H (.refl S) h2⟩
  · exact w.elim
theorem e_varO (i : Nat) {x : Str} (h : PE X (.Name x pos) (tVar i)) : DE X g true true (.Name x pos) (dVarO i) W := PE.imp h fun σ H Q ⟨xs, env, S, w⟩ => by
  unfold dVarO at w
  split at w
  · rename_i d hd
    obtain ⟨v, h1, h2⟩ := S.va i d hd
    exact ⟨v, h1, w v H (.refl S) (RepS.of h2)⟩
  · rename_i d hd
    obtain ⟨a, o, h1, h2, h3⟩ := S.ow i d hd
    refine ⟨.ref a, h1, w _ H (.refl S) ?_⟩
    cases d with
    | lst ds => obtain ⟨vs, e1, h3⟩ := h3; subst e1; exact ⟨a, vs, rfl, h2, h3⟩
    | dct ks ws =>
      refine ⟨a, rfl, ?_⟩
      rcases h3 with ⟨kvs, e1, e2, h3⟩ | ⟨kvs, e1, e2, h3⟩
      · subst e1; exact .inl ⟨kvs, Rd.of h2, e2, h3⟩
      · subst e1; exact .inr ⟨kvs, Rd.of h2, e2, h3⟩
    | _ => exact h3.elim
  · exact w.elim

def dC (d : D) : Ev := fun env => .ok (d, env)
theorem e_const {d : D} {v : V} (h : PE X e (tC v)) (k : ∀ c H, IsD c H d v) : DE X g true false e (dC d) W := PE.imp h fun σ H Q ⟨xs, env, S, w⟩ => w v H (.refl S) (k _ _)
theorem e_int {i : Int} {j pos} : DE X g true false (.Constant (.int i) j pos) (dC (.int i)) W := e_const pe_int fun _ _ => by unfold IsD; rfl
theorem e_bl {i : Bool} {j pos} : DE X g true false (.Constant (.bool i) j pos) (dC (.bl i)) W := e_const pe_bl fun _ _ => by unfold IsD; rfl
theorem e_non {j pos} : DE X g true false (.Constant .none j pos) (dC .non) W := e_const pe_non fun _ _ => by unfold IsD; rfl
theorem e_str {x : Str} {j pos} : DE X g true false (.Constant (.str x) j pos) (dC (.str x)) W := e_const pe_str fun _ _ => by unfold IsD; rfl

/-! ### two-place operators by values -/
/-- what an operation of the machine says of data; the operands by their shells -/
def VB (c : Cc) (r : R2) (f : D → D → M D) : Prop := ∀ (P : Addr → Prop) (H : Hp) (x y : V) (d1 d2 d : D) (Q : VK), (∀ a, P a → H a ≠ none) → RepS c P H d1 x → RepS c P H d2 y →
  f d1 d2 = .ok d → (∀ v H', Same H H' → IsD c (hide H' P) d v → Q v H') → r x y H Q
/-- f raises nothing of the program's own -/
def NoR (f : M D) : Prop := ∀ k p, f ≠ .error (.raise k p)
def dBin (f : D → D → M D) (m1 m2 : Ev) : Ev := fun env => bnd (m1 env) fun p => bnd (m2 p.2) fun q => bnd (f p.1 q.1) fun d => .ok (d, q.2)
def NoR2 (f : D → D → M D) : Prop := ∀ d1 d2 k p, f d1 d2 ≠ .error (.raise k p)
theorem t_bin {r : R2} {f : D → D → M D} (hv : VB (cc X g) r f) (nr : NoR2 f) (hc : sh1 = false ∨ pu2 = true) {σ : St} {H : Hp} {Q : VK} (h : tE (cc X g) (pu1 && pu2) false (dBin f m1 m2) W σ H Q) :
    tOp r (tE (cc X g) pu1 sh1 m1 W) (tE (cc X g) pu2 sh2 m2 W) σ H Q := by
  obtain ⟨xs, env, S, w⟩ := h
  refine ⟨xs, env, S, w.bind fun d1 env1 x H1 e1 s1 r1 w1 => ?_⟩
  refine ⟨xs, env1, s1.st, Want.bind (pu' := pu2) (w1.after s1) fun d2 env2 y H2 e2 s2 r2 w2 => ?_⟩
  rw [← s1.hid] at r1
  have r1' := (s2.rep hc r1).shell
  have r2' := r2.shell
  cases q : f d1 d2 with
  | error e => cases e with
    | raise k p => exact absurd q (nr _ _ _ _)
    | stuck => rw [q] at w2; exact w2.elim
  | ok d =>
    rw [q] at w2
    refine hv (Hid xs env1 σ) H2 x y d1 d2 d Q (fun a ha => s2.st.hid (by rw [s2.hid]; exact ha)) r1' r2' q fun v H' k hd => ?_
    rw [s1.hid] at hd
    exact w2 v H' (s2.grow k) hd
theorem e_bin {op : Operator} {r : R2} {f : D → D → M D} (ho : OpR X (binaryOp op) r) (hv : VB (cc X g) r f) (nr : NoR2 f) (hc : sh1 = false ∨ pu2 = true) (ha : DE X g pu1 sh1 a m1 W) (hb : DE X g pu2 sh2 b m2 W) :
    DE X g (pu1 && pu2) false (.BinOp a op b pos) (dBin f m1 m2) W := PE.imp (pe_op ho ha hb) fun _ _ _ h => t_bin hv nr hc h
theorem e_cmp {op : CmpOp} {r : R2} {f : D → D → M D} (ho : OpR X (compareOp op) r) (hv : VB (cc X g) r f) (nr : NoR2 f) (hc : sh1 = false ∨ pu2 = true) (hm : behindInMarks op b = false) (ha : DE X g pu1 sh1 a m1 W) (hb : DE X g pu2 sh2 b m2 W) :
    DE X g (pu1 && pu2) false (.Compare a [op] [b] pos) (dBin f m1 m2) W := PE.imp (pe_cmpR ho ha hb hm) fun _ _ _ h => t_bin hv nr hc h
end
end Dn

/-! Dn4 -/
set_option Elab.async false
set_option linter.all false
set_option maxRecDepth 100000
set_option maxHeartbeats 1000000
/-! Dn4: the operators by values. -/
namespace Dn
open PySem PySem.Spec L2
open PyProof.Rows hiding St

theorem OpR.or {X : Cx} {f : Value → Value → Sem Value} {r r' : R2} (h : OpR X f r) (h' : OpR X f r') : OpR X f (fun x y H Q => r x y H Q ∨ r' x y H Q) := by
  intro pins s σ H x y v u Q I rx ry q
  rcases q with q | q
  · exact h pins s σ H x y v u Q I rx ry q
  · exact h' pins s σ H x y v u Q I rx ry q

section
variable {c : Cc} {P : Addr → Prop} {H : Hp} {v : V}
theorem RepS.int {i : Int} (h : RepS c P H (.int i) v) : v = .int i := by unfold RepS IsD at h; exact h
theorem RepS.bl {b : Bool} (h : RepS c P H (.bl b) v) : v = .bl b := by unfold RepS IsD at h; exact h
theorem RepS.str {x : Str} (h : RepS c P H (.str x) v) : v = .str x := by unfold RepS IsD at h; exact h
theorem RepS.non (h : RepS c P H .non v) : v = .non := by unfold RepS IsD at h; exact h
theorem RepS.lst {ds : List D} (h : RepS c P H (.lst ds) v) : ∃ a vs, v = .ref a ∧ H a = some (.lst vs) ∧ IsDs c (hide H P) ds vs := h
theorem RepS.tup {ds : List D} (h : RepS c P H (.tup ds) v) : ∃ a vs, v = .ref a ∧ SqT c.K H a vs ∧ IsDs c (hide H P) ds vs := by
  unfold RepS IsD at h
  obtain ⟨a, vs, e, h1, h2⟩ := h
  exact ⟨a, vs, e, SqT.same hide_full h1, h2⟩
theorem isInt {G : Hp} {i : Int} : IsD c G (.int i) (.int i) := by unfold IsD; rfl
theorem isBl {G : Hp} {b : Bool} : IsD c G (.bl b) (.bl b) := by unfold IsD; rfl
theorem isStr {G : Hp} {x : Str} : IsD c G (.str x) (.str x) := by unfold IsD; rfl
theorem isNon {G : Hp} : IsD c G .non .non := by unfold IsD; rfl
/-- a new list, a new tuple -/
theorem isNewL {p : Addr} {ds : List D} {vs : List V} (hp : H p = none) (hP : ∀ a, P a → H a ≠ none) (h : IsDs c (hide H P) ds vs) : IsD c (hide (upd H p (.lst vs)) P) (.lst ds) (.ref p) := by
  unfold IsD
  exact ⟨p, vs, rfl, by rw [hide_of fun z => hP p z hp]; exact upd_same, h.same (hide_same (same_new hp))⟩
theorem isNewT {p : Addr} {ds : List D} {vs : List V} (hp : H p = none) (hP : ∀ a, P a → H a ≠ none) (h : IsDs c (hide H P) ds vs) : IsD c (hide (upd H p (.tup vs)) P) (.tup ds) (.ref p) := by
  unfold IsD
  exact ⟨p, vs, rfl, SqT.of (by rw [hide_of fun z => hP p z hp]; exact upd_same), h.same (hide_same (same_new hp))⟩
end

/-- the longest sequence that the model has -/
def maxSeq : Nat := 16777216
theorem maxSeq_eq : sizeLine = maxSeq := sizeLine_eq

/-- ints in, an int out, under a check -/
def dIntOp (ok : Int → Int → Bool) (f : Int → Int → Int) : D → D → M D
  | .int i, .int j => if ok i j then .ok (.int (f i j)) else stuck
  | _, _ => stuck
theorem dIntOp_inv {ok : Int → Int → Bool} {f : Int → Int → Int} {d1 d2 d : D} (h : dIntOp ok f d1 d2 = .ok d) : ∃ i j, d1 = .int i ∧ d2 = .int j ∧ ok i j = true ∧ d = .int (f i j) := by
  unfold dIntOp at h
  split at h
  · split at h
    · rename_i i j hq; cases h; exact ⟨i, j, rfl, rfl, hq, rfl⟩
    · cases h
  · cases h
theorem dIntOp_nr {ok : Int → Int → Bool} {f : Int → Int → Int} : NoR2 (dIntOp ok f) := fun d1 d2 k p h => by
  unfold dIntOp at h
  split at h
  · split at h <;> cases h
  · cases h
theorem vb_int {c : Cc} {C : Int → Int → Prop} {ok : Int → Int → Bool} {f : Int → Int → Int} (hk : ∀ i j, ok i j = true → C i j) : VB c (rI C fun i j => .int (f i j)) (dIntOp ok f) := by
  intro P H x y d1 d2 d Q hP r1 r2 e k
  obtain ⟨i, j, rfl, rfl, ho, rfl⟩ := dIntOp_inv e
  exact ⟨i, j, r1.int, r2.int, hk i j ho, k _ H (Same.refl _) isInt⟩
theorem vb_int0 {c : Cc} {f : Int → Int → Int} : VB c (rI0 fun i j => .int (f i j)) (dIntOp (fun _ _ => true) f) := by
  intro P H x y d1 d2 d Q hP r1 r2 e k
  obtain ⟨i, j, rfl, rfl, ho, rfl⟩ := dIntOp_inv e
  exact ⟨i, j, r1.int, r2.int, k _ H (Same.refl _) isInt⟩

/-! ### + -/
def dAdd : D → D → M D
  | .int i, .int j => .ok (.int (i + j))
  | .str x, .str y => if x.length + y.length ≤ maxSeq then .ok (.str (x ++ y)) else stuck
  | .lst xs, .lst ys => if xs.length + ys.length ≤ maxSeq then .ok (.lst (xs ++ ys)) else stuck
  | .tup xs, .tup ys => if xs.length + ys.length ≤ maxSeq then .ok (.tup (xs ++ ys)) else stuck
  | _, _ => stuck
theorem dAdd_nr : NoR2 dAdd := fun d1 d2 k p h => by
  unfold dAdd at h
  split at h <;> first | cases h | (split at h <;> cases h)
def rAddD (K : PySem.W.Frag) : R2 := fun x y H Q => (rI0 (fun i j => .int (i + j)) x y H Q ∨ (∃ i j, x = .str i ∧ y = .str j ∧ i.length + j.length ≤ sizeLine ∧ Q (.str (i ++ j)) H)) ∨ (rCat x y H Q ∨ rCatA K x y H Q)
theorem op_addD {X : Cx} : OpR X (binaryOp .Add) (rAddD X.K) := OpR.or (OpR.or op_add op_add_str) (OpR.or op_cat op_catA)
theorem vb_add {c : Cc} : VB c (rAddD c.K) dAdd := by
  intro P H x y d1 d2 d Q hP r1 r2 e k
  unfold dAdd at e
  split at e
  · cases e
    exact .inl (.inl ⟨_, _, r1.int, r2.int, k _ H (Same.refl _) isInt⟩)
  · split at e
    · rename_i hz; cases e
      exact .inl (.inr ⟨_, _, r1.str, r2.str, by rw [maxSeq_eq]; exact hz, k _ H (Same.refl _) isStr⟩)
    · cases e
  · split at e
    · rename_i hz; cases e
      obtain ⟨a, vs, e1, h1, h2⟩ := r1.lst
      obtain ⟨b, ws, e2, h3, h4⟩ := r2.lst
      exact .inr (.inl ⟨a, b, vs, ws, e1, e2, h1, h3, by rw [maxSeq_eq, ← h2.len, ← h4.len]; exact hz, fun p hp => k _ _ (same_new hp) (isNewL hp hP (h2.append h4))⟩)
    · cases e
  · split at e
    · rename_i hz; cases e
      obtain ⟨a, vs, e1, h1, h2⟩ := r1.tup
      obtain ⟨b, ws, e2, h3, h4⟩ := r2.tup
      refine .inr (.inr ⟨a, b, vs, ws, e1, e2, h1, h3, by rw [maxSeq_eq, ← h2.len, ← h4.len]; exact hz, fun q => ?_, fun _ q => ?_, fun _ _ p hp => k _ _ (same_new hp) (isNewT hp hP (h2.append h4))⟩)
      · subst q
        have := h2.len
        obtain rfl := List.eq_nil_of_length_eq_zero (show _ = 0 from this)
        subst e2
        have r2' : IsD c (hide H P) (.tup _) (.ref b) := r2
        exact k _ H (Same.refl _) r2'
      · subst q
        have := h4.len
        obtain rfl := List.eq_nil_of_length_eq_zero (show _ = 0 from this)
        subst e1
        have r1' : IsD c (hide H P) (.tup _) (.ref a) := r1
        rw [List.append_nil] at k
        exact k _ H (Same.refl _) r1'
    · cases e
  · cases e

/-! ### -, *, //, %, **, <<, >>, &, | -/
abbrev dSub : D → D → M D := dIntOp (fun _ _ => true) fun i j => i - j
/-- big: a factor below it is taken without a look at the other one -/
def bitsOf (i : Int) : Nat := i.natAbs.log2
def mulOk (i j : Int) : Bool := decide (bitsOf i + bitsOf j < 1000000)
def divOk (_ j : Int) : Bool := decide (0 < j) && decide (bitsOf j < 9000)
abbrev dFdiv : D → D → M D := dIntOp divOk fun i j => i / j
abbrev dMod : D → D → M D := dIntOp (fun _ j => decide (0 < j)) fun i j => i % j
def powOk (i j : Int) : Bool := decide (0 ≤ j) && decide (j ≤ 1000000) && decide (i.natAbs < 2 ^ 64)
abbrev dPow : D → D → M D := dIntOp powOk fun i j => i ^ j.toNat
abbrev dShl : D → D → M D := dIntOp powOk fun i j => i * 2 ^ j.toNat
abbrev dShr : D → D → M D := dIntOp (fun _ j => decide (0 ≤ j)) fun i j => i / 2 ^ j.toNat
abbrev dAnd2 : D → D → M D := dIntOp (fun _ _ => true) Builtin.bitAnd
abbrev dOr2 : D → D → M D := dIntOp (fun _ _ => true) Builtin.bitOr
theorem vb_sub {c : Cc} : VB c (rI0 fun i j => .int (i - j)) dSub := vb_int0
theorem vb_fdiv {c : Cc} : VB c (rI CDivW fun i j => .int (i / j)) dFdiv := vb_int fun i j h => by
  unfold divOk at h
  simp only [Bool.and_eq_true, decide_eq_true_eq] at h
  exact ⟨h.1, h.2⟩
theorem vb_mod {c : Cc} : VB c (rI (fun _ j => 0 < j) fun i j => .int (i % j)) dMod := vb_int fun i j h => by simpa using h
theorem powOk_of {i j : Int} (h : powOk i j = true) : CPow i j := by
  unfold powOk at h
  simp only [Bool.and_eq_true, decide_eq_true_eq] at h
  exact ⟨h.1.1, h.1.2, h.2⟩
theorem vb_pow {c : Cc} : VB c (rI CPow fun i j => .int (i ^ j.toNat)) dPow := vb_int fun i j h => powOk_of h
theorem vb_shl {c : Cc} : VB c (rI CPow fun i j => .int (i * 2 ^ j.toNat)) dShl := vb_int fun i j h => powOk_of h
theorem vb_shr {c : Cc} : VB c (rI (fun _ j => 0 ≤ j) fun i j => .int (i / 2 ^ j.toNat)) dShr := vb_int fun i j h => by simpa using h
theorem vb_and {c : Cc} : VB c (rI0 fun i j => .int (Builtin.bitAnd i j)) dAnd2 := vb_int0
theorem vb_or {c : Cc} : VB c (rI0 fun i j => .int (Builtin.bitOr i j)) dOr2 := vb_int0

/-! ### comparisons -/
def dCmpI (f : Int → Int → Bool) (fs : List Nat → List Nat → Bool) : D → D → M D
  | .int i, .int j => .ok (.bl (f i j))
  | .str x, .str y => .ok (.bl (fs x.cps.toList y.cps.toList))
  | _, _ => stuck
theorem dCmpI_nr {f fs} : NoR2 (dCmpI f fs) := fun d1 d2 k p h => by
  unfold dCmpI at h
  split at h <;> cases h
def rCmpD (f : Int → Int → Bool) (fs : List Nat → List Nat → Bool) : R2 := fun x y H Q => rI0 (fun i j => .bl (f i j)) x y H Q ∨ ∃ i j, x = .str i ∧ y = .str j ∧ Q (.bl (fs i.cps.toList j.cps.toList)) H
theorem vb_cmpI {c : Cc} {f : Int → Int → Bool} {fs : List Nat → List Nat → Bool} : VB c (rCmpD f fs) (dCmpI f fs) := by
  intro P H x y d1 d2 d Q hP r1 r2 e k
  unfold dCmpI at e
  split at e
  · cases e
    exact .inl ⟨_, _, r1.int, r2.int, k _ H (Same.refl _) isBl⟩
  · cases e
    exact .inr ⟨_, _, r1.str, r2.str, k _ H (Same.refl _) isBl⟩
  · cases e
abbrev dLt : D → D → M D := dCmpI (fun i j => decide (i < j)) fun x y => decide (x < y)
abbrev dLe : D → D → M D := dCmpI (fun i j => decide (i ≤ j)) fun x y => !decide (y < x)
abbrev dGt : D → D → M D := dCmpI (fun i j => decide (j < i)) fun x y => decide (y < x)
abbrev dGe : D → D → M D := dCmpI (fun i j => decide (j ≤ i)) fun x y => !decide (x < y)
section
variable {X : Cx}
theorem op_ltD : OpR X (compareOp .Lt) (rCmpD (fun i j => decide (i < j)) fun x y => decide (x < y)) := OpR.or op_lt op_lt_str
theorem op_leD : OpR X (compareOp .LtE) (rCmpD (fun i j => decide (i ≤ j)) fun x y => !decide (y < x)) := OpR.or op_le op_le_str
theorem op_gtD : OpR X (compareOp .Gt) (rCmpD (fun i j => decide (j < i)) fun x y => decide (y < x)) := OpR.or op_gt op_gt_str
theorem op_geD : OpR X (compareOp .GtE) (rCmpD (fun i j => decide (j ≤ i)) fun x y => !decide (x < y)) := OpR.or op_ge op_ge_str
end

/-! ### == of data -/
mutual
def D.eqv : D → D → Bool
  | .non, .non => true
  | .bl a, .bl b => a == b
  | .bl a, .int j => (if a then 1 else 0) == j
  | .int i, .bl b => i == (if b then 1 else 0)
  | .int i, .int j => i == j
  | .str x, .str y => x == y
  | .lst xs, .lst ys => D.eqvs xs ys
  | .tup xs, .tup ys => D.eqvs xs ys
  | _, _ => false
def D.eqvs : List D → List D → Bool
  | [], [] => true
  | x :: xs, y :: ys => D.eqv x y && D.eqvs xs ys
  | _, _ => false
end
mutual
def D.lay : D → Bool
  | .non | .bl _ | .int _ => true
  | .str x => x.cps.all (· < 0x110000)
  | .lst xs | .tup xs => D.lays xs
  | _ => false
def D.lays : List D → Bool
  | [] => true
  | x :: xs => D.lay x && D.lays xs
end
mutual
def D.dep : D → Nat
  | .lst xs | .tup xs => D.deps xs + 1
  | _ => 0
def D.deps : List D → Nat
  | [] => 0
  | x :: xs => max (D.dep x) (D.deps xs)
end
mutual
def D.toP : D → PyData
  | .non => .none
  | .bl b => .bool b
  | .int i => .int i
  | .str x => .str x
  | .lst xs => .list (D.toPs xs)
  | .tup xs => .tuple (D.toPs xs)
  | _ => .none
def D.toPs : List D → List PyData
  | [] => []
  | x :: xs => D.toP x :: D.toPs xs
end
/-- may be compared -/
def D.ok (d : D) : Bool := d.lay && decide (d.dep ≤ 64)
mutual
theorem eqv_toP : ∀ (x y : D), x.lay = true → y.lay = true → PyData.eqv x.toP y.toP = D.eqv x y
  | .non, y, h, h' => by cases y <;> first | rfl | (simp [D.lay] at h'; done) | simp [D.toP, PyData.eqv, D.eqv]
  | .bl a, y, h, h' => by cases y <;> first | rfl | (simp [D.lay] at h'; done) | simp [D.toP, PyData.eqv, D.eqv]
  | .int a, y, h, h' => by cases y <;> first | rfl | (simp [D.lay] at h'; done) | simp [D.toP, PyData.eqv, D.eqv]
  | .str a, y, h, h' => by cases y <;> first | rfl | (simp [D.lay] at h'; done) | simp [D.toP, PyData.eqv, D.eqv]
  | .lst xs, y, h, h' => by
    cases y with
    | lst ys => simp only [D.toP, PyData.eqv, D.eqv]; exact eqvs_toP xs ys (by simpa [D.lay] using h) (by simpa [D.lay] using h')
    | _ => first | rfl | (simp [D.lay] at h'; done) | simp [D.toP, PyData.eqv, D.eqv]
  | .tup xs, y, h, h' => by
    cases y with
    | tup ys => simp only [D.toP, PyData.eqv, D.eqv]; exact eqvs_toP xs ys (by simpa [D.lay] using h) (by simpa [D.lay] using h')
    | _ => first | rfl | (simp [D.lay] at h'; done) | simp [D.toP, PyData.eqv, D.eqv]
  | .dct _ _, y, h, h' => by simp [D.lay] at h
  | .fn _, y, h, h' => by simp [D.lay] at h
  | .scr _, y, h, h' => by simp [D.lay] at h
theorem eqvs_toP : ∀ (xs ys : List D), D.lays xs = true → D.lays ys = true → PyData.eqvAll (D.toPs xs) (D.toPs ys) = D.eqvs xs ys
  | [], [], h, h' => by simp [D.toPs, PyData.eqvAll, D.eqvs]
  | [], y :: ys, h, h' => by simp [D.toPs, PyData.eqvAll, D.eqvs]
  | x :: xs, [], h, h' => by simp [D.toPs, PyData.eqvAll, D.eqvs]
  | x :: xs, y :: ys, h, h' => by
    simp only [D.lays, Bool.and_eq_true] at h h'
    simp only [D.toPs, PyData.eqvAll, D.eqvs]
    rw [eqv_toP x y h.1 h'.1, eqvs_toP xs ys h.2 h'.2]
end
mutual
theorem lay_toP : ∀ (x : D), x.lay = true → x.toP.canLay0 = true
  | .non, h => by simp [D.toP, PyData.canLay0]
  | .bl a, h => by simp [D.toP, PyData.canLay0]
  | .int a, h => by simp [D.toP, PyData.canLay0]
  | .str a, h => by simp only [D.toP, PyData.canLay0]; exact h
  | .lst xs, h => by simp only [D.toP, PyData.canLay0]; exact lays_toP xs (by simpa [D.lay] using h)
  | .tup xs, h => by simp only [D.toP, PyData.canLay0]; exact lays_toP xs (by simpa [D.lay] using h)
  | .dct _ _, h => by simp [D.lay] at h
  | .fn _, h => by simp [D.lay] at h
  | .scr _, h => by simp [D.lay] at h
theorem lays_toP : ∀ (xs : List D), D.lays xs = true → PyData.canLayAll0 (D.toPs xs) = true
  | [], h => by simp [D.toPs, PyData.canLayAll0]
  | x :: xs, h => by
    simp only [D.lays, Bool.and_eq_true] at h
    simp only [D.toPs, PyData.canLayAll0, lay_toP x h.1, lays_toP xs h.2, Bool.and_self]
end
mutual
theorem dep_toP : ∀ (x : D), x.toP.depth = x.dep
  | .non => by simp [D.toP, PyData.depth, D.dep]
  | .bl a => by simp [D.toP, PyData.depth, D.dep]
  | .int a => by simp [D.toP, PyData.depth, D.dep]
  | .str a => by simp [D.toP, PyData.depth, D.dep]
  | .lst xs => by simp only [D.toP, PyData.depth, D.dep, deps_toP xs]
  | .tup xs => by simp only [D.toP, PyData.depth, D.dep, deps_toP xs]
  | .dct _ _ => by simp [D.toP, PyData.depth, D.dep]
  | .fn _ => by simp [D.toP, PyData.depth, D.dep]
  | .scr _ => by simp [D.toP, PyData.depth, D.dep]
theorem deps_toP : ∀ (xs : List D), PyData.depthAll (D.toPs xs) = D.deps xs
  | [] => by simp [D.toPs, PyData.depthAll, D.deps]
  | x :: xs => by simp only [D.toPs, PyData.depthAll, D.deps, dep_toP x, deps_toP xs]
end
theorem ok_toP {d : D} (h : d.ok = true) : SeqAt.shaped d.toP = true := by
  unfold D.ok at h
  simp only [Bool.and_eq_true, decide_eq_true_eq] at h
  unfold SeqAt.shaped
  rw [lay_toP d h.1, dep_toP]
  simpa using h.2
theorem ok_lay {d : D} (h : d.ok = true) : d.lay = true := by
  unfold D.ok at h
  simp only [Bool.and_eq_true] at h
  exact h.1
mutual
theorem IsD.dp {c : Cc} {H : Hp} : ∀ (d : D) (v : V), d.lay = true → IsD c H d v → Dp c.K H v d.toP
  | .non, v, l, h => by unfold IsD at h; subst h; exact .non
  | .bl b, v, l, h => by unfold IsD at h; subst h; exact .bl b
  | .int b, v, l, h => by unfold IsD at h; subst h; exact .int b
  | .str b, v, l, h => by unfold IsD at h; subst h; exact .str b
  | .lst xs, v, l, h => by
    unfold IsD at h
    obtain ⟨a, vs, rfl, h1, h2⟩ := h
    exact .lst (SqL.of h1) (IsDs.dp xs vs (by simpa [D.lay] using l) h2)
  | .tup xs, v, l, h => by
    unfold IsD at h
    obtain ⟨a, vs, rfl, h1, h2⟩ := h
    exact .tup h1 (IsDs.dp xs vs (by simpa [D.lay] using l) h2)
  | .dct _ _, v, l, h => by simp [D.lay] at l
  | .fn _, v, l, h => by simp [D.lay] at l
  | .scr _, v, l, h => by simp [D.lay] at l
theorem IsDs.dp {c : Cc} {H : Hp} : ∀ (ds : List D) (vs : List V), D.lays ds = true → IsDs c H ds vs → DpAll c.K H vs (D.toPs ds)
  | [], vs, l, h => by unfold IsDs at h; subst h; exact .nil
  | d :: ds, vs, l, h => by
    unfold IsDs at h
    obtain ⟨v, r, rfl, h1, h2⟩ := h
    simp only [D.lays, Bool.and_eq_true] at l
    exact .cons (IsD.dp d v l.1 h1) (IsDs.dp ds r l.2 h2)
end
theorem RepS.dp {c : Cc} {P : Addr → Prop} {H : Hp} {d : D} {v : V} (l : d.lay = true) (h : RepS c P H d v) : Dp c.K H v d.toP := by
  cases d with
  | lst ds =>
    obtain ⟨a, vs, rfl, h1, h2⟩ := h
    exact .lst (SqL.of h1) (IsDs.dp ds vs (by simpa [D.lay] using l) (h2.same hide_full))
  | dct _ _ => simp [D.lay] at l
  | _ => exact IsD.dp _ _ l (IsD.same (hide_full (P := P)) _ _ h)
def dEq (d1 d2 : D) : M D := if d1.ok && d2.ok then .ok (.bl (D.eqv d1 d2)) else stuck
def dNe (d1 d2 : D) : M D := if d1.ok && d2.ok then .ok (.bl (!D.eqv d1 d2)) else stuck
theorem dEq_nr : NoR2 dEq := fun d1 d2 k p h => by unfold dEq at h; split at h <;> cases h
theorem dNe_nr : NoR2 dNe := fun d1 d2 k p h => by unfold dNe at h; split at h <;> cases h
theorem vb_eq {c : Cc} : VB c (rEqD c.K) dEq := by
  intro P H x y d1 d2 d Q hP r1 r2 e k
  unfold dEq at e
  split at e
  · rename_i hk
    simp only [Bool.and_eq_true] at hk
    cases e
    exact ⟨_, _, r1.dp (ok_lay hk.1), r2.dp (ok_lay hk.2), ok_toP hk.1, ok_toP hk.2, by rw [eqv_toP _ _ (ok_lay hk.1) (ok_lay hk.2)]; exact k _ H (Same.refl _) isBl⟩
  · cases e
theorem vb_ne {c : Cc} : VB c (rNeD c.K) dNe := by
  intro P H x y d1 d2 d Q hP r1 r2 e k
  unfold dNe at e
  split at e
  · rename_i hk
    simp only [Bool.and_eq_true] at hk
    cases e
    exact ⟨_, _, r1.dp (ok_lay hk.1), r2.dp (ok_lay hk.2), ok_toP hk.1, ok_toP hk.2, by rw [eqv_toP _ _ (ok_lay hk.1) (ok_lay hk.2)]; exact k _ H (Same.refl _) isBl⟩
  · cases e

/-! ### in, not in: lists, tuples, one text in another -/
def inOk (d : D) (ds : List D) : Bool := d.ok && (D.lst ds).ok
def dIn : D → D → M D
  | d, .lst ds => if inOk d ds then .ok (.bl (ds.any fun z => D.eqv z d)) else stuck
  | d, .tup ds => if inOk d ds then .ok (.bl (ds.any fun z => D.eqv z d)) else stuck
  | _, _ => stuck
def dNotIn : D → D → M D
  | d, .lst ds => if inOk d ds then .ok (.bl (!ds.any fun z => D.eqv z d)) else stuck
  | d, .tup ds => if inOk d ds then .ok (.bl (!ds.any fun z => D.eqv z d)) else stuck
  | _, _ => stuck
theorem dIn_nr : NoR2 dIn := fun d1 d2 k p h => by unfold dIn at h; split at h <;> first | cases h | (split at h <;> cases h)
theorem dNotIn_nr : NoR2 dNotIn := fun d1 d2 k p h => by unfold dNotIn at h; split at h <;> first | cases h | (split at h <;> cases h)
def rInT (K : PySem.W.Frag) (neg : Bool) : R2 := fun x y H Q => ∃ d ds, Dp K H x d ∧ Dp K H y (.tuple ds) ∧ SeqAt.shaped d = true ∧ SeqAt.shaped (.list ds) = true ∧ Q (.bl (if neg then !ds.any (fun z => PyData.eqv z d) else ds.any fun z => PyData.eqv z d)) H
theorem op_inT {X : Cx} (hu : X.A.units + 65 < cLine) : OpR X (compareOp .In) (rInT X.K false) := by
  intro pins s σ H x y v u Q I rx ry ⟨d, ds, hd, he, sd, se, q⟩
  obtain ⟨as, r1⟩ := Dp.reads I d x v hd rx
  obtain ⟨bs, r2⟩ := Dp.reads I (.tuple ds) y u he ry
  exact SeqAt.in_tuple_reads r2 r1 (SeqAt.canLay_of_shaped se) (SeqAt.canLay_of_shaped sd) (room_in_shaped sd hu) ⟨.bl _, H, I, rfl, q⟩
theorem op_notInT {X : Cx} (hu : X.A.units + 65 < cLine) : OpR X (compareOp .NotIn) (rInT X.K true) := by
  intro pins s σ H x y v u Q I rx ry ⟨d, ds, hd, he, sd, se, q⟩
  obtain ⟨as, r1⟩ := Dp.reads I d x v hd rx
  obtain ⟨bs, r2⟩ := Dp.reads I (.tuple ds) y u he ry
  exact SeqAt.notIn_tuple_reads r2 r1 (SeqAt.canLay_of_shaped se) (SeqAt.canLay_of_shaped sd) (room_in_shaped sd hu) ⟨.bl _, H, I, rfl, q⟩
def rInD' (K : PySem.W.Frag) : R2 := fun x y H Q => rInD K x y H Q ∨ rInT K false x y H Q
def rNotInD' (K : PySem.W.Frag) : R2 := fun x y H Q => rNotInD K x y H Q ∨ rInT K true x y H Q
theorem op_inS {X : Cx} (hu : X.A.units + 65 < cLine) : OpR X (compareOp .In) (rInD' X.K) := OpR.or (op_inD hu) (op_inT hu)
theorem op_notInS {X : Cx} (hu : X.A.units + 65 < cLine) : OpR X (compareOp .NotIn) (rNotInD' X.K) := OpR.or (op_notInD hu) (op_notInT hu)
theorem toPs_map : ∀ ds : List D, D.toPs ds = ds.map D.toP
  | [] => rfl
  | d :: ds => by simp only [D.toPs, List.map_cons, toPs_map ds]
theorem lays_mem : ∀ {ds : List D} {z : D}, D.lays ds = true → z ∈ ds → z.lay = true
  | d :: ds, z, h, m => by
    simp only [D.lays, Bool.and_eq_true] at h
    rcases List.mem_cons.mp m with rfl | m
    · exact h.1
    · exact lays_mem h.2 m
theorem any_toP {d : D} {ds : List D} (hd : d.lay = true) (hs : D.lays ds = true) : ((D.toPs ds).any fun z => PyData.eqv z d.toP) = ds.any fun z => D.eqv z d := by
  rw [toPs_map, List.any_map]
  rw [Bool.eq_iff_iff]
  simp only [List.any_eq_true, Function.comp]
  constructor
  · rintro ⟨z, m, h⟩; exact ⟨z, m, by rw [← eqv_toP z d (lays_mem hs m) hd]; exact h⟩
  · rintro ⟨z, m, h⟩; exact ⟨z, m, by rw [eqv_toP z d (lays_mem hs m) hd]; exact h⟩
theorem inOk_of {d : D} {ds : List D} (h : inOk d ds = true) : d.lay = true ∧ D.lays ds = true ∧ SeqAt.shaped d.toP = true ∧ SeqAt.shaped (.list (D.toPs ds)) = true := by
  unfold inOk at h
  simp only [Bool.and_eq_true] at h
  have h2 := ok_lay h.2
  exact ⟨ok_lay h.1, by simpa [D.lay] using h2, ok_toP h.1, by have := ok_toP h.2; simpa only [D.toP] using this⟩
theorem vb_in {c : Cc} : VB c (rInD' c.K) dIn := by
  intro P H x y d1 d2 d Q hP r1 r2 e k
  unfold dIn at e
  split at e
  · split at e
    · rename_i hk
      cases e
      obtain ⟨h1, h2, h3, h4⟩ := inOk_of hk
      refine .inl ⟨_, _, r1.dp h1, ?_, h3, h4, by rw [any_toP h1 h2]; exact k _ H (Same.refl _) isBl⟩
      have := r2.dp (show (D.lst _).lay = true by simpa [D.lay] using h2)
      simpa only [D.toP] using this
    · cases e
  · split at e
    · rename_i hk
      cases e
      obtain ⟨h1, h2, h3, h4⟩ := inOk_of hk
      refine .inr ⟨_, _, r1.dp h1, ?_, h3, h4, by rw [any_toP h1 h2]; exact k _ H (Same.refl _) isBl⟩
      have := r2.dp (show (D.tup _).lay = true by simpa [D.lay] using h2)
      simpa only [D.toP] using this
    · cases e
  · cases e
theorem vb_notIn {c : Cc} : VB c (rNotInD' c.K) dNotIn := by
  intro P H x y d1 d2 d Q hP r1 r2 e k
  unfold dNotIn at e
  split at e
  · split at e
    · rename_i hk
      cases e
      obtain ⟨h1, h2, h3, h4⟩ := inOk_of hk
      refine .inl ⟨_, _, r1.dp h1, ?_, h3, h4, by rw [any_toP h1 h2]; exact k _ H (Same.refl _) isBl⟩
      have := r2.dp (show (D.lst _).lay = true by simpa [D.lay] using h2)
      simpa only [D.toP] using this
    · cases e
  · split at e
    · rename_i hk
      cases e
      obtain ⟨h1, h2, h3, h4⟩ := inOk_of hk
      refine .inr ⟨_, _, r1.dp h1, ?_, h3, h4, by rw [any_toP h1 h2]; exact k _ H (Same.refl _) isBl⟩
      have := r2.dp (show (D.tup _).lay = true by simpa [D.lay] using h2)
      simpa only [D.toP] using this
    · cases e
  · cases e

/-! ### is None -/
def dIsN : D → D → M D
  | .non, .non => .ok (.bl true)
  | _, .non => .ok (.bl false)
  | _, _ => stuck
def dNotN : D → D → M D
  | .non, .non => .ok (.bl false)
  | _, .non => .ok (.bl true)
  | _, _ => stuck
theorem dIsN_nr : NoR2 dIsN := fun d1 d2 k p h => by unfold dIsN at h; split at h <;> cases h
theorem dNotN_nr : NoR2 dNotN := fun d1 d2 k p h => by unfold dNotN at h; split at h <;> cases h
theorem RepS.ne_non {c : Cc} {P : Addr → Prop} {H : Hp} {d : D} {v : V} (h : RepS c P H d v) (hd : d ≠ .non) : v ≠ .non := by
  intro e
  subst e
  cases d with
  | non => exact hd rfl
  | lst ds => obtain ⟨a, vs, e, _⟩ := h; cases e
  | dct ks ws => obtain ⟨a, e, _⟩ := h; cases e
  | tup ds => obtain ⟨a, vs, e, _⟩ := h.tup; cases e
  | bl b => cases h.bl
  | int b => cases h.int
  | str b => cases h.str
  | fn i => unfold RepS IsD at h; obtain ⟨a, _, e⟩ := h; cases e
  | scr i => unfold RepS IsD at h; obtain ⟨a, e, _⟩ := h; cases e
theorem vb_isN {c : Cc} : VB c (fun x y H Q => y = .non ∧ Q (.bl (decide (x = .non))) H) dIsN := by
  intro P H x y d1 d2 d Q hP r1 r2 e k
  unfold dIsN at e
  split at e
  · cases e
    refine ⟨r2.non, ?_⟩
    rw [decide_eq_true r1.non]
    exact k _ H (Same.refl _) isBl
  · rename_i hn
    cases e
    refine ⟨r2.non, ?_⟩
    rw [decide_eq_false (r1.ne_non fun q => hn (by rw [q]))]
    exact k _ H (Same.refl _) isBl
  · cases e
theorem vb_notN {c : Cc} : VB c (fun x y H Q => y = .non ∧ Q (.bl (!decide (x = .non))) H) dNotN := by
  intro P H x y d1 d2 d Q hP r1 r2 e k
  unfold dNotN at e
  split at e
  · cases e
    refine ⟨r2.non, ?_⟩
    rw [decide_eq_true r1.non]
    exact k _ H (Same.refl _) isBl
  · rename_i hn
    cases e
    refine ⟨r2.non, ?_⟩
    rw [decide_eq_false (r1.ne_non fun q => hn (by rw [q]))]
    exact k _ H (Same.refl _) isBl
  · cases e
end Dn

/-! Dn5 -/
set_option Elab.async false
set_option linter.all false
set_option maxRecDepth 100000
set_option maxHeartbeats 1000000
/-! Dn5: tests, conditional values, displays, arguments, calls of built-ins, subscripts, slices. -/
namespace Dn
open PySem PySem.Spec L2
open PyProof.Rows hiding St

theorem and_l {a b : Bool} (h : (a && b) = true) : a = true := by simp only [Bool.and_eq_true] at h; exact h.1
theorem and_r {a b : Bool} (h : (a && b) = true) : b = true := by simp only [Bool.and_eq_true] at h; exact h.2

section
variable {X : Cx} {g : Ce} {W : WX} {pu pu1 pu2 pu3 sh sh1 sh2 sh3 : Bool} {m m1 m2 m3 : Ev} {a b e : Expr} {pos : Pos} {t t1 t2 : Tv} {rest : List Expr}

/-! ### tests -/
def dTb (m : Ev) : Tv := fun env => bnd (m env) fun p => match p.1 with
  | .bl k => .ok (k, p.2)
  | _ => stuck
theorem tT_of {c : Cc} {σ : St} {H : Hp} {Q : Bool → Hp → Prop} (h : tT c pu (dTb m) W σ H Q) : tE c pu false m W σ H (fun x H' => ∃ k, x = .bl k ∧ Q k H') := by
  obtain ⟨xs, env, S, w⟩ := h
  refine ⟨xs, env, S, Want.bind w fun d env' v H' e s r w' => ?_⟩
  have r' : RepS c _ H' d v := Rep.shell r
  dsimp only at w'
  split at w'
  · rename_i k
    exact ⟨k, r'.bl, w' k H' s rfl⟩
  · exact w'.elim
theorem t_cmp {op : CmpOp} {r : R2} {f : D → D → M D} (ho : OpR X (compareOp op) r) (hv : VB (cc X g) r f) (nr : NoR2 f) (hc : sh1 = false ∨ pu2 = true) (hm : behindInMarks op b = false) (ha : DE X g pu1 sh1 a m1 W) (hb : DE X g pu2 sh2 b m2 W) :
    DT X g (pu1 && pu2) (.Compare a [op] [b] pos) (dTb (dBin f m1 m2)) W := PT.imp (pt_cmpR ho ha hb hm) fun _ _ _ h => t_bin hv nr hc (tT_of h)

def truth : D → M Bool
  | .non => .ok false
  | .bl b => .ok b
  | .int i => .ok (i != 0)
  | .str x => if x.length ≤ maxSeq then .ok ((x.length : Int) != 0) else stuck
  | .tup xs => .ok (!xs.isEmpty)
  | .lst xs => .ok (!xs.isEmpty)
  | _ => stuck
def dTr (m : Ev) : Tv := fun env => bnd (m env) fun p => bnd (truth p.1) fun k => .ok (k, p.2)
theorem truth_nr {d : D} {k p} : truth d ≠ .error (.raise k p) := fun h => by
  unfold truth at h
  split at h <;> first | cases h | (split at h <;> cases h)
theorem isDs_empty {c : Cc} {H : Hp} {ds : List D} {vs : List V} (h : IsDs c H ds vs) : ds.isEmpty = vs.isEmpty := by
  have := h.len
  cases ds <;> cases vs <;> simp_all
theorem truth_of {c : Cc} {P : Addr → Prop} {H : Hp} {d : D} {v : V} {k : Bool} (h : truth d = .ok k) (r : RepS c P H d v) : TruV c.K v H k := by
  unfold truth at h
  split at h
  · cases h; rw [r.non]; rfl
  · cases h; rw [r.bl]; rfl
  · cases h; rw [r.int]; rfl
  · split at h
    · rename_i hz; cases h; rw [r.str]; exact ⟨by rw [maxSeq_eq]; exact hz, rfl⟩
    · cases h
  · cases h
    obtain ⟨a, vs, rfl, h1, h2⟩ := r.tup
    exact .inr (.inl ⟨vs, h1, by rw [isDs_empty h2]⟩)
  · cases h
    obtain ⟨a, vs, rfl, h1, h2⟩ := r.lst
    exact .inl ⟨vs, SqL.of h1, by rw [isDs_empty h2]⟩
  · cases h
theorem t_truth (he : ∀ whole, isTrue a X.env whole = (do let v ← whole; standAt a.pos; holding [v] (truthy v))) (ha : DE X g pu sh a m W) : DT X g pu a (dTr m) W := by
  refine PT.imp (pt_truth ha he) fun σ H Q ⟨xs, env, S, w⟩ => ⟨xs, env, S, Want.bind w fun d env' v H' e s r w' => ?_⟩
  cases q : truth d with
  | error x => cases x with
    | raise k p => exact absurd q truth_nr
    | stuck => rw [q] at w'; exact w'.elim
  | ok k =>
    rw [q] at w'
    exact ⟨k, truth_of (c := cc X g) q r.shell, w' k H' s rfl⟩

def dTNot (t : Tv) : Tv := fun env => bnd (t env) fun p => .ok (!p.1, p.2)
theorem t_not (h : DT X g pu a t W) : DT X g pu (.UnaryOp .Not a pos) (dTNot t) W :=
  PT.imp (pt_not h) fun σ H Q ⟨xs, env, S, w⟩ => ⟨xs, env, S, Want.bind w fun d env' v H' e s r w' => by subst r; exact w' _ H' s rfl⟩
def dTAnd (t1 t2 : Tv) : Tv := fun env => bnd (t1 env) fun p => if p.1 = true then t2 p.2 else .ok (false, p.2)
def dTOr (t1 t2 : Tv) : Tv := fun env => bnd (t1 env) fun p => if p.1 = true then .ok (true, p.2) else t2 p.2
theorem w_and1 (h : DT X g pu a t W) : DW X g pu (.BoolOp .And [a] pos) t W := pw_and1 h
theorem w_or1 (h : DT X g pu a t W) : DW X g pu (.BoolOp .Or [a] pos) t W := pw_or1 h
theorem w_and (h1 : DT X g pu1 a t1 W) (h2 : DW X g pu2 (.BoolOp .And (b :: rest) pos) t2 W) : DW X g (pu1 && pu2) (.BoolOp .And (a :: b :: rest) pos) (dTAnd t1 t2) W :=
  PW.imp (pw_and h1 h2) fun σ H Q ⟨xs, env, S, w⟩ => ⟨xs, env, S, Want.bind w fun d env' v H' e s r w' => by
    have r' : v = d := r
    subst r'
    dsimp only at w'
    cases v with
    | true => exact ⟨xs, env', s.st, Want.after s w'⟩
    | false => exact w' false H' (s.weak and_l) rfl⟩
theorem w_or (h1 : DT X g pu1 a t1 W) (h2 : DW X g pu2 (.BoolOp .Or (b :: rest) pos) t2 W) : DW X g (pu1 && pu2) (.BoolOp .Or (a :: b :: rest) pos) (dTOr t1 t2) W :=
  PW.imp (pw_or h1 h2) fun σ H Q ⟨xs, env, S, w⟩ => ⟨xs, env, S, Want.bind w fun d env' v H' e s r w' => by
    have r' : v = d := r
    subst r'
    dsimp only at w'
    cases v with
    | false => exact ⟨xs, env', s.st, Want.after s w'⟩
    | true => exact w' true H' (s.weak and_l) rfl⟩
theorem t_w (h : DW X g pu a t W) : DT X g pu a t W := h.pt

/-! ### and, or, not as values (bools, all but the last) -/
def dAndV (m1 m2 : Ev) : Ev := fun env => bnd (m1 env) fun p => match p.1 with
  | .bl true => m2 p.2
  | .bl false => .ok (.bl false, p.2)
  | _ => stuck
def dOrV (m1 m2 : Ev) : Ev := fun env => bnd (m1 env) fun p => match p.1 with
  | .bl true => .ok (.bl true, p.2)
  | .bl false => m2 p.2
  | _ => stuck
def dNotV (m : Ev) : Ev := fun env => bnd (m env) fun p => match p.1 with
  | .bl k => .ok (.bl (!k), p.2)
  | _ => stuck
theorem e_one {op} (h : DE X g pu sh a m W) : DE X g pu sh (.BoolOp op [a] pos) m W := pe_one h
/-- what a later part finds -/
theorem Want.afterE {α β : Type} {c : Cc} {xs : Addr → Prop} {env env' : En} {σ : St} {H H' : Hp} {R : α → En → β → Hp → Prop} {Q : β → Hp → Prop} {m : M (α × En)} (s : Stp c xs pu1 env env' σ H H') (h : Want c xs (pu1 && pu2) env σ H R W Q m) :
    Want c xs pu2 env' σ H' R W Q m := Want.after s h
theorem e_and (h1 : DE X g pu1 sh1 a m1 W) (h2 : DE X g pu2 sh (.BoolOp .And (b :: rest) pos) m2 W) : DE X g (pu1 && pu2) sh (.BoolOp .And (a :: b :: rest) pos) (dAndV m1 m2) W :=
  PE.imp (pe_and h1 h2) fun σ H Q ⟨xs, env, S, w⟩ => ⟨xs, env, S, Want.bind w fun d env' v H' e s r w' => by
    have r' := Rep.shell r
    dsimp only at w'
    split at w'
    · refine ⟨true, r'.bl, ?_⟩
      rw [if_pos rfl]
      refine ⟨xs, env', s.st, ?_⟩
      rw [s.hid]
      exact Want.after s w'
    · refine ⟨false, r'.bl, ?_⟩
      rw [if_neg Bool.false_ne_true]
      exact w' _ H' (s.weak and_l) (Rep.of isBl)
    · exact w'.elim⟩
theorem e_or (h1 : DE X g pu1 sh1 a m1 W) (h2 : DE X g pu2 sh (.BoolOp .Or (b :: rest) pos) m2 W) : DE X g (pu1 && pu2) sh (.BoolOp .Or (a :: b :: rest) pos) (dOrV m1 m2) W :=
  PE.imp (pe_or h1 h2) fun σ H Q ⟨xs, env, S, w⟩ => ⟨xs, env, S, Want.bind w fun d env' v H' e s r w' => by
    have r' := Rep.shell r
    dsimp only at w'
    split at w'
    · refine ⟨true, r'.bl, ?_⟩
      rw [if_pos rfl]
      exact w' _ H' (s.weak and_l) (Rep.of isBl)
    · refine ⟨false, r'.bl, ?_⟩
      rw [if_neg Bool.false_ne_true]
      refine ⟨xs, env', s.st, ?_⟩
      rw [s.hid]
      exact Want.after s w'
    · exact w'.elim⟩
theorem e_not (h : DE X g pu sh a m W) : DE X g pu false (.UnaryOp .Not a pos) (dNotV m) W :=
  PE.imp (pe_not h) fun σ H Q ⟨xs, env, S, w⟩ => ⟨xs, env, S, Want.bind w fun d env' v H' e s r w' => by
    have r' := Rep.shell r
    dsimp only at w'
    split at w'
    · exact ⟨_, r'.bl, w' _ H' s (Rep.of isBl)⟩
    · exact w'.elim⟩
/-! ### a if t else b -/
def dIf (t : Tv) (m1 m2 : Ev) : Ev := fun env => bnd (t env) fun p => if p.1 = true then m1 p.2 else m2 p.2
theorem e_if (ht : DT X g pu e t W) (h1 : DE X g pu1 sh a m1 W) (h2 : DE X g pu1 sh b m2 W) : DE X g (pu && pu1) sh (.IfExp e a b pos) (dIf t m1 m2) W :=
  PE.imp (pe_ifExp ht h1 h2) fun σ H Q ⟨xs, env, S, w⟩ => ⟨xs, env, S, Want.bind w fun d env' v H' e s r w' => by
    have r' : v = d := r
    subst r'
    dsimp only at w'
    cases v with
    | true =>
      rw [if_pos rfl]
      refine ⟨xs, env', s.st, ?_⟩
      rw [s.hid]
      exact Want.after s w'
    | false =>
      rw [if_neg Bool.false_ne_true]
      refine ⟨xs, env', s.st, ?_⟩
      rw [s.hid]
      exact Want.after s w'⟩
/-- chained comparisons -/
def dChain (f f' : D → D → M D) (m1 m2 m3 : Ev) : Ev := fun env => bnd (m1 env) fun p => bnd (m2 p.2) fun q => bnd (f p.1 q.1) fun k => match k with
  | .bl true => bnd (m3 q.2) fun r => bnd (f' q.1 r.1) fun d => .ok (d, r.2)
  | .bl false => .ok (.bl false, q.2)
  | _ => stuck
theorem t_chain' {r r' : R2} {f f' : D → D → M D} (hv : VB (cc X g) r f) (hv' : VB (cc X g) r' f') (nr : NoR2 f) (nr' : NoR2 f') {σ : St} {H : Hp} {Q : VK} (h : tE (cc X g) true false (dChain f f' m1 m2 m3) W σ H Q) :
    tChain r r' (tE (cc X g) true sh1 m1 W) (tE (cc X g) true sh2 m2 W) (tE (cc X g) true sh3 m3 W) σ H Q := by
  obtain ⟨xs, env, S, w⟩ := h
  refine ⟨xs, env, S, w.bind fun d1 env1 x H1 e1 s1 r1 w1 => ?_⟩
  refine ⟨xs, env1, s1.st, Want.bind (pu' := true) (Want.after s1 w1) fun d2 env2 y H2 e2 s2 r2 w2 => ?_⟩
  rw [← s1.hid] at r1
  have r1' := (s2.rep (.inr rfl) r1).shell
  have r2' := r2.shell
  have hP : ∀ a, Hid xs env1 σ a → H2 a ≠ none := fun a ha => s2.st.hid (by rw [s2.hid]; exact ha)
  cases q : f d1 d2 with
  | error e => cases e with
    | raise k p => exact absurd q (nr _ _ _ _)
    | stuck => rw [q] at w2; exact w2.elim
  | ok d =>
    rw [q] at w2
    refine hv (Hid xs env1 σ) H2 x y d1 d2 d _ hP r1' r2' q fun v H3 k hd => ?_
    dsimp only [bnd] at w2
    split at w2
    · have hv := (RepS.of hd).bl
      subst hv
      refine ⟨true, rfl, ?_⟩
      rw [if_pos rfl]
      refine ⟨xs, env2, s2.st.same k, Want.bind (pu' := true) (Want.after (s2.grow k) w2) fun d3 env3 z H4 e3 s3 r3 w3 => ?_⟩
      have r2'' : RepS (cc X g) (Hid xs env1 σ) H4 d2 y := ((RepS.same k r2').same (s3.pr rfl).2)
      have r3' := r3.shell
      rw [s2.hid] at r3'
      cases q' : f' d2 d3 with
      | error e => cases e with
        | raise k p => exact absurd q' (nr' _ _ _ _)
        | stuck => rw [q'] at w3; exact w3.elim
      | ok d' =>
        rw [q'] at w3
        refine hv' (Hid xs env1 σ) H4 y z d2 d3 d' Q (fun a ha => s3.st.hid (by rw [s3.hid, s2.hid]; exact ha)) r2'' r3' q' fun v' H5 k' hd' => ?_
        rw [s1.hid] at hd'
        exact w3 v' H5 (s3.grow k') hd'
    · have hv := (RepS.of hd).bl
      subst hv
      refine ⟨false, rfl, ?_⟩
      rw [if_neg Bool.false_ne_true]
      exact w2 _ H3 (s2.grow k) (Rep.of isBl)
    · exact w2.elim
theorem e_chain {op op' : CmpOp} {r r' : R2} {f f' : D → D → M D} (ho : OpR X (compareOp op) r) (ho' : OpR X (compareOp op') r') (hv : VB (cc X g) r f) (hv' : VB (cc X g) r' f') (nr : NoR2 f) (nr' : NoR2 f')
    (hm : lastMarks [op, op'] [b, e] = false) (ha : DE X g true sh1 a m1 W) (hb : DE X g true sh2 b m2 W) (he : DE X g true sh3 e m3 W) : DE X g true false (.Compare a [op, op'] [b, e] pos) (dChain f f' m1 m2 m3) W :=
  PE.imp (pe_chain ho ho' ha hb he hm) fun _ _ _ h => t_chain' hv hv' nr nr' h
theorem t_chain {op op' : CmpOp} {r r' : R2} {f f' : D → D → M D} (ho : OpR X (compareOp op) r) (ho' : OpR X (compareOp op') r') (hv : VB (cc X g) r f) (hv' : VB (cc X g) r' f') (nr : NoR2 f) (nr' : NoR2 f')
    (hm : lastMarks [op, op'] [b, e] = false) (ha : DE X g true sh1 a m1 W) (hb : DE X g true sh2 b m2 W) (he : DE X g true sh3 e m3 W) : DT X g true (.Compare a [op, op'] [b, e] pos) (dTb (dChain f f' m1 m2 m3)) W :=
  PT.imp (pt_chain ho ho' ha hb he hm) fun _ _ _ h => t_chain' hv hv' nr nr' (tT_of h)
end
end Dn

/-! Dn6 -/
set_option Elab.async false
set_option linter.all false
set_option maxRecDepth 100000
set_option maxHeartbeats 1000000
/-! Dn6: arguments, displays, calls of built-ins, subscripts, slices. -/
namespace Dn
open PySem PySem.Spec L2
open PyProof.Rows hiding St

section
variable {X : Cx} {g : Ce} {W : WX} {pu pu1 pu2 pu3 sh sh1 sh2 sh3 : Bool} {m m1 m2 m3 : Ev} {a b e : Expr} {es : List Expr} {pos : Pos} {ma : Av} {shs : List Bool}

/-! ### arguments -/
def dNil : Av := fun env => .ok ([], env)
def dCons (m : Ev) (ms : Av) : Av := fun env => bnd (m env) fun p => bnd (ms p.2) fun q => .ok (p.1 :: q.1, q.2)
theorem a_nil : DA X g true [] [] dNil W := PA.imp pa_nil fun σ H Q ⟨xs, env, S, w⟩ => w [] H (.refl S) trivial
theorem Stp.reps {c : Cc} {xs : Addr → Prop} {env env' : En} {σ : St} {H H' : Hp} (s : Stp c xs pu env env' σ H H') : ∀ {shs : List Bool} {ds : List D} {vs : List V}, (shs.all (!·) = true ∨ pu = true) → Reps c (Hid xs env σ) H shs ds vs → Reps c (Hid xs env σ) H' shs ds vs
  | [], [], [], _, r => r
  | s' :: ss, d :: ds, v :: vs, h, r => by
    obtain ⟨r1, r2⟩ := r
    refine ⟨s.rep ?_ r1, Stp.reps s ?_ r2⟩
    · rcases h with h | h
      · simp only [List.all_cons, Bool.and_eq_true] at h
        exact .inl (by simpa using h.1)
      · exact .inr h
    · rcases h with h | h
      · simp only [List.all_cons, Bool.and_eq_true] at h
        exact .inl h.2
      · exact .inr h
  | [], [], _ :: _, _, r => r.elim
  | [], _ :: _, _, _, r => r.elim
  | _ :: _, [], _, _, r => r.elim
  | _ :: _, _ :: _, [], _, r => r.elim
theorem a_cons (hc : sh = false ∨ pu2 = true) (h1 : DE X g pu1 sh e m W) (h2 : DA X g pu2 shs es ma W) (hs : starEach (e :: es) X.env = (false, eval e X.env) :: starEach es X.env := by rfl) : DA X g (pu1 && pu2) (sh :: shs) (e :: es) (dCons m ma) W :=
  PA.imp (pa_cons h1 h2 hs) fun σ H Q ⟨xs, env, S, w⟩ => ⟨xs, env, S, Want.bind w fun d env1 v H1 e1 s1 r1 w1 => by
    refine ⟨xs, env1, s1.st, Want.bind (pu' := pu2) (Want.after s1 w1) fun ds env2 vs H2 e2 s2 r2 w2 => ?_⟩
    rw [← s1.hid] at r1
    have r1' := s2.rep hc r1
    rw [s1.hid] at r1' r2
    exact w2 (v :: vs) H2 s2 ⟨r1', r2⟩⟩

/-! ### displays -/
def dTup (ms : Av) : Ev := fun env => bnd (ms env) fun p => if p.1.length ≤ maxSeq then .ok (.tup p.1, p.2) else stuck
def dLst (ms : Av) : Ev := fun env => bnd (ms env) fun p => if p.1.length ≤ maxSeq then .ok (.lst p.1, p.2) else stuck
theorem Reps.clean {c : Cc} {P : Addr → Prop} {H : Hp} : ∀ {shs : List Bool} {ds : List D} {vs : List V}, shs.all (!·) = true → Reps c P H shs ds vs → IsDs c (hide H P) ds vs
  | [], [], [], _, _ => IsDs.nil
  | s :: ss, d :: ds, v :: vs, h, ⟨r1, r2⟩ => by
    simp only [List.all_cons, Bool.and_eq_true] at h
    have e : s = false := by simpa using h.1
    subst e
    exact IsDs.cons r1 (Reps.clean h.2 r2)
  | [], [], _ :: _, _, r => r.elim
  | [], _ :: _, _, _, r => r.elim
  | _ :: _, [], _, _, r => r.elim
  | _ :: _, _ :: _, [], _, r => r.elim
theorem e_tup {x1} (hs : shs.all (!·) = true) (h : DA X g pu shs es ma W) : DE X g pu false (.Tuple es x1 pos) (dTup ma) W :=
  PE.imp (pe_tup h) fun σ H Q ⟨xs, env, S, w⟩ => ⟨xs, env, S, Want.bind w fun ds env' vs H' e s r w' => by
    have c := r.clean hs
    dsimp only at w'
    split at w'
    · rename_i hz
      refine ⟨by rw [maxSeq_eq, ← c.len]; exact hz, fun p hp => ?_⟩
      refine w' _ _ (s.grow (same_new hp)) (Rep.of ?_)
      exact isNewT hp (fun a ha => s.st.hid (by rw [s.hid]; exact ha)) c
    · exact w'.elim⟩
/-- a new list -/
theorem RepF.lst {c : Cc} {xs : Addr → Prop} {env env' : En} {σ : St} {H H' : Hp} {ds : List D} {vs : List V} (s : Stp c xs pu env env' σ H H') (r : IsDs c (hide H' (Hid xs env σ)) ds vs) {p : Addr} (hp : H' p = none) (h0 : H p = none) :
    RepF c xs σ H (.lst ds) env' (.ref p) (upd H' p (.lst vs)) := by
  refine ⟨p, _, rfl, h0, upd_same, s.st.newX (same_new hp) hp upd_same, vs, rfl, r.same ?_⟩
  intro b o hb
  obtain ⟨h1, h2⟩ := hide_some hb
  have ne : b ≠ p := ne_of_none h2 hp
  rw [s.hid, hide_of fun z => z.elim h1 ne, upd_ne ne]
  exact h2
/-- a new object by values, behind a step -/
theorem RepV.step {c : Cc} {xs : Addr → Prop} {env env' : En} {σ : St} {H H' H2 : Hp} {d : D} {v : V} (s : Stp c xs pu env env' σ H H') (S : StOk c xs env σ H) (k : Same H' H2) (r : RepV c (Hid xs env σ) H' H2 d v) (hf : ∀ p, H' p = none → H p = none) : RepF c xs σ H d env' v H2 := by
  obtain ⟨a, o, e1, e2, e3, e4⟩ := r
  exact ⟨a, o, e1, hf a e2, e3, s.st.newX k e2 e3, by rw [s.hid]; exact e4⟩
theorem Stp.free {c : Cc} {xs : Addr → Prop} {env env' : En} {σ : St} {H H' : Hp} (s : Stp c xs pu env env' σ H H') (S : StOk c xs env σ H) {p : Addr} (hp : H' p = none) : H p = none := by
  cases q : H p with
  | none => rfl
  | some o =>
    by_cases hP : Hid xs env σ p
    · exact absurd hp (s.st.hid (by rw [s.hid]; exact hP))
    · have := s.smH p o (by rw [hide_of hP]; exact q)
      rw [hide_of hP, hp] at this; cases this
theorem f_lst (hs : shs.all (!·) = true) (h : DA X g pu shs es ma W) : DF X g pu (.List es pos) (dLst ma) W :=
  PE.imp (pe_lst h) fun σ H Q ⟨xs, env, S, w⟩ => ⟨xs, env, S, Want.bind w fun ds env' vs H' e s r w' => by
    have c := r.clean hs
    dsimp only at w'
    split at w'
    · rename_i hz
      refine ⟨by rw [maxSeq_eq, ← c.len]; exact hz, fun p hp => ?_⟩
      exact w' _ _ (s.grow (same_new hp)) (RepF.lst s c hp (s.free S hp))
    · exact w'.elim⟩

/-! ### calls of built-ins by values -/
abbrev RC := List V → Hp → VK → Prop
def RepsS (c : Cc) (P : Addr → Prop) (H : Hp) : List D → List V → Prop
  | [], [] => True
  | d :: ds, v :: vs => RepS c P H d v ∧ RepsS c P H ds vs
  | _, _ => False
theorem Reps.shell {c : Cc} {P : Addr → Prop} {H : Hp} : ∀ {shs : List Bool} {ds : List D} {vs : List V}, Reps c P H shs ds vs → RepsS c P H ds vs
  | [], [], [], _ => trivial
  | s :: ss, d :: ds, v :: vs, ⟨r1, r2⟩ => ⟨r1.shell, Reps.shell r2⟩
  | [], [], _ :: _, r => r.elim
  | [], _ :: _, _, r => r.elim
  | _ :: _, [], _, r => r.elim
  | _ :: _, _ :: _, [], r => r.elim
/-- a built-in's call, of data -/
def VC (c : Cc) (r : RC) (f : List D → M D) : Prop := ∀ (P : Addr → Prop) (H : Hp) (vs : List V) (ds : List D) (d : D) (Q : VK), (∀ a, P a → H a ≠ none) → RepsS c P H ds vs →
  f ds = .ok d → (∀ v H', Same H H' → IsD c (hide H' P) d v → Q v H') → r vs H Q
/-- .. that makes a new object -/
def VCF (c : Cc) (r : RC) (f : List D → M D) : Prop := ∀ (P : Addr → Prop) (H : Hp) (vs : List V) (ds : List D) (d : D) (Q : VK), (∀ a, P a → H a ≠ none) → RepsS c P H ds vs →
  f ds = .ok d → (∀ v H', Same H H' → RepV c P H H' d v → Q v H') → r vs H Q
def NoRL (f : List D → M D) : Prop := ∀ ds k p, f ds ≠ .error (.raise k p)
def dCall (f : List D → M D) (ms : Av) : Ev := fun env => bnd (ms env) fun p => bnd (f p.1) fun d => .ok (d, p.2)
theorem t_callB {r : RC} {f : List D → M D} (hv : VC (cc X g) r f) (nr : NoRL f) {σ : St} {H : Hp} {Q : VK} (h : tE (cc X g) pu false (dCall f ma) W σ H Q) : tCB r (tA (cc X g) pu shs ma W) σ H Q := by
  obtain ⟨xs, env, S, w⟩ := h
  refine ⟨xs, env, S, Want.bind w fun ds env' vs H' e s r w' => ?_⟩
  cases q : f ds with
  | error x => cases x with
    | raise k p => exact absurd q (nr _ _ _)
    | stuck => rw [q] at w'; exact w'.elim
  | ok d =>
    rw [q] at w'
    exact hv (Hid xs env σ) H' vs ds d Q (fun a ha => s.st.hid (by rw [s.hid]; exact ha)) r.shell q fun v H2 k hd => w' v H2 (s.grow k) (Rep.of hd)
theorem t_callF {r : RC} {f : List D → M D} (hv : VCF (cc X g) r f) (nr : NoRL f) {σ : St} {H : Hp} {Q : VK} (h : tF (cc X g) pu (dCall f ma) W σ H Q) : tCB r (tA (cc X g) pu shs ma W) σ H Q := by
  obtain ⟨xs, env, S, w⟩ := h
  refine ⟨xs, env, S, Want.bind w fun ds env' vs H' e s r w' => ?_⟩
  cases q : f ds with
  | error x => cases x with
    | raise k p => exact absurd q (nr _ _ _)
    | stuck => rw [q] at w'; exact w'.elim
  | ok d =>
    rw [q] at w'
    refine hv (Hid xs env σ) H' vs ds d Q (fun a ha => s.st.hid (by rw [s.hid]; exact ha)) r.shell q fun v H2 k hr => w' v H2 (s.grow k) (hr.step s S k fun p hp => s.free S hp)
variable {x : Str} {p : Pos} {id T : String} {r : RC} {f : List D → M D}
theorem e_callB (hc : CallR X (.builtin id) r) (hv : VC (cc X g) r f) (nr : NoRL f) (hg : Gl X x) (hm : X.mg x = none) (hb : bootBuiltins x = some (.builtin id)) (ha : DA X g pu shs (e :: es) ma W) (hn : x ≠ "__name__" := by decide) (hdb : (x == ("__debug__" : Str)) = false := by decide)
    (he : starEach (e :: es) X.env = (false, eval e X.env) :: starEach es X.env := by rfl) (hpl : (backTo pos (starEach es X.env)).any (·.1) = false := by rfl) : DE X g pu false (.Call (.Name x p) (e :: es) [] pos) (dCall f ma) W :=
  PE.imp (pe_callB hc hg hm hb ha hn hdb he hpl) fun _ _ _ h => t_callB hv nr h
theorem f_callB (hc : CallR X (.builtin id) r) (hv : VCF (cc X g) r f) (nr : NoRL f) (hg : Gl X x) (hm : X.mg x = none) (hb : bootBuiltins x = some (.builtin id)) (ha : DA X g pu shs (e :: es) ma W) (hn : x ≠ "__name__" := by decide) (hdb : (x == ("__debug__" : Str)) = false := by decide)
    (he : starEach (e :: es) X.env = (false, eval e X.env) :: starEach es X.env := by rfl) (hpl : (backTo pos (starEach es X.env)).any (·.1) = false := by rfl) : DF X g pu (.Call (.Name x p) (e :: es) [] pos) (dCall f ma) W :=
  PE.imp (pe_callB hc hg hm hb ha hn hdb he hpl) fun _ _ _ h => t_callF hv nr h
theorem e_callT (hc : CallR X (.type T) r) (hv : VC (cc X g) r f) (nr : NoRL f) (hg : Gl X x) (hm : X.mg x = none) (hb : bootBuiltins x = some (.type T)) (ha : DA X g pu shs (e :: es) ma W) (hn : x ≠ "__name__" := by decide) (hdb : (x == ("__debug__" : Str)) = false := by decide)
    (he : starEach (e :: es) X.env = (false, eval e X.env) :: starEach es X.env := by rfl) (hpl : (backTo pos (starEach es X.env)).any (·.1) = false := by rfl) : DE X g pu false (.Call (.Name x p) (e :: es) [] pos) (dCall f ma) W :=
  PE.imp (pe_callTy hc hg hm hb ha hn hdb he hpl) fun _ _ _ h => t_callB hv nr h
theorem f_callT (hc : CallR X (.type T) r) (hv : VCF (cc X g) r f) (nr : NoRL f) (hg : Gl X x) (hm : X.mg x = none) (hb : bootBuiltins x = some (.type T)) (ha : DA X g pu shs (e :: es) ma W) (hn : x ≠ "__name__" := by decide) (hdb : (x == ("__debug__" : Str)) = false := by decide)
    (he : starEach (e :: es) X.env = (false, eval e X.env) :: starEach es X.env := by rfl) (hpl : (backTo pos (starEach es X.env)).any (·.1) = false := by rfl) : DF X g pu (.Call (.Name x p) (e :: es) [] pos) (dCall f ma) W :=
  PE.imp (pe_callTy hc hg hm hb ha hn hdb he hpl) fun _ _ _ h => t_callF hv nr h
/-- a new object is a value -/
theorem VCF.val {c : Cc} {r : RC} {f : List D → M D} (h : VCF c r f) : VC c r f := fun P H vs ds d Q hP hr hf k => h P H vs ds d Q hP hr hf fun v H' s ⟨a, o, e1, e2, e3, e4⟩ => k v H' s (by
  subst e1
  exact e4.isD e3 fun z => hP a z e2)

/-! ### subscripts -/
theorem e_ix {r : R2} {f : D → D → M D} (ho : IxR X r) (hv : VB (cc X g) r f) (nr : NoR2 f) (hc : sh1 = false ∨ pu2 = true) (ha : DE X g pu1 sh1 a m1 W) (hb : DE X g pu2 sh2 b m2 W) (hs : PlainIx b) : DE X g (pu1 && pu2) false (.Subscript a b pos) (dBin f m1 m2) W :=
  PE.imp (pe_ix ho ha hb hs) fun _ _ _ h => t_bin hv nr hc h
def dIx : D → D → M D
  | .lst xs, .int i => match atI xs i with
    | some d => .ok d
    | none => stuck
  | .tup xs, .int i => match atI xs i with
    | some d => .ok d
    | none => stuck
  | .str x, .int i => if x.length ≤ maxSeq then (match atI x.cps.toList i with
    | some k => .ok (.str ⟨#[k]⟩)
    | none => stuck) else stuck
  | _, _ => stuck
theorem dIx_nr : NoR2 dIx := fun d1 d2 k p h => by
  unfold dIx at h
  split at h
  · split at h <;> cases h
  · split at h <;> cases h
  · split at h
    · split at h <;> cases h
    · cases h
  · cases h
theorem atI_rep {c : Cc} {H : Hp} {ds : List D} {vs : List V} {i : Int} {d : D} (r : IsDs c H ds vs) (h : atI ds i = some d) : ∃ v, atI vs i = some v ∧ IsD c H d v := by
  unfold atI at h ⊢
  rw [← r.len]
  cases q : ixN ds.length i with
  | none => rw [q] at h; cases h
  | some j =>
    rw [q] at h
    obtain ⟨v, h1, h2⟩ := r.getD (show ds[j]? = some d from h)
    exact ⟨v, h1, h2⟩
theorem vb_ix {c : Cc} : VB c (rIx c.K) dIx := by
  intro P H x y d1 d2 d Q hP r1 r2 e k
  unfold dIx at e
  split at e
  · split at e
    · rename_i q
      cases e
      obtain ⟨a, vs, rfl, h1, h2⟩ := r1.lst
      obtain ⟨v, h3, h4⟩ := atI_rep h2 q
      exact .inl ⟨a, vs, _, v, rfl, r2.int, SqL.of h1, h3, k v H (Same.refl _) h4⟩
    · cases e
  · split at e
    · rename_i q
      cases e
      obtain ⟨a, vs, rfl, h1, h2⟩ := r1.tup
      obtain ⟨v, h3, h4⟩ := atI_rep h2 q
      exact .inr (.inl ⟨a, vs, _, v, rfl, r2.int, h1, h3, k v H (Same.refl _) h4⟩)
    · cases e
  · split at e
    · rename_i hz
      split at e
      · rename_i q
        cases e
        exact .inr (.inr ⟨_, _, _, r1.str, r2.int, by rw [maxSeq_eq]; exact hz, q, k _ H (Same.refl _) isStr⟩)
      · cases e
    · cases e
  · cases e

/-! ### slices -/
abbrev Ov := En → M (Option Int × En)
def tO (c : Cc) (pu : Bool) (m : Ov) (W : WX) : TO := fun σ H Q => ∃ xs env, StOk c xs env σ H ∧ Want c xs pu env σ H (fun d _ v _ => v = d) W Q (m env)
abbrev DO (X : Cx) (g : Ce) (pu : Bool) (e : Option Expr) (m : Ov) (W : WX) : Prop := PO X e (tO (cc X g) pu m W)
theorem PO.imp {X : Cx} {e : Option Expr} {t t' : TO} (h : PO X e t) (k : ∀ σ H Q, t' σ H Q → t σ H Q) : PO X e t' := ⟨fun pins s σ H Q I w => h.run pins s σ H Q I (k _ _ _ w)⟩
def dONone : Ov := fun env => .ok (none, env)
def dOSome (m : Ev) : Ov := fun env => bnd (m env) fun p => match p.1 with
  | .int i => .ok (some i, p.2)
  | _ => stuck
theorem o_none : DO X g true none dONone W := PO.imp po_none fun σ H Q ⟨xs, env, S, w⟩ => w _ H (.refl S) rfl
theorem o_some (h : DE X g pu sh e m W) : DO X g pu (some e) (dOSome m) W := PO.imp (po_some h) fun σ H Q ⟨xs, env, S, w⟩ => ⟨xs, env, S, Want.bind w fun d env' v H' e s r w' => by
  have r' := Rep.shell r
  dsimp only at w'
  split at w'
  · exact ⟨_, r'.int, w' _ H' s rfl⟩
  · exact w'.elim⟩
def cutD {α : Type} (xs : List α) (lo hi : Option Int) : List α := (xs.drop (HT.sIx xs.length 0 lo)).take (HT.sIx xs.length xs.length hi - HT.sIx xs.length 0 lo)
def dSlice1 : D → Option Int → Option Int → M D
  | .lst xs, lo, hi => .ok (.lst (cutD xs lo hi))
  | .tup xs, lo, hi => .ok (.tup (cutD xs lo hi))
  | .str x, lo, hi => if x.length ≤ maxSeq then .ok (.str ⟨(cutD x.cps.toList lo hi).toArray⟩) else stuck
  | _, _, _ => stuck
end
end Dn

/-! Dn7 -/
set_option Elab.async false
set_option linter.all false
set_option maxRecDepth 100000
set_option maxHeartbeats 1000000
/-! Dn7: slots set; statements; own calls; defs. -/
namespace Dn
open PySem PySem.Spec L2
open PyProof.Rows hiding St

section
variable {c : Cc} {xs : Addr → Prop} {env env' : En} {σ σ' : St} {H H' H0 : Hp} {pu : Bool}
theorem owns_set_va {i : Nat} {d : D} {v : V} {a : Addr} (h : Owns (env.set i (.va d)) (σ.set i (some v)) a) : Owns env σ a := by
  obtain ⟨j, e, h1, h2⟩ := h
  by_cases hj : i = j
  · subst hj
    rw [List.getElem?_set] at h1
    rw [if_pos rfl] at h1
    split at h1 <;> cases h1
  · rw [List.getElem?_set_ne hj] at h1 h2
    exact ⟨j, e, h1, h2⟩
theorem owns_set_un {i : Nat} {o : Option V} {a : Addr} (h : Owns (env.set i .un) (σ.set i o) a) : Owns env σ a := by
  obtain ⟨j, e, h1, h2⟩ := h
  by_cases hj : i = j
  · subst hj
    rw [List.getElem?_set] at h1
    rw [if_pos rfl] at h1
    split at h1 <;> cases h1
  · rw [List.getElem?_set_ne hj] at h1 h2
    exact ⟨j, e, h1, h2⟩
theorem StOk.setVa (S : StOk c xs env σ H) (i : Nat) {d : D} {v : V} (h : IsD c (hide H (Hid xs env σ)) d v) : StOk c xs (env.set i (.va d)) (σ.set i (some v)) H := by
  have sub : Same (hide H (Hid xs env σ)) (hide H (Hid xs (env.set i (.va d)) (σ.set i (some v)))) := hide_sub fun a z => z.elim (fun z => .inl (owns_set_va z)) .inr
  refine ⟨by simp [S.len], fun a h => ⟨(S.xb a h).1, fun z => (S.xb a h).2 (owns_set_va z)⟩, fun j e he => ?_, fun j e he => ?_, fun j k e f a h1 h2 h3 h4 => ?_⟩
  · by_cases hj : i = j
    · subst hj
      rw [List.getElem?_set, if_pos rfl] at he
      split at he
      · rename_i hl
        cases he
        exact ⟨v, by rw [List.getElem?_set, if_pos rfl, if_pos (by rw [← S.len]; exact hl)], h.same sub⟩
      · cases he
    · rw [List.getElem?_set_ne hj] at he
      obtain ⟨u, h1, h2⟩ := S.va j e he
      exact ⟨u, by rw [List.getElem?_set_ne hj]; exact h1, h2.same sub⟩
  · by_cases hj : i = j
    · subst hj
      rw [List.getElem?_set, if_pos rfl] at he
      split at he <;> cases he
    · rw [List.getElem?_set_ne hj] at he
      obtain ⟨a, o, h1, h2, h3⟩ := S.ow j e he
      exact ⟨a, o, by rw [List.getElem?_set_ne hj]; exact h1, h2, h3.same sub⟩
  · have nj : i ≠ j := fun z => by
      subst z
      rw [List.getElem?_set, if_pos rfl] at h1
      split at h1 <;> cases h1
    have nk : i ≠ k := fun z => by
      subst z
      rw [List.getElem?_set, if_pos rfl] at h2
      split at h2 <;> cases h2
    rw [List.getElem?_set_ne nj] at h1 h3
    rw [List.getElem?_set_ne nk] at h2 h4
    exact S.inj j k e f a h1 h2 h3 h4
theorem StOk.setUn (S : StOk c xs env σ H) (i : Nat) (o : Option V) : StOk c xs (env.set i .un) (σ.set i o) H := by
  have sub : Same (hide H (Hid xs env σ)) (hide H (Hid xs (env.set i .un) (σ.set i o))) := hide_sub fun a z => z.elim (fun z => .inl (owns_set_un z)) .inr
  refine ⟨by simp [S.len], fun a h => ⟨(S.xb a h).1, fun z => (S.xb a h).2 (owns_set_un z)⟩, fun j e he => ?_, fun j e he => ?_, fun j k e f a h1 h2 h3 h4 => ?_⟩
  · by_cases hj : i = j
    · subst hj
      rw [List.getElem?_set, if_pos rfl] at he
      split at he <;> cases he
    · rw [List.getElem?_set_ne hj] at he
      obtain ⟨u, h1, h2⟩ := S.va j e he
      exact ⟨u, by rw [List.getElem?_set_ne hj]; exact h1, h2.same sub⟩
  · by_cases hj : i = j
    · subst hj
      rw [List.getElem?_set, if_pos rfl] at he
      split at he <;> cases he
    · rw [List.getElem?_set_ne hj] at he
      obtain ⟨a, o, h1, h2, h3⟩ := S.ow j e he
      exact ⟨a, o, by rw [List.getElem?_set_ne hj]; exact h1, h2, h3.same sub⟩
  · have nj : i ≠ j := fun z => by
      subst z
      rw [List.getElem?_set, if_pos rfl] at h1
      split at h1 <;> cases h1
    have nk : i ≠ k := fun z => by
      subst z
      rw [List.getElem?_set, if_pos rfl] at h2
      split at h2 <;> cases h2
    rw [List.getElem?_set_ne nj] at h1 h3
    rw [List.getElem?_set_ne nk] at h2 h4
    exact S.inj j k e f a h1 h2 h3 h4
theorem owns_set_ow {i : Nat} {d : D} {b a : Addr} (h : Owns (env.set i (.ow d)) (σ.set i (some (.ref b))) a) : Owns env σ a ∨ a = b := by
  obtain ⟨j, e, h1, h2⟩ := h
  by_cases hj : i = j
  · subst hj
    rw [List.getElem?_set, if_pos rfl] at h2
    split at h2
    · cases h2; exact .inr rfl
    · cases h2
  · rw [List.getElem?_set_ne hj] at h1 h2
    exact .inl ⟨j, e, h1, h2⟩
theorem StOk.setOw (S : StOk c xs env σ H) (i : Nat) {d : D} {a : Addr} {o : HO} (n : ¬ Hid xs env σ a) (ho : H a = some o) (h : ObjRep c (hide H (fun b => Hid xs env σ b ∨ b = a)) d o)
    (hv : ∀ (j : Nat) (e : D) (v : V), env[j]? = some (Sl.va e) → σ[j]? = some (some v) → IsD c (hide H (fun b => Hid xs env σ b ∨ b = a)) e v)
    (hw : ∀ (j : Nat) (e : D) (b : Addr) (u : HO), env[j]? = some (Sl.ow e) → σ[j]? = some (some (V.ref b)) → H b = some u → ObjRep c (hide H (fun b => Hid xs env σ b ∨ b = a)) e u) :
    StOk c xs (env.set i (.ow d)) (σ.set i (some (.ref a))) H := by
  have sub : Same (hide H (fun b => Hid xs env σ b ∨ b = a)) (hide H (Hid xs (env.set i (.ow d)) (σ.set i (some (.ref a))))) := hide_sub fun b z => by
    rcases z with z | z
    · rcases owns_set_ow z with z | z
      · exact .inl (.inl z)
      · exact .inr z
    · exact .inl (.inr z)
  refine ⟨by simp [S.len], fun b hb => ⟨(S.xb b hb).1, fun z => ?_⟩, fun j e he => ?_, fun j e he => ?_, fun j k e f b h1 h2 h3 h4 => ?_⟩
  · rcases owns_set_ow z with z | z
    · exact (S.xb b hb).2 z
    · rw [z] at hb; exact n (.inr hb)
  · by_cases hj : i = j
    · subst hj
      rw [List.getElem?_set, if_pos rfl] at he
      split at he <;> cases he
    · rw [List.getElem?_set_ne hj] at he
      obtain ⟨u, h1, h2⟩ := S.va j e he
      exact ⟨u, by rw [List.getElem?_set_ne hj]; exact h1, (hv j e u he h1).same sub⟩
  · by_cases hj : i = j
    · subst hj
      rw [List.getElem?_set, if_pos rfl] at he
      split at he
      · rename_i hl
        cases he
        exact ⟨a, o, by rw [List.getElem?_set, if_pos rfl, if_pos (by rw [← S.len]; exact hl)], ho, h.same sub⟩
      · cases he
    · rw [List.getElem?_set_ne hj] at he
      obtain ⟨b, u, h1, h2, h3⟩ := S.ow j e he
      exact ⟨b, u, by rw [List.getElem?_set_ne hj]; exact h1, h2, (hw j e b u he h1 h2).same sub⟩
  · by_cases hj : i = j
    · by_cases hk : i = k
      · rw [← hj, ← hk]
      · subst hj
        rw [List.getElem?_set_ne hk] at h2 h4
        rw [List.getElem?_set, if_pos rfl] at h3
        split at h3
        · cases h3
          exact absurd (.inl ⟨k, f, h2, h4⟩) n
        · cases h3
    · rw [List.getElem?_set_ne hj] at h1 h3
      by_cases hk : i = k
      · subst hk
        rw [List.getElem?_set, if_pos rfl] at h4
        split at h4
        · cases h4
          exact absurd (.inl ⟨j, e, h1, h3⟩) n
        · cases h4
      · rw [List.getElem?_set_ne hk] at h2 h4
        exact S.inj j k e f b h1 h2 h3 h4
theorem isOw_get0 {env env' : En} {j : Nat} (h : env[j]? = env'[j]?) : isOw env j = isOw env' j := by unfold isOw; rw [h]
/-- a fresh object behind an evaluation goes to a slot -/
theorem Stp.setOw (S : StOk c xs env σ H) (s : Stp c xs pu env env' σ H H') (i : Nat) (h0 : isOw env' 0 = true → i ≠ 0) {d : D} {v : V} (r : RepF c xs σ H d env' v H') :
    StOk c xs (env'.set i (.ow d)) (σ.set i (some v)) H' ∧ Kept env σ H (env'.set i (.ow d)) (σ.set i (some v)) H' := by
  obtain ⟨a, o, rfl, n, ho, sx, h⟩ := r
  have e : (Hid (fun b => xs b ∨ b = a) env' σ) = fun b => Hid xs env' σ b ∨ b = a := by
    funext b; apply propext
    constructor
    · rintro (z | z | z)
      · exact .inl (.inl z)
      · exact .inl (.inr z)
      · exact .inr z
    · rintro ((z | z) | z)
      · exact .inl z
      · exact .inr (.inl z)
      · exact .inr (.inr z)
  have na : ¬ Hid xs env' σ a := by rw [s.hid]; exact S.newHid n
  refine ⟨StOk.setOw s.st i na ho h (fun j e' v h1 h2 => ?_) (fun j e' b u h1 h2 h3 => ?_), ⟨fun b u hb => ?_, s.th, fun h => ?_, by rw [List.length_set]⟩⟩
  · obtain ⟨v', h3, h4⟩ := sx.va j e' h1
    rw [h2] at h3; cases h3
    rw [← e]; exact h4
  · obtain ⟨b', u', h4, h5, h6⟩ := sx.ow j e' h1
    rw [h2] at h4; cases h4
    rw [h3] at h5; cases h5
    rw [← e]; exact h6
  · obtain ⟨h1, h2⟩ := hide_some hb
    have h3 := s.sm b u hb
    have ne := ne_of_none h2 n
    rw [hide_of fun z => (owns_set_ow z).elim (fun z => h1 (by rw [← s.own]; exact z)) ne]
    exact (hide_some h3).2
  · rw [← s.shp 0] at h
    have hi := h0 h
    exact ⟨(isOw_get0 (by rw [List.getElem?_set_ne hi])).trans h, by rw [List.getElem?_set_ne hi]⟩
end

/-! ### own defs -/
/-- run out of a body: what is handed back -/
def fin : M (Fl × En) → M D
  | .ok (.nx, _) => .ok .non
  | .ok (.rt d, _) => .ok d
  | .ok (.rf d, _) => .ok d
  | .ok (.ro i, env) => match env[i]? with
    | some (.ow d) => .ok d
    | _ => stuck
  | .ok _ => stuck
  | .error e => .error e
/-- the state at a def's entry -/
def enter (n : Nat) (ds : List D) : En := ds.map Sl.va ++ List.replicate (n - ds.length) Sl.un

/-- a def that changes none of its arguments -/
def spP (c : Cc) (n : Nat) (f : List D → M D) : Sp := fun vs H Q E => ∃ (xs : Addr → Prop) (ds : List D), ds.length = n ∧ (∀ a, xs a → H a ≠ none) ∧ IsDs c (hide H xs) ds vs ∧
  match f ds with
  | .ok d => ∀ v H', Same H H' → IsD c (hide H' xs) d v → Q v H'
  | .error (.raise k p) => ∀ cls dd H', Same H H' → ExcRep c H' k p cls dd → E cls dd H'
  | .error .stuck => False
/-- .. and hands back a new object -/
def spF (c : Cc) (n : Nat) (f : List D → M D) : Sp := fun vs H Q E => ∃ (xs : Addr → Prop) (ds : List D), ds.length = n ∧ (∀ a, xs a → H a ≠ none) ∧ IsDs c (hide H xs) ds vs ∧
  match f ds with
  | .ok d => ∀ v H', Same H H' → RepV c xs H H' d v → Q v H'
  | .error (.raise k p) => ∀ cls dd H', Same H H' → ExcRep c H' k p cls dd → E cls dd H'
  | .error .stuck => False
/-- a def that may change its first argument's object -/
def spO (c : Cc) (n : Nat) (f : D → List D → M (D × D)) : Sp := fun vs H Q E => ∃ (xs : Addr → Prop) (a : Addr) (o : HO) (s : D) (ds : List D) (ws : List V), vs = .ref a :: ws ∧ ds.length = n ∧ (∀ b, xs b → H b ≠ none ∧ b ≠ a) ∧
  H a = some o ∧ ObjRep c (hide H (fun b => b = a ∨ xs b)) s o ∧ IsDs c (hide H (fun b => b = a ∨ xs b)) ds ws ∧
  match f s ds with
  | .ok (d, s') => ∀ v H' o', Same (hide H (· = a)) (hide H' (· = a)) → H' a = some o' → ObjRep c (hide H' (fun b => b = a ∨ xs b)) s' o' → IsD c (hide H' (fun b => b = a ∨ xs b)) d v → Q v H'
  | .error (.raise k p) => ∀ cls dd H', Same (hide H (· = a)) H' → ExcRep c H' k p cls dd → E cls dd H'
  | .error .stuck => False

section
variable {P : Program} {w : World} {K : PySem.W.Frag} {mg : Str → Option Value} {base : Heap} {g : Ce}
abbrev ck (K : PySem.W.Frag) (g : Ce) : Cc := ⟨K, g.fa, g.ec, g.en⟩
theorem enter_get {n : Nat} {ds : List D} {i : Nat} {s : Sl} (h : (enter n ds)[i]? = some s) : (∃ d, ds[i]? = some d ∧ s = .va d) ∨ s = .un := by
  unfold enter at h
  rw [List.getElem?_append] at h
  split at h
  · rw [List.getElem?_map] at h
    cases q : ds[i]? with
    | none => rw [q] at h; cases h
    | some d => rw [q] at h; cases h; exact .inl ⟨d, rfl, rfl⟩
  · rw [List.getElem?_replicate] at h
    split at h
    · cases h; exact .inr rfl
    · cases h
theorem enter_owns {n : Nat} {ds : List D} {σ : St} {a : Addr} : ¬ Owns (enter n ds) σ a := fun ⟨i, d, h, _⟩ => by
  rcases enter_get h with ⟨e, _, h⟩ | h <;> cases h
theorem enter_ok {N : List Str} {ds : List D} {vs : List V} {H : Hp} {c : Cc} {xs : Addr → Prop} (hN : ds.length ≤ N.length) (hx : ∀ a, xs a → H a ≠ none) (r : IsDs c (hide H xs) ds vs) : StOk c xs (enter N.length ds) (L2.start N vs) H := by
  refine ⟨?_, fun a h => ⟨hx a h, enter_owns⟩, fun i d h => ?_, fun i d h => ?_, fun i j d e a h => ?_⟩
  · unfold enter L2.start
    simp [r.len]
  · rcases enter_get h with ⟨e, h1, h2⟩ | h
    · cases h2
      obtain ⟨v, h3, h4⟩ := r.getD h1
      have q : (L2.start N vs)[i]? = some (some v) := by
        unfold L2.start
        rw [List.getElem?_append_left (by rw [List.length_map]; exact (List.getElem?_eq_some_iff.mp h3).1), List.getElem?_map, h3]
        rfl
      have k : Same (hide H xs) (hide H (Hid xs (enter N.length ds) (L2.start N vs))) := hide_sub fun a z => z.elim (fun z => (enter_owns z).elim) id
      exact ⟨v, q, h4.same k⟩
    · cases h
  · rcases enter_get h with ⟨e, _, h⟩ | h <;> cases h
  · rcases enter_get h with ⟨e, _, h⟩ | h <;> cases h

/-! ### where one stands -/
def lookB (sc : Scope) (x : Str) : Option NameKind := sc.names.lookup x
/-- nn: every error of its own has no context -/
def CXn (nn : Bool) (P : Program) (w : World) : CXT := match nn with
  | true => L2N.CX P w
  | false => L2.CX P w
def Tk (nn : Bool) (X : Cx) (W : WX) : Prop := match nn with
  | true => L2N.Takes X W
  | false => L2.Takes X W
structure Cok (nn : Bool) (X : Cx) (W : WX) (P : Program) (w : World) (K : PySem.W.Frag) (mg : Str → Option Value) (base : Heap) (N : List Str) (sc : Scope) (k : Nat) (bk : Bool) : Prop where
  eP : X.prog = P
  ew : X.w = w
  eK : X.K = K
  em : X.mg = mg
  eb : X.base = base
  eN : X.N = N
  es : X.env.scope = sc
  calm : X.calm = true
  room : Room k X.A
  nd : N.Nodup
  fn : bk = false → ∀ x : Str, X.fn x = true
  tk : Tk nn X W
  own : bk = false → PassesOwn (model X.prog X.w) X.A X.env X.xe
  sf : bk = false → X.stack = X.env :: X.outer ∧ X.env.frame = some X.env.locals

/-- the outcome of a body, wanted as a promise wants it -/
theorem body_end {c : Cc} {N : List Str} {ds : List D} {vs : List V} {H : Hp} {xs : Addr → Prop} {Q : VK} {E : XK} {r : M (Fl × En)}
    (h : match fin r with
      | .ok d => ∀ v H', Same H H' → IsD c (hide H' xs) d v → Q v H'
      | .error (.raise k p) => ∀ cls dd H', Same H H' → ExcRep c H' k p cls dd → E cls dd H'
      | .error .stuck => False) :
    WantS c xs (enter N.length ds) (L2.start N vs) H (fun cls d _ H => E cls d H) { nx := fun _ H' => Q .non H', rt := Q } r := by
  have own0 : ∀ {H' : Hp}, Same (hide H (Owns (enter N.length ds) (L2.start N vs))) H' → Same H H' := fun k b o e => k b o (by rw [hide_of enter_owns]; exact e)
  cases r with
  | error e => cases e with
    | raise k p => exact fun cls dd σ' H' _ k' r => h cls dd H' (own0 k') r
    | stuck => exact h
  | ok p =>
    obtain ⟨fl, env'⟩ := p
    cases fl with
    | nx => exact fun σ' H' S' k => h _ H' (own0 (Same.trans k.sm hide_full)) isNon
    | bk => exact h.elim
    | ct => exact h.elim
    | rt d => exact fun σ' v H' S' k hd => h v H' (own0 (Same.trans k.sm hide_full)) (hd.same (hide_sub fun a z => .inr z))
    | rf d =>
      rintro σ' v H' S' k ⟨a, o, e1, e2, e3, e4, e5⟩
      subst e1
      refine h _ H' (own0 (Same.trans k.sm hide_full)) (ObjRep.isD (e5.same (hide_sub fun b z => ?_)) e3 fun z => e4 (.inr z))
      rcases z with z | z
      · exact .inl (.inr z)
      · exact .inr z
    | ro i =>
      rintro σ' a H' S' k hi ⟨d, hd⟩
      obtain ⟨b, o, e1, e2, e3⟩ := S'.ow i d hd
      rw [hi] at e1; cases e1
      unfold fin at h
      simp only [hd] at h
      refine h _ H' (own0 (Same.trans k.sm hide_full)) (ObjRep.isD (e3.same ?_) e2 fun z => (S'.xb a z).2 ⟨i, d, hd, hi⟩)
      refine hide_sub fun b z => ?_
      rcases z with z | z
      · exact .inr z
      · subst z; exact .inl ⟨i, d, hd, hi⟩
/-- .. a new object -/
theorem body_endF {c : Cc} {N : List Str} {ds : List D} {vs : List V} {H : Hp} {xs : Addr → Prop} {Q : VK} {E : XK} {r : M (Fl × En)} (hnf : ∀ d env, r ≠ .ok (.rt d, env)) (hnx : ∀ env, r ≠ .ok (.nx, env))
    (h : match fin r with
      | .ok d => ∀ v H', Same H H' → RepV c xs H H' d v → Q v H'
      | .error (.raise k p) => ∀ cls dd H', Same H H' → ExcRep c H' k p cls dd → E cls dd H'
      | .error .stuck => False) :
    WantS c xs (enter N.length ds) (L2.start N vs) H (fun cls d _ H => E cls d H) { nx := fun _ H' => Q .non H', rt := Q } r := by
  have own0 : ∀ {H' : Hp}, Same (hide H (Owns (enter N.length ds) (L2.start N vs))) H' → Same H H' := fun k b o e => k b o (by rw [hide_of enter_owns]; exact e)
  cases r with
  | error e => cases e with
    | raise k p => exact fun cls dd σ' H' _ k' r => h cls dd H' (own0 k') r
    | stuck => exact h
  | ok p =>
    obtain ⟨fl, env'⟩ := p
    cases fl with
    | nx => exact absurd rfl (hnx _)
    | bk => exact h.elim
    | ct => exact h.elim
    | rt d => exact absurd rfl (hnf _ _)
    | rf d =>
      rintro σ' v H' S' k ⟨a, o, e1, e2, e3, e4, e5⟩
      subst e1
      refine h _ H' (own0 (Same.trans k.sm hide_full)) ⟨a, o, rfl, e2, e3, e5.same (hide_sub fun b z => ?_)⟩
      rcases z with z | z
      · exact .inl (.inr z)
      · exact .inr z
    | ro i =>
      rintro σ' a H' S' k hi ⟨d, hd⟩
      obtain ⟨b, o, e1, e2, e3⟩ := S'.ow i d hd
      rw [hi] at e1; cases e1
      unfold fin at h
      simp only [hd] at h
      have n : H a = none := by
        cases q : H a with
        | none => rfl
        | some u =>
          have := k.sm a u (by rw [hide_of enter_owns]; exact q)
          exact absurd (show Owns env' σ' a from ⟨i, d, hd, hi⟩) (hide_some this).1
      refine h _ H' (own0 (Same.trans k.sm hide_full)) ⟨a, o, rfl, n, e2, e3.same (hide_sub fun b z => ?_)⟩
      rcases z with z | z
      · exact .inr z
      · subst z; exact .inl ⟨i, d, hd, hi⟩

abbrev PaOk (X : Cx) : Prop := ∀ hd : Option Value, PassesOwnAt (model X.prog X.w) (X.A.mark hd) X.A X.env X.xe
theorem ctx_def {nn : Bool} {N ps : List Str} {k : Nat} {qual : Str} {st : Stmt} {f : Addr} (S : FnScope N ps (defScope st)) {cdv : Value} {A : Around} {outer : List Env} {s : Shared} {H : Hp} {E : XK} (hr : Room k (A.deeper (envOfC qual (defScope st) s.heap.objs.size f cdv))) :
    Cok nn (cxOf (CXn nn P w) P w K mg base N qual (defScope st) f cdv A outer s H E) (fun cls d _ H => E cls d H) P w K mg base N (defScope st) k false :=
  ⟨rfl, rfl, rfl, rfl, rfl, rfl, rfl, rfl, hr, S.nd, fun _ _ => rfl, by cases nn <;> first | exact L2.takes_of rfl rfl rfl rfl | exact L2N.takes_of rfl rfl rfl rfl, fun _ => passes_of rfl, fun _ => ⟨rfl, rfl⟩⟩

theorem fun_ok {CX : CXT} {x qual : Str} {st : Stmt} {f : Addr} {fd : FuncData} {N ps : List Str} {k : Nat} {sp : Sp} (F : Fun K x qual st f fd) (S : FnScope N ps (defScope st)) (len : ∀ vs H Q E, sp vs H Q E → vs.length = ps.length)
    (hbody : ∀ (cdv : Value) (A : Around) (outer : List Env) (s : Shared) (H : Hp) (vs : List V) (Q : VK) (E : XK), Room k (A.deeper (envOfC qual (defScope st) s.heap.objs.size f cdv)) → sp vs H Q E →
      ∃ t, PSs (cxOf CX P w K mg base N qual (defScope st) f cdv A outer s H E) (defBody st) t ∧ t { nx := fun _ H' => Q .non H', rt := Q } (L2.start N vs) H) : FnOk P w K mg base CX (k + 1) f fd ps sp := by
  obtain ⟨oc, od, kV, doc, pm, an, cdv, ct, osl, rfl, lk, hcd⟩ := F.ex
  exact fn_of lk hcd S len fun A outer s H vs Q E hr hsp => hbody cdv A outer s H vs Q E hr hsp
/-- THE RULE for a def that changes none of its arguments -/
theorem def_pure {nn : Bool} {x qual : Str} {st : Stmt} {f : Addr} {fd : FuncData} {N ps : List Str} {k : Nat} {mf : List D → M D} {body : Sv} (F : Fun K x qual st f fd) (S : FnScope N ps (defScope st)) (hN : ps.length ≤ N.length) (hf : ∀ ds, mf ds = fin (body (enter N.length ds)))
    (hbody : ∀ (X : Cx) (W : WX), Cok nn X W P w K mg base N (defScope st) k false → PaOk X → DSs X g (defBody st) body W) :
    FnOk P w K mg base (CXn nn P w) (k + 1) f fd ps (spP (ck K g) ps.length mf) := by
  refine fun_ok F S (fun vs H Q E ⟨xs, ds, h1, h2, h3, _⟩ => by rw [← h3.len, h1]) (fun cdv A outer s H vs Q E hr ⟨xs, ds, h1, h2, h3, h⟩ => ?_)
  refine ⟨_, hbody _ _ (ctx_def S hr) (L2H.passesAt_of rfl), xs, enter N.length ds, enter_ok (by rw [h1]; exact hN) h2 h3, ?_⟩
  rw [hf] at h
  exact body_end h
/-- .. that hands back a new object -/
theorem def_fresh {nn : Bool} {x qual : Str} {st : Stmt} {f : Addr} {fd : FuncData} {N ps : List Str} {k : Nat} {mf : List D → M D} {body : Sv} (F : Fun K x qual st f fd) (S : FnScope N ps (defScope st)) (hN : ps.length ≤ N.length) (hf : ∀ ds, mf ds = fin (body (enter N.length ds)))
    (hnf : ∀ ds d env, body (enter N.length ds) ≠ .ok (.rt d, env)) (hnx : ∀ ds env, body (enter N.length ds) ≠ .ok (.nx, env))
    (hbody : ∀ (X : Cx) (W : WX), Cok nn X W P w K mg base N (defScope st) k false → PaOk X → DSs X g (defBody st) body W) :
    FnOk P w K mg base (CXn nn P w) (k + 1) f fd ps (spF (ck K g) ps.length mf) := by
  refine fun_ok F S (fun vs H Q E ⟨xs, ds, h1, h2, h3, _⟩ => by rw [← h3.len, h1]) (fun cdv A outer s H vs Q E hr ⟨xs, ds, h1, h2, h3, h⟩ => ?_)
  refine ⟨_, hbody _ _ (ctx_def S hr) (L2H.passesAt_of rfl), xs, enter N.length ds, enter_ok (by rw [h1]; exact hN) h2 h3, ?_⟩
  rw [hf] at h
  exact body_endF (hnf ds) (hnx ds) h
end
end Dn

/-! Dn8 -/
set_option Elab.async false
set_option linter.all false
set_option maxRecDepth 100000
set_option maxHeartbeats 1000000
/-! Dn8: names, calls of own defs, plain statements. -/
namespace Dn
open PySem PySem.Spec L2
open PyProof.Rows hiding St

section
variable {X : Cx} {W : WX} {P : Program} {w : World} {K : PySem.W.Frag} {mg : Str → Option Value} {base : Heap} {N : List Str} {sc : Scope} {k : Nat} {bk nn : Bool} {g : Ce}
variable {pu pu1 pu2 sh sh1 sh2 : Bool} {m m1 m2 : Ev} {a b e : Expr} {es : List Expr} {pos p : Pos} {ma : Av} {shs : List Bool} {x : Str}

/-! ### names -/
def visB (sc : Scope) (x : Str) : Bool := match sc.names.lookup x with
  | some .local | some .cell | some .free => true
  | _ => false
def locB (sc : Scope) (x : Str) : Bool := match sc.names.lookup x with
  | some .local | some .cell => true
  | _ => false
def gloB (sc : Scope) (x : Str) : Bool := match sc.names.lookup x with
  | some .globalImplicit => true
  | _ => false
theorem visB_of (h : visB sc x = true) : Vis sc x := by
  unfold visB at h
  split at h
  · rename_i q; exact .inl q
  · rename_i q; exact .inr (.inl q)
  · rename_i q; exact .inr (.inr q)
  · cases h
theorem locB_of (h : locB sc x = true) : Loc sc x := by
  unfold locB at h
  split at h
  · rename_i q; exact .inl q
  · rename_i q; exact .inr q
  · cases h
theorem gloB_of (C : Cok nn X W P w K mg base N sc k bk) (h : gloB sc x = true) : Gl X x := by
  unfold gloB at h
  split at h
  · rename_i q
    show X.env.scope.names.lookup x = _
    rw [C.es]; exact q
  · cases h
theorem n_pe (C : Cok nn X W P w K mg base N sc k bk) (i : Nat) (x : Str) (hi : N[i]? = some x) (hv : visB sc x = true) (hd : (x == ("__debug__" : Str)) = false) (hcd : (x == ("__classdict__" : Str)) = false) : PE X (.Name x pos) (tVar i) :=
  pe_var (by rw [C.eN]; exact hi) (by rw [C.es]; exact visB_of hv) hd hcd
theorem n_var (C : Cok nn X W P w K mg base N sc k bk) (i : Nat) (x : Str) (hi : N[i]? = some x) (hv : visB sc x = true) (hd : (x == ("__debug__" : Str)) = false) (hcd : (x == ("__classdict__" : Str)) = false) : DE X g true false (.Name x pos) (dVar i) W := e_var i (n_pe C i x hi hv hd hcd)
theorem n_varO (C : Cok nn X W P w K mg base N sc k bk) (i : Nat) (x : Str) (hi : N[i]? = some x) (hv : visB sc x = true) (hd : (x == ("__debug__" : Str)) = false) (hcd : (x == ("__classdict__" : Str)) = false) : DE X g true true (.Name x pos) (dVarO i) W := e_varO i (n_pe C i x hi hv hd hcd)
theorem n_pg (C : Cok nn X W P w K mg base N sc k false) (i : Nat) (x : Str) (hi : N[i]? = some x) (hv : locB sc x = true) : PG X (.Name x pos) (gName i) := by
  have hl := locB_of hv
  refine pg_name (by rw [C.eN]; exact C.nd) (by rw [C.eN]; exact hi) (by rw [C.es]; exact hl) ?_
  rcases hl with h | h
  · exact .inr (by rw [C.es]; exact h)
  · exact .inl (C.fn rfl x)
/-- a module's int constant -/
theorem n_const (C : Cok nn X W P w K mg base N sc k bk) {i : Int} {t : Tok} (hg : gloB sc x = true) (hm : mg x = some (.int i t)) (hd : (x == ("__debug__" : Str)) = false) : DE X g true false (.Name x pos) (dC (.int i)) W :=
  e_const (pe_glob (v := .int i) (u := .int i t) (gloB_of C hg) (by rw [C.em]; exact hm) ⟨t, rfl⟩ hd) fun _ _ => isInt
/-- a def as a value -/
theorem n_fn (C : Cok nn X W P w K mg base N sc k bk) {i : Nat} {f : Addr} (hg : gloB sc x = true) (hm : mg x = some (.ref f)) (hf : g.fa i = some f) (hd : (x == ("__debug__" : Str)) = false) : DE X g true false (.Name x pos) (dC (.fn i)) W :=
  e_const' (pe_glob (v := .ref f) (gloB_of C hg) (by rw [C.em]; exact hm) rfl hd) fun H => by unfold IsD; exact ⟨f, hf, rfl⟩
where
  e_const' {X : Cx} {W : WX} {g : Ce} {e : Expr} {d : D} {v : V} (h : PE X e (tC v)) (k : ∀ H, IsD (cc X g) H d v) : DE X g true false e (dC d) W := PE.imp h fun σ H Q ⟨xs, env, S, w⟩ => w v H (.refl S) (k _)

/-! ### calls of own defs -/
theorem Reps.len {c : Cc} {Z : Addr → Prop} {H : Hp} : ∀ {shs : List Bool} {ds : List D} {vs : List V}, Reps c Z H shs ds vs → ds.length = shs.length
  | [], [], [], _ => rfl
  | _ :: ss, d :: ds, v :: vs, ⟨_, r2⟩ => by simp [Reps.len r2]
  | [], [], _ :: _, r => r.elim
  | [], _ :: _, _, r => r.elim
  | _ :: _, [], _, r => r.elim
  | _ :: _, _ :: _, [], r => r.elim
theorem t_callP {mf : List D → M D} (hs : shs.all (!·) = true) {σ : St} {H : Hp} {Q : VK} (h : tE (cc X g) pu false (dCall mf ma) W σ H Q) : tCallS (spP (cc X g) shs.length mf) (WE W) (tA (cc X g) pu shs ma W) σ H Q := by
  obtain ⟨xs, env, S, w⟩ := h
  refine ⟨xs, env, S, Want.bind w fun ds env' vs H' e s r w' => ?_⟩
  refine ⟨Hid xs env σ, ds, r.len, fun a ha => s.st.hid (by rw [s.hid]; exact ha), r.clean hs, ?_⟩
  dsimp only at w'
  cases q : mf ds with
  | error x =>
    rw [q] at w'
    cases x with
    | raise kk p => exact fun cls dd H2 k2 hx => w' cls dd H2 (s.sm.trans (Same.trans hide_full k2)) hx
    | stuck => exact w'.elim
  | ok d =>
    rw [q] at w'
    exact fun v H2 k2 hd => w' v H2 (s.grow k2) (Rep.of hd)
theorem t_callPF {mf : List D → M D} (hs : shs.all (!·) = true) {σ : St} {H : Hp} {Q : VK} (h : tF (cc X g) pu (dCall mf ma) W σ H Q) : tCallS (spF (cc X g) shs.length mf) (WE W) (tA (cc X g) pu shs ma W) σ H Q := by
  obtain ⟨xs, env, S, w⟩ := h
  refine ⟨xs, env, S, Want.bind w fun ds env' vs H' e s r w' => ?_⟩
  refine ⟨Hid xs env σ, ds, r.len, fun a ha => s.st.hid (by rw [s.hid]; exact ha), r.clean hs, ?_⟩
  dsimp only at w'
  cases q : mf ds with
  | error x =>
    rw [q] at w'
    cases x with
    | raise kk p => exact fun cls dd H2 k2 hx => w' cls dd H2 (s.sm.trans (Same.trans hide_full k2)) hx
    | stuck => exact w'.elim
  | ok d =>
    rw [q] at w'
    exact fun v H2 k2 hr => w' v H2 (s.grow k2) (hr.step s S k2 fun p hp => s.free S hp)
end
/-! nothing but tuples and plain values -/
mutual
def D.flat : D → Bool
  | .non | .bl _ | .int _ | .str _ => true
  | .tup xs => D.flats xs
  | _ => false
def D.flats : List D → Bool
  | [] => true
  | x :: xs => D.flat x && D.flats xs
end
mutual
theorem flat_hide {c : Cc} {H : Hp} {Z Z' : Addr → Prop} (hz : ∀ a ys, Z' a → ¬ Z a → ¬ Rd H a (.tup ys)) : ∀ (d : D) (v : V), d.flat = true → IsD c (hide H Z) d v → IsD c (hide H Z') d v
  | .non, v, _, h => by unfold IsD at h ⊢; exact h
  | .bl _, v, _, h => by unfold IsD at h ⊢; exact h
  | .int _, v, _, h => by unfold IsD at h ⊢; exact h
  | .str _, v, _, h => by unfold IsD at h ⊢; exact h
  | .tup xs, v, f, h => by
    unfold IsD at h ⊢
    obtain ⟨a, vs, e1, e2, e3⟩ := h
    refine ⟨a, vs, e1, ?_, flats_hide hz xs vs (by simpa [D.flat] using f) e3⟩
    rcases e2 with e2 | e2
    · have hn : ¬ Z a := by
        rcases e2 with e2 | ⟨o, e2⟩
        · exact (hide_some e2).1
        · exact (hide_some e2).1
      have hr : Rd H a (.tup vs) := Rd.same hide_full e2
      have hz' : ¬ Z' a := fun z => hz a vs z hn hr
      rcases hr with hr | ⟨o, hr⟩
      · exact .inl (.inl (by rw [hide_of hz']; exact hr))
      · exact .inl (.inr ⟨o, by rw [hide_of hz']; exact hr⟩)
    · exact .inr e2
  | .lst _, v, f, h => by simp [D.flat] at f
  | .dct _ _, v, f, h => by simp [D.flat] at f
  | .fn _, v, f, h => by simp [D.flat] at f
  | .scr _, v, f, h => by simp [D.flat] at f
theorem flats_hide {c : Cc} {H : Hp} {Z Z' : Addr → Prop} (hz : ∀ a ys, Z' a → ¬ Z a → ¬ Rd H a (.tup ys)) : ∀ (ds : List D) (vs : List V), D.flats ds = true → IsDs c (hide H Z) ds vs → IsDs c (hide H Z') ds vs
  | [], vs, _, h => by unfold IsDs at h ⊢; exact h
  | d :: ds, vs, f, h => by
    unfold IsDs at h ⊢
    obtain ⟨v, r, e1, e2, e3⟩ := h
    simp only [D.flats, Bool.and_eq_true] at f
    exact ⟨v, r, e1, flat_hide hz d v f.1 e2, flats_hide hz ds r f.2 e3⟩
end
/-- a shell, seen by who may read all but some tuples -/
def TupsOf (Z : Addr → Prop) (H : Hp) : Addr → Prop := fun b => Z b ∧ ∃ ys, Rd H b (.tup ys)
theorem notTup_lst {H : Hp} {a : Addr} {vs : List V} (h : H a = some (.lst vs)) (ys : List V) : ¬ Rd H a (.tup ys) := fun r => by
  rcases r with r | ⟨o, r⟩ <;> (rw [h] at r; cases r)
theorem notTup_dK {H : Hp} {a : Addr} {kvs : List (Key × V)} (h : Rd H a (.dK kvs)) (ys : List V) : ¬ Rd H a (.tup ys) := fun r => by
  rcases h with h | ⟨u, h⟩ <;> rcases r with r | ⟨o, r⟩ <;> (rw [h] at r; cases r)
theorem notTup_dT {H : Hp} {a : Addr} {kvs : List (List Key × V)} (h : Rd H a (.dT kvs)) (ys : List V) : ¬ Rd H a (.tup ys) := fun r => by
  rcases h with h | ⟨u, h⟩ <;> rcases r with r | ⟨o, r⟩ <;> (rw [h] at r; cases r)
theorem rd_hide {H : Hp} {Z : Addr → Prop} {a : Addr} {o : HO} (h : Rd H a o) (n : ¬ Z a) : Rd (hide H Z) a o := by
  rcases h with h | ⟨u, h⟩
  · exact .inl (by rw [hide_of n]; exact h)
  · exact .inr ⟨u, by rw [hide_of n]; exact h⟩
theorem RepS.open {c : Cc} {Z : Addr → Prop} {H : Hp} {d : D} {v : V} (r : RepS c Z H d v) : IsD c (hide H (TupsOf Z H)) d v := by
  have sub : Same (hide H Z) (hide H (TupsOf Z H)) := hide_sub fun a z => z.1
  cases d with
  | lst ds =>
    obtain ⟨a, vs, rfl, h1, h2⟩ := r
    unfold IsD
    exact ⟨a, vs, rfl, by rw [hide_of fun ⟨_, ys, z⟩ => notTup_lst h1 ys z]; exact h1, h2.same sub⟩
  | dct ks ws =>
    obtain ⟨a, rfl, h⟩ := r
    unfold IsD
    refine ⟨a, rfl, ?_⟩
    rcases h with ⟨kvs, h1, h2, h3⟩ | ⟨kvs, h1, h2, h3⟩
    · exact .inl ⟨kvs, rd_hide h1 fun ⟨_, ys, z⟩ => notTup_dK h1 ys z, h2, h3.same sub⟩
    · exact .inr ⟨kvs, rd_hide h1 fun ⟨_, ys, z⟩ => notTup_dT h1 ys z, h2, h3.same sub⟩
  | _ => exact IsD.same sub _ _ r
theorem RepsS.open {c : Cc} {Z : Addr → Prop} {H : Hp} : ∀ {ds : List D} {vs : List V}, RepsS c Z H ds vs → IsDs c (hide H (TupsOf Z H)) ds vs
  | [], [], _ => IsDs.nil
  | d :: ds, v :: vs, ⟨r1, r2⟩ => IsDs.cons r1.open (RepsS.open r2)
  | [], _ :: _, r => r.elim
  | _ :: _, [], r => r.elim

section
variable {X : Cx} {W : WX} {P : Program} {w : World} {K : PySem.W.Frag} {mg : Str → Option Value} {base : Heap} {N : List Str} {sc : Scope} {k : Nat} {bk nn : Bool} {g : Ce}
variable {pu pu1 pu2 sh sh1 sh2 : Bool} {m m1 m2 : Ev} {a b e : Expr} {es : List Expr} {pos p : Pos} {ma : Av} {shs : List Bool} {x : Str}
/-- a call that is handed lists of one's own: what comes back must be flat -/
def dCallS (f : List D → M D) (ms : Av) : Ev := fun env => bnd (ms env) fun p => bnd (f p.1) fun d => if d.flat = true then .ok (d, p.2) else stuck
theorem t_callPS {mf : List D → M D} {σ : St} {H : Hp} {Q : VK} (h : tE (cc X g) pu false (dCallS mf ma) W σ H Q) : tCallS (spP (cc X g) shs.length mf) (WE W) (tA (cc X g) pu shs ma W) σ H Q := by
  obtain ⟨xs, env, S, w⟩ := h
  refine ⟨xs, env, S, Want.bind w fun ds env' vs H' e s r w' => ?_⟩
  have hP : ∀ a, Hid xs env σ a → H' a ≠ none := fun a ha => s.st.hid (by rw [s.hid]; exact ha)
  refine ⟨TupsOf (Hid xs env σ) H', ds, r.len, fun a ha => hP a ha.1, r.shell.open, ?_⟩
  dsimp only at w'
  cases q : mf ds with
  | error x =>
    rw [q] at w'
    cases x with
    | raise kk p => exact fun cls dd H2 k2 hx => w' cls dd H2 (s.sm.trans (Same.trans hide_full k2)) hx
    | stuck => exact w'.elim
  | ok d =>
    rw [q] at w'
    intro v H2 k2 hd
    dsimp only [bnd] at w'
    split at w'
    · rename_i hf
      refine w' v H2 (s.grow k2) (Rep.of (flat_hide (fun a ys h1 h2 h3 => h2 ⟨h1, ys, ?_⟩) d v hf hd))
      cases q : H' a with
      | none => exact absurd q (hP a h1)
      | some o =>
        have q2 := k2 a o q
        rcases h3 with h3 | ⟨u, h3⟩
        · rw [q2] at h3; cases h3; exact .inl q
        · rw [q2] at h3; cases h3; exact .inr ⟨u, q⟩
    · exact w'.elim

variable {f : Addr} {fd : FuncData} {ps : List Str} {mf : List D → M D}
/-- what a call of an own def wants -/
structure Fok (nn : Bool) (P : Program) (w : World) (K : PySem.W.Frag) (mg : Str → Option Value) (base : Heap) (k : Nat) (x : Str) (sp : Sp) : Prop where
  ex : ∃ (f : Addr) (fd : FuncData) (ps : List Str), mg x = some (.ref f) ∧ FnOk P w K mg base (CXn nn P w) k f fd ps sp ∧ PySem.W.keepIn K (.ref f) = true ∧ Binds K fd ps []
theorem passAtN {X : Cx} {W : WX} {nn : Bool} (tk : Tk nn X W) (σ : St) : PassesAt (CXn nn X.prog X.w) X σ (WE W σ) := by
  cases nn with
  | true => exact L2N.passAt tk σ
  | false => exact L2.passAt tk σ
theorem call_pe (C : Cok nn X W P w K mg base N sc k bk) {j : Nat} {sp : Sp} (F : Fok nn P w K mg base j x sp) (hj : j ≤ k) {t : TA} (hg : gloB sc x = true) (ha : PA X (e :: es) t) (hdb : (x == ("__debug__" : Str)) = false)
    (he : starEach (e :: es) X.env = (false, eval e X.env) :: starEach es X.env) (hpl : (backTo pos (starEach es X.env)).any (·.1) = false) : PE X (.Call (.Name x p) (e :: es) [] pos) (tCallS sp (WE W) t) := by
  obtain ⟨f, fd, ps, hm, G, hk, hb⟩ := F.ex
  have hgl := gloB_of C hg
  have tk := C.tk
  have hr := C.room.mono hj
  obtain ⟨rfl, rfl, rfl, rfl, rfl⟩ := And.intro C.eP (And.intro C.ew (And.intro C.eK (And.intro C.em C.eb)))
  exact pe_callS G hr hgl hm hk hb (fun σ => passAtN tk σ) ha hdb he hpl
theorem e_call (C : Cok nn X W P w K mg base N sc k bk) {j : Nat} (F : Fok nn P w K mg base j x (spP (ck K g) shs.length mf)) (hj : j ≤ k) (hg : gloB sc x = true) (hs : shs.all (!·) = true) (ha : DA X g pu shs (e :: es) ma W) (hdb : (x == ("__debug__" : Str)) = false := by rfl)
    (he : starEach (e :: es) X.env = (false, eval e X.env) :: starEach es X.env := by rfl) (hpl : (backTo pos (starEach es X.env)).any (·.1) = false := by rfl) : DE X g pu false (.Call (.Name x p) (e :: es) [] pos) (dCall mf ma) W := by
  have h := call_pe (p := p) C F hj hg ha hdb he hpl
  obtain rfl := C.eK
  exact PE.imp h fun _ _ _ h => t_callP hs h
theorem f_call (C : Cok nn X W P w K mg base N sc k bk) {j : Nat} (F : Fok nn P w K mg base j x (spF (ck K g) shs.length mf)) (hj : j ≤ k) (hg : gloB sc x = true) (hs : shs.all (!·) = true) (ha : DA X g pu shs (e :: es) ma W) (hdb : (x == ("__debug__" : Str)) = false := by rfl)
    (he : starEach (e :: es) X.env = (false, eval e X.env) :: starEach es X.env := by rfl) (hpl : (backTo pos (starEach es X.env)).any (·.1) = false := by rfl) : DF X g pu (.Call (.Name x p) (e :: es) [] pos) (dCall mf ma) W := by
  have h := call_pe (p := p) C F hj hg ha hdb he hpl
  obtain rfl := C.eK
  exact PE.imp h fun _ _ _ h => t_callPF hs h
theorem e_callS (C : Cok nn X W P w K mg base N sc k bk) {j : Nat} (F : Fok nn P w K mg base j x (spP (ck K g) shs.length mf)) (hj : j ≤ k) (hg : gloB sc x = true) (ha : DA X g pu shs (e :: es) ma W) (hdb : (x == ("__debug__" : Str)) = false := by rfl)
    (he : starEach (e :: es) X.env = (false, eval e X.env) :: starEach es X.env := by rfl) (hpl : (backTo pos (starEach es X.env)).any (·.1) = false := by rfl) : DE X g pu false (.Call (.Name x p) (e :: es) [] pos) (dCallS mf ma) W := by
  have h := call_pe (p := p) C F hj hg ha hdb he hpl
  obtain rfl := C.eK
  exact PE.imp h fun _ _ _ h => t_callPS h

/-! ### a call that changes the object in one's own slot i, its first argument -/
def dCallO (f : D → List D → M (D × D)) (i : Nat) (ms : Av) : Ev := fun env => match env[i]? with
  | some (.ow _) => bnd (ms env) fun p => match p.2[i]? with
    | some (.ow s) => bnd (f s p.1) fun q => .ok (q.1, p.2.set i (.ow q.2))
    | _ => stuck
  | _ => stuck
theorem isOw_keep {env : En} {i : Nat} {d d' : D} (h : env[i]? = some (Sl.ow d)) (j : Nat) : isOw (env.set i (.ow d')) j = isOw env j := by
  by_cases hj : i = j
  · subst hj
    rw [isOw_of h, isOw_of (d := d') (by rw [List.getElem?_set, if_pos rfl, if_pos (List.getElem?_eq_some_iff.mp h).1])]
  · unfold isOw; rw [List.getElem?_set_ne hj]
theorem owns_keep {env : En} {σ : St} {i : Nat} {d d' : D} (h : env[i]? = some (Sl.ow d)) : Owns (env.set i (.ow d')) σ = Owns env σ := by
  funext a
  apply propext
  constructor
  · rintro ⟨j, e, h1, h2⟩
    by_cases hj : i = j
    · subst hj; exact ⟨i, d, h, h2⟩
    · rw [List.getElem?_set_ne hj] at h1; exact ⟨j, e, h1, h2⟩
  · rintro ⟨j, e, h1, h2⟩
    by_cases hj : i = j
    · subst hj
      exact ⟨i, d', by rw [List.getElem?_set, if_pos rfl, if_pos (List.getElem?_eq_some_iff.mp h).1], h2⟩
    · exact ⟨j, e, by rw [List.getElem?_set_ne hj]; exact h1, h2⟩
theorem hide_ne {H : Hp} {a b : Addr} (h : b ≠ a) : hide H (· = a) b = H b := hide_of (P := (· = a)) h
/-- an owned object changed -/
theorem StOk.change {c : Cc} {xs : Addr → Prop} {env : En} {σ : St} {H H' : Hp} {i : Nat} {d d' : D} {a : Addr} {o' : HO} (S : StOk c xs env σ H) (hi : env[i]? = some (Sl.ow d)) (ha : σ[i]? = some (some (V.ref a)))
    (k : Same (hide H (· = a)) (hide H' (· = a))) (ho : H' a = some o') (r : ObjRep c (hide H' (Hid xs env σ)) d' o') : Stp c xs false env (env.set i (.ow d')) σ H H' := by
  have own := owns_keep (σ := σ) (d' := d') hi
  have hid : Hid xs (env.set i (.ow d')) σ = Hid xs env σ := by funext b; unfold Hid; rw [own]
  have oa : Owns env σ a := ⟨i, d, hi, ha⟩
  have up : Same (hide H (Owns env σ)) (hide H' (Owns env σ)) := fun b u hb => by
    obtain ⟨h1, h2⟩ := hide_some hb
    have ne : ¬ b = a := fun z => h1 (z ▸ oa)
    have := k b u (by rw [hide_ne ne]; exact h2)
    rw [hide_of h1]; exact (hide_some this).2
  have upH : Same (hide H (Hid xs env σ)) (hide H' (Hid xs env σ)) := fun b u hb => by
    obtain ⟨h1, h2⟩ := hide_some hb
    have := up b u (by rw [hide_of fun z => h1 (.inl z)]; exact h2)
    rw [hide_of h1]; exact (hide_some this).2
  have at_ : ∀ b u, b ≠ a → H b = some u → H' b = some u := fun b u ne hb => (hide_some (k b u (by rw [hide_ne ne]; exact hb))).2
  refine ⟨⟨by simp [S.len], fun b hb => ?_, fun j e he => ?_, fun j e he => ?_, fun j l e f b h1 h2 h3 h4 => ?_⟩, isOw_keep hi, up, fun z => nomatch z⟩
  · rw [own]
    refine ⟨fun n => ?_, (S.xb b hb).2⟩
    have ne : b ≠ a := fun z => (S.xb b hb).2 (z ▸ oa)
    cases q : H b with
    | none => exact (S.xb b hb).1 q
    | some u => rw [at_ b u ne q] at n; cases n
  · by_cases hj : i = j
    · subst hj
      rw [List.getElem?_set, if_pos rfl] at he
      split at he <;> cases he
    · rw [List.getElem?_set_ne hj] at he
      obtain ⟨v, h1, h2⟩ := S.va j e he
      rw [hid]
      exact ⟨v, h1, h2.same upH⟩
  · rw [hid]
    by_cases hj : i = j
    · subst hj
      rw [List.getElem?_set, if_pos rfl] at he
      split at he
      · cases he
        exact ⟨a, o', ha, ho, r⟩
      · cases he
    · rw [List.getElem?_set_ne hj] at he
      obtain ⟨b, u, h1, h2, h3⟩ := S.ow j e he
      have ne : b ≠ a := fun z => by
        subst z
        exact hj (S.inj i j _ _ _ hi he ha h1)
      exact ⟨b, u, h1, at_ b u ne h2, h3.same upH⟩
  · have key : ∀ {j : Nat} {e : D}, (env.set i (.ow d'))[j]? = some (Sl.ow e) → ∃ e', env[j]? = some (Sl.ow e') := fun {j e} h => by
      by_cases hj : i = j
      · subst hj; exact ⟨d, hi⟩
      · rw [List.getElem?_set_ne hj] at h; exact ⟨e, h⟩
    obtain ⟨e1, q1⟩ := key h1
    obtain ⟨e2, q2⟩ := key h2
    exact S.inj j l e1 e2 b q1 q2 h3 h4
theorem t_callO {mf : D → List D → M (D × D)} {i : Nat} (hs : shs.all (!·) = true) {σ : St} {H : Hp} {Q : VK} (h : tE (cc X g) false false (dCallO mf i ma) W σ H Q) : tCallS (spO (cc X g) shs.length mf) (WE W) (tCons (tVar i) (tA (cc X g) pu shs ma W)) σ H Q := by
  obtain ⟨xs, env, S, w⟩ := h
  unfold dCallO at w
  split at w
  · rename_i d0 hi0
    obtain ⟨a, o0, ha, ho0, hr0⟩ := S.ow i d0 hi0
    refine ⟨.ref a, ha, xs, env, S, Want.bind w fun ds env' vs H' e s r w' => ?_⟩
    dsimp only at w'
    split at w'
    · rename_i d1 hi
      obtain ⟨a', o, ha', ho, hr⟩ := s.st.ow i d1 hi
      rw [ha] at ha'; cases ha'
      have hid := s.hid
      have oa : Owns env σ a := ⟨i, d0, hi0, ha⟩
      have eq : (fun b => b = a ∨ (Hid xs env σ b ∧ b ≠ a)) = Hid xs env σ := by
        funext b
        apply propext
        constructor
        · rintro (rfl | h)
          · exact .inl oa
          · exact h.1
        · intro h
          by_cases q : b = a
          · exact .inl q
          · exact .inr ⟨h, q⟩
      refine ⟨fun b => Hid xs env σ b ∧ b ≠ a, a, o, d1, ds, vs, rfl, r.len, fun b hb => ⟨s.st.hid (by rw [hid]; exact hb.1), hb.2⟩, ho, ?_, ?_, ?_⟩
      · rw [eq, ← hid]; exact hr
      · rw [eq]; exact r.clean hs
      · have oa' : Owns env' σ a := ⟨i, d1, hi, ha⟩
        have upO : ∀ {H2 : Hp}, Same (hide H' (· = a)) H2 → Same (hide H' (Owns env' σ)) H2 := fun k2 b u hb => by
          obtain ⟨h1, h2⟩ := hide_some hb
          have ne : b ≠ a := fun z => h1 (by rw [z]; exact oa')
          exact k2 b u (by rw [hide_ne ne]; exact h2)
        cases q : mf d1 ds with
        | error x =>
          rw [q] at w'
          cases x with
          | raise kk p => exact fun cls dd H2 k2 hx => w' cls dd H2 (s.sm.trans (by have := upO k2; rw [s.own] at this; exact this)) hx
          | stuck => exact w'.elim
        | ok p =>
          obtain ⟨d, s'⟩ := p
          rw [q] at w'
          intro v H2 o' k2 ho' hr' hd
          rw [eq] at hr' hd
          have st2 := s.st.change (d' := s') hi ha k2 ho' (by rw [hid]; exact hr')
          exact w' v H2 ((s.trans st2).weak fun z => nomatch z) hd
    · exact w'.elim
  · exact w.elim
theorem e_callO (C : Cok nn X W P w K mg base N sc k bk) {j : Nat} {mf : D → List D → M (D × D)} {y : Str} {py : Pos} (F : Fok nn P w K mg base j x (spO (ck K g) shs.length mf)) (hj : j ≤ k) (hg : gloB sc x = true) (hs : shs.all (!·) = true) (i : Nat) (hy : PE X (.Name y py) (tVar i)) (ha : DA X g pu shs es ma W)
    (hdb : (x == ("__debug__" : Str)) = false := by rfl) (he : starEach (.Name y py :: es) X.env = (false, eval (.Name y py) X.env) :: starEach es X.env := by rfl) (hpl : (backTo pos (starEach es X.env)).any (·.1) = false := by rfl) :
    DE X g false false (.Call (.Name x p) (.Name y py :: es) [] pos) (dCallO mf i ma) W := by
  have h := call_pe (p := p) C F hj hg (pa_cons hy ha he) hdb he hpl
  obtain rfl := C.eK
  exact PE.imp h fun _ _ _ h => t_callO hs h
end
end Dn

/-! Dn9 -/
set_option Elab.async false
set_option linter.all false
set_option maxRecDepth 100000
set_option maxHeartbeats 1000000
/-! Dn9: statements. -/
namespace Dn
open PySem PySem.Spec L2
open PyProof.Rows hiding St

/-! ### going on behind a statement -/
section
variable {c : Cc} {xs : Addr → Prop} {env env' : En} {σ σ' : St} {H H' : Hp} {W : WX} {E E' : Ends} {r : M (Fl × En)} {pu : Bool}
theorem WantS.after (k : Kept env σ H env' σ' H') (h : WantS c xs env σ H W E r) : WantS c xs env' σ' H' W E r := by
  cases r with
  | error e => cases e with
    | raise kk p => exact fun cls dd σ2 H2 hl q hx => h cls dd σ2 H2 (hl.trans k.ln) (k.sm.trans q) hx
    | stuck => exact h
  | ok p =>
    obtain ⟨fl, env2⟩ := p
    cases fl with
    | nx => exact fun σ2 H2 S q => h σ2 H2 S (k.trans q)
    | bk => exact fun σ2 H2 S q => h σ2 H2 S (k.trans q)
    | ct => exact fun σ2 H2 S q => h σ2 H2 S (k.trans q)
    | rt d => exact fun σ2 v H2 S q hd => h σ2 v H2 S (k.trans q) hd
    | rf d =>
      rintro σ2 v H2 S q ⟨a, o, e1, e2, e3⟩
      refine h σ2 v H2 S (k.trans q) ⟨a, o, e1, ?_, e3⟩
      cases z : H a with
      | none => rfl
      | some u => exact absurd e2 (k.th a (by rw [z]; exact fun w => nomatch w))
    | ro i => exact fun σ2 a H2 S q h1 h2 => h σ2 a H2 S (k.trans q) h1 h2
theorem WantS.ends {nx bk ct : St → Hp → Prop} (h : WantS c xs env σ H W E r)
    (h1 : ∀ env' σ' H', r = .ok (.nx, env') → StOk c xs env' σ' H' → Kept env σ H env' σ' H' → nx σ' H') (h2 : ∀ env' σ' H', r = .ok (.bk, env') → StOk c xs env' σ' H' → Kept env σ H env' σ' H' → bk σ' H')
    (h3 : ∀ env' σ' H', r = .ok (.ct, env') → StOk c xs env' σ' H' → Kept env σ H env' σ' H' → ct σ' H') : WantS c xs env σ H W { E with nx := nx, bk := bk, ct := ct } r := by
  cases r with
  | error e => cases e with
    | raise kk p => exact h
    | stuck => exact h
  | ok p =>
    obtain ⟨fl, env2⟩ := p
    cases fl with
    | nx => exact fun σ2 H2 S q => h1 env2 σ2 H2 rfl S q
    | bk => exact fun σ2 H2 S q => h2 env2 σ2 H2 rfl S q
    | ct => exact fun σ2 H2 S q => h3 env2 σ2 H2 rfl S q
    | rt d => exact h
    | rf d => exact h
    | ro i => exact h
/-- from a statement's outcome to an expression's -/
theorem WantS.bindE {α β : Type} {R : α → En → β → Hp → Prop} {Q : β → Hp → Prop} {m : M (α × En)} {f : α × En → M (Fl × En)} (h : WantS c xs env σ H W E (bnd m f))
    (k : ∀ d env' v H', m = .ok (d, env') → Stp c xs pu env env' σ H H' → R d env' v H' → WantS c xs env σ H W E (f (d, env')) → Q v H') : Want c xs pu env σ H R W Q m := by
  cases m with
  | error e => cases e with
    | raise kk p => exact fun cls dd H2 q hx => h cls dd σ H2 rfl q hx
    | stuck => exact h
  | ok p =>
    obtain ⟨d, env'⟩ := p
    exact fun v H' s r => k d env' v H' rfl s r h
theorem Stp.kept (s : Stp c xs pu env env' σ H H') : Kept env σ H env' σ H' := ⟨by rw [s.own]; exact s.sm, s.th, fun h => ⟨(s.shp 0).trans h, rfl⟩, rfl⟩
theorem kept_set_va {i : Nat} {d : D} {v : V} (h0 : isOw env 0 = true → i ≠ 0) : Kept env σ H (env.set i (.va d)) (σ.set i (some v)) H :=
  ⟨hide_sub fun a z => owns_set_va z, fun _ h => h, fun h => ⟨(isOw_get0 (by rw [List.getElem?_set_ne (h0 h)])).trans h, by rw [List.getElem?_set_ne (h0 h)]⟩, by rw [List.length_set]⟩
theorem kept_va {i : Nat} {d : D} {v : V} (s : Stp c xs pu env env' σ H H') (h0 : isOw env' 0 = true → i ≠ 0) : Kept env σ H (env'.set i (.va d)) (σ.set i (some v)) H' := s.kept.trans (kept_set_va h0)
end

section
variable {X : Cx} {W : WX} {P : Program} {w : World} {K : PySem.W.Frag} {mg : Str → Option Value} {base : Heap} {N : List Str} {sc : Scope} {k : Nat} {bk nn : Bool} {g : Ce}
variable {pu pu1 pu2 sh sh1 sh2 : Bool} {m m1 m2 : Ev} {a b e : Expr} {es : List Expr} {pos p pos' : Pos} {ma : Av} {shs : List Bool} {x : Str} {st : Stmt} {sts sts' : List Stmt} {ms ms1 ms2 : Sv} {t : Tv}

/-! ### blocks -/
def bNil : Sv := fun env => .ok (.nx, env)
def bSeq (s ss : Sv) : Sv := fun env => bnd (s env) fun p => match p.1 with
  | .nx => ss p.2
  | f => .ok (f, p.2)
theorem ss_nil : DSs X g [] bNil W := PSs.imp pss_nil fun E σ H ⟨xs, env, S, w⟩ => w σ H S .refl
theorem ss_one (h : DS X g st ms W) : DSs X g [st] ms W := pss_one h
theorem ss_cons (h1 : DS X g st ms1 W) (h2 : DSs X g sts ms2 W) : DSs X g (st :: sts) (bSeq ms1 ms2) W := PSs.imp (pss_cons h1 h2) fun E σ H ⟨xs, env, S, w⟩ => by
  refine ⟨xs, env, S, ?_⟩
  unfold bSeq at w
  generalize hr : ms1 env = r at w ⊢
  cases r with
  | error e => cases e with
    | raise kk p => exact w
    | stuck => exact w
  | ok p =>
    obtain ⟨fl, env2⟩ := p
    cases fl with
    | nx => exact fun σ2 H2 S2 q => ⟨xs, env2, S2, WantS.after q w⟩
    | bk => exact w
    | ct => exact w
    | rt d => exact w
    | rf d => exact w
    | ro i => exact w

/-! ### stores -/
def sSet (i : Nat) (m : Ev) : Sv := fun env => bnd (m env) fun p => bnd (put i (.va p.1) p.2) fun env' => .ok (.nx, env')
def sSetO (i : Nat) (m : Ev) : Sv := fun env => bnd (m env) fun p => bnd (put i (.ow p.1) p.2) fun env' => .ok (.nx, env')
theorem t_set {i : Nat} {E : Ends} {σ : St} {H : Hp} (h : tS (cc X g) (sSet i m) W E σ H) : tAsg (tE (cc X g) pu false m W) (gName i) E σ H := by
  obtain ⟨xs, env, S, w⟩ := h
  refine ⟨xs, env, S, WantS.bindE w fun d env' v H' e s r w' => ?_⟩
  have r' : IsD (cc X g) (hide H' (Hid xs env σ)) d v := r
  rw [← s.hid] at r'
  dsimp only at w'
  rcases put_cases i (.va d) env' with q | ⟨q, h0⟩ <;> rw [q] at w'
  · exact w'.elim
  · exact w' _ H' (s.st.setVa i r') (kept_va s h0)
theorem t_setO {i : Nat} {E : Ends} {σ : St} {H : Hp} (h : tS (cc X g) (sSetO i m) W E σ H) : tAsg (tF (cc X g) pu m W) (gName i) E σ H := by
  obtain ⟨xs, env, S, w⟩ := h
  refine ⟨xs, env, S, WantS.bindE w fun d env' v H' e s r w' => ?_⟩
  dsimp only at w'
  rcases put_cases i (.ow d) env' with q | ⟨q, h0⟩ <;> rw [q] at w'
  · exact w'.elim
  · obtain ⟨h1, h2⟩ := s.setOw S i h0 r
    exact w' _ H' h1 h2
theorem set_pe (C : Cok nn X W P w K mg base N sc k false) {te : TE} (i : Nat) (hi : N[i]? = some x) (hl : locB sc x = true) (he : PE X e te) (hs : swapsWith e (some (.Name x pos')) pos.line X.env = pure false) : PS X (.Assign [.Name x pos'] e pos) (tAsg te (gName i)) := by
  have hl := locB_of hl
  refine ps_set (by rw [C.eN]; exact C.nd) (by rw [C.eN]; exact hi) (by rw [C.es]; exact hl) he hs ?_
  rcases hl with h | h
  · exact .inr (by rw [C.es]; exact h)
  · exact .inl (C.fn rfl x)
theorem s_set (C : Cok nn X W P w K mg base N sc k false) (i : Nat) (hi : N[i]? = some x) (hl : locB sc x = true) (he : DE X g pu false e m W) (hs : swapsWith e (some (.Name x pos')) pos.line X.env = pure false := by rfl) : DS X g (.Assign [.Name x pos'] e pos) (sSet i m) W :=
  PS.imp (set_pe C i hi hl he hs) fun _ _ _ h => t_set h
theorem s_setO (C : Cok nn X W P w K mg base N sc k false) (i : Nat) (hi : N[i]? = some x) (hl : locB sc x = true) (he : DF X g pu e m W) (hs : swapsWith e (some (.Name x pos')) pos.line X.env = pure false := by rfl) : DS X g (.Assign [.Name x pos'] e pos) (sSetO i m) W :=
  PS.imp (set_pe C i hi hl he hs) fun _ _ _ h => t_setO h

/-! ### an expression dropped; returns; flow -/
def sDrop (m : Ev) : Sv := fun env => bnd (m env) fun p => .ok (.nx, p.2)
theorem s_drop (he : DE X g pu sh e m W) (hs : swapsWith e none pos.line X.env = pure false := by rfl) : DS X g (.Expr e pos) (sDrop m) W := PS.imp (ps_expr he hs) fun E σ H ⟨xs, env, S, w⟩ =>
  ⟨xs, env, S, WantS.bindE w fun d env' v H' e s r w' => w' σ H' s.st s.kept⟩
def sRet (m : Ev) : Sv := fun env => bnd (m env) fun p => .ok (.rt p.1, p.2)
def sRetF (m : Ev) : Sv := fun env => bnd (m env) fun p => .ok (.rf p.1, p.2)
def sRetO (i : Nat) : Sv := fun env => match env[i]? with
  | some (.ow _) => .ok (.ro i, env)
  | _ => stuck
def sRetN : Sv := fun env => .ok (.rt .non, env)
theorem s_ret (he : DE X g pu false e m W) : DS X g (.Return (some e) pos) (sRet m) W := PS.imp (ps_ret he) fun E σ H ⟨xs, env, S, w⟩ =>
  ⟨xs, env, S, WantS.bindE w fun d env' v H' e s r w' => w' σ v H' s.st s.kept (by rw [s.hid]; exact r)⟩
theorem s_retF (he : DF X g pu e m W) : DS X g (.Return (some e) pos) (sRetF m) W := PS.imp (ps_ret he) fun E σ H ⟨xs, env, S, w⟩ =>
  ⟨xs, env, S, WantS.bindE w fun d env' v H' e s r w' => w' σ v H' s.st s.kept (by
    obtain ⟨a, o, e1, e2, e3, _, e5⟩ := r
    exact ⟨a, o, e1, e2, e3, by rw [s.hid]; exact S.newHid e2, e5⟩)⟩
theorem s_retO (i : Nat) (he : PE X (.Name x pos') (tVar i)) : DS X g (.Return (some (.Name x pos')) pos) (sRetO i) W := PS.imp (ps_ret he) fun E σ H ⟨xs, env, S, w⟩ => by
  unfold sRetO at w
  split at w
  · rename_i d hd
    obtain ⟨a, o, h1, h2, h3⟩ := S.ow i d hd
    exact ⟨.ref a, h1, w σ a H S .refl h1 ⟨d, hd⟩⟩
  · exact w.elim
theorem s_retN : DS X g (.Return none pos) sRetN W := PS.imp ps_retN fun E σ H ⟨xs, env, S, w⟩ => w σ .non H S .refl isNon
def sPass : Sv := fun env => .ok (.nx, env)
def sBreak : Sv := fun env => .ok (.bk, env)
def sCont : Sv := fun env => .ok (.ct, env)
theorem s_pass : DS X g (.Pass pos) sPass W := PS.imp ps_pass fun E σ H ⟨xs, env, S, w⟩ => w σ H S .refl
theorem s_break : DS X g (.Break pos) sBreak W := PS.imp ps_break fun E σ H ⟨xs, env, S, w⟩ => w σ H S .refl
theorem s_cont : DS X g (.Continue pos) sCont W := PS.imp ps_continue fun E σ H ⟨xs, env, S, w⟩ => w σ H S .refl
def sIf (t : Tv) (a b : Sv) : Sv := fun env => bnd (t env) fun p => if p.1 = true then a p.2 else b p.2
theorem s_if (ht : DT X g pu e t W) (ha : DSs X g sts ms1 W) (hb : DSs X g sts' ms2 W) : DS X g (.If e sts sts' pos) (sIf t ms1 ms2) W := PS.imp (ps_if ht ha hb) fun E σ H ⟨xs, env, S, w⟩ =>
  ⟨xs, env, S, WantS.bindE w fun d env' v H' e s r w' => by
    have r' : v = d := r
    subst r'
    cases v with
    | true =>
      rw [if_pos rfl] at w'
      rw [if_pos rfl]
      exact ⟨xs, env', s.st, WantS.after s.kept w'⟩
    | false =>
      rw [if_neg Bool.false_ne_true] at w'
      rw [if_neg Bool.false_ne_true]
      exact ⟨xs, env', s.st, WantS.after s.kept w'⟩⟩

/-! ### while -/
def whileN (t : Tv) (b : Sv) : Nat → Sv
  | 0, _ => stuck
  | n + 1, env => bnd (t env) fun p => if p.1 = true then bnd (b p.2) fun q => match q.1 with
      | .nx => whileN t b n q.2
      | .ct => whileN t b n q.2
      | .bk => .ok (.nx, q.2)
      | f => .ok (f, q.2)
    else .ok (.nx, p.2)
/-- as many turns as the model is asked for -/
def manyTurns : Nat := 1000000000
def sWhile (t : Tv) (b : Sv) : Sv := whileN t b manyTurns
theorem s_while (C : Cok nn X W P w K mg base N sc k false) (ht : DT X g pu e t W) (hb : DSs X g sts ms W) : DS X g (.While e sts [] pos) (sWhile t ms) W := PS.imp (ps_while (C.own rfl) ht hb) fun E σ H ⟨xs, env, S, w⟩ => by
  refine ⟨fun n σ' H' => ∃ env', StOk (cc X g) xs env' σ' H' ∧ WantS (cc X g) xs env' σ' H' W E (whileN t ms n env'), ⟨manyTurns, env, S, w⟩, ?_⟩
  rintro n σ1 H1 ⟨env1, S1, w1⟩
  cases n with
  | zero => exact w1.elim
  | succ n =>
    refine ⟨xs, env1, S1, WantS.bindE w1 fun d env2 v H2 e s r w2 => ?_⟩
    have r' : v = d := r
    subst r'
    cases v with
    | false =>
      rw [if_neg Bool.false_ne_true] at w2
      rw [if_neg Bool.false_ne_true]
      exact w2 σ1 H2 s.st s.kept
    | true =>
      rw [if_pos rfl] at w2
      rw [if_pos rfl]
      refine ⟨fun σ' H' => ∃ env', StOk (cc X g) xs env' σ' H' ∧ WantS (cc X g) xs env' σ' H' W E (whileN t ms n env'), fun σ' H' h => ⟨n, Nat.lt_succ_self n, h⟩, xs, env2, s.st, ?_⟩
      have w3 := WantS.after s.kept w2
      dsimp only at w3
      generalize hr : ms env2 = r2 at w3 ⊢
      cases r2 with
      | error e => cases e with
        | raise kk p => exact w3
        | stuck => exact w3
      | ok p =>
        obtain ⟨fl, env3⟩ := p
        cases fl with
        | nx => exact fun σ4 H4 S4 q => ⟨env3, S4, WantS.after q w3⟩
        | ct => exact fun σ4 H4 S4 q => ⟨env3, S4, WantS.after q w3⟩
        | bk => exact w3
        | rt d => exact w3
        | rf d => exact w3
        | ro i => exact w3
end
end Dn

/-! Dn10 -/
set_option Elab.async false
set_option linter.all false
set_option maxRecDepth 100000
set_option maxHeartbeats 1000000
/-! Dn10: what is walked; targets; for. -/
namespace Dn
open PySem PySem.Spec L2
open PyProof.Rows hiding St

/-- J gives ds, one after another, while G0 stands -/
def ItOk (c : Cc) (G0 : Hp) (J : It) (ds : List D) : Prop :=
  ∃ (G : Hp → Prop) (Y : Nat → Hp → V → Hp → Prop), Walk J ds.length G Y ∧ (∀ H, Same G0 H → G H) ∧
    ∀ i x H H' d, ds[i]? = some d → Same G0 H → Y i H x H' → Same H H' ∧ ∀ Z : Addr → Prop, Same G0 (hide H Z) → (∀ a, Z a → H a ≠ none) → IsD c (hide H' Z) d x
theorem ItOk.same {c : Cc} {G0 G1 : Hp} {J : It} {ds : List D} (k : Same G0 G1) (h : ItOk c G0 J ds) : ItOk c G1 J ds := by
  obtain ⟨G, Y, h1, h2, h3⟩ := h
  exact ⟨G, Y, h1, fun H z => h2 H (k.trans z), fun i x H H' d e z y => by
    obtain ⟨p, q⟩ := h3 i x H H' d e (k.trans z) y
    exact ⟨p, fun Z a b => q Z (k.trans a) b⟩⟩

abbrev Iv := En → M (List D × En)
def tI (c : Cc) (pu : Bool) (m : Iv) (W : WX) : TI := fun σ H R => ∃ xs env, StOk c xs env σ H ∧ Want c xs pu env σ H (fun ds _ J H' => ItOk c (hide H' (Hid xs env σ)) J ds) W R (m env)
abbrev DI (X : Cx) (g : Ce) (tg : Expr) (pu : Bool) (e : Expr) (m : Iv) (W : WX) : Prop := PI X tg e (tI (cc X g) pu m W)
theorem PI.imp {X : Cx} {tg e : Expr} {t t' : TI} (h : PI X tg e t) (k : ∀ σ H Q, t' σ H Q → t σ H Q) : PI X tg e t' := ⟨fun pins s σ H Q I w => h.run pins s σ H Q I (k _ _ _ w)⟩
theorem PI.or {X : Cx} {tg e : Expr} {t t' : TI} (h : PI X tg e t) (h' : PI X tg e t') : PI X tg e (fun σ H Q => t σ H Q ∨ t' σ H Q) := ⟨fun pins s σ H Q I w => w.elim (h.run pins s σ H Q I) (h'.run pins s σ H Q I)⟩

theorem itok_lst {c : Cc} {G0 : Hp} {a : Addr} {ds : List D} {vs : List V} (h : SqL c.K G0 a vs) (r : IsDs c G0 ds vs) : ItOk c G0 (Itl c.K a) ds := by
  refine ⟨fun H => SqL c.K H a vs, YAt vs, by rw [r.len]; exact walk_list, fun H z => z.seq h, fun i x H H' d e z y => ?_⟩
  obtain ⟨rfl, y⟩ := y
  refine ⟨Same.refl _, fun Z k _ => ?_⟩
  obtain ⟨v, h1, h2⟩ := r.getD e
  rw [y] at h1; cases h1
  exact h2.same k
theorem itok_tup {c : Cc} {G0 : Hp} {a : Addr} {ds : List D} {vs : List V} (h : SqT c.K G0 a vs) (r : IsDs c G0 ds vs) : ItOk c G0 (Itt c.K a) ds := by
  refine ⟨fun H => SqT c.K H a vs, YAt vs, by rw [r.len]; exact walk_tup, fun H z => SqT.same z h, fun i x H H' d e z y => ?_⟩
  obtain ⟨rfl, y⟩ := y
  refine ⟨Same.refl _, fun Z k _ => ?_⟩
  obtain ⟨v, h1, h2⟩ := r.getD e
  rw [y] at h1; cases h1
  exact h2.same k
def signs (x : Str) : List D := x.cps.toList.map fun k => .str ⟨#[k]⟩
theorem itok_str {c : Cc} {G0 : Hp} {x : Str} : ItOk c G0 (Its x) (signs x) := by
  refine ⟨fun _ => True, _, by unfold signs; rw [List.length_map, Array.length_toList]; exact walk_str, fun _ _ => trivial, fun i v H H' d e z y => ?_⟩
  obtain ⟨rfl, k, h1, rfl⟩ := y
  refine ⟨Same.refl _, fun Z _ _ => ?_⟩
  unfold signs at e
  rw [List.getElem?_map, Array.getElem?_toList, h1] at e
  cases e
  exact isStr
def rngD (lo st : Int) (n : Nat) : List D := (List.range n).map fun i : Nat => D.int (lo + (i : Int) * st)
theorem itok_rng {c : Cc} {G0 : Hp} {lo : Int} {n : Nat} : ItOk c G0 (Itr lo n) (rngD lo 1 n) := by
  refine ⟨fun _ => True, _, by unfold rngD; rw [List.length_map, List.length_range]; exact walk_range, fun _ _ => trivial, fun i v H H' d e z y => ?_⟩
  obtain ⟨rfl, rfl⟩ := y
  refine ⟨Same.refl _, fun Z _ _ => ?_⟩
  unfold rngD at e
  rw [List.getElem?_map] at e
  cases q : (List.range n)[i]? with
  | none => rw [q] at e; cases e
  | some j =>
    rw [q] at e
    rw [List.getElem?_range (by have := (List.getElem?_eq_some_iff.mp q).1; simpa using this)] at q
    cases q; cases e
    show IsD c _ (.int (lo + (i : Int) * 1)) (.int (lo + i))
    rw [Int.mul_one]
    exact isInt
theorem itok_rngC {c : Cc} {G0 : Hp} {lo st : Int} {n : Nat} : ItOk c G0 (Itc lo st n) (rngD lo st n) := by
  refine ⟨fun _ => True, _, by unfold rngD; rw [List.length_map, List.length_range]; exact walk_rangeC, fun _ _ => trivial, fun i v H H' d e z y => ?_⟩
  obtain ⟨rfl, rfl⟩ := y
  refine ⟨Same.refl _, fun Z _ _ => ?_⟩
  unfold rngD at e
  rw [List.getElem?_map] at e
  cases q : (List.range n)[i]? with
  | none => rw [q] at e; cases e
  | some j =>
    rw [q] at e
    rw [List.getElem?_range (by have := (List.getElem?_eq_some_iff.mp q).1; simpa using this)] at q
    cases q; cases e
    exact isInt

section
variable {X : Cx} {g : Ce} {W : WX} {pu pu1 pu2 sh sh1 sh2 : Bool} {m m1 m2 : Ev} {a b e tg : Expr} {es : List Expr} {pos : Pos} {ma : Av} {shs : List Bool} {mi : Iv}
theorem PI.impure (h : DI X g tg true e mi W) : DI X g tg false e mi W := PI.imp h fun σ H Q ⟨xs, env, S, w⟩ =>
  ⟨xs, env, S, w.imp fun d env' v H' e s r k => k (s.weak fun z => nomatch z) r⟩
def dItems (m : Ev) : Iv := fun env => bnd (m env) fun p => match p.1 with
  | .lst xs => .ok (xs, p.2)
  | .tup xs => .ok (xs, p.2)
  | .str x => .ok (signs x, p.2)
  | .scr ns => .ok (ns.map D.int, p.2)
  | _ => stuck
theorem isDs_ints {c : Cc} {H : Hp} : ∀ ns : List Int, IsDs c H (ns.map D.int) (ns.map V.int)
  | [] => IsDs.nil
  | n :: ns => IsDs.cons isInt (isDs_ints ns)
theorem SqL.hid {K : PySem.W.Frag} {H : Hp} {P : Addr → Prop} {a : Addr} {xs : List V} (h : SqL K (hide H P) a xs) : SqL K H a xs := Same.seq hide_full h
theorem SqT.hid {K : PySem.W.Frag} {H : Hp} {P : Addr → Prop} {a : Addr} {xs : List V} (h : SqT K (hide H P) a xs) : SqT K H a xs := SqT.same hide_full h
theorem i_items (h : DE X g pu false e m W) : DI X g tg pu e (dItems m) W :=
  PI.imp (PI.or (pi_list h) (PI.or (pi_tup h) (pi_str (tg := tg) h))) fun σ H Q ⟨xs, env, S, w⟩ => by
    have w0 := w
    unfold dItems at w0
    cases q : m env with
    | error x =>
      rw [q] at w0
      refine .inl ⟨xs, env, S, ?_⟩
      rw [q]
      cases x with
      | raise k p => exact w0
      | stuck => exact w0.elim
    | ok p =>
      obtain ⟨d, env'⟩ := p
      have key : ∀ {R' : V → Hp → Prop}, (∀ v H', Stp (cc X g) xs pu env env' σ H H' → IsD (cc X g) (hide H' (Hid xs env σ)) d v → R' v H') → tE (cc X g) pu false m W σ H R' := fun k => ⟨xs, env, S, by
        rw [q]; exact fun v H' s r => k v H' s r⟩
      rw [q] at w0
      simp only [bnd_ok] at w0
      split at w0
      · rename_i ds
        refine .inl (key fun v H' s r => ?_)
        unfold IsD at r
        obtain ⟨l, vs, e1, e2, e3⟩ := r
        have hq : SqL X.K (hide H' (Hid xs env σ)) l vs := SqL.of e2
        exact ⟨l, e1, ⟨vs, SqL.hid hq⟩, w0 _ H' s (itok_lst hq e3)⟩
      · rename_i ds
        refine .inr (.inl (key fun v H' s r => ?_))
        unfold IsD at r
        obtain ⟨l, vs, e1, e2, e3⟩ := r
        exact ⟨l, e1, ⟨vs, SqT.hid e2⟩, w0 _ H' s (itok_tup e2 e3)⟩
      · rename_i x
        refine .inr (.inr (key fun v H' s r => ?_))
        unfold IsD at r
        exact ⟨x, r, w0 _ H' s itok_str⟩
      · rename_i ns
        refine .inl (key fun v H' s r => ?_)
        unfold IsD at r
        obtain ⟨l, e1, e2⟩ := r
        exact ⟨l, e1, ⟨_, SqL.hid e2⟩, w0 _ H' s (itok_lst e2 (isDs_ints ns))⟩
      · exact w0.elim
end
end Dn

/-! Dn11 -/
set_option Elab.async false
set_option linter.all false
set_option maxRecDepth 100000
set_option maxHeartbeats 1000000
/-! Dn11: ranges, targets, for. -/
namespace Dn
open PySem PySem.Spec L2
open PyProof.Rows hiding St

section
variable {X : Cx} {P : Program} {w : World} {K : PySem.W.Frag} {mg : Str → Option Value} {base : Heap} {N : List Str} {sc : Scope} {k : Nat} {bk nn : Bool} {g : Ce} {W : WX}
variable {pu pu1 pu2 sh sh1 sh2 : Bool} {m m1 m2 : Ev} {a b e tg : Expr} {es : List Expr} {pos p : Pos} {ma : Av} {shs : List Bool} {mi : Iv} {x : Str} {sts : List Stmt} {ms : Sv}

/-! ### ranges -/
def smallI (j : Int) : Bool := decide (-4611686018427387904 ≤ j) && decide (j < 4611686018427387904)
def dRng (ms : Av) : Iv := fun env => bnd (ms env) fun p => match p.1 with
  | [.int j] => if smallI j = true then .ok (rngD 0 1 j.toNat, p.2) else stuck
  | [.int i, .int j] => if (smallI i && smallI j) = true then .ok (rngD i 1 (j - i).toNat, p.2) else stuck
  | [.int i, .int j, .int s] => if (smallI i && smallI j && decide (s = -1)) = true then .ok (rngD i s (i - j).toNat, p.2) else stuck
  | _ => stuck
theorem smallI_of {j : Int} (h : smallI j = true) : -(2 ^ 62) ≤ j ∧ j < 2 ^ 62 := by
  unfold smallI at h
  simp only [Bool.and_eq_true, decide_eq_true_eq] at h
  omega
theorem Reps.one {c : Cc} {P : Addr → Prop} {H : Hp} {d : D} {vs : List V} (r : Reps c P H shs [d] vs) : ∃ v, vs = [v] ∧ RepS c P H d v := by
  cases shs with
  | nil => cases vs <;> exact r.elim
  | cons s ss => cases ss with
    | nil => cases vs with
      | nil => exact r.elim
      | cons v vs => cases vs with
        | nil => exact ⟨v, rfl, r.1.shell⟩
        | cons _ _ => exact r.2.elim
    | cons _ _ => cases vs with
      | nil => exact r.elim
      | cons v vs => exact r.2.elim
theorem RepsS.one {c : Cc} {P : Addr → Prop} {H : Hp} {d : D} {vs : List V} (r : RepsS c P H [d] vs) : ∃ v, vs = [v] ∧ RepS c P H d v := by
  cases vs with
  | nil => exact r.elim
  | cons v vs => cases vs with
    | nil => exact ⟨v, rfl, r.1⟩
    | cons _ _ => exact r.2.elim
theorem RepsS.two {c : Cc} {P : Addr → Prop} {H : Hp} {d d2 : D} {vs : List V} (r : RepsS c P H [d, d2] vs) : ∃ v v2, vs = [v, v2] ∧ RepS c P H d v ∧ RepS c P H d2 v2 := by
  cases vs with
  | nil => exact r.elim
  | cons v vs => obtain ⟨v2, rfl, q⟩ := RepsS.one r.2; exact ⟨v, v2, rfl, r.1, q⟩
theorem RepsS.three {c : Cc} {P : Addr → Prop} {H : Hp} {d d2 d3 : D} {vs : List V} (r : RepsS c P H [d, d2, d3] vs) : ∃ v v2 v3, vs = [v, v2, v3] ∧ RepS c P H d v ∧ RepS c P H d2 v2 ∧ RepS c P H d3 v3 := by
  cases vs with
  | nil => exact r.elim
  | cons v vs => obtain ⟨v2, v3, rfl, q⟩ := RepsS.two r.2; exact ⟨v, v2, v3, rfl, r.1, q⟩
theorem Reps.bad1 {c : Cc} {P : Addr → Prop} {H : Hp} {s : Bool} {d d2 : D} {ds : List D} {vs : List V} (r : Reps c P H [s] (d :: d2 :: ds) vs) : False := by
  cases vs with
  | nil => exact r.elim
  | cons v vs => cases vs <;> exact r.2.elim
theorem Reps.bad2 {c : Cc} {P : Addr → Prop} {H : Hp} {s s2 : Bool} {d d2 d3 : D} {ds : List D} {vs : List V} (r : Reps c P H [s, s2] (d :: d2 :: d3 :: ds) vs) : False := by
  cases vs with
  | nil => exact r.elim
  | cons v vs => exact Reps.bad1 r.2
theorem Reps.bad2' {c : Cc} {P : Addr → Prop} {H : Hp} {s s2 : Bool} {ss : List Bool} {d : D} {vs : List V} (r : Reps c P H (s :: s2 :: ss) [d] vs) : False := by
  cases vs with
  | nil => exact r.elim
  | cons v vs => cases vs <;> exact r.2.elim
theorem i_rng1 (hg : Gl X "range") (hm : X.mg "range" = none) (ha : DA X g pu [sh1] [a] ma W) (hs : starEach [a] X.env = [(false, eval a X.env)] := by rfl) : DI X g tg pu (.Call (.Name "range" p) [a] [] pos) (dRng ma) W :=
  PI.imp (pi_range1 hg hm ha hs) fun σ H Q ⟨xs, env, S, w⟩ => ⟨xs, env, S, Want.bind w fun ds env' vs H' e s r w' => by
    have r' := r.shell
    dsimp only at w'
    split at w'
    · rename_i j
      split at w'
      · rename_i hz
        obtain ⟨v, rfl, r1⟩ := r'.one
        have e1 := r1.int
        subst e1
        obtain ⟨h1, h2⟩ := smallI_of hz
        exact ⟨j, rfl, h1, h2, w' _ H' s itok_rng⟩
      · exact w'.elim
    · exact r.bad1.elim
    · exact r.bad1.elim
    · exact w'.elim⟩
theorem i_rng2 (hg : Gl X "range") (hm : X.mg "range" = none) (ha : DA X g pu [sh1, sh2] [a, b] ma W) (hs : starEach [a, b] X.env = [(false, eval a X.env), (false, eval b X.env)] := by rfl) (hs2 : starEach [b] X.env = [(false, eval b X.env)] := by rfl) : DI X g tg pu (.Call (.Name "range" p) [a, b] [] pos) (dRng ma) W :=
  PI.imp (pi_range2 hg hm ha hs hs2) fun σ H Q ⟨xs, env, S, w⟩ => ⟨xs, env, S, Want.bind w fun ds env' vs H' e s r w' => by
    have r' := r.shell
    dsimp only at w'
    split at w'
    · exact r.bad2'.elim
    · rename_i i j
      split at w'
      · rename_i hz
        rw [Bool.and_eq_true] at hz
        obtain ⟨v, v2, rfl, r1, r2⟩ := r'.two
        have e1 := r1.int
        have e2 := r2.int
        subst e1 e2
        obtain ⟨h1, h2⟩ := smallI_of hz.1
        obtain ⟨h3, h4⟩ := smallI_of hz.2
        exact ⟨i, j, rfl, ⟨h1, h2, h3, h4⟩, w' _ H' s itok_rng⟩
      · exact w'.elim
    · exact r.bad2.elim
    · exact w'.elim⟩
theorem i_rng3 (hg : Gl X "range") (hm : X.mg "range" = none) (ha : DA X g pu [false, false, false] [a, b, e] ma W) (hs : starEach [a, b, e] X.env = (false, eval a X.env) :: starEach [b, e] X.env := by rfl) (hpl : (backTo pos (starEach [b, e] X.env)).any (·.1) = false := by rfl) : DI X g tg pu (.Call (.Name "range" p) [a, b, e] [] pos) (dRng ma) W :=
  PI.imp (pi_range3 hg hm ha hs hpl) fun σ H Q ⟨xs, env, S, w⟩ => ⟨xs, env, S, Want.bind w fun ds env' vs H' e s r w' => by
    have r' := r.shell
    dsimp only at w'
    split at w'
    · exact r.bad2'.elim
    · exfalso
      cases vs with
      | nil => exact r.elim
      | cons v vs => exact r.2.bad2'
    · rename_i i j st
      split at w'
      · rename_i hz
        rw [Bool.and_eq_true, Bool.and_eq_true, decide_eq_true_eq] at hz
        obtain ⟨v, v2, v3, rfl, r1, r2, r3⟩ := r'.three
        have e1 := r1.int
        have e2 := r2.int
        have e3 := r3.int
        subst e1 e2 e3
        obtain ⟨h1, h2⟩ := smallI_of hz.1.1
        obtain ⟨h3, h4⟩ := smallI_of hz.1.2
        obtain rfl := hz.2
        exact ⟨i, j, -1, _, rfl, RgC.neg h1 h2 h3 h4, w' _ H' s itok_rngC⟩
      · exact w'.elim
    · exact w'.elim⟩

/-! ### targets -/
abbrev Gv := D → En → M En
abbrev Gsv := List D → En → M En
def wipeE (env : En) : List Nat → En
  | [] => env
  | v :: vs => (wipeE env vs).set v .un
theorem wipeE_set {env : En} {i : Nat} {s : Sl} : ∀ {vs : List Nat}, i ∈ vs → wipeE (env.set i s) vs = wipeE env vs
  | v :: vs, h => by
    unfold wipeE
    by_cases hv : i ∈ vs
    · rw [wipeE_set hv]
    · have e : i = v := (List.mem_cons.mp h).resolve_right hv
      subst e
      have : ∀ ws : List Nat, i ∉ ws → wipeE (env.set i s) ws = (wipeE env ws).set i s := fun ws => by
        induction ws with
        | nil => intro _; rfl
        | cons w ws ih =>
          intro hw
          unfold wipeE
          rw [ih fun z => hw (List.mem_cons_of_mem _ z), List.set_comm _ _ fun z => hw (by rw [z]; exact List.mem_cons_self)]
      rw [this vs hv, List.set_set]
theorem wipe_set {σ : St} {i : Nat} {s : Option V} : ∀ {vs : List Nat}, i ∈ vs → wipe (σ.set i s) vs = wipe σ vs
  | v :: vs, h => by
    unfold wipe
    by_cases hv : i ∈ vs
    · rw [wipe_set hv]
    · have e : i = v := (List.mem_cons.mp h).resolve_right hv
      subst e
      have : ∀ ws : List Nat, i ∉ ws → wipe (σ.set i s) ws = (wipe σ ws).set i s := fun ws => by
        induction ws with
        | nil => intro _; rfl
        | cons w ws ih =>
          intro hw
          unfold wipe
          rw [ih fun z => hw (List.mem_cons_of_mem _ z), List.set_comm _ _ fun z => hw (by rw [z]; exact List.mem_cons_self)]
      rw [this vs hv, List.set_set]
/-- raising nothing -/
def ns {α : Type} : M α → M α
  | .ok a => .ok a
  | .error _ => stuck
@[simp] theorem ns_ok {α : Type} (a : α) : ns (.ok a : M α) = .ok a := rfl
/-- what a target's stores want -/
def WantG (c : Cc) (vs : List Nat) (xs : Addr → Prop) (env : En) (σ : St) (H : Hp) (Q : St → Hp → Prop) : M En → Prop
  | .ok env' => ∀ σ', StOk c xs env' σ' H → Kept env σ H env' σ' H → wipe σ' vs = wipe σ vs → wipeE env' vs = wipeE env vs → (∀ j, isOw env' j = true → isOw env j = true) → Q σ' H
  | .error _ => False
def tG (c : Cc) (m : Gv) (vs : List Nat) : TG := fun v σ H Q => ∃ xs env d, StOk c xs env σ H ∧ IsD c (hide H (Hid xs env σ)) d v ∧ WantG c vs xs env σ H Q (m d env)
def tGs (c : Cc) (m : Gsv) (vs : List Nat) : TGs := fun v σ H Q => ∃ xs env d, StOk c xs env σ H ∧ IsDs c (hide H (Hid xs env σ)) d v ∧ WantG c vs xs env σ H Q (m d env)
theorem PG.imp {X : Cx} {e : Expr} {t t' : TG} (h : PG X e t) (k : ∀ v σ H Q, t' v σ H Q → t v σ H Q) : PG X e t' := ⟨fun pins s σ H v u Q I r w => h.run pins s σ H v u Q I r (k _ _ _ _ w)⟩
theorem PGs.imp {X : Cx} {e : List Expr} {t t' : TGs} (h : PGs X e t) (k : ∀ v σ H Q, t' v σ H Q → t v σ H Q) : PGs X e t' := ⟨fun pins s σ H v u Q I r w => h.run pins s σ H v u Q I r (k _ _ _ _ w)⟩
abbrev DG (X : Cx) (g : Ce) (vs : List Nat) (e : Expr) (m : Gv) : Prop := PG X e (tG (cc X g) m vs)
abbrev DGs (X : Cx) (g : Ce) (vs : List Nat) (e : List Expr) (m : Gsv) : Prop := PGs X e (tGs (cc X g) m vs)
theorem Kept.smH {xs : Addr → Prop} {env env' : En} {σ σ' : St} {H H' : Hp} (q : Kept env σ H env' σ' H') : Same (hide H (Hid xs env σ)) (hide H' (Hid xs env' σ')) := fun b o h => by
  obtain ⟨h1, h2⟩ := hide_some h
  have h3 := q.sm b o (by rw [hide_of fun z => h1 (.inl z)]; exact h2)
  obtain ⟨h4, h5⟩ := hide_some h3
  rw [hide_of fun z => z.elim h4 fun z => h1 (.inr z)]
  exact h5
variable {vs : List Nat} {mg1 : Gv} {mgs : Gsv} {i : Nat}
def gSet (i : Nat) : Gv := fun d env => put i (.va d) env
theorem isOw_set_va {env : En} {i j : Nat} {d : D} (h : isOw (env.set i (.va d)) j = true) : isOw env j = true := by
  obtain ⟨e, he⟩ := of_isOw h
  by_cases hj : i = j
  · subst hj
    rw [List.getElem?_set, if_pos rfl] at he
    split at he <;> cases he
  · rw [List.getElem?_set_ne hj] at he
    exact isOw_of he
theorem g_name (h : PG X e (gName i)) (hv : i ∈ vs) : DG X g vs e (gSet i) := PG.imp h fun v σ H Q ⟨xs, env, d, S, r, w⟩ => by
  unfold gSet at w
  rcases put_cases i (.va d) env with q | ⟨q, h0⟩ <;> rw [q] at w
  · exact w.elim
  · exact w _ (S.setVa i r) (kept_set_va h0) (wipe_set hv) (wipeE_set hv) fun j z => isOw_set_va z
def gsNil : Gsv := fun ds env => match ds with
  | [] => .ok env
  | _ => stuck
def gsCons (m : Gv) (ms : Gsv) : Gsv := fun ds env => match ds with
  | d :: r => bnd (m d env) fun env1 => ms r env1
  | [] => stuck
theorem g_nil : DGs X g vs [] gsNil := PGs.imp pgs_nil fun v σ H Q ⟨xs, env, ds, S, r, w⟩ => by
  cases ds with
  | nil => unfold IsDs at r; exact ⟨r, w σ S .refl rfl rfl fun _ z => z⟩
  | cons _ _ => exact w.elim
theorem g_cons (h1 : DG X g vs e mg1) (h2 : DGs X g vs es mgs) (hs : (assignEach (e :: es) X.env).map (·.2) = assign e X.env :: (assignEach es X.env).map (·.2) := by rfl) : DGs X g vs (e :: es) (gsCons mg1 mgs) :=
  PGs.imp (pgs_cons h1 h2 hs) fun v σ H Q ⟨xs, env, ds, S, r, w⟩ => by
    cases ds with
    | nil => exact w.elim
    | cons d ds =>
      unfold IsDs at r
      obtain ⟨v1, vr, e1, r1, r2⟩ := r
      refine ⟨v1, vr, e1, xs, env, d, S, r1, ?_⟩
      have w' : WantG (cc X g) vs xs env σ H Q (bnd (mg1 d env) fun env1 => mgs ds env1) := w
      cases q : mg1 d env with
      | error x => rw [q] at w'; exact w'.elim
      | ok env1 =>
        rw [q] at w'
        intro σ1 S1 k1 a1 b1 c1
        refine ⟨xs, env1, ds, S1, r2.same k1.smH, ?_⟩
        dsimp only [bnd] at w'
        cases q2 : mgs ds env1 with
        | error x => rw [q2] at w'; exact w'.elim
        | ok env2 =>
          rw [q2] at w'
          exact fun σ2 S2 k2 a2 b2 c2 => w' σ2 S2 (k1.trans k2) (a2.trans a1) (b2.trans b1) fun j z => c1 j (c2 j z)
def gTupD (ms : Gsv) : Gv := fun d env => match d with
  | .tup ds => ms ds env
  | _ => stuck
def lenOf (n : Nat) (ms : Gsv) : Gsv := fun ds env => if ds.length = n then ms ds env else stuck
theorem g_tup {kk : Nat} (hc : X.calm = true) (h : DGs X g vs es mgs) (hst : (assignEach es X.env).findIdx? (·.1) = none := by rfl) (hl : (assignEach es X.env).length = es.length := by rfl) : DG X g vs (.Tuple es kk pos) (gTupD (lenOf es.length mgs)) :=
  PG.imp (pg_tup hc h hl hst) fun v σ H Q ⟨xs, env, d, S, r, w⟩ => by
    unfold gTupD at w
    split at w
    · rename_i ds
      unfold IsD at r
      obtain ⟨a, ws, e1, e2, e3⟩ := r
      unfold lenOf at w
      split at w
      · rename_i hz
        exact ⟨a, ws, e1, SqT.hid e2, by rw [← e3.len]; exact hz, xs, env, ds, S, e3, w⟩
      · exact w.elim
    · exact w.elim
/-- target = value -/
def sAsg (m : Ev) (mt : Gv) : Sv := fun env => bnd (m env) fun p => bnd (ns (mt p.1 p.2)) fun env' => .ok (.nx, env')
theorem s_asg (he : DE X g pu false e m W) (hg : DG X g vs tg mg1) (hs : swapsWithSole [tg] e pos.line X.env = pure false := by rfl) (hw : swappedStores [tg] e X.env = pure none := by rfl)
    (h1 : (assignEach [tg] X.env).map (·.2) = [assign tg X.env] := by rfl) : DS X g (.Assign [tg] e pos) (sAsg m mg1) W := PS.imp (ps_asg he hg hs hw h1) fun E σ H ⟨xs, env, S, w⟩ =>
  ⟨xs, env, S, WantS.bindE w fun d env' v H' e s r w' => by
    have r' : IsD (cc X g) (hide H' (Hid xs env σ)) d v := r
    rw [← s.hid] at r'
    refine ⟨xs, env', d, s.st, r', ?_⟩
    dsimp only at w'
    cases q : mg1 d env' with
    | error x =>
      rw [q] at w'
      exact w'.elim
    | ok env2 =>
      rw [q] at w'
      exact fun σ2 S2 k2 _ _ _ => w' σ2 H' S2 (s.kept.trans k2)⟩

/-! ### for -/
def forL (mt : Gv) (mb : Sv) : List D → Sv
  | [], env => .ok (.nx, env)
  | d :: r, env => bnd (ns (mt d env)) fun env1 => bnd (mb env1) fun q => match q.1 with
    | .nx => forL mt mb r q.2
    | .ct => forL mt mb r q.2
    | .bk => .ok (.nx, q.2)
    | f => .ok (f, q.2)
def sFor (mi : Iv) (mt : Gv) (mb : Sv) : Sv := fun env => bnd (mi env) fun p => forL mt mb p.1 p.2
theorem s_for (C : Cok nn X W P w K mg base N sc k false) (hi : DI X g tg pu e mi W) (hg : DG X g vs tg mg1) (hb : DSs X g sts ms W) (hs : ∀ x, foldedSetIterable e X.env x = pure x := by intro _; rfl) : DS X g (.For tg e sts [] pos) (sFor mi mg1 ms) W :=
  PS.imp (ps_for (C.own rfl) C.calm hi hg hb hs) fun E σ H ⟨xs, env, S, w⟩ => ⟨xs, env, S, WantS.bindE w fun ds env1 J H1 e s r w1 => by
    obtain ⟨G, Y, hw, hG, hY⟩ := r
    rw [← s.hid] at hG hY
    have w1 := WantS.after s.kept w1
    dsimp only at w1
    refine for_it hw (fun i σ' H' => ∃ env', StOk (cc X g) xs env' σ' H' ∧ Kept env1 σ H1 env' σ' H' ∧ WantS (cc X g) xs env' σ' H' W E (forL mg1 ms (ds.drop i) env')) ⟨env1, s.st, .refl, w1⟩ ?_ ?_ ?_
    · rintro i σ' H' _ ⟨env', S', q, _⟩
      exact hG H' (q.smH.trans hide_full)
    · rintro i x σ' H' H2 hlt ⟨env', S', q, w2⟩ y
      have hd : ds[i]? = some ds[i] := by simp [hlt]
      obtain ⟨k1, k2⟩ := hY i x H' H2 _ hd (q.smH.trans hide_full) y
      have rd := k2 (Hid xs env' σ') q.smH fun a ha => S'.hid ha
      have S2 := S'.same k1
      have kk : Kept env' σ' H' env' σ' H2 := ⟨hide_same k1, Same.th k1, fun h => ⟨h, rfl⟩, rfl⟩
      refine ⟨xs, env', ds[i], S2, rd, ?_⟩
      rw [List.drop_eq_getElem_cons hlt] at w2
      unfold forL at w2
      cases q2 : mg1 ds[i] env' with
      | error x => rw [q2] at w2; exact w2.elim
      | ok env3 =>
        rw [q2] at w2
        intro σ3 S3 k3 _ _ _
        refine ⟨xs, env3, S3, ?_⟩
        have k4 := kk.trans k3
        have w3 := WantS.after k4 w2
        simp only [ns_ok, bnd_ok] at w3
        generalize hr : ms env3 = r2 at w3 ⊢
        cases r2 with
        | error e => cases e with
          | raise kk p => exact w3
          | stuck => exact w3
        | ok p =>
          obtain ⟨fl, env4⟩ := p
          cases fl with
          | nx => exact fun σ5 H5 S5 q5 => ⟨env4, S5, q.trans (k4.trans q5), WantS.after q5 w3⟩
          | ct => exact fun σ5 H5 S5 q5 => ⟨env4, S5, q.trans (k4.trans q5), WantS.after q5 w3⟩
          | bk => exact w3
          | rt d => exact w3
          | rf d => exact w3
          | ro i => exact w3
    · rintro σ' H' ⟨env', S', q, w2⟩
      rw [List.drop_length] at w2
      exact w2 σ' H' S' .refl⟩
end
end Dn

/-! Dn12 -/
set_option Elab.async false
set_option linter.all false
set_option maxRecDepth 100000
set_option maxHeartbeats 1000000
/-! Dn12: list comprehensions. -/
namespace Dn
open PySem PySem.Spec L2
open PyProof.Rows hiding St

/-! ### slots forgotten for a while -/
theorem wipeE_get {env : En} {j : Nat} : ∀ {vs : List Nat}, (wipeE env vs)[j]? = if j ∈ vs then (env[j]?).map (fun _ => Sl.un) else env[j]?
  | [] => by simp [wipeE]
  | v :: vs => by
    unfold wipeE
    by_cases hj : v = j
    · subst hj
      rw [List.getElem?_set, if_pos rfl, if_pos List.mem_cons_self]
      have ih := wipeE_get (env := env) (j := v) (vs := vs)
      split
      · rename_i h
        have : (wipeE env vs)[v]? ≠ none := fun z => by rw [List.getElem?_eq_none_iff] at z; omega
        cases q : env[v]? with
        | none => rw [q] at ih; simp at ih; exact absurd (List.getElem?_eq_none_iff.mpr ih) this
        | some s => rfl
      · rename_i h
        have : (wipeE env vs)[v]? = none := List.getElem?_eq_none_iff.mpr (by omega)
        rw [this] at ih
        cases q : env[v]? with
        | none => rfl
        | some s =>
          rw [q] at ih
          split at ih <;> cases ih
    · rw [List.getElem?_set_ne hj, wipeE_get]
      simp only [List.mem_cons]
      by_cases hm : j ∈ vs
      · rw [if_pos hm, if_pos (.inr hm)]
      · rw [if_neg hm, if_neg fun z => z.elim (fun z => hj z.symm) hm]
theorem wipe_get {σ : St} {j : Nat} : ∀ {vs : List Nat}, (wipe σ vs)[j]? = if j ∈ vs then (σ[j]?).map (fun _ => none) else σ[j]?
  | [] => by simp [wipe]
  | v :: vs => by
    unfold wipe
    by_cases hj : v = j
    · subst hj
      rw [List.getElem?_set, if_pos rfl, if_pos List.mem_cons_self]
      have ih := wipe_get (σ := σ) (j := v) (vs := vs)
      split
      · rename_i h
        have : (wipe σ vs)[v]? ≠ none := fun z => by rw [List.getElem?_eq_none_iff] at z; omega
        cases q : σ[v]? with
        | none => rw [q] at ih; simp at ih; exact absurd (List.getElem?_eq_none_iff.mpr ih) this
        | some s => rfl
      · rename_i h
        have : (wipe σ vs)[v]? = none := List.getElem?_eq_none_iff.mpr (by omega)
        rw [this] at ih
        cases q : σ[v]? with
        | none => rfl
        | some s =>
          rw [q] at ih
          split at ih <;> cases ih
    · rw [List.getElem?_set_ne hj, wipe_get]
      simp only [List.mem_cons]
      by_cases hm : j ∈ vs
      · rw [if_pos hm, if_pos (.inr hm)]
      · rw [if_neg hm, if_neg fun z => z.elim (fun z => hj z.symm) hm]
theorem wipeE_wipeE {env : En} {vs : List Nat} : wipeE (wipeE env vs) vs = wipeE env vs := by
  apply List.ext_getElem?
  intro j
  rw [wipeE_get, wipeE_get]
  by_cases h : j ∈ vs
  · simp only [if_pos h]; cases env[j]? <;> rfl
  · simp only [if_neg h]
theorem wipe_wipe {σ : St} {vs : List Nat} : wipe (wipe σ vs) vs = wipe σ vs := by
  apply List.ext_getElem?
  intro j
  rw [wipe_get, wipe_get]
  by_cases h : j ∈ vs
  · simp only [if_pos h]; cases σ[j]? <;> rfl
  · simp only [if_neg h]
def resE (env env' : En) : List Nat → En
  | [] => env'
  | v :: vs => (resE env env' vs).set v ((env[v]?).getD .un)
theorem resE_len {env env' : En} : ∀ {vs : List Nat}, (resE env env' vs).length = env'.length
  | [] => rfl
  | v :: vs => by unfold resE; rw [List.length_set, resE_len]
theorem resE_get {env env' : En} {j : Nat} (hl : env'.length = env.length) : ∀ {vs : List Nat}, (resE env env' vs)[j]? = if j ∈ vs then env[j]? else env'[j]?
  | [] => by simp [resE]
  | v :: vs => by
    unfold resE
    by_cases hj : v = j
    · subst hj
      rw [List.getElem?_set, if_pos rfl, if_pos List.mem_cons_self, resE_len]
      split
      · rename_i h
        rw [hl] at h
        rw [List.getElem?_eq_getElem h]; rfl
      · rename_i h
        rw [List.getElem?_eq_none (by omega)]
    · rw [List.getElem?_set_ne hj, resE_get hl]
      simp only [List.mem_cons]
      by_cases hm : j ∈ vs
      · rw [if_pos hm, if_pos (.inr hm)]
      · rw [if_neg hm, if_neg fun z => z.elim (fun z => hj z.symm) hm]
theorem resE_wipe {env : En} {vs : List Nat} (hl : (wipeE env vs).length = env.length) : resE env (wipeE env vs) vs = env := by
  apply List.ext_getElem?
  intro j
  rw [resE_get hl, wipeE_get]
  by_cases h : j ∈ vs
  · simp only [if_pos h]
  · simp only [if_neg h]
theorem wipeE_len {env : En} : ∀ {vs : List Nat}, (wipeE env vs).length = env.length
  | [] => rfl
  | v :: vs => by unfold wipeE; rw [List.length_set, wipeE_len]
def noOw (env : En) (vs : List Nat) : Bool := vs.all fun j => !isOw env j
theorem noOw_of {env : En} {vs : List Nat} (h : noOw env vs = true) {j : Nat} (hj : j ∈ vs) : isOw env j = false := by
  unfold noOw at h
  rw [List.all_eq_true] at h
  simpa using h j hj
theorem isOw_get {env env' : En} {j : Nat} (h : env[j]? = env'[j]?) : isOw env j = isOw env' j := by unfold isOw; rw [h]
theorem isOw_wipe {env : En} {vs : List Nat} (no : ∀ j ∈ vs, isOw env j = false) (j : Nat) : isOw (wipeE env vs) j = isOw env j := by
  by_cases h : j ∈ vs
  · rw [no j h]
    unfold isOw
    rw [wipeE_get, if_pos h]
    cases env[j]? <;> rfl
  · exact isOw_get (by rw [wipeE_get, if_neg h])
theorem owns_blk {env env' : En} {σ σ' : St} {vs : List Nat} (no : ∀ j ∈ vs, isOw env j = false) (hA : ∀ j, isOw env' j = isOw env j) (hw : wipe σ' vs = wipe σ vs) : Owns env' σ' = Owns env σ := by
  have at_ : ∀ j, isOw env j = true → σ'[j]? = σ[j]? := fun j h => by
    have hj : j ∉ vs := fun z => by rw [no j z] at h; cases h
    have := congrArg (·[j]?) hw
    simp only [wipe_get, if_neg hj] at this
    exact this
  funext a
  apply propext
  constructor
  · rintro ⟨j, d, h1, h2⟩
    have hj := (hA j).symm.trans (isOw_of h1)
    obtain ⟨e, he⟩ := of_isOw hj
    exact ⟨j, e, he, by rw [← at_ j hj]; exact h2⟩
  · rintro ⟨j, d, h1, h2⟩
    have hj := isOw_of h1
    obtain ⟨e, he⟩ := of_isOw ((hA j).trans hj)
    exact ⟨j, e, he, by rw [at_ j hj]; exact h2⟩
section
variable {c : Cc} {xs xs' : Addr → Prop} {env env' : En} {σ σ' : St} {H H' : Hp} {vs : List Nat}
theorem StOk.wipe (S : StOk c xs env σ H) : ∀ vs : List Nat, StOk c xs (wipeE env vs) (L2.wipe σ vs) H
  | [] => S
  | v :: vs => by unfold wipeE L2.wipe; exact (StOk.wipe S vs).setUn v none
theorem StOk.lessX (h : ∀ a, xs a → xs' a) (S : StOk c xs' env σ H) : StOk c xs env σ H := by
  have sub : Same (hide H (Hid xs' env σ)) (hide H (Hid xs env σ)) := hide_sub fun a z => z.elim .inl fun z => .inr (h a z)
  exact ⟨S.len, fun a z => S.xb a (h a z), fun i d q => let ⟨v, h1, h2⟩ := S.va i d q; ⟨v, h1, h2.same sub⟩, fun i d q => let ⟨a, o, h1, h2, h3⟩ := S.ow i d q; ⟨a, o, h1, h2, h3.same sub⟩, S.inj⟩
/-- a foreign object changed -/
theorem StOk.updX (S : StOk c xs env σ H) {a : Addr} {o : HO} (h : xs a) : StOk c xs env σ (upd H a o) := by
  have hid : ∀ b u, hide H (Hid xs env σ) b = some u → hide (upd H a o) (Hid xs env σ) b = some u := fun b u hb => by
    obtain ⟨h1, h2⟩ := hide_some hb
    rw [hide_of h1, upd_ne fun z : b = a => h1 (.inr (by rw [z]; exact h))]
    exact h2
  refine ⟨S.len, fun b hb => ⟨fun z => ?_, (S.xb b hb).2⟩, fun i d q => let ⟨v, h1, h2⟩ := S.va i d q; ⟨v, h1, h2.same hid⟩, fun i d q => ?_, S.inj⟩
  · by_cases e : b = a
    · subst e; rw [upd_same] at z; cases z
    · rw [upd_ne e] at z; exact (S.xb b hb).1 z
  · obtain ⟨b, u, h1, h2, h3⟩ := S.ow i d q
    have ne : b ≠ a := fun z => (S.xb a h).2 ⟨i, d, q, z ▸ h1⟩
    exact ⟨b, u, h1, by rw [upd_ne ne]; exact h2, h3.same hid⟩
/-- the slots given back -/
theorem StOk.res (S : StOk c xs env σ H) (S' : StOk c xs' env' (L2.wipe σ vs) H') (no : ∀ j ∈ vs, isOw env j = false) (hl : env'.length = env.length) (hA : ∀ j, isOw env' j = isOw env j)
    (sm : Same (hide H (Hid xs env σ)) (hide H' (Hid xs' env σ))) : StOk c xs' (resE env env' vs) σ H' := by
  have hA' : ∀ j, isOw (resE env env' vs) j = isOw env j := fun j => by
    by_cases h : j ∈ vs
    · exact isOw_get (by rw [resE_get hl, if_pos h])
    · exact (isOw_get (by rw [resE_get hl, if_neg h])).trans (hA j)
  have o1 : Owns (resE env env' vs) σ = Owns env σ := owns_shape hA'
  have o2 : Owns env' (L2.wipe σ vs) = Owns env σ := owns_blk no hA wipe_wipe
  have hh : Hid xs' (resE env env' vs) σ = Hid xs' env' (L2.wipe σ vs) := by funext a; unfold Hid; rw [o1, o2]
  have h3 : Hid xs' (resE env env' vs) σ = Hid xs' env σ := by funext a; unfold Hid; rw [o1]
  have out : ∀ {i d}, (resE env env' vs)[i]? = some (Sl.ow d) → i ∉ vs ∧ env'[i]? = some (Sl.ow d) := fun {i d} q => by
    by_cases h : i ∈ vs
    · rw [resE_get hl, if_pos h] at q
      have := no i h
      rw [isOw_of q] at this; cases this
    · rw [resE_get hl, if_neg h] at q
      exact ⟨h, q⟩
  have at_ : ∀ {i}, i ∉ vs → (L2.wipe σ vs)[i]? = σ[i]? := fun {i} h => by rw [wipe_get, if_neg h]
  refine ⟨by rw [resE_len, hl, S.len], fun a h => ⟨(S'.xb a h).1, fun z => (S'.xb a h).2 (by rw [o2, ← o1]; exact z)⟩, fun i d q => ?_, fun i d q => ?_, fun i j d e a h1 h2 q1 q2 => ?_⟩
  · by_cases h : i ∈ vs
    · rw [resE_get hl, if_pos h] at q
      obtain ⟨v, h1, h2⟩ := S.va i d q
      rw [h3]
      exact ⟨v, h1, h2.same sm⟩
    · rw [resE_get hl, if_neg h] at q
      obtain ⟨v, h1, h2⟩ := S'.va i d q
      rw [hh]
      exact ⟨v, by rw [← at_ h]; exact h1, h2⟩
  · obtain ⟨h, q'⟩ := out q
    obtain ⟨a, o, h1, h2, h3⟩ := S'.ow i d q'
    rw [hh]
    exact ⟨a, o, by rw [← at_ h]; exact h1, h2, h3⟩
  · obtain ⟨n1, h1⟩ := out h1
    obtain ⟨n2, h2⟩ := out h2
    exact S'.inj i j d e a h1 h2 (by rw [at_ n1]; exact q1) (by rw [at_ n2]; exact q2)
end

/-! ### the comprehension -/
def lcL (mt : Gv) (tt : Tv) (te : Ev) (vs : List Nat) : List D → En → M (List D × En)
  | [], env => .ok ([], env)
  | d :: r, env => bnd (mt d env) fun env1 => bnd (tt env1) fun p => if p.1 = true then bnd (te p.2) fun q => bnd (lcL mt tt te vs r (wipeE q.2 vs)) fun z => .ok (q.1 :: z.1, z.2) else lcL mt tt te vs r (wipeE p.2 vs)
def dLc (mi : Iv) (mt : Gv) (tt : Tv) (te : Ev) (vs : List Nat) : Ev := fun env => bnd (mi env) fun p => if noOw p.2 vs = true then bnd (ns (lcL mt tt te vs p.1 (wipeE p.2 vs))) fun q => if q.1.length ≤ maxSeq then .ok (.lst q.1, resE p.2 q.2 vs) else stuck else stuck
def dYes : Tv := fun env => .ok (true, env)
abbrev W0 : WX := fun _ _ _ _ => False
section
variable {X : Cx} {g : Ce} {W : WX} {pu pu1 pu2 : Bool} {e elt tg iter : Expr} {ifs : List Expr} {scope : Scope} {own : List (Str × Nat)} {pos : Pos} {mi : Iv} {mt : Gv} {tt : Tv} {me : Ev} {vs : List Nat}
theorem t_lc {σ : St} {H : Hp} {Q : VK} (h : tF (cc X g) (pu && (pu1 && pu2)) (dLc mi mt tt me vs) W σ H Q) : tLc (tI (cc X g) pu mi W) (tG (cc X g) mt vs) (tT (cc X g) pu1 tt W0) (tE (cc X g) pu2 false me W0) vs σ H Q := by
  obtain ⟨xs, env, S, w⟩ := h
  refine ⟨xs, env, S, w.bind fun ds env1 J H1 e1 s r w1 => ?_⟩
  intro A hA
  dsimp only at w1
  split at w1
  case isFalse => exact w1.elim
  rename_i hno
  have no : ∀ j ∈ vs, isOw env1 j = false := fun j hj => noOw_of hno hj
  cases qf : lcL mt tt me vs ds (wipeE env1 vs) with
  | error x => rw [qf] at w1; exact w1.elim
  | ok pf =>
  obtain ⟨total, envF⟩ := pf
  rw [qf] at w1
  simp only [ns_ok, bnd_ok] at w1
  split at w1
  case isFalse => exact w1.elim
  rename_i hsz
  have hA0 : H A = none := s.free S hA
  obtain ⟨G, Y, hw, hG, hY⟩ := r
  rw [← s.hid] at hG hY
  -- what stands through the loop
  have hS1 : StOk (cc X g) (fun b => xs b ∨ b = A) env1 σ (upd H1 A (.lst [])) := s.st.newX (same_new hA) hA upd_same
  have eqO : ∀ {env' σ'}, (∀ j, isOw env' j = isOw env1 j) → wipe σ' vs = wipe σ vs → Owns env' σ' = Owns env1 σ := fun a b => owns_blk no a b
  refine lc_it hw (fun i H2 => ∃ env2 accD acc rest, StOk (cc X g) (fun b => xs b ∨ b = A) env2 (wipe σ vs) H2 ∧ env2.length = env1.length ∧ (∀ j, isOw env2 j = isOw env1 j) ∧ H2 A = some (.lst acc) ∧
    IsDs (cc X g) (hide H2 (fun b => Owns env1 σ b ∨ (xs b ∨ b = A))) accD acc ∧ Same (hide H1 (Owns env1 σ)) (hide H2 (Owns env1 σ)) ∧ ((pu && (pu1 && pu2)) = true → env2 = wipeE env1 vs ∧ Same H1 H2) ∧
    lcL mt tt me vs (ds.drop i) env2 = .ok (rest, envF) ∧ accD ++ rest = total) ?_ ?_ ?_ ?_
  · refine ⟨wipeE env1 vs, [], [], total, hS1.wipe vs, wipeE_len, isOw_wipe no, upd_same, IsDs.nil, hide_same (same_new hA), fun _ => ⟨rfl, same_new hA⟩, qf, rfl⟩
  · rintro i H2 _ ⟨env2, accD, acc, rest, S2, hl, hA2, hD, hacc, sm, hp, hr, ht⟩
    refine hG H2 fun b o hb => ?_
    obtain ⟨h1, h2⟩ := hide_some hb
    exact (hide_some (sm b o (by rw [hide_of fun z => h1 (.inl z)]; exact h2))).2
  · rintro i x H2 H3 hlt ⟨env2, accD, acc, rest, S2, hl, hA2, hD, hacc, sm, hp, hr, ht⟩ y
    have o2 : Owns env2 (wipe σ vs) = Owns env1 σ := eqO hA2 wipe_wipe
    have hid2 : Hid (fun b => xs b ∨ b = A) env2 (wipe σ vs) = fun b => Owns env1 σ b ∨ (xs b ∨ b = A) := by funext b; unfold Hid; rw [o2]
    have up : Same (hide H1 (Hid xs env1 σ)) (hide H2 (Hid (fun b => xs b ∨ b = A) env2 (wipe σ vs))) := fun b o hb => by
      obtain ⟨h1, h2⟩ := hide_some hb
      have h3 := (hide_some (sm b o (by rw [hide_of fun z => h1 (.inl z)]; exact h2))).2
      rw [hid2, hide_of fun z => z.elim (fun z => h1 (.inl z)) fun z => z.elim (fun z => h1 (.inr z)) (ne_of_none h2 hA)]
      exact h3
    have hd : ds[i]? = some ds[i] := by simp [hlt]
    obtain ⟨k1, k2⟩ := hY i x H2 H3 _ hd (up.trans hide_full) y
    have rd := k2 _ up fun a ha => S2.hid ha
    have S3 := S2.same k1
    refine ⟨_, env2, ds[i], S3, rd, ?_⟩
    rw [List.drop_eq_getElem_cons hlt] at hr
    unfold lcL at hr
    cases q2 : mt ds[i] env2 with
    | error z => rw [q2] at hr; cases hr
    | ok env3 =>
    rw [q2] at hr
    simp only [bnd_ok] at hr
    intro σ3 S4 k3 hw3 hwE how
    have hw3' : wipe σ3 vs = wipe σ vs := hw3.trans wipe_wipe
    have hA3 : ∀ j, isOw env3 j = isOw env1 j := fun j => by
      cases q : isOw env1 j with
      | true =>
        have hj : j ∉ vs := fun z => by rw [no j z] at q; cases q
        have := congrArg (·[j]?) hwE
        simp only [wipeE_get, if_neg hj] at this
        rw [isOw_get this, hA2 j, q]
      | false =>
        cases q3 : isOw env3 j with
        | false => rfl
        | true => have := how j q3; rw [hA2 j, q] at this; cases this
    have o3 : Owns env3 σ3 = Owns env1 σ := eqO hA3 hw3'
    refine ⟨hw3', _, env3, S4, ?_⟩
    cases q4 : tt env3 with
    | error z => rw [q4] at hr; cases hr
    | ok p4 =>
    obtain ⟨b4, env4⟩ := p4
    rw [q4] at hr
    simp only [bnd_ok] at hr
    intro b H4 s4 hb
    subst hb
    have D4 : H4 A = some (.lst acc) := by
      have h3 : H3 A = some (.lst acc) := k1 _ _ hD
      have na : ¬ Owns env3 σ3 A := fun z => (S4.xb A (.inr rfl)).2 z
      exact (hide_some (s4.sm A _ (by rw [hide_of na]; exact h3))).2
    have o4 : Owns env4 σ3 = Owns env1 σ := s4.own.trans o3
    have sm4 : Same (hide H1 (Owns env1 σ)) (hide H4 (Owns env1 σ)) := sm.trans ((hide_same k1).trans (by have := s4.sm; rw [o3] at this; exact this))
    have acc4 : IsDs (cc X g) (hide H4 (fun b => Owns env1 σ b ∨ (xs b ∨ b = A))) accD acc := by
      refine hacc.same (Same.trans (hide_same k1) ?_)
      have := s4.smH
      unfold Hid at this
      rw [o3] at this
      exact this
    have len3 : env3.length = env1.length := by rw [S4.len, ← wipe_length σ3 vs, hw3', wipe_length, ← s.st.len]
    have len4 : env4.length = env1.length := by rw [s4.st.len, ← wipe_length σ3 vs, hw3', wipe_length, ← s.st.len]
    cases b with
    | false =>
      rw [if_neg Bool.false_ne_true] at hr
      rw [if_neg Bool.false_ne_true]
      have S5 := s4.st.wipe vs
      rw [hw3'] at S5
      refine ⟨wipeE env4 vs, accD, acc, rest, S5, by rw [wipeE_len]; exact len4, fun j => ?_, D4, acc4, sm4, fun hpu => ?_, hr, ht⟩
      · rw [isOw_wipe (fun j hj => by rw [s4.shp, hA3, no j hj]), s4.shp, hA3]
      · obtain ⟨p1, p2⟩ := hp hpu
        have : pu1 = true := by simp only [Bool.and_eq_true] at hpu; exact hpu.2.1
        obtain ⟨r1, r2⟩ := s4.pr this
        refine ⟨?_, p2.trans (k1.trans r2)⟩
        rw [r1, hwE, p1, wipeE_wipeE]
    | true =>
      rw [if_pos rfl] at hr
      rw [if_pos rfl]
      refine ⟨_, env4, s4.st, ?_⟩
      cases q5 : me env4 with
      | error z => rw [q5] at hr; cases hr
      | ok p5 =>
      obtain ⟨d5, env5⟩ := p5
      rw [q5] at hr
      simp only [bnd_ok] at hr
      cases q6 : lcL mt tt me vs (ds.drop (i + 1)) (wipeE env5 vs) with
      | error z => rw [q6] at hr; cases hr
      | ok p6 =>
      obtain ⟨r6, env6⟩ := p6
      rw [q6] at hr
      simp only [bnd_ok, Except.ok.injEq, Prod.mk.injEq] at hr
      obtain ⟨hr1, hr2⟩ := hr
      subst hr1 hr2
      intro v5 H5 s5 r5
      have D5 : H5 A = some (.lst acc) := by
        have na : ¬ Owns env4 σ3 A := fun z => (s4.st.xb A (.inr rfl)).2 z
        exact (hide_some (s5.sm A _ (by rw [hide_of na]; exact D4))).2
      have hzl : acc.length < sizeLine := by
        rw [← hacc.len]
        have := congrArg List.length ht
        rw [List.length_append, List.length_cons] at this
        have h2 : sizeLine = maxSeq := maxSeq_eq
        omega
      refine ⟨acc, D5, hzl, ?_⟩
      have o5 : Owns env5 σ3 = Owns env1 σ := s5.own.trans o4
      have acc5 : IsDs (cc X g) (hide H5 (fun b => Owns env1 σ b ∨ (xs b ∨ b = A))) accD acc := by
        refine acc4.same ?_
        have := s5.smH
        unfold Hid at this
        rw [o4] at this
        exact this
      have r5' : IsD (cc X g) (hide H5 (fun b => Owns env1 σ b ∨ (xs b ∨ b = A))) d5 v5 := by
        have : IsD (cc X g) (hide H5 (Hid (fun b => xs b ∨ b = A) env4 σ3)) d5 v5 := r5
        unfold Hid at this
        rw [o4] at this
        exact this
      have kU : Same (hide H5 (fun b => Owns env1 σ b ∨ (xs b ∨ b = A))) (hide (upd H5 A (.lst (acc ++ [v5]))) (fun b => Owns env1 σ b ∨ (xs b ∨ b = A))) := fun b o hb => by
        obtain ⟨h1, h2⟩ := hide_some hb
        rw [hide_of h1, upd_ne fun z => h1 (.inr (.inr z))]
        exact h2
      have S6 := (s5.st.updX (o := .lst (acc ++ [v5])) (a := A) (.inr rfl)).wipe vs
      rw [hw3'] at S6
      have hno5 : ∀ j ∈ vs, isOw env5 j = false := fun j hj => by rw [s5.shp, s4.shp, hA3, no j hj]
      have nA : ∀ {b o}, H1 b = some o → b ≠ A := fun h => ne_of_none h hA
      refine ⟨wipeE env5 vs, accD ++ [d5], acc ++ [v5], r6, S6, by rw [wipeE_len, s5.st.len, ← wipe_length σ3 vs, hw3', wipe_length, ← s.st.len], fun j => ?_, upd_same, IsDs.append (acc5.same kU) (IsDs.cons (r5'.same kU) IsDs.nil), fun b o hb => ?_, fun hpu => ?_, q6, by rw [List.append_assoc]; exact ht⟩
      · rw [isOw_wipe hno5, s5.shp, s4.shp, hA3]
      · have h1 := (sm4.trans (by have := s5.sm; rw [o4] at this; exact this)) b o hb
        obtain ⟨h2, h3⟩ := hide_some h1
        rw [hide_of h2, upd_ne (nA (hide_some hb).2)]
        exact h3
      · obtain ⟨p1, p2⟩ := hp hpu
        have h1 : pu1 = true := by simp only [Bool.and_eq_true] at hpu; exact hpu.2.1
        have h2 : pu2 = true := by simp only [Bool.and_eq_true] at hpu; exact hpu.2.2
        obtain ⟨r1, r2⟩ := s4.pr h1
        obtain ⟨r3, r4⟩ := s5.pr h2
        refine ⟨by rw [r3, r1, hwE, p1, wipeE_wipeE], fun b o hb => ?_⟩
        rw [upd_ne (nA hb)]
        exact r4 _ _ (r2 _ _ (k1 _ _ (p2 _ _ hb)))
  · rintro H2 ⟨env2, accD, acc, rest, S2, hl, hA2, hD, hacc, sm, hp, hr, ht⟩
    rw [List.drop_length] at hr
    unfold lcL at hr
    simp only [Except.ok.injEq, Prod.mk.injEq] at hr
    obtain ⟨hr1, hr2⟩ := hr
    subst hr1 hr2
    rw [List.append_nil] at ht
    subst ht
    have SX : StOk (cc X g) (fun b => xs b ∨ b = A) (resE env1 env2 vs) σ H2 := by
      refine StOk.res s.st S2 no hl hA2 fun b o hb => ?_
      obtain ⟨h1, h2⟩ := hide_some hb
      have h3 := (hide_some (sm b o (by rw [hide_of fun z => h1 (.inl z)]; exact h2))).2
      rw [hide_of fun z => z.elim (fun z => h1 (.inl z)) fun z => z.elim (fun z => h1 (.inr z)) (ne_of_none h2 hA)]
      exact h3
    have shpR : ∀ j, isOw (resE env1 env2 vs) j = isOw env1 j := fun j => by
      by_cases h : j ∈ vs
      · exact isOw_get (by rw [resE_get hl, if_pos h])
      · exact (isOw_get (by rw [resE_get hl, if_neg h])).trans (hA2 j)
    have oR : Owns (resE env1 env2 vs) σ = Owns env1 σ := owns_shape shpR
    refine w1 (.ref A) H2 ⟨SX.lessX fun a h => .inl h, fun j => (shpR j).trans (s.shp j), s.sm.trans (by rw [← s.own]; exact sm), fun hpu => ?_⟩ ⟨A, .lst acc, rfl, hA0, hD, SX, acc, rfl, ?_⟩
    · obtain ⟨p1, p2⟩ := hp hpu
      have h1 : pu = true := by simp only [Bool.and_eq_true] at hpu; exact hpu.1
      obtain ⟨r1, r2⟩ := s.pr h1
      refine ⟨?_, r2.trans p2⟩
      rw [p1, resE_wipe wipeE_len, r1]
    · refine hacc.same (hide_sub fun b z => ?_)
      unfold Hid at z
      rw [oR] at z
      rcases z with (z | z) | z
      · exact .inl z
      · exact .inr (.inl z)
      · exact .inr (.inr z)
end
end Dn

/-! Dn13 -/
set_option Elab.async false
set_option linter.all false
set_option maxRecDepth 100000
set_option maxHeartbeats 1000000
/-! Dn13: a comprehension's block; the rules. -/
namespace Dn
open PySem PySem.Spec L2
open PyProof.Rows hiding St

section
variable {X : Cx} {P : Program} {w : World} {K : PySem.W.Frag} {mg : Str → Option Value} {base : Heap} {N : List Str} {sc : Scope} {k : Nat} {bk nn : Bool} {g : Ce} {W : WX}
variable {pu pu1 pu2 : Bool} {e elt tg iter c1 : Expr} {ifs : List Expr} {scope : Scope} {own : List (Str × Nat)} {pos p pos' : Pos} {mi : Iv} {mt : Gv} {tt : Tv} {me : Ev} {vs : List Nat} {x : Str} {i : Nat}
theorem Cok.blk (C : Cok nn X W P w K mg base N sc k bk) (s : Shared) (H : Hp) (scope : Scope) (A : Addr) (cl : List (Str × Addr)) (fp : List Addr) : Cok nn (X.blk s H scope (compEnvC scope cl A X.env) fp) W0 P w K mg base N (relS scope sc) k true where
  eP := C.eP
  ew := C.ew
  eK := C.eK
  em := C.em
  eb := C.eb
  eN := C.eN
  es := by have := C.es; subst this; rfl
  calm := C.calm
  room := C.room
  nd := C.nd
  fn := fun z => nomatch z
  tk := by cases nn <;> (intro _ _ x; obtain ⟨_, _, _, _, _, _, _, _, _, _, _, _, _, _, _, _, z⟩ := x; exact z.elim)
  own := fun z => nomatch z
  sf := fun z => nomatch z
/-- a target's name within a block -/
def tgB (sc scope : Scope) (x : Str) : Bool := match (relS scope sc).names.lookup x with
  | some .local => true
  | some .cell => scope.names.lookup x == some .cell
  | _ => false
theorem n_tg (C : Cok nn X W P w K mg base N sc k bk) (s : Shared) (H : Hp) (A : Addr) (cl : List (Str × Addr)) (fp : List Addr) (i : Nat) (hi : N[i]? = some x) (hv : tgB sc scope x = true) : PG (X.blk s H scope (compEnvC scope cl A X.env) fp) (.Name x pos) (gName i) := by
  have B := C.blk s H scope A cl fp
  unfold tgB at hv
  split at hv
  · rename_i q
    exact pg_name (by rw [B.eN]; exact C.nd) (by rw [B.eN]; exact hi) (by rw [B.es]; exact .inl q) (.inr (by rw [B.es]; exact q))
  · rename_i q
    exact pg_name (by rw [B.eN]; exact C.nd) (by rw [B.eN]; exact hi) (by rw [B.es]; exact .inr q) (.inl hv)
  · cases hv
abbrev DC (X : Cx) (g : Ce) (pu : Bool) (es : List Expr) (t : Tv) : Prop := PTs X es (tT (cc X g) pu t W0)
theorem PTs.imp {X : Cx} {e : List Expr} {t t' : TT} (h : PTs X e t) (k : ∀ σ H Q, t' σ H Q → t σ H Q) : PTs X e t' := ⟨fun pins s σ H Q I w => h.run pins s σ H Q I (k _ _ _ w)⟩
theorem c_nil : DC X g true [] dYes := PTs.imp pts_nil fun σ H Q ⟨xs, env, S, w⟩ => w true H (.refl S) rfl
theorem c_one (h : DT X g pu e tt W0) : DC X g pu [e] tt := pts_one h
theorem blk_ok (C : Cok nn X W P w K mg base N sc k bk) (h : blkC N sc scope own = true) : BlkOk X.N X.env.scope scope own := by
  rw [C.eN, C.es]; exact blkOk_by h
abbrev AllB (X : Cx) (scope : Scope) (φ : Cx → Prop) : Prop := ∀ (s : Shared) (H : Hp) (A : Addr) (cl : List (Str × Addr)) (fp : List Addr), φ (X.blk s H scope (compEnvC scope cl A X.env) fp)
theorem f_lc (C : Cok nn X W P w K mg base N sc k bk) (own : List (Str × Nat)) (ok : blkC N sc scope own = true) (hi : DI X g tg pu iter mi W) (hg : AllB X scope fun X' => DG X' g (own.map (·.2)) tg mt) (ht : AllB X scope fun X' => DC X' g pu1 ifs tt) (he : AllB X scope fun X' => DE X' g pu2 false elt me W0)
    (hs : ∀ x, foldedSetIterable iter X.env x = pure x := by intro _; rfl) : DF X g (pu && (pu1 && pu2)) (.ListComp elt [⟨tg, iter, ifs, 0⟩] scope pos) (dLc mi mt tt me (own.map (·.2))) W :=
  PE.imp (pe_lc C.calm (by rw [C.eN]; exact C.nd) hi (blk_ok C ok) hg ht he hs) fun σ H Q h => t_lc h
/-- y = [..] on one line: does the model swap -/
def swB (sc scope : Scope) (y : Str) (l l' : Nat) : Bool := (sc.names.lookup y == some .local && l == l') && !(scope.names.any fun (n, k) => n == y && (k == .local || k == .cell))
theorem sw_eq (C : Cok nn X W P w K mg base N sc k bk) {gs : List Comprehension} {l : Nat} (h : swB sc scope x p.line pos.line = false) : swapsWith (.ListComp elt gs scope pos) (some (.Name x p)) l X.env = pure false := by
  have e : swapsWith (.ListComp elt gs scope pos) (some (.Name x p)) l X.env = pure (X.env.blockKind == .function && X.env.kindOf x == some .local && p.line == pos.line && !(scope.names.any fun (n, k) => n == x && (k == .local || k == .cell))) := rfl
  have e2 : X.env.kindOf x = sc.names.lookup x := by have := C.es; subst this; rfl
  rw [e, e2, Bool.and_assoc (X.env.blockKind == .function), Bool.and_assoc (X.env.blockKind == .function)]
  unfold swB at h
  rw [h, Bool.and_false]
theorem sw_eqT (C : Cok nn X W P w K mg base N sc k bk) (hk : (match sc.kind with | .function => true | _ => false) = true) {gs : List Comprehension} {l : Nat} (h : swB sc scope x p.line pos.line = true) : swapsWith (.ListComp elt gs scope pos) (some (.Name x p)) l X.env = pure true := by
  have es := C.es
  unfold swB at h
  simp only [Bool.and_eq_true, Bool.not_eq_true', beq_iff_eq] at h
  obtain ⟨⟨h1, h2⟩, h3⟩ := h
  have h0 : sc.kind = .function := by
    split at hk
    · assumption
    · cases hk
  exact sw_true (by rw [es]; exact h0) (by rw [es]; exact h1) (by rw [h2]; exact beq_self_eq_true _) h3
theorem swB_loc {l l' : Nat} (h : swB sc scope x l l' = true) : sc.names.lookup x = some .local := by
  unfold swB at h
  simp only [Bool.and_eq_true, Bool.not_eq_true', beq_iff_eq] at h
  exact h.1.1
/-- the store of a comprehension, swapped or not -/
theorem setLc_pe (C : Cok nn X W P w K mg base N sc k false) (own : List (Str × Nat)) (ok : blkC N sc scope own = true) (hk : (match sc.kind with | .function => true | _ => false) = true) (i : Nat) (hx : N[i]? = some x) (hl : locB sc x = true) (hi : DI X g tg pu iter mi W) (hg : AllB X scope fun X' => DG X' g (own.map (·.2)) tg mt) (ht : AllB X scope fun X' => DC X' g pu1 ifs tt) (he : AllB X scope fun X' => DE X' g pu2 false elt me W0)
    (hs : ∀ x, foldedSetIterable iter X.env x = pure x) : PS X (.Assign [.Name x p] (.ListComp elt [⟨tg, iter, ifs, 0⟩] scope pos) pos') (tAsg (tLc (tI (cc X g) pu mi W) (tG (cc X g) mt (own.map (·.2))) (tT (cc X g) pu1 tt W0) (tE (cc X g) pu2 false me W0) (own.map (·.2))) (gName i)) := by
  cases h : swB sc scope x p.line pos.line with
  | true => exact ps_setLc C.calm (by rw [C.eN]; exact C.nd) (by rw [C.eN]; exact hx) (by rw [C.es]; exact swB_loc h) (sw_eqT C hk h) hi (blk_ok C ok) hg ht he hs
  | false => exact set_pe C i hx hl (pe_lc C.calm (by rw [C.eN]; exact C.nd) hi (blk_ok C ok) hg ht he hs) (sw_eq C h)
theorem s_setLc (C : Cok nn X W P w K mg base N sc k false) (own : List (Str × Nat)) (ok : blkC N sc scope own = true) (hk : (match sc.kind with | .function => true | _ => false) = true) (i : Nat) (hx : N[i]? = some x) (hl : locB sc x = true) (hi : DI X g tg pu iter mi W) (hg : AllB X scope fun X' => DG X' g (own.map (·.2)) tg mt) (ht : AllB X scope fun X' => DC X' g pu1 ifs tt) (he : AllB X scope fun X' => DE X' g pu2 false elt me W0)
    (hs : ∀ x, foldedSetIterable iter X.env x = pure x := by intro _; rfl) : DS X g (.Assign [.Name x p] (.ListComp elt [⟨tg, iter, ifs, 0⟩] scope pos) pos') (sSet i (dLc mi mt tt me (own.map (·.2)))) W :=
  PS.imp (setLc_pe C own ok hk i hx hl hi hg ht he hs) fun E σ H h => by
    obtain ⟨xs, env, S, w⟩ := h
    exact t_lc (W := W) ⟨xs, env, S, WantS.bindE w fun d env' v H' e s r w' => by
      obtain ⟨a, o, rfl, n, h1, _, h2⟩ := r
      rw [s.hid] at h2
      have r' : IsD (cc X g) (hide H' (Hid xs env σ)) d (.ref a) := h2.isD h1 (S.newHid n)
      rw [← s.hid] at r'
      dsimp only at w'
      rcases put_cases i (.va d) env' with q | ⟨q, h0⟩ <;> rw [q] at w'
      · exact w'.elim
      · exact w' _ H' (s.st.setVa i r') (kept_va s h0)⟩
theorem s_setOLc (C : Cok nn X W P w K mg base N sc k false) (own : List (Str × Nat)) (ok : blkC N sc scope own = true) (hk : (match sc.kind with | .function => true | _ => false) = true) (i : Nat) (hx : N[i]? = some x) (hl : locB sc x = true) (hi : DI X g tg pu iter mi W) (hg : AllB X scope fun X' => DG X' g (own.map (·.2)) tg mt) (ht : AllB X scope fun X' => DC X' g pu1 ifs tt) (he : AllB X scope fun X' => DE X' g pu2 false elt me W0)
    (hs : ∀ x, foldedSetIterable iter X.env x = pure x := by intro _; rfl) : DS X g (.Assign [.Name x p] (.ListComp elt [⟨tg, iter, ifs, 0⟩] scope pos) pos') (sSetO i (dLc mi mt tt me (own.map (·.2)))) W :=
  PS.imp (setLc_pe C own ok hk i hx hl hi hg ht he hs) fun E σ H h => by
    obtain ⟨xs, env, S, w⟩ := h
    exact t_lc (W := W) ⟨xs, env, S, WantS.bindE w fun d env' v H' e s r w' => by
      dsimp only at w'
      rcases put_cases i (.ow d) env' with q | ⟨q, h0⟩ <;> rw [q] at w'
      · exact w'.elim
      · obtain ⟨h1, h2⟩ := s.setOw S i h0 r
        exact w' _ H' h1 h2⟩
end
end Dn

/-! Dn14 -/
set_option Elab.async false
set_option linter.all false
set_option maxRecDepth 100000
set_option maxHeartbeats 1000000
/-! Dn14: built-ins of data. -/
namespace Dn
open PySem PySem.Spec L2
open PyProof.Rows hiding St

section
variable {X : Cx} {P : Program} {w : World} {K : PySem.W.Frag} {mg : Str → Option Value} {base : Heap} {N : List Str} {sc : Scope} {k : Nat} {bk nn : Bool} {g : Ce} {W : WX}
variable {pu pu1 pu2 sh sh1 : Bool} {e e1 a b : Expr} {es : List Expr} {pos p p2 pos' apos cpos : Pos} {m m1 m2 : Ev} {ma : Av} {shs : List Bool} {x : Str} {c : Cc} {T : String}

/-! ### isinstance with one built-in type -/
def D.ty : D → Option String
  | .non => some "NoneType"
  | .bl _ => some "bool"
  | .int _ => some "int"
  | .str _ => some "str"
  | .tup _ => some "tuple"
  | .lst _ => some "list"
  | .dct _ _ => none
  | .scr _ => some "list"
  | .fn _ => none
/-- is a value of type t one of T -/
def isTy (t T : String) : Bool := t == T || (t == "bool" && T == "int")
def dIsi (T : String) (m : Ev) : Ev := fun env => bnd (m env) fun p => match p.1.ty with
  | some t => .ok (.bl (isTy t T), p.2)
  | none => stuck
theorem RepS.ty {Z : Addr → Prop} {H : Hp} {d : D} {v : V} {t : String} (r : RepS c Z H d v) (h : d.ty = some t) : TyX c.K H v (.type t) := by
  cases d with
  | non => cases h; rw [r.non]; exact .base .non
  | bl b => cases h; rw [r.bl]; exact .base (.bl _)
  | int i => cases h; rw [r.int]; exact .base (.int _)
  | str s => cases h; rw [r.str]; exact .base (.str _)
  | tup ds =>
    cases h
    obtain ⟨a, vs, rfl, h1, _⟩ := r.tup
    rcases h1 with (h1 | ⟨o, h1⟩) | ⟨o, its, n, h1, h2, _⟩
    · exact .base (.tup h1)
    · exact .fTuple h1
    · exact .kTuple h1 h2
  | lst ds =>
    cases h
    obtain ⟨a, vs, rfl, h1, _⟩ := r.lst
    exact .base (.lst h1)
  | dct ks ws => cases h
  | scr ns =>
    cases h
    unfold RepS IsD at r
    obtain ⟨a, rfl, h1⟩ := r
    rcases h1 with (h1 | ⟨o, h1⟩) | ⟨o, its, n, h1, h2, _⟩
    · exact .base (.lst (hide_full _ _ h1))
    · exact .base (.frz (hide_full _ _ h1))
    · exact .kList h1 h2
  | fn i => cases h
def KitT (T : String) : Prop := ∀ (K : PySem.W.Frag) (d : D) (t : String), d.ty = some t → PySem.W.kitOne K (.type t) (.type T) = some (isTy t T)
theorem kitT_int : KitT "int" := fun K d t h => by cases d <;> cases h <;> rfl
theorem kitT_bool : KitT "bool" := fun K d t h => by cases d <;> cases h <;> rfl
theorem kitT_str : KitT "str" := fun K d t h => by cases d <;> cases h <;> rfl
theorem kitT_tuple : KitT "tuple" := fun K d t h => by cases d <;> cases h <;> rfl
theorem kitT_list : KitT "list" := fun K d t h => by cases d <;> cases h <;> rfl
theorem kitT_dict : KitT "dict" := fun K d t h => by cases d <;> cases h <;> rfl
theorem e_isi (kt : KitT T) (hg : Gl X "isinstance") (hm : X.mg "isinstance" = none) (hg2 : Gl X x) (hm2 : X.mg x = none) (hv : bootBuiltins x = some (.type T)) (he : DE X g pu sh e m W) (hn : x ≠ "__name__" := by decide) (hdb : (x == ("__debug__" : Str)) = false := by decide)
    (hs : starEach [e, .Name x p2] X.env = (false, eval e X.env) :: starEach [.Name x p2] X.env := by rfl) (hs2 : starEach [.Name x p2] X.env = (false, eval (.Name x p2) X.env) :: starEach [] X.env := by rfl) (hpl : (backTo pos (starEach [.Name x p2] X.env)).any (·.1) = false := by rfl) :
    DE X g pu false (.Call (.Name "isinstance" p) [e, .Name x p2] [] pos) (dIsi T m) W :=
  PE.imp (pe_callB call_isi hg hm rfl (pa_cons he (pa_cons (pe_bltn (v := .ty T) hg2 hm2 hv rfl hn hdb) pa_nil hs2) hs) (by decide) (by decide) hs hpl) fun σ H Q ⟨xs, env, S, w⟩ => ⟨xs, env, S, Want.bind w fun d env' v H' e s r w' => by
    dsimp only at w'
    split at w'
    · rename_i t ht
      exact ⟨v, .ty T, .type t, .type T, _, rfl, .ty T, RepS.ty (c := cc X g) (Rep.shell r) ht, kt _ _ _ ht, w' _ H' s (Rep.of isBl)⟩
    · exact w'.elim⟩

/-! ### built-ins by values -/
def bLen : List D → M D
  | [.lst xs] => .ok (.int xs.length)
  | [.tup xs] => .ok (.int xs.length)
  | [.scr xs] => .ok (.int xs.length)
  | [.str x] => if x.length ≤ maxSeq then .ok (.int x.length) else stuck
  | _ => stuck
theorem bLen_nr : NoRL bLen := fun ds k p h => by
  unfold bLen at h
  split at h <;> (try split at h) <;> cases h
theorem vc_len : VC c (fun xs H Q => ∃ x n, xs = [x] ∧ LenV c.K x H n ∧ Q (.int n) H) bLen := fun Z H vs ds d Q hP r e k => by
  unfold bLen at e
  split at e
  · obtain ⟨v, rfl, r1⟩ := r.one
    obtain ⟨a, ws, rfl, h1, h2⟩ := r1.lst
    cases e
    exact ⟨.ref a, ws.length, rfl, .inl ⟨ws, SqL.of h1, rfl⟩, by rw [← h2.len]; exact k _ H (Same.refl _) isInt⟩
  · obtain ⟨v, rfl, r1⟩ := r.one
    obtain ⟨a, ws, rfl, h1, h2⟩ := r1.tup
    cases e
    exact ⟨.ref a, ws.length, rfl, .inr ⟨ws, h1, rfl⟩, by rw [← h2.len]; exact k _ H (Same.refl _) isInt⟩
  · obtain ⟨v, rfl, r1⟩ := r.one
    unfold RepS IsD at r1
    obtain ⟨a, rfl, h1⟩ := r1
    cases e
    exact ⟨.ref a, _, rfl, .inl ⟨_, SqL.hid h1, rfl⟩, by rw [List.length_map]; exact k _ H (Same.refl _) isInt⟩
  · split at e
    · rename_i hz
      obtain ⟨v, rfl, r1⟩ := r.one
      rw [r1.str]
      cases e
      exact ⟨.str _, _, rfl, ⟨by rw [maxSeq_eq]; exact hz, rfl⟩, k _ H (Same.refl _) isInt⟩
    · cases e
  · cases e
def bList : List D → M D
  | [.lst xs] => .ok (.lst xs)
  | [.tup xs] => .ok (.lst xs)
  | [.scr xs] => .ok (.lst (xs.map D.int))
  | _ => stuck
theorem bList_nr : NoRL bList := fun ds k p h => by
  unfold bList at h
  split at h <;> cases h
theorem repV_lst {Z : Addr → Prop} {H : Hp} {ds : List D} {vs : List V} {p : Addr} (hp : H p = none) (r : IsDs c (hide H Z) ds vs) : RepV c Z H (upd H p (.lst vs)) (.lst ds) (.ref p) := by
  refine ⟨p, _, rfl, hp, upd_same, vs, rfl, r.same fun b o hb => ?_⟩
  obtain ⟨h1, h2⟩ := hide_some hb
  have ne : b ≠ p := ne_of_none h2 hp
  rw [hide_of fun z => z.elim h1 ne, upd_ne ne]
  exact h2
theorem vcf_list : VCF c (fun xs H Q => ∃ p ys, xs = [.ref p] ∧ (SqL c.K H p ys ∨ SqT c.K H p ys) ∧ ∀ l, H l = none → Q (.ref l) (upd H l (.lst ys))) bList := fun Z H vs ds d Q hP r e k => by
  unfold bList at e
  split at e
  · obtain ⟨v, rfl, r1⟩ := r.one
    obtain ⟨a, ws, rfl, h1, h2⟩ := r1.lst
    cases e
    exact ⟨a, ws, rfl, .inl (SqL.of h1), fun l hl => k _ _ (same_new hl) (repV_lst hl h2)⟩
  · obtain ⟨v, rfl, r1⟩ := r.one
    obtain ⟨a, ws, rfl, h1, h2⟩ := r1.tup
    cases e
    exact ⟨a, ws, rfl, .inr h1, fun l hl => k _ _ (same_new hl) (repV_lst hl h2)⟩
  · obtain ⟨v, rfl, r1⟩ := r.one
    unfold RepS IsD at r1
    obtain ⟨a, rfl, h1⟩ := r1
    cases e
    exact ⟨a, _, rfl, .inl (SqL.hid h1), fun l hl => k _ _ (same_new hl) (repV_lst hl (isDs_ints _))⟩
  · cases e
def bTuple : List D → M D
  | [.lst xs] => .ok (.tup xs)
  | [.tup xs] => .ok (.tup xs)
  | _ => stuck
theorem bTuple_nr : NoRL bTuple := fun ds k p h => by
  unfold bTuple at h
  split at h <;> cases h
theorem vc_tuple : VC c (fun xs H Q => ∃ p ys, xs = [.ref p] ∧ ((SqL c.K H p ys ∧ ∀ l, H l = none → Q (.ref l) (upd H l (.tup ys))) ∨ (SqT c.K H p ys ∧ Q (.ref p) H))) bTuple := fun Z H vs ds d Q hP r e k => by
  unfold bTuple at e
  split at e
  · obtain ⟨v, rfl, r1⟩ := r.one
    obtain ⟨a, ws, rfl, h1, h2⟩ := r1.lst
    cases e
    exact ⟨a, ws, rfl, .inl ⟨SqL.of h1, fun l hl => k _ _ (same_new hl) (isNewT hl hP h2)⟩⟩
  · obtain ⟨v, rfl, r1⟩ := r.one
    have r0 := r1
    obtain ⟨a, ws, rfl, h1, h2⟩ := r1.tup
    cases e
    exact ⟨a, ws, rfl, .inr ⟨h1, k _ H (Same.refl _) r0⟩⟩
  · cases e
def bools : List D → Option (List Bool)
  | [] => some []
  | .bl b :: r => (bools r).map (b :: ·)
  | _ => none
theorem bools_rep {H : Hp} : ∀ {ds : List D} {vs : List V} {bs : List Bool}, bools ds = some bs → IsDs c H ds vs → vs = bs.map V.bl
  | [], vs, bs, h, r => by unfold IsDs at r; cases h; exact r
  | d :: ds, vs, bs, h, r => by
    unfold IsDs at r
    obtain ⟨v, ws, rfl, h1, h2⟩ := r
    cases d <;> simp only [bools] at h <;> try (cases h; done)
    rename_i b
    cases q : bools ds with
    | none => rw [q] at h; cases h
    | some cs =>
      rw [q] at h
      cases h
      rw [bools_rep q h2]
      unfold IsD at h1
      rw [h1]; rfl
def bAll : List D → M D
  | [.lst xs] => match bools xs with
    | some bs => .ok (.bl (bs.all id))
    | none => stuck
  | _ => stuck
def bAny : List D → M D
  | [.lst xs] => match bools xs with
    | some bs => .ok (.bl (bs.any id))
    | none => stuck
  | _ => stuck
theorem bAll_nr : NoRL bAll := fun ds k p h => by
  unfold bAll at h
  split at h <;> (try split at h) <;> cases h
theorem bAny_nr : NoRL bAny := fun ds k p h => by
  unfold bAny at h
  split at h <;> (try split at h) <;> cases h
theorem vc_all : VC c (rAll c.K) bAll := fun Z H vs ds d Q hP r e k => by
  unfold bAll at e
  split at e
  · split at e
    · rename_i bs hb
      obtain ⟨v, rfl, r1⟩ := r.one
      obtain ⟨a, ws, rfl, h1, h2⟩ := r1.lst
      cases e
      exact ⟨a, bs, rfl, by rw [← bools_rep hb h2]; exact SqL.of h1, k _ H (Same.refl _) isBl⟩
    · cases e
  · cases e
theorem vc_any : VC c (rAny c.K) bAny := fun Z H vs ds d Q hP r e k => by
  unfold bAny at e
  split at e
  · split at e
    · rename_i bs hb
      obtain ⟨v, rfl, r1⟩ := r.one
      obtain ⟨a, ws, rfl, h1, h2⟩ := r1.lst
      cases e
      exact ⟨a, bs, rfl, by rw [← bools_rep hb h2]; exact SqL.of h1, k _ H (Same.refl _) isBl⟩
    · cases e
  · cases e
def intsOf : List D → Option (List Int)
  | [] => some []
  | .int i :: r => (intsOf r).map (i :: ·)
  | _ => none
theorem intsOf_rep {H : Hp} : ∀ {ds : List D} {vs : List V} {bs : List Int}, intsOf ds = some bs → IsDs c H ds vs → vs = bs.map V.int
  | [], vs, bs, h, r => by unfold IsDs at r; cases h; exact r
  | d :: ds, vs, bs, h, r => by
    unfold IsDs at r
    obtain ⟨v, ws, rfl, h1, h2⟩ := r
    cases d <;> simp only [intsOf] at h <;> try (cases h; done)
    rename_i b
    cases q : intsOf ds with
    | none => rw [q] at h; cases h
    | some cs =>
      rw [q] at h
      cases h
      rw [intsOf_rep q h2]
      unfold IsD at h1
      rw [h1]; rfl
def bAbs : List D → M D
  | [.int i] => .ok (.int (if i < 0 then -i else i))
  | _ => stuck
theorem bAbs_nr : NoRL bAbs := fun ds k p h => by
  unfold bAbs at h
  split at h <;> cases h
theorem vc_abs : VC c (fun xs H Q => ∃ i, xs = [.int i] ∧ Q (.int (if i < 0 then -i else i)) H) bAbs := fun Z H vs ds d Q hP r e k => by
  unfold bAbs at e
  split at e
  · obtain ⟨v, rfl, r1⟩ := r.one
    rw [r1.int]
    cases e
    exact ⟨_, rfl, k _ H (Same.refl _) isInt⟩
  · cases e
def bInt : List D → M D
  | [.int i] => .ok (.int i)
  | [.bl b] => .ok (.int (if b = true then 1 else 0))
  | _ => stuck
theorem bInt_nr : NoRL bInt := fun ds k p h => by
  unfold bInt at h
  split at h <;> cases h
theorem vc_int : VC c (fun xs H Q => (∃ i, xs = [.int i] ∧ Q (.int i) H) ∨ ∃ k, xs = [.bl k] ∧ Q (.int (if k then 1 else 0)) H) bInt := fun Z H vs ds d Q hP r e k => by
  unfold bInt at e
  split at e
  · obtain ⟨v, rfl, r1⟩ := r.one
    rw [r1.int]
    cases e
    exact .inl ⟨_, rfl, k _ H (Same.refl _) isInt⟩
  · obtain ⟨v, rfl, r1⟩ := r.one
    rw [r1.bl]
    cases e
    exact .inr ⟨_, rfl, k _ H (Same.refl _) isInt⟩
  · cases e
/-- the least, the greatest -/
def leastOf : List Int → Option Int
  | [] => none
  | i :: r => match leastOf r with
    | some j => some (if j < i then j else i)
    | none => some i
def mostOf : List Int → Option Int
  | [] => none
  | i :: r => match mostOf r with
    | some j => some (if i < j then j else i)
    | none => some i
theorem leastOf_le : ∀ {ns : List Int} {m : Int}, leastOf ns = some m → m ∈ ns ∧ ∀ y ∈ ns, m ≤ y
  | [], m, h => by cases h
  | i :: r, m, h => by
    unfold leastOf at h
    cases q : leastOf r with
    | none =>
      rw [q] at h; cases h
      cases r with
      | nil => simp
      | cons j r => unfold leastOf at q; split at q <;> cases q
    | some j =>
      rw [q] at h; cases h
      obtain ⟨h1, h2⟩ := leastOf_le q
      split
      · refine ⟨List.mem_cons_of_mem _ h1, fun y hy => ?_⟩
        rcases List.mem_cons.mp hy with rfl | hy
        · omega
        · exact h2 y hy
      · refine ⟨List.mem_cons_self, fun y hy => ?_⟩
        rcases List.mem_cons.mp hy with rfl | hy
        · omega
        · have := h2 y hy; omega
theorem mostOf_le : ∀ {ns : List Int} {m : Int}, mostOf ns = some m → m ∈ ns ∧ ∀ y ∈ ns, y ≤ m
  | [], m, h => by cases h
  | i :: r, m, h => by
    unfold mostOf at h
    cases q : mostOf r with
    | none =>
      rw [q] at h; cases h
      cases r with
      | nil => simp
      | cons j r => unfold mostOf at q; split at q <;> cases q
    | some j =>
      rw [q] at h; cases h
      obtain ⟨h1, h2⟩ := mostOf_le q
      split
      · refine ⟨List.mem_cons_of_mem _ h1, fun y hy => ?_⟩
        rcases List.mem_cons.mp hy with rfl | hy
        · omega
        · exact h2 y hy
      · refine ⟨List.mem_cons_self, fun y hy => ?_⟩
        rcases List.mem_cons.mp hy with rfl | hy
        · omega
        · have := h2 y hy; omega
def bMin : List D → M D
  | [.int i, .int j] => .ok (.int (if j < i then j else i))
  | [.lst xs] => match (intsOf xs).bind leastOf with
    | some m => .ok (.int m)
    | none => stuck
  | [.tup xs] => match (intsOf xs).bind leastOf with
    | some m => .ok (.int m)
    | none => stuck
  | _ => stuck
def bMax : List D → M D
  | [.int i, .int j] => .ok (.int (if j > i then j else i))
  | [.lst xs] => match (intsOf xs).bind mostOf with
    | some m => .ok (.int m)
    | none => stuck
  | [.tup xs] => match (intsOf xs).bind mostOf with
    | some m => .ok (.int m)
    | none => stuck
  | _ => stuck
def bSum : List D → M D
  | [.lst xs] => match intsOf xs with
    | some ns => .ok (.int ns.sum)
    | none => stuck
  | [.tup xs] => match intsOf xs with
    | some ns => .ok (.int ns.sum)
    | none => stuck
  | _ => stuck
theorem bMin_nr : NoRL bMin := fun ds k p h => by
  unfold bMin at h
  split at h <;> (try split at h) <;> cases h
theorem bMax_nr : NoRL bMax := fun ds k p h => by
  unfold bMax at h
  split at h <;> (try split at h) <;> cases h
theorem bSum_nr : NoRL bSum := fun ds k p h => by
  unfold bSum at h
  split at h <;> (try split at h) <;> cases h
end
end Dn

/-! Dn15 -/
set_option Elab.async false
set_option linter.all false
set_option maxRecDepth 100000
set_option maxHeartbeats 1000000
/-! Dn15: sum, min, max of tuples; enumerate over tuples. -/
namespace Dn
open PySem PySem.Spec L2
open PyProof.Rows hiding St

/-! ### walks of a tuple of ints -/
section
variable {prog : Program} {w : World} {A : Around} {E : Value → Shared → Prop} {s : Shared} {l : Addr} {xs : Array (Int × Tok)}
theorem iter_tupI {items : Array Value} {Q : Value → Shared → Prop} (hl : s.heap.IsTuple l items)
    (h : ∀ s2 : Shared, s2 = { s with heap := s.heap.push { cls := .type "tuple_iterator", data := .fields #[.ref l, .int 0 0] } } →
      (s2.heap.IsTupleIter s.heap.objs.size l 0 ∧ s2.heap.IsTuple l items) → (∀ b ∈ [s.heap.objs.size, l], b < s2.heap.objs.size) → l ≠ s.heap.objs.size → Q (.ref s.heap.objs.size) s2) :
    wpAny (model prog w) A (pyIter (.ref l)) Q E s := by
  have hlt : l < s.heap.objs.size := by obtain ⟨_, e, _⟩ := hl; exact Heap.lt_size e
  refine wpAny_pyIter_tuple hl (h _ rfl ⟨⟨_, Heap.get?_push_size _ rfl, rfl, rfl⟩, hl.push _⟩ (fun b hb => ?_) (Nat.ne_of_lt hlt))
  show b < (s.heap.push _).objs.size
  rw [Heap.size_push]
  rcases List.mem_cons.mp hb with rfl | hb
  · exact Nat.lt_succ_self _
  · rw [List.mem_singleton.mp hb]; exact Nat.lt_succ_of_lt hlt
theorem kept_old {h' : Heap} {o : Obj} (hk : ∀ b u, b ∉ [s.heap.objs.size] → (s.heap.push o).get? b = some u → h'.get? b = some u) (b : Addr) (u : Obj) (e : s.heap.get? b = some u) : h'.get? b = some u :=
  hk b u (fun z => by rw [List.mem_singleton] at z; subst z; exact absurd (Heap.lt_size e) (Nat.lt_irrefl _)) (Heap.get?_push_of_some _ e)
theorem sum_tupI {Q : Value → Shared → Prop} (hh : A.handled = none) (hl : s.heap.IsTuple l (intItems xs))
    (h : ∀ h' tk t', (∀ b o, s.heap.get? b = some o → h'.get? b = some o) → Q (.int (preSum (numAt xs) xs.size) t') { s with heap := h', toks := tk }) :
    wpAny (model prog w) A (call (.builtin "sum") [.ref l]) Q E s := by
  refine call_sum_walkG (iter_tupI hl fun s2 e st hfp hlI => ?_)
  subst e
  refine ⟨_, _, _, _, _, _, numAt xs, rfl, Walks.tuple (A := A.in1) hh _ l hlI (intItems xs), st, hfp, (fun _ _ => intItems_at), fun h' tk t' hk => ?_⟩
  have := h h' tk t' (kept_old hk)
  simpa [intItems] using this
theorem max_tupI {Q : Value → Shared → Prop} (hh : A.handled = none) (hl : s.heap.IsTuple l (intItems xs)) (hne : 0 < xs.size)
    (h : ∀ v h' tk, (intItems xs)[argBest (fun i j => decide (numAt xs i > numAt xs j)) (xs.size - 1)]? = some v → (∀ b o, s.heap.get? b = some o → h'.get? b = some o) → Q v { s with heap := h', toks := tk }) :
    wpAny (model prog w) A (call (.builtin "max") [.ref l]) Q E s := by
  refine call_max_walk (iter_tupI hl fun s2 e st hfp hlI => ?_)
  subst e
  refine ⟨_, _, _, _, _, _, _, rfl, Walks.tuple (A := A.in1) hh _ l hlI (intItems xs), st, hfp, by simpa [intItems] using hne, CmpOf.ints_gt (numAt xs) (fun _ _ => intItems_at), fun v h' tk hP hk => ?_⟩
  exact h v h' tk (by simpa [intItems] using hP) (kept_old hk)
theorem min_tupI {Q : Value → Shared → Prop} (hh : A.handled = none) (hl : s.heap.IsTuple l (intItems xs)) (hne : 0 < xs.size)
    (h : ∀ v h' tk, (intItems xs)[argBest (fun i j => decide (numAt xs i < numAt xs j)) (xs.size - 1)]? = some v → (∀ b o, s.heap.get? b = some o → h'.get? b = some o) → Q v { s with heap := h', toks := tk }) :
    wpAny (model prog w) A (call (.builtin "min") [.ref l]) Q E s := by
  refine call_min_walk (iter_tupI hl fun s2 e st hfp hlI => ?_)
  subst e
  refine ⟨_, _, _, _, _, _, _, rfl, Walks.tuple (A := A.in1) hh _ l hlI (intItems xs), st, hfp, by simpa [intItems] using hne, CmpOf.ints_lt (numAt xs) (fun _ _ => intItems_at), fun v h' tk hP hk => ?_⟩
  exact h v h' tk (by simpa [intItems] using hP) (kept_old hk)
end
section
variable {X : Cx} {c : Cc}
def rSumT (K : PySem.W.Frag) : RC := fun vs H Q => ∃ (a : Addr) (ns : List Int), vs = [V.ref a] ∧ SqT K H a (ns.map V.int) ∧ Q (.int ns.sum) H
def rMaxT (K : PySem.W.Frag) : RC := fun vs H Q => ∃ (a : Addr) (ns : List Int), vs = [V.ref a] ∧ SqT K H a (ns.map V.int) ∧ 0 < ns.length ∧ ∀ m, m ∈ ns → (∀ y, y ∈ ns → y ≤ m) → Q (.int m) H
def rMinT (K : PySem.W.Frag) : RC := fun vs H Q => ∃ (a : Addr) (ns : List Int), vs = [V.ref a] ∧ SqT K H a (ns.map V.int) ∧ 0 < ns.length ∧ ∀ m, m ∈ ns → (∀ y, y ∈ ns → m ≤ y) → Q (.int m) H
theorem cr_sumT (hc : X.calm = true) : CallR X (.builtin "sum") (rSumT X.K) := by
  intro pins s σ H vs us Q I r h
  obtain ⟨a, ns, rfl, hs, q⟩ := h
  obtain ⟨its, rv, hl, _⟩ := I.tuple hs
  rw [Vals.ref1 r]
  obtain ⟨xs, e⟩ := rv.ints.allInts.items
  have hn : numsOf (intItems xs).toList = ns := by rw [← e]; exact rv.ints.numsOf
  rw [nums_intItems] at hn
  have hl' : s.heap.IsTuple a its.toArray := hl
  rw [e] at hl'
  refine sum_tupI (I.ok.hd hc) hl' fun h' tk t' hk => ?_
  rw [preSum_eq, List.take_of_length_le (by simp), hn]
  exact ⟨.int _, H, I.kept hk, ⟨_, rfl⟩, q⟩
theorem cr_maxT (hc : X.calm = true) : CallR X (.builtin "max") (rMaxT X.K) := by
  intro pins s σ H vs us Q I r h
  obtain ⟨a, ns, rfl, hs, hne, q⟩ := h
  obtain ⟨its, rv, hl, _⟩ := I.tuple hs
  rw [Vals.ref1 r]
  obtain ⟨xs, e⟩ := rv.ints.allInts.items
  have hn : numsOf (intItems xs).toList = ns := by rw [← e]; exact rv.ints.numsOf
  rw [nums_intItems] at hn
  subst hn
  have hl' : s.heap.IsTuple a its.toArray := hl
  rw [e] at hl'
  have hsz : 0 < xs.size := by simpa using hne
  refine max_tupI (I.ok.hd hc) hl' hsz fun v h' tk hv hk => ?_
  obtain ⟨t, rfl⟩ := intItems_at hv
  obtain ⟨h1, h2⟩ := argBest_gt (numAt xs) (xs.size - 1)
  refine ⟨.int _, H, I.kept hk, ⟨_, rfl⟩, q _ ?_ fun y hy => ?_⟩
  · rw [numAt_eq]; exact PySem.getD_mem (by rw [List.length_map, Array.length_toList]; omega)
  · obtain ⟨j, hj, rfl⟩ := mem_getD hy
    rw [List.length_map, Array.length_toList] at hj
    rw [← numAt_eq]; exact h2 j (by omega)
theorem cr_minT (hc : X.calm = true) : CallR X (.builtin "min") (rMinT X.K) := by
  intro pins s σ H vs us Q I r h
  obtain ⟨a, ns, rfl, hs, hne, q⟩ := h
  obtain ⟨its, rv, hl, _⟩ := I.tuple hs
  rw [Vals.ref1 r]
  obtain ⟨xs, e⟩ := rv.ints.allInts.items
  have hn : numsOf (intItems xs).toList = ns := by rw [← e]; exact rv.ints.numsOf
  rw [nums_intItems] at hn
  subst hn
  have hl' : s.heap.IsTuple a its.toArray := hl
  rw [e] at hl'
  have hsz : 0 < xs.size := by simpa using hne
  refine min_tupI (I.ok.hd hc) hl' hsz fun v h' tk hv hk => ?_
  obtain ⟨t, rfl⟩ := intItems_at hv
  obtain ⟨h1, h2⟩ := argBest_lt (numAt xs) (xs.size - 1)
  refine ⟨.int _, H, I.kept hk, ⟨_, rfl⟩, q _ ?_ fun y hy => ?_⟩
  · rw [numAt_eq]; exact PySem.getD_mem (by rw [List.length_map, Array.length_toList]; omega)
  · obtain ⟨j, hj, rfl⟩ := mem_getD hy
    rw [List.length_map, Array.length_toList] at hj
    rw [← numAt_eq]; exact h2 j (by omega)
def rSumA (K : PySem.W.Frag) : RC := fun vs H Q => rSum K vs H Q ∨ rSumT K vs H Q
def rMinA (K : PySem.W.Frag) : RC := fun vs H Q => (∃ i j, vs = [.int i, .int j] ∧ Q (.int (if j < i then j else i)) H) ∨ rMin K vs H Q ∨ rMinT K vs H Q
def rMaxA (K : PySem.W.Frag) : RC := fun vs H Q => (∃ i j, vs = [.int i, .int j] ∧ Q (.int (if j > i then j else i)) H) ∨ rMax K vs H Q ∨ rMaxT K vs H Q
theorem cr_sumA (hc : X.calm = true) : CallR X (.builtin "sum") (rSumA X.K) := CallR.or (cr_sum hc) (cr_sumT hc)
theorem cr_minA (hc : X.calm = true) : CallR X (.builtin "min") (rMinA X.K) := CallR.or (call_min2 hc) (CallR.or (cr_min hc) (cr_minT hc))
theorem cr_maxA (hc : X.calm = true) : CallR X (.builtin "max") (rMaxA X.K) := CallR.or (call_max2 hc) (CallR.or (cr_max hc) (cr_maxT hc))
theorem vc_sum : VC c (rSumA c.K) bSum := fun Z H vs ds d Q hP r e k => by
  unfold bSum at e
  split at e
  · split at e
    · rename_i ns hb
      obtain ⟨v, rfl, r1⟩ := r.one
      obtain ⟨a, ws, rfl, h1, h2⟩ := r1.lst
      cases e
      exact .inl ⟨a, ns, rfl, by rw [← intsOf_rep hb h2]; exact SqL.of h1, k _ H (Same.refl _) isInt⟩
    · cases e
  · split at e
    · rename_i ns hb
      obtain ⟨v, rfl, r1⟩ := r.one
      obtain ⟨a, ws, rfl, h1, h2⟩ := r1.tup
      cases e
      exact .inr ⟨a, ns, rfl, by rw [← intsOf_rep hb h2]; exact h1, k _ H (Same.refl _) isInt⟩
    · cases e
  · cases e
theorem least_uniq {ns : List Int} {m m' : Int} (h : leastOf ns = some m) (h1 : m' ∈ ns) (h2 : ∀ y ∈ ns, m' ≤ y) : m' = m := by
  obtain ⟨a, b⟩ := leastOf_le h
  have := b _ h1
  have := h2 _ a
  omega
theorem most_uniq {ns : List Int} {m m' : Int} (h : mostOf ns = some m) (h1 : m' ∈ ns) (h2 : ∀ y ∈ ns, y ≤ m') : m' = m := by
  obtain ⟨a, b⟩ := mostOf_le h
  have := b _ h1
  have := h2 _ a
  omega
theorem vc_min : VC c (rMinA c.K) bMin := fun Z H vs ds d Q hP r e k => by
  unfold bMin at e
  split at e
  · obtain ⟨v, v2, rfl, r1, r2⟩ := r.two
    rw [r1.int, r2.int]
    cases e
    exact .inl ⟨_, _, rfl, k _ H (Same.refl _) isInt⟩
  · split at e
    · rename_i m hb
      obtain ⟨v, rfl, r1⟩ := r.one
      obtain ⟨a, ws, rfl, h1, h2⟩ := r1.lst
      cases e
      obtain ⟨ns, q1, q2⟩ := Option.bind_eq_some_iff.mp hb
      refine .inr (.inl ⟨a, ns, rfl, by rw [← intsOf_rep q1 h2]; exact SqL.of h1, List.length_pos_of_mem (leastOf_le q2).1, fun m' h3 h4 => ?_⟩)
      rw [least_uniq q2 h3 h4]
      exact k _ H (Same.refl _) isInt
    · cases e
  · split at e
    · rename_i m hb
      obtain ⟨v, rfl, r1⟩ := r.one
      obtain ⟨a, ws, rfl, h1, h2⟩ := r1.tup
      cases e
      obtain ⟨ns, q1, q2⟩ := Option.bind_eq_some_iff.mp hb
      refine .inr (.inr ⟨a, ns, rfl, by rw [← intsOf_rep q1 h2]; exact h1, List.length_pos_of_mem (leastOf_le q2).1, fun m' h3 h4 => ?_⟩)
      rw [least_uniq q2 h3 h4]
      exact k _ H (Same.refl _) isInt
    · cases e
  · cases e
theorem vc_max : VC c (rMaxA c.K) bMax := fun Z H vs ds d Q hP r e k => by
  unfold bMax at e
  split at e
  · obtain ⟨v, v2, rfl, r1, r2⟩ := r.two
    rw [r1.int, r2.int]
    cases e
    exact .inl ⟨_, _, rfl, k _ H (Same.refl _) isInt⟩
  · split at e
    · rename_i m hb
      obtain ⟨v, rfl, r1⟩ := r.one
      obtain ⟨a, ws, rfl, h1, h2⟩ := r1.lst
      cases e
      obtain ⟨ns, q1, q2⟩ := Option.bind_eq_some_iff.mp hb
      refine .inr (.inl ⟨a, ns, rfl, by rw [← intsOf_rep q1 h2]; exact SqL.of h1, List.length_pos_of_mem (mostOf_le q2).1, fun m' h3 h4 => ?_⟩)
      rw [most_uniq q2 h3 h4]
      exact k _ H (Same.refl _) isInt
    · cases e
  · split at e
    · rename_i m hb
      obtain ⟨v, rfl, r1⟩ := r.one
      obtain ⟨a, ws, rfl, h1, h2⟩ := r1.tup
      cases e
      obtain ⟨ns, q1, q2⟩ := Option.bind_eq_some_iff.mp hb
      refine .inr (.inr ⟨a, ns, rfl, by rw [← intsOf_rep q1 h2]; exact h1, List.length_pos_of_mem (mostOf_le q2).1, fun m' h3 h4 => ?_⟩)
      rw [most_uniq q2 h3 h4]
      exact k _ H (Same.refl _) isInt
    · cases e
  · cases e
end

/-! ### enumerate over a tuple -/
theorem meets_enumT (l : Addr) (items : Array Value) (n : Nat) (dct : Option Addr) (sl : Array (Option Value)) :
    Meets (Builtin.«enumerate.__new__» ⟨[.type "enumerate", .ref l], []⟩) (fun _ R s => s.heap.get? l = some { cls := .type "tuple", dict := dct, data := .seq items n, slots := sl } ∧
      R (.ok (.ret (.ref (s.heap.push { cls := .type "tuple_iterator", data := .fields #[.ref l, .int 0 0] }).objs.size)))
        { s with heap := (s.heap.push { cls := .type "tuple_iterator", data := .fields #[.ref l, .int 0 0] }).push { cls := .type "enumerate", data := .fields #[.none, .bool false, .ref s.heap.objs.size, rawInt 0, .none, .none] } }) :=
  .of_wp fun prog w A R s h => by
    obtain ⟨hp, g, d, tk, os⟩ := s; obtain ⟨h1, h⟩ := h
    have hsub := sub_enumerate
    have hl : (⟨hp, g, d, tk, os⟩ : Shared).heap.IsTuple l items := ⟨_, h1, rfl, _, rfl⟩
    have q1 : ∀ {A' : Around} {E : Value → Shared → Prop} {Q : Value → Shared → Prop}, Q (.ref hp.objs.size) ⟨hp.push { cls := .type "tuple_iterator", data := .fields #[.ref l, .int 0 0] }, g, d, tk, os⟩ → wpAny (model prog w) A' (pyIter (.ref l)) Q E ⟨hp, g, d, tk, os⟩ :=
      fun q => wpAny_pyIter_tuple hl q
    wp_walk using q1
    refine wpAny_stack_any fun st => wpAny_pure ?_
    split
    · rename_i c _ _ _ _ _
      cases (c == Value.type "enumerate")
      · wp_walk using q1
        exact ⟨_, rfl, h⟩
      · wp_walk using q1
        exact ⟨_, rfl, h⟩
    · wp_walk using q1
      exact ⟨_, rfl, h⟩
theorem call_enumT {prog : Program} {w : World} {A : Around} {E : Value → Shared → Prop} {s : Shared} {l : Addr} {items : Array Value} {Q : Value → Shared → Prop} (hL : s.heap.IsTuple l items)
    (h : ∀ h', IsEnum h' (s.heap.objs.size + 1) s.heap.objs.size 0 .none → h'.IsTupleIter s.heap.objs.size l 0 → h'.objs.size = s.heap.objs.size + 2 →
      (∀ b o, s.heap.get? b = some o → h'.get? b = some o) → Q (.ref (s.heap.objs.size + 1)) { s with heap := h' }) :
    wpAny (model prog w) A (call (.type "enumerate") [.ref l]) Q E s := by
  obtain ⟨⟨c, dct, dt, sl⟩, hl, hc, n, hd⟩ := hL
  simp only at hc hd
  subst hc hd
  refine callType_new F.called_enumerate (by decide) (F.typeCall_enumerate_1 _) (F.newCall_enumerate_1 _) (fun obj => F.args_object_init_2 obj _) F.entry_enumerate_new
    (meets_enumT l items n dct sl) ⟨hl, ?_⟩
  have hz : (s.heap.push { cls := .type "tuple_iterator", data := .fields #[.ref l, .int 0 0] }).objs.size = s.heap.objs.size + 1 := Heap.size_push ..
  show _ ∧ _
  rw [hz]
  have he : IsEnum ((s.heap.push { cls := .type "tuple_iterator", data := .fields #[.ref l, .int 0 0] }).push { cls := .type "enumerate", data := .fields #[.none, .bool false, .ref s.heap.objs.size, rawInt 0, .none, .none] }) (s.heap.objs.size + 1) s.heap.objs.size 0 .none := by
    have := Heap.get?_push_size (s.heap.push { cls := .type "tuple_iterator", data := .fields #[.ref l, .int 0 0] }) (o := { cls := .type "enumerate", data := .fields #[.none, .bool false, .ref s.heap.objs.size, rawInt 0, .none, .none] }) rfl
    rw [hz] at this; exact this
  exact ⟨⟨_, he, rfl⟩, h _ he ⟨_, Heap.get?_push_of_some _ (Heap.get?_push_size _ rfl), rfl, rfl⟩ (by rw [Heap.size_push, hz]) fun b o x => Heap.get?_push_of_some _ (Heap.get?_push_of_some _ x)⟩
/-- the tuple at a, each item in a new pair -/
def IteT (K : PySem.W.Frag) (a : Addr) : It :=
  ⟨fun i H => ∃ (xs : List V) (x : V), SqT K H a xs ∧ xs[i]? = some x, fun i H v H' => ∃ T x, v = .ref T ∧ H T = none ∧ H' = upd H T (.tup [.int (i : Nat), x]) ∧ ∀ xs, SqT K H a xs → xs[i]? = some x, fun i H => ∃ xs : List V, SqT K H a xs ∧ xs.length = i⟩
theorem turn_enumT {P : Program} {w : World} {K : PySem.W.Frag} {elts : List Expr} {kk : Nat} {tpos : Pos} (a e it : Addr) (hea : e ≠ a) (hia : it ≠ a) :
    Turn P w K (.Tuple elts kk tpos) (IteT K a) [e, it] e (fun i h => (∃ old, IsEnum h e it ((i : Nat) : Int) old) ∧ h.IsTupleIter it a i ∧ e ≠ it) where
  mem := by simp
  obj := fun i h st b hb => by
    obtain ⟨⟨old, he⟩, ⟨o, ho, hc, hd⟩, _⟩ := st
    have e' : b = e ∨ b = it := by simpa using hb
    rcases e' with z | z
    · rw [z]; exact ⟨_, he, fun v q => nomatch q⟩
    · rw [z]; exact ⟨o, ho, fun v q => by rw [hd] at q; cases q⟩
  keep := fun i h h' st k => let ⟨⟨old, he⟩, hi, hne⟩ := st; ⟨⟨old, k e (by simp) _ he⟩, hi.at fun o q => k it (by simp) o q, hne⟩
  item := by
    intro X hP hw hK hc i pins s σ H E I hf st hg
    subst hP hw hK
    obtain ⟨⟨old, he⟩, hit, hne⟩ := st
    obtain ⟨xs, x, hq, hx⟩ := hg
    obtain ⟨its, rv, pl, hz⟩ := I.tuple hq
    have pl' : s.heap.IsTuple a its.toArray := pl
    obtain ⟨u, hu, ru⟩ := rv.get hx
    have hel : e < s.heap.objs.size := Heap.lt_size he
    have hil : it < s.heap.objs.size := by obtain ⟨_, q, _⟩ := hit; exact Heap.lt_size q
    have hlt : i < its.toArray.size := by simpa using (List.getElem?_eq_some_iff.mp hu).1
    refine wpAny_pyNext_enum_itemC (c := ((i : Nat) : Int)) (Draws.tuple (A := X.A.in1) (I.ok.hd hc) it a (Ne.symm hia) its.toArray) he ⟨hit, pl'⟩ hlt hne (by simp [hne, hea]) fun x' h' tk hP ho st' hT hsz hk => ?_
    have ex : x' = u := by
      have : its[i]? = some x' := by simpa using hP
      rw [hu] at this; cases this; rfl
    subst ex
    refine ⟨_, rfl, wpAny_letOwnedTupleGo_enum (s := { s with heap := h', toks := tk + 1 }) ho fun h'' he' sb => ?_⟩
    have hT2 : h''.get? s.heap.objs.size = some { cls := .type "tuple", data := .seq #[.int i tk, x'] } := (sb.2 _ (Nat.ne_of_gt hel)).trans hT
    have new : ObjOk X.prog X.w (upd H s.heap.objs.size (.tup [.int (i : Nat), x])) h'' s.heap.objs.size (.tup [.int (i : Nat), x]) :=
      ⟨by show 2 ≤ sizeLine; decide, [.int i tk, x'], .cons ⟨_, rfl⟩ (.cons ru .nil), ⟨_, hT2, rfl, _, rfl⟩⟩
    have I1 : Inv X pins σ (upd H s.heap.objs.size (.tup [.int (i : Nat), x])) { s with heap := h'', toks := tk + 1 } :=
      I.turnedNew (ch := [e, it]) (fun b ob hb q => (sb.2 b (fun z => hb (by simp [z]))).trans (hk b ob (fun z => hb (by simp [z])) (fun z => hb (by simp [z])) q)) hf (Nat.le_refl _) new
    refine ⟨.ref s.heap.objs.size, _, I1, rfl, ⟨_, x, rfl, I.hok.fresh (Nat.le_refl _), rfl, fun ys hy => ?_⟩, ⟨⟨x', ?_⟩, st'.1.at fun o q => (sb.2 it (Ne.symm hne)).trans q, hne⟩, fun b hb => ?_⟩
    · rw [I.tuple_inj hy hq]; exact hx
    · have e1 : ((i + 1 : Nat) : Int) = (i : Int) + 1 := by omega
      rw [e1]; exact he'
    · have hb' : b < s.heap.objs.size := by
        have e' : b = e ∨ b = it := by simpa using hb
        rcases e' with z | z
        · rw [z]; exact hel
        · rw [z]; exact hil
      rw [upd_ne (Nat.ne_of_lt hb')]
      exact (hf b hb).1
  done := by
    intro X hP hw hK hc i pins s σ H E I hf st hg
    subst hP hw hK
    obtain ⟨⟨old, he⟩, hit, hne⟩ := st
    obtain ⟨xs, hq, hx⟩ := hg
    obtain ⟨its, rv, pl, hz⟩ := I.tuple hq
    have pl' : s.heap.IsTuple a its.toArray := pl
    obtain ⟨f0, f1, f2, f3, f4, f5⟩ := hf it (by simp)
    have hl := rv.length
    have hi : i = its.toArray.size := by rw [List.size_toArray, ← hl, hx]
    subst hi
    exact wpAny_pyNext_enum_endD (Draws.tuple (A := X.A.in1) (I.ok.hd hc) it a (Ne.symm hia) its.toArray) he ⟨hit, pl'⟩ fun h' eb => ⟨rfl, I.turned (t' := s.toks) (fun b o hb q => eb b o hb q) f0 f1 f3 f4 f5⟩
  self := fun A i s Q E st h => let ⟨⟨_, he⟩, _⟩ := st; wpAny_pyIter_enum he h
def iEnumT (K : PySem.W.Frag) (ta : TA) : TI := fun σ H R => ta σ H fun vs H1 => ∃ a xs, vs = [.ref a] ∧ SqT K H1 a xs ∧ R (IteT K a) H1
theorem pi_enumT {X : Cx} {e : Expr} {ta : TA} {p pos tpos : Pos} {elts : List Expr} {kk : Nat} (hg : Gl X "enumerate") (hm : X.mg "enumerate" = none) (ha : PA X [e] ta) (hs : starEach [e] X.env = [(false, eval e X.env)] := by rfl) :
    PI X (.Tuple elts kk tpos) (.Call (.Name "enumerate" p) [e] [] pos) (iEnumT X.K ta) := by
  refine ⟨fun pins s σ H R I h => ?_⟩
  refine Call_ (ld_blt I hg hm boot_enumerate (PyProof.Rows.callWith_type1 (thn (ha.run pos pins s σ H _ I h) fun us s1 ⟨vs, H1, I1, r1, q1⟩ => ?_) hs rfl))
  obtain ⟨a, xs, ex, hq, q⟩ := q1
  subst ex
  cases r1 with
  | cons r rr =>
    cases rr
    cases r
    obtain ⟨its, rv, p', hz⟩ := I1.tuple hq
    have pl' : s1.heap.IsTuple a its.toArray := p'
    have al : a < s1.heap.objs.size := by obtain ⟨_, e, _⟩ := pl'; exact Heap.lt_size e
    refine call_enumT pl' fun h' he hit hsz hk => wpAny_pyIter_enum he ?_
    have I2 : Inv X pins σ H1 { s1 with heap := h' } := I1.kept (t' := s1.toks) hk
    refine ⟨s1.heap.objs.size + 1, [s1.heap.objs.size + 1, s1.heap.objs.size], _, _, H1, rfl, I2, turn_enumT a (s1.heap.objs.size + 1) s1.heap.objs.size (Nat.ne_of_gt (Nat.lt_succ_of_lt al)) (Nat.ne_of_gt al), ⟨⟨.none, he⟩, hit, Nat.succ_ne_self _⟩, fun b hb => ?_, q⟩
    have e' : b = s1.heap.objs.size + 1 ∨ b = s1.heap.objs.size := by simpa using hb
    have hle : s1.heap.objs.size ≤ b := by
      rcases e' with z | z
      · rw [z]; exact Nat.le_add_right _ _
      · rw [z]; exact Nat.le_refl _
    exact I1.fpOk hle (I1.hok.fresh hle)
theorem walk_enumT {K : PySem.W.Frag} {a : Addr} {xs : List V} : Walk (IteT K a) xs.length (fun H => SqT K H a xs) (YPair (fun i => some (.int (i : Nat))) (fun i => xs[i]?)) := by
  refine ⟨fun i _ hi q => ⟨xs, xs[i], q, by simp [hi]⟩, fun _ q => ⟨xs, q, rfl⟩, fun i H v H' _ q y => ?_⟩
  obtain ⟨T, x, h1, h2, h3, h4⟩ := y
  exact ⟨T, .int (i : Nat), x, h1, h2, h3, rfl, h4 xs q⟩

/-! ### enumerate, zip of data -/
def enumD (ds : List D) : List D := ds.zipIdx.map fun p => .tup [.int (p.2 : Nat), p.1]
theorem enumD_get {ds : List D} {i : Nat} {d : D} (h : (enumD ds)[i]? = some d) : ∃ x, ds[i]? = some x ∧ d = .tup [.int (i : Nat), x] := by
  unfold enumD at h
  rw [List.getElem?_map, List.getElem?_zipIdx] at h
  cases q : ds[i]? with
  | none => rw [q] at h; cases h
  | some x => rw [q] at h; cases h; exact ⟨x, rfl, by simp⟩
theorem enumD_len {ds : List D} : (enumD ds).length = ds.length := by unfold enumD; simp
theorem isNewT' {c : Cc} {Z : Addr → Prop} {H : Hp} {T : Addr} {ds : List D} {vs : List V} (hT : H T = none) (hZ : ∀ a, Z a → H a ≠ none) (r : IsDs c (hide H Z) ds vs) : Same H (upd H T (.tup vs)) ∧ IsD c (hide (upd H T (.tup vs)) Z) (.tup ds) (.ref T) :=
  ⟨same_new hT, isNewT hT hZ r⟩
theorem itok_enum {c : Cc} {G0 : Hp} {a : Addr} {ds : List D} {vs : List V} (h : SqL c.K G0 a vs) (r : IsDs c G0 ds vs) : ItOk c G0 (Ite c.K a) (enumD ds) := by
  refine ⟨fun H => SqL c.K H a vs, _, by rw [enumD_len, r.len]; exact walk_enum, fun H z => z.seq h, fun i x H H' d e z y => ?_⟩
  obtain ⟨T, u, v, rfl, hT, rfl, h1, h2⟩ := y
  obtain ⟨x, e1, rfl⟩ := enumD_get e
  cases h1
  refine ⟨same_new hT, fun Z k hZ => ?_⟩
  obtain ⟨v', h3, h4⟩ := r.getD e1
  rw [show vs[i]? = some v from h2] at h3; cases h3
  exact isNewT hT hZ (IsDs.cons isInt (IsDs.cons (h4.same k) IsDs.nil))
theorem itok_enumT {c : Cc} {G0 : Hp} {a : Addr} {ds : List D} {vs : List V} (h : SqT c.K G0 a vs) (r : IsDs c G0 ds vs) : ItOk c G0 (IteT c.K a) (enumD ds) := by
  refine ⟨fun H => SqT c.K H a vs, _, by rw [enumD_len, r.len]; exact walk_enumT, fun H z => SqT.same z h, fun i x H H' d e z y => ?_⟩
  obtain ⟨T, u, v, rfl, hT, rfl, h1, h2⟩ := y
  obtain ⟨x, e1, rfl⟩ := enumD_get e
  cases h1
  refine ⟨same_new hT, fun Z k hZ => ?_⟩
  obtain ⟨v', h3, h4⟩ := r.getD e1
  rw [show vs[i]? = some v from h2] at h3; cases h3
  exact isNewT hT hZ (IsDs.cons isInt (IsDs.cons (h4.same k) IsDs.nil))
def dEnum (m : Ev) : Iv := fun env => bnd (m env) fun p => match p.1 with
  | .lst xs => .ok (enumD xs, p.2)
  | .tup xs => .ok (enumD xs, p.2)
  | _ => stuck
theorem i_enum {X : Cx} {g : Ce} {W : WX} {pu : Bool} {m : Ev} {e : Expr} {p pos tpos : Pos} {elts : List Expr} {kk : Nat} (hg : Gl X "enumerate") (hm : X.mg "enumerate" = none) (h : DE X g pu false e m W)
    (hs : starEach [e] X.env = [(false, eval e X.env)] := by rfl) (hs2 : starEach [e] X.env = (false, eval e X.env) :: starEach [] X.env := by rfl) : DI X g (.Tuple elts kk tpos) pu (.Call (.Name "enumerate" p) [e] [] pos) (dEnum m) W :=
  PI.imp (PI.or (pi_enum hg hm (pa_cons h pa_nil hs2) hs) (pi_enumT hg hm (pa_cons h pa_nil hs2) hs)) fun σ H Q ⟨xs, env, S, w⟩ => by
    have w0 := w
    unfold dEnum at w0
    cases q : m env with
    | error x =>
      rw [q] at w0
      refine .inl ⟨xs, env, S, ?_⟩
      rw [q]
      cases x with
      | raise k p => exact w0
      | stuck => exact w0.elim
    | ok p =>
      obtain ⟨d, env'⟩ := p
      have key : ∀ {R' : V → Hp → Prop}, (∀ v H', Stp (cc X g) xs pu env env' σ H H' → IsD (cc X g) (hide H' (Hid xs env σ)) d v → R' v H') → tE (cc X g) pu false m W σ H R' := fun k => ⟨xs, env, S, by
        rw [q]; exact fun v H' s r => k v H' s r⟩
      rw [q] at w0
      simp only [bnd_ok] at w0
      split at w0
      · rename_i ds
        refine .inl (key fun v H' s r => ?_)
        unfold IsD at r
        obtain ⟨l, vs, e1, e2, e3⟩ := r
        have hq : SqL X.K (hide H' (Hid xs env σ)) l vs := SqL.of e2
        exact ⟨l, vs, by rw [e1], SqL.hid hq, w0 _ H' s (itok_enum hq e3)⟩
      · rename_i ds
        refine .inr (key fun v H' s r => ?_)
        unfold IsD at r
        obtain ⟨l, vs, e1, e2, e3⟩ := r
        exact ⟨l, vs, by rw [e1], SqT.hid e2, w0 _ H' s (itok_enumT e2 e3)⟩
      · exact w0.elim
end Dn

/-! Dn16 -/
set_option Elab.async false
set_option linter.all false
set_option maxRecDepth 100000
set_option maxHeartbeats 1000000
/-! Dn16: products, slices, stores in subscripts, methods of lists, stores of pairs, augmented stores. -/
namespace Dn
open PySem PySem.Spec L2
open PyProof.Rows hiding St

section
variable {c : Cc}
/-! ### products -/
def repD (k : Int) (ds : List D) : List D := (List.replicate k.toNat ds).flatten
def dMul : D → D → M D
  | .int i, .int j => if mulOk i j = true then .ok (.int (i * j)) else stuck
  | .lst ds, .int k => if (decide (k ≤ 16777216) && decide (-16777216 ≤ k) && decide (ds.length * k.toNat ≤ maxSeq)) = true then .ok (.lst (repD k ds)) else stuck
  | .tup ds, .int k => if (decide (2 ≤ k) && decide (k ≤ 1000) && decide (0 < ds.length) && decide (ds.length ≤ 1000)) = true then .ok (.tup (repD k ds)) else stuck
  | _, _ => stuck
theorem dMul_nr : NoR2 dMul := fun d1 d2 k p h => by
  unfold dMul at h
  split at h <;> (try split at h) <;> cases h
theorem IsDs.rep {H : Hp} {ds : List D} {vs : List V} (r : IsDs c H ds vs) : ∀ n : Nat, IsDs c H (List.replicate n ds).flatten (List.replicate n vs).flatten
  | 0 => IsDs.nil
  | n + 1 => by rw [List.replicate_succ, List.replicate_succ, List.flatten_cons, List.flatten_cons]; exact IsDs.append r (IsDs.rep r n)
def rMulD (K : PySem.W.Frag) : R2 := fun x y H Q => rI CMulW (fun i j => .int (i * j)) x y H Q ∨ rRep x y H Q ∨ rRepT K x y H Q
theorem op_mulD {X : Cx} : OpR X (binaryOp .Mult) (rMulD X.K) := OpR.or op_mulW (OpR.or op_rep op_repT)
theorem vb_mul : VB c (rMulD c.K) dMul := by
  intro P H x y d1 d2 d Q hP r1 r2 e k
  unfold dMul at e
  split at e
  · split at e
    · rename_i h
      cases e
      unfold mulOk at h
      rw [decide_eq_true_eq] at h
      exact .inl ⟨_, _, r1.int, r2.int, h, k _ H (Same.refl _) isInt⟩
    · cases e
  · split at e
    · rename_i h
      simp only [Bool.and_eq_true, decide_eq_true_eq] at h
      cases e
      obtain ⟨a, vs, rfl, h1, h2⟩ := r1.lst
      exact .inr (.inl ⟨a, _, vs, rfl, r2.int, h1, by omega, by omega, by rw [maxSeq_eq, ← h2.len]; exact h.2, fun p hp => k _ _ (same_new hp) (isNewL hp hP (h2.rep _))⟩)
    · cases e
  · split at e
    · rename_i h
      simp only [Bool.and_eq_true, decide_eq_true_eq] at h
      cases e
      obtain ⟨a, vs, rfl, h1, h2⟩ := r1.tup
      have hl := h2.len
      exact .inr (.inr ⟨a, _, vs, rfl, r2.int, h1, fun z => by rw [z, List.length_nil] at hl; omega, h.1.1.1, h.1.1.2, by omega, fun p hp => k _ _ (same_new hp) (isNewT hp hP (h2.rep _))⟩)
    · cases e
  · cases e
end

section
variable {X : Cx} {P : Program} {w : World} {K : PySem.W.Frag} {mg : Str → Option Value} {base : Heap} {N : List Str} {sc : Scope} {k : Nat} {bk nn : Bool} {g : Ce} {W : WX}
variable {pu pu1 pu2 pu3 sh sh1 sh2 : Bool} {e e1 a b lo hi : Expr} {es : List Expr} {pos p p2 pos' apos cpos : Pos} {m m1 m2 : Ev} {ma : Av} {shs : List Bool} {x y : Str} {T : String} {ol oh : Option Expr} {ml mh : Ov} {i j : Nat}

/-! ### slices -/
def dSlice (m : Ev) (ml mh : Ov) : Ev := fun env => bnd (m env) fun p => bnd (ml p.2) fun q => bnd (mh q.2) fun r => bnd (dSlice1 p.1 q.1 r.1) fun d => .ok (d, r.2)
theorem cut_rep {c : Cc} {H : Hp} {ds : List D} {vs : List V} (r : IsDs c H ds vs) (lo hi : Option Int) : IsDs c H (cutD ds lo hi) (cutV vs lo hi) := by
  unfold cutD cutV
  rw [r.len]
  exact (r.drop _).take _
theorem cut_whole {ds : List D} {lo hi : Option Int} (h : HT.sIx ds.length 0 lo = 0 ∧ HT.sIx ds.length ds.length hi = ds.length) : cutD ds lo hi = ds := by
  unfold cutD
  rw [h.1, h.2]
  simp
theorem e_slice (hc : (sh = false ∨ pu2 = true) ∧ (sh = false ∨ pu3 = true)) (he : DE X g pu1 sh e m W) (hl : DO X g pu2 ol ml W) (hh : DO X g pu3 oh mh W) : DE X g (pu1 && (pu2 && pu3)) false (.Subscript e (.Slice ol oh none p2) pos) (dSlice m ml mh) W :=
  PE.imp (pe_slice (SlR.or sl_list (SlR.or sl_tupA sl_str)) he hl hh) fun σ H Q ⟨xs, env, S, w⟩ => ⟨xs, env, S, Want.bind w fun d env1 v H1 e1 s1 r1 w1 => by
    refine ⟨xs, env1, s1.st, Want.bind (pu' := pu2 && pu3) (Want.after s1 w1) fun o1 env2 v2 H2 e2 s2 r2 w2 => ?_⟩
    refine ⟨xs, env2, s2.st, Want.bind (pu' := pu3) (Want.after s2 w2) fun o2 env3 v3 H3 e3 s3 r3 w3 => ?_⟩
    have r2' : v2 = o1 := r2
    have r3' : v3 = o2 := r3
    subst r2' r3'
    have r1a : Rep (cc X g) sh (Hid xs env1 σ) H1 d v := by rw [s1.hid]; exact r1
    have r1b := s2.rep hc.1 r1a
    rw [← s2.hid] at r1b
    have r1c := (s3.rep hc.2 r1b).shell
    have hP : ∀ a, Hid xs env2 σ a → H3 a ≠ none := fun a ha => s3.st.hid (by rw [s3.hid]; exact ha)
    dsimp only at w3
    cases q : dSlice1 d v2 v3 with
    | error z =>
      exfalso
      rw [q] at w3
      cases z with
      | raise kk pp => unfold dSlice1 at q; split at q <;> (try split at q) <;> cases q
      | stuck => exact w3
    | ok d' =>
      rw [q] at w3
      simp only [bnd_ok] at w3
      have fin : ∀ u H4, Same H3 H4 → IsD (cc X g) (hide H4 (Hid xs env2 σ)) d' u → Q u H4 := fun u H4 kk hd => w3 u H4 (s3.grow kk) (by rw [s2.hid, s1.hid] at hd; exact Rep.of hd)
      unfold dSlice1 at q
      split at q
      · cases q
        obtain ⟨l, vs, rfl, h1, h2⟩ := r1c.lst
        exact .inl ⟨l, vs, rfl, SqL.of h1, fun p hp => fin _ _ (same_new hp) (isNewL hp hP (cut_rep h2 _ _))⟩
      · cases q
        have r0 := r1c
        obtain ⟨l, vs, rfl, h1, h2⟩ := r1c.tup
        refine .inr (.inl ⟨l, vs, rfl, h1, fun hw => ?_, fun _ p hp => fin _ _ (same_new hp) (isNewT hp hP (cut_rep h2 _ _))⟩)
        rw [← h2.len] at hw
        rw [cut_whole hw] at fin
        exact fin _ H3 (Same.refl _) r0
      · split at q
        · rename_i hz
          cases q
          exact .inr (.inr ⟨_, r1c.str, by rw [maxSeq_eq]; exact hz, fin _ H3 (Same.refl _) isStr⟩)
        · cases q
      · cases q⟩

/-! ### a store in an own list -/
def sSub (i : Nat) (mi m : Ev) : Sv := fun env => bnd (m env) fun p => match p.2[i]? with
  | some (.ow _) => bnd (mi p.2) fun q => match q.2[i]?, q.1 with
    | some (.ow (.lst ds)), .int k => match ixN ds.length k with
      | some j => .ok (.nx, q.2.set i (.ow (.lst (ds.set j p.1))))
      | none => stuck
    | _, _ => stuck
  | _ => stuck
theorem ObjRep.upd {c : Cc} {G : Addr → Prop} {H : Hp} {a : Addr} {d : D} {o u : HO} (ha : G a) (h : ObjRep c (hide H G) d o) : ObjRep c (hide (upd H a u) G) d o := h.same fun b v hb => by
  obtain ⟨h1, h2⟩ := hide_some hb
  rw [hide_of h1, upd_ne fun z : b = a => h1 (by rw [z]; exact ha)]
  exact h2
theorem IsD.upd {c : Cc} {G : Addr → Prop} {H : Hp} {a : Addr} {d : D} {v : V} {u : HO} (ha : G a) (h : IsD c (hide H G) d v) : IsD c (hide (upd H a u) G) d v := h.same fun b v hb => by
  obtain ⟨h1, h2⟩ := hide_some hb
  rw [hide_of h1, upd_ne fun z : b = a => h1 (by rw [z]; exact ha)]
  exact h2
theorem IsDs.upd {c : Cc} {G : Addr → Prop} {H : Hp} {a : Addr} {d : List D} {v : List V} {u : HO} (ha : G a) (h : IsDs c (hide H G) d v) : IsDs c (hide (upd H a u) G) d v := h.same fun b v hb => by
  obtain ⟨h1, h2⟩ := hide_some hb
  rw [hide_of h1, upd_ne fun z : b = a => h1 (by rw [z]; exact ha)]
  exact h2
theorem hide_at {H : Hp} {a : Addr} {u : HO} : Same (hide H (· = a)) (hide (upd H a u) (· = a)) := fun b v hb => by
  obtain ⟨h1, h2⟩ := hide_some hb
  rw [hide_of (P := (· = a)) h1, upd_ne h1]
  exact h2
/-- the list in slot i written -/
theorem StOk.write {c : Cc} {xs : Addr → Prop} {env : En} {σ : St} {H : Hp} {i : Nat} {d : D} {a : Addr} {ds' : List D} {vs' : List V} (S : StOk c xs env σ H) (hi : env[i]? = some (Sl.ow d)) (ha : σ[i]? = some (some (V.ref a))) (r : IsDs c (hide H (Hid xs env σ)) ds' vs') :
    Stp c xs false env (env.set i (.ow (.lst ds'))) σ H (upd H a (.lst vs')) :=
  S.change hi ha hide_at upd_same ⟨vs', rfl, r.upd (.inl ⟨i, d, hi, ha⟩)⟩
theorem own_lst {c : Cc} {xs : Addr → Prop} {env : En} {σ : St} {H : Hp} {i : Nat} {ds : List D} (S : StOk c xs env σ H) (hi : env[i]? = some (Sl.ow (.lst ds))) : ∃ a vs, σ[i]? = some (some (V.ref a)) ∧ H a = some (.lst vs) ∧ IsDs c (hide H (Hid xs env σ)) ds vs := by
  obtain ⟨a, o, h1, h2, vs, rfl, h3⟩ := S.ow i _ hi
  exact ⟨a, vs, h1, h2, h3⟩
theorem s_sub (hx : PE X (.Name x p) (tVar i)) (hi : DE X g pu1 sh1 b m1 W) (he : DE X g pu false e m W) (ha : ∀ v, assign (.Subscript (.Name x p) b pos') X.env v = (do
      let ov ← holding [v] (eval (.Name x p) X.env)
      let iv ← holding [v, ov] (eval b X.env)
      standAt pos'
      holding [v, ov, iv] (setItem ov iv v)
      release [v, ov, iv] []) := by intro _; rfl)
    (hs : swapsWithSole [.Subscript (.Name x p) b pos'] e pos.line X.env = pure false := by rfl) (hw : swappedStores [.Subscript (.Name x p) b pos'] e X.env = pure none := by rfl)
    (h1 : (assignEach [.Subscript (.Name x p) b pos'] X.env).map (·.2) = [assign (.Subscript (.Name x p) b pos') X.env] := by rfl) : DS X g (.Assign [.Subscript (.Name x p) b pos'] e pos) (sSub i m1 m) W :=
  PS.imp (ps_asg he (pg_sub hx hi set_list ha) hs hw h1) fun E σ H ⟨xs, env, S, w⟩ => ⟨xs, env, S, WantS.bindE w fun d env1 v H1 e1 s1 r1 w1 => by
    dsimp only at w1
    split at w1
    case h_2 => exact w1.elim
    rename_i d0 hi0
    obtain ⟨a, o0, ha0, ho0, hr0⟩ := s1.st.ow i d0 hi0
    refine ⟨.ref a, ha0, xs, env1, s1.st, WantS.bindE (WantS.after s1.kept w1) fun dk env2 vk H2 e2 s2 r2 w2 => ?_⟩
    dsimp only at w2
    split at w2
    case h_2 => exact w2.elim
    rename_i ds kk hi2
    split at w2
    case h_2 => exact w2.elim
    rename_i j hj
    obtain ⟨a', vs, ha2, ho2, hr2⟩ := own_lst s2.st hi2
    rw [ha0] at ha2; cases ha2
    rw [s2.hid, s1.hid] at hr2
    have r1' : IsD (cc X g) (hide H1 (Hid xs env1 σ)) d v := by rw [s1.hid]; exact r1
    have r2' := r1'.same s2.smH
    rw [s1.hid] at r2'
    have hst := s2.st.write hi2 ha0 (ds' := ds.set j d) (vs' := vs.set j v) (by rw [s2.hid, s1.hid]; exact hr2.set j r2')
    exact ⟨a, vs, kk, j, rfl, (Rep.shell r2).int, ho2, by rw [← hr2.len]; exact hj, w2 σ _ hst.st (s2.kept.trans hst.kept)⟩⟩

/-! ### methods that change an own list -/
/-- such a method, of data -/
def VMt (c : Cc) (r : V → List V → Hp → VK → Prop) (f : List D → List D → M (D × List D)) : Prop := ∀ (Z : Addr → Prop) (H : Hp) (a : Addr) (vs avs : List V) (ds ads : List D) (d : D) (ds' : List D) (Q : VK), Z a → H a = some (.lst vs) →
  IsDs c (hide H Z) ds vs → IsDs c (hide H Z) ads avs → f ds ads = .ok (d, ds') → (∀ v vs', IsDs c (hide H Z) ds' vs' → IsD c (hide H Z) d v → Q v (upd H a (.lst vs'))) → r (.ref a) avs H Q
def NoRM (f : List D → List D → M (D × List D)) : Prop := ∀ a b k p, f a b ≠ .error (.raise k p)
def dMeth (f : List D → List D → M (D × List D)) (i : Nat) (ms : Av) : Ev := fun env => match env[i]? with
  | some (.ow (.lst _)) => bnd (ms env) fun p => match p.2[i]? with
    | some (.ow (.lst ds)) => bnd (f ds p.1) fun q => .ok (q.1, p.2.set i (.ow (.lst q.2)))
    | _ => stuck
  | _ => stuck
theorem meth_end {c : Cc} {xs : Addr → Prop} {env env1 : En} {σ : St} {H H1 : Hp} {Q : VK} {r : V → List V → Hp → VK → Prop} {f : List D → List D → M (D × List D)} {a : Addr} {ads : List D} {avs : List V} (hv : VMt c r f) (nr : NoRM f) (s : Stp c xs pu env env1 σ H H1) (ha : σ[i]? = some (some (V.ref a)))
    (ra : IsDs c (hide H1 (Hid xs env σ)) ads avs) (w : Want c xs false env σ H (fun d _ v H' => Rep c false (Hid xs env σ) H' d v) W Q (match env1[i]? with
    | some (.ow (.lst ds)) => bnd (f ds ads) fun q => .ok (q.1, env1.set i (.ow (.lst q.2)))
    | _ => stuck)) : r (.ref a) avs H1 Q := by
  split at w
  · rename_i ds hi
    obtain ⟨a', vs, ha2, ho2, hr2⟩ := own_lst s.st hi
    rw [ha] at ha2; cases ha2
    cases q : f ds ads with
    | error z =>
      rw [q] at w
      cases z with
      | raise kk pp => exact absurd q (nr _ _ _ _)
      | stuck => exact w.elim
    | ok pr =>
      obtain ⟨d, ds'⟩ := pr
      rw [q] at w
      have hid := s.hid
      refine hv (Hid xs env σ) H1 a vs avs ds ads d ds' Q (by rw [← hid]; exact .inl ⟨i, _, hi, ha⟩) ho2 (by rw [← hid]; exact hr2) ra q fun v vs' h1 h2 => ?_
      have st := s.st.write hi ha (ds' := ds') (vs' := vs') (by rw [hid]; exact h1)
      refine w v _ ((s.trans st).weak fun z => nomatch z) (h2.upd (by rw [← hid]; exact .inl ⟨i, _, hi, ha⟩))
  · exact w.elim
theorem e_meth {id : String} {name : Str} {r : V → List V → Hp → VK → Prop} {f : List D → List D → M (D × List D)} (pa : PlainAttrs "list") (slot : Slot "list" name id) (hty : typeOf (.builtin id) = pure (.type "method_descriptor")) (hm : MtR X id r) (hv : VMt (cc X g) r f) (nr : NoRM f) (hs : shs.all (!·) = true)
    (hx : PE X (.Name x p) (tVar i)) (ha : DA X g pu shs (e :: es) ma W)
    (hbase : attributeBase (.Name x p) name X.env (eval (.Name x p) X.env) = eval (.Name x p) X.env := by rfl)
    (hfew : ((backTo cpos (starEach (e :: es) X.env)).all (fun x => !x.1) && (backToKw cpos (keywordEach [] X.env)).all (fun x => x.1.isSome)
      && decide ((e :: es).length + ([] : List Keyword).length + (if ([] : List Keyword).isEmpty then 0 else 1) < 30)) = true := by rfl)
    (hline : (apos.endLine == cpos.line) = true := by rfl) (hst : starEach (e :: es) X.env = (false, eval e X.env) :: starEach es X.env := by rfl) (hplain : (backTo cpos (starEach es X.env)).any (·.1) = false := by rfl) :
    DE X g false false (.Call (.Attribute (.Name x p) name apos) (e :: es) [] cpos) (dMeth f i ma) W :=
  PE.imp (pe_bm pa slot hty hm hx ha hbase hfew hline hst hplain) fun σ H Q ⟨xs, env, S, w⟩ => by
    unfold dMeth at w
    split at w
    · rename_i ds0 hi0
      obtain ⟨a, vs, h1, h2, h3⟩ := own_lst S hi0
      refine ⟨.ref a, h1, .inl ⟨rfl, vs, SqL.of h2⟩, xs, env, S, Want.bind w fun ads env1 avs H1 e1 s1 r1 w1 => ?_⟩
      exact meth_end hv nr s1 h1 (r1.clean hs) w1
    · exact w.elim
theorem e_meth0 {id : String} {name : Str} {r : V → List V → Hp → VK → Prop} {f : List D → List D → M (D × List D)} (pa : PlainAttrs "list") (slot : Slot "list" name id) (hty : typeOf (.builtin id) = pure (.type "method_descriptor")) (hm : MtR X id r) (hv : VMt (cc X g) r f) (nr : NoRM f)
    (hx : PE X (.Name x p) (tVar i))
    (hbase : attributeBase (.Name x p) name X.env (eval (.Name x p) X.env) = eval (.Name x p) X.env := by rfl) (hline : (apos.endLine == cpos.line) = true := by rfl) :
    DE X g false false (.Call (.Attribute (.Name x p) name apos) [] [] cpos) (dMeth f i dNil) W :=
  PE.imp (pe_bm0 pa slot hty hm hx hbase hline) fun σ H Q ⟨xs, env, S, w⟩ => by
    unfold dMeth at w
    split at w
    · rename_i ds0 hi0
      obtain ⟨a, vs, h1, h2, h3⟩ := own_lst S hi0
      exact ⟨.ref a, h1, .inl ⟨rfl, vs, SqL.of h2⟩, meth_end (pu := true) hv nr (.refl S) h1 IsDs.nil w⟩
    · exact w.elim
def fApp : List D → List D → M (D × List D)
  | ds, [d] => if ds.length < maxSeq then .ok (.non, ds ++ [d]) else stuck
  | _, _ => stuck
def fExt : List D → List D → M (D × List D)
  | ds, [.lst es] => if ds.length + es.length ≤ maxSeq then .ok (.non, ds ++ es) else stuck
  | _, _ => stuck
def fPop : List D → List D → M (D × List D)
  | ds, [] => match ds[ds.length - 1]? with
    | some d => .ok (d, ds.dropLast)
    | none => stuck
  | _, _ => stuck
theorem fApp_nr : NoRM fApp := fun a b k p h => by
  unfold fApp at h
  split at h <;> (try split at h) <;> cases h
theorem fExt_nr : NoRM fExt := fun a b k p h => by
  unfold fExt at h
  split at h <;> (try split at h) <;> cases h
theorem fPop_nr : NoRM fPop := fun a b k p h => by
  unfold fPop at h
  split at h <;> (try split at h) <;> cases h
theorem IsDs.one {c : Cc} {H : Hp} {d : D} {vs : List V} (r : IsDs c H [d] vs) : ∃ v, vs = [v] ∧ IsD c H d v := by
  unfold IsDs at r
  obtain ⟨v, r', rfl, h1, h2⟩ := r
  unfold IsDs at h2
  subst h2
  exact ⟨v, rfl, h1⟩
theorem vm_app {c : Cc} : VMt c rAppend fApp := by
  intro Z H a vs avs ds ads d ds' Q hZ ho r ra q k
  unfold fApp at q
  split at q
  · split at q
    · rename_i hz
      cases q
      obtain ⟨v, rfl, h1⟩ := ra.one
      exact ⟨a, vs, v, rfl, rfl, ho, by rw [maxSeq_eq, ← r.len]; exact hz, k _ _ (r.append (IsDs.cons h1 IsDs.nil)) isNon⟩
    · cases q
  · cases q
theorem vm_ext {c : Cc} : VMt c rExtend fExt := by
  intro Z H a vs avs ds ads d ds' Q hZ ho r ra q k
  unfold fExt at q
  split at q
  · split at q
    · rename_i hz
      cases q
      obtain ⟨v, rfl, h1⟩ := ra.one
      unfold IsD at h1
      obtain ⟨b, ws, rfl, h2, h3⟩ := h1
      exact ⟨a, b, vs, ws, rfl, rfl, ho, hide_full _ _ h2, by rw [maxSeq_eq, ← r.len, ← h3.len]; exact hz, k _ _ (r.append h3) isNon⟩
    · cases q
  · cases q
theorem vm_pop {c : Cc} : VMt c rPop fPop := by
  intro Z H a vs avs ds ads d ds' Q hZ ho r ra q k
  unfold fPop at q
  split at q
  · split at q
    · rename_i d' hd
      cases q
      have := ra
      unfold IsDs at this
      subst this
      obtain ⟨v, h1, h2⟩ := r.getD hd
      exact ⟨a, vs, v, rfl, rfl, ho, by rw [← r.len]; exact h1, k _ _ r.dropLast h2⟩
    · cases q
  · cases q

/-! ### pairs stored -/
def dumE (sc : Scope) : Env := { scope := sc, locals := 0, globals := 0, cells := [] }
theorem sws_eq {env : Env} (h : env.scope = sc) (ts : List Expr) (v : Expr) : swappedStores ts v env = swappedStores ts v (dumE sc) := by
  unfold swappedStores Env.blockKind Env.kindOf dumE
  rw [h]
theorem swp_eq {env : Env} (h : env.scope = sc) (t : Option Expr) (v : Expr) (l : Nat) : swapsWith v t l env = swapsWith v t l (dumE sc) := by
  unfold swapsWith Env.blockKind Env.kindOf dumE
  rw [h]
def sPar (i j : Nat) (ms : Av) : Sv := fun env => bnd (ms env) fun p => match p.1 with
  | [d1, d2] => bnd (put i (.va d1) p.2) fun e1 => bnd (put j (.va d2) e1) fun e2 => .ok (.nx, e2)
  | _ => stuck
theorem IsDs.two {c : Cc} {H : Hp} {d d2 : D} {vs : List V} (r : IsDs c H [d, d2] vs) : ∃ v v2, vs = [v, v2] ∧ IsD c H d v ∧ IsD c H d2 v2 := by
  unfold IsDs at r
  obtain ⟨v, r', rfl, h1, h2⟩ := r
  obtain ⟨v2, rfl, h3⟩ := h2.one
  exact ⟨v, v2, rfl, h1, h3⟩
def locL (sc : Scope) (x : Str) : Bool := sc.names.lookup x == some .local
theorem s_par {px py pt pt2 : Pos} {kt k2 : Nat} (C : Cok nn X W P w K mg base N sc k false) (i j : Nat) (hi : N[i]? = some x) (hj : N[j]? = some y) (hij : i ≠ j) (hx : locL sc x = true) (hy : locL sc y = true) (hsh : shs.all (!·) = true) (ha : DA X g pu shs [a, b] ma W)
    (hw : swappedStores [.Tuple [.Name x px, .Name y py] kt pt] (.Tuple [a, b] k2 pt2) (dumE sc) = pure (some [x, y]))
    (hs : swapsWithSole [.Tuple [.Name x px, .Name y py] kt pt] (.Tuple [a, b] k2 pt2) pos.line X.env = pure false := by rfl) :
    DS X g (.Assign [.Tuple [.Name x px, .Name y py] kt pt] (.Tuple [a, b] k2 pt2) pos) (sPar i j ma) W :=
  PS.imp (ps_par C.calm (by rw [C.eN]; exact C.nd) (by rw [C.eN]; exact hi) (by rw [C.eN]; exact hj) hij (by rw [C.es]; exact eq_of_beq hx) (by rw [C.es]; exact eq_of_beq hy) ha (by rw [sws_eq C.es]; exact hw) hs) fun E σ H ⟨xs, env, S, w⟩ =>
    ⟨xs, env, S, WantS.bindE w fun ds env1 vs H1 e1 s1 r1 w1 => by
      have rc := r1.clean hsh
      dsimp only at w1
      split at w1
      · rename_i d1 d2
        obtain ⟨v1, v2, rfl, h1, h2⟩ := rc.two
        rw [← s1.hid] at h1 h2
        have S1 := s1.st.setVa i h1
        rcases put_cases i (.va d1) env1 with q | ⟨q, h0⟩ <;> rw [q] at w1
        · exact w1.elim
        rw [bnd_ok] at w1
        rcases put_cases j (.va d2) (env1.set i (.va d1)) with q | ⟨q, h3⟩ <;> rw [q] at w1
        · exact w1.elim
        have k1 := kept_va (i := i) (d := d1) (v := v1) s1 h0
        have h2' := h2.same (Kept.smH (kept_set_va (env := env1) (σ := σ) (H := H1) (i := i) (d := d1) (v := v1) h0))
        exact ⟨v1, v2, rfl, w1 _ H1 (S1.setVa j h2') (k1.trans (kept_set_va h3))⟩
      · exact w1.elim⟩

/-! ### augmented stores -/
def sAug (i : Nat) (f : D → D → M D) (m : Ev) : Sv := fun env => match env[i]? with
  | some (.va d) => bnd (m env) fun p => bnd (f d p.1) fun z => bnd (put i (.va z) p.2) fun e => .ok (.nx, e)
  | _ => stuck
theorem s_aug {op : Operator} {r : R2} {f : D → D → M D} (C : Cok nn X W P w K mg base N sc k false) (ho : OpR X (inplaceOp op) r) (hv : VB (cc X g) r f) (nr : NoR2 f) (i : Nat) (hi : N[i]? = some x) (hl : locB sc x = true) (he : DE X g pu sh e m W) : DS X g (.AugAssign (.Name x pos') op e pos) (sAug i f m) W := by
  have hl' := locB_of hl
  refine PS.imp (ps_aug (by rw [C.eN]; exact C.nd) (by rw [C.eN]; exact hi) (by rw [C.es]; exact hl') he ho ?_) fun E σ H ⟨xs, env, S, w⟩ => ?_
  · rcases hl' with h | h
    · exact .inr (by rw [C.es]; exact h)
    · exact .inl (C.fn rfl x)
  · unfold sAug at w
    split at w
    · rename_i d hd
      obtain ⟨v, h1, h2⟩ := S.va i d hd
      refine ⟨v, h1, xs, env, S, WantS.bindE w fun d2 env1 u H1 e1 s1 r1 w1 => ?_⟩
      dsimp only at w1
      cases q : f d d2 with
      | error z =>
        rw [q] at w1
        cases z with
        | raise kk pp => exact absurd q (nr _ _ _ _)
        | stuck => exact w1.elim
      | ok z =>
        rw [q] at w1
        refine hv (Hid xs env σ) H1 v u d d2 z _ (fun a ha => s1.st.hid (by rw [s1.hid]; exact ha)) (RepS.of (h2.same s1.smH)) (Rep.shell r1) q fun t H2 k2 hd2 => ?_
        have s2 := s1.grow k2
        rw [bnd_ok] at w1
        rcases put_cases i (.va z) env1 with q | ⟨q, h0⟩ <;> rw [q] at w1
        · exact w1.elim
        · exact w1 _ H2 (s2.st.setVa i (by rw [s2.hid]; exact hd2)) (kept_va s2 h0)
    · exact w.elim
def aMul : D → D → M D := dIntOp (fun i j => decide (i.natAbs < 18446744073709551616) || decide (j.natAbs < 18446744073709551616)) fun i j => i * j
theorem aMul_nr : NoR2 aMul := fun d1 d2 k p h => by
  unfold aMul dIntOp at h
  split at h <;> (try split at h) <;> cases h
theorem va_mul {c : Cc} : VB c (rI CMul fun i j => .int (i * j)) aMul := vb_int fun i j h => by
  rw [Bool.or_eq_true, decide_eq_true_eq, decide_eq_true_eq] at h
  unfold CMul
  have e : (2 : Int) ^ 64 = 18446744073709551616 := by decide
  omega
abbrev aAdd : D → D → M D := dIntOp (fun _ _ => true) fun i j => i + j
abbrev aSub : D → D → M D := dIntOp (fun _ _ => true) fun i j => i - j
abbrev aOr : D → D → M D := dIntOp (fun _ _ => true) Builtin.bitOr
theorem va_add {c : Cc} : VB c (rI0 fun i j => .int (i + j)) aAdd := vb_int0
theorem va_sub {c : Cc} : VB c (rI0 fun i j => .int (i - j)) aSub := vb_int0
theorem va_or {c : Cc} : VB c (rI0 fun i j => .int (Builtin.bitOr i j)) aOr := vb_int0
end
end Dn

/-! Dn17 -/
set_option Elab.async false
set_option linter.all false
set_option maxRecDepth 100000
set_option maxHeartbeats 2000000
/-! Dn17: own errors over ValueError, made by super().__init__(text); self.reason = reason. -/
namespace Dn
namespace Sup
open PySem PySem.W PySem.Calls PyProof.Rows PySem.HandSPX
/-! ### ValueError.__init__ bound to an error -/
abbrev bv (x : Addr) : Obj := { cls := .type "method-wrapper", dict := none, data := .fields #[.builtin "ValueError.__init__", .ref x], slots := #[] }
theorem type_vi : typeOf (.builtin "ValueError.__init__") = pure (.type "wrapper_descriptor") := by show builtinType _ = _; rw [builtinType_eq_fast]; kernel_rfl
theorem nav : (kfb_private% "nameAndClass") (Value.builtin "ValueError.__init__") = (pure (("__init__" : Str), Value.type "ValueError") : Sem (Str × Value)) := by kernel_rfl
section
variable {prog : Program} {w : World} {M : Model} {A : Around} {E : Value → Shared → Prop} {h : Heap} {g : Array GenState} {d : Drawn} {t : Nat} {os : OsState}
theorem run_v {x C : Addr} {P : Fin → Shared → Prop} (hin : Looks M h (isInstance (.ref x) (.type "ValueError")) true) (hq : P (.done (.ret (.ref h.objs.size))) ⟨h.push (bv x), g, d, t, os⟩) :
    wpAny M A (Builtin.«wrapper_descriptor.__get__» ⟨[.builtin "ValueError.__init__", .ref x, .ref C], []⟩) P E ⟨h, g, d, t, os⟩ := by
  unfold Builtin.«wrapper_descriptor.__get__»
  refine wpAny_bind (wpAny_of_eq (a := (.builtin "ValueError.__init__", some (.ref x), some (.ref C))) (by first | rfl | kernel_rfl) ?_)
  show wpAny M A ((kfb_private% "checkInstance") (.builtin "ValueError.__init__") (.ref x) >>= fun _ => newFields "method-wrapper" [.builtin "ValueError.__init__", .ref x] >>= fun r => ret r) P E _
  refine wpAny_bind ?_
  show wpAny M A ((kfb_private% "nameAndClass") (.builtin "ValueError.__init__") >>= _) _ E _
  refine wpAny_bind (wpAny_of_eq nav ?_)
  show wpAny M A (isInstance (.ref x) (.type "ValueError") >>= _) _ E _
  refine wpAny_bind (hin.at ?_)
  refine KFB.if_not rfl ?_
  refine wpAny_pure ?_
  exact wpAny_bind (wpAny_newObj_type (wpAny_pure hq))
theorem ga_v {so D x C : Addr} {l₀ l : List Value} {K : Frag} {name : Str} {tk : Tok} {Q : Fin → Shared → Prop}
    (hso : h.get? so = some { cls := .type "super", dict := none, data := .fields #[.ref D, .ref x, .ref C], slots := #[] }) (hno : Looks (model prog w) h (opaqueClassAbove (.ref C)) none)
    (hC : Looks (model prog w) h (mroOf (.ref C)) l₀) (hl : (l₀.dropWhile (· != .ref D)).drop 1 = l) (X : K.In h)
    (hf : alongIn K name l = some (some (.builtin "ValueError.__init__"))) (hxC : x ≠ C) (hn : (name == ("__class__" : Str)) = false) (hin : Looks (model prog w) h (isInstance (.ref x) (.type "ValueError")) true)
    (hq : Q (.done (.ret (.ref h.objs.size))) ⟨h.push (bv x), g, d, t, os⟩) :
    wpAny (model prog w) A (Builtin.«super.__getattribute__» ⟨[.ref so, .str name tk], []⟩) Q E ⟨h, g, d, t, os⟩ := by
  have hlk := ESX.slot_wd.lookup
  have hne : (Value.ref x == Value.ref C) = false := by simp [hxC]
  have hTf := type_vi
  have hTi : Shared.TypeIs ⟨h, g, d, t, os⟩ (.builtin "ValueError.__init__") "wrapper_descriptor" := type_vi
  have hdt : ({ cls := .type "super", dict := none, data := .fields #[.ref D, .ref x, .ref C], slots := #[] } : Obj).data = .fields #[.ref D, .ref x, .ref C] := rfl
  have f0 : (#[.ref D, .ref x, .ref C] : Array Value)[0]? = some (.ref D) := rfl
  have f1 : (#[.ref D, .ref x, .ref C] : Array Value)[1]? = some (.ref x) := rfl
  have f2 : (#[.ref D, .ref x, .ref C] : Array Value)[2]? = some (.ref C) := rfl
  unfold Builtin.«super.__getattribute__»
  repeat (first
    | (with_reducible refine wpAny_field hso hdt f0 ?_) | (with_reducible refine wpAny_field hso hdt f1 ?_) | (with_reducible refine wpAny_field hso hdt f2 ?_)
    | (with_reducible refine ks_wpAny_notOpaque hno ?_)
    | (with_reducible refine Looks.at hC ?_; rw [hl])
    | (refine ks_forIn_along X (fun _ _ => rfl) rfl ?_ hf)
    | (with_reducible refine wpAny_call_entry ESX.slot_wd hTi ESX.entry_wd ?_ (ESX.args_wd _ _ _))
    | (with_reducible refine run_v hin ?_)
    | (with_reducible refine ⟨_, rfl, ?_⟩)
    | (simp only [hn, hne, Bool.or_false, Bool.false_eq_true, if_false])
    | wp_step
    | dsimp only)
  all_goals exact hq
theorem getMethod_v {so D x C : Addr} {l₀ l : List Value} {K : Frag} {name : Str} {pl : Sem Bool} {Q : Value × List Value → Shared → Prop}
    (hso : h.get? so = some { cls := .type "super", dict := none, data := .fields #[.ref D, .ref x, .ref C], slots := #[] }) (hno : Looks (model prog w) h (opaqueClassAbove (.ref C)) none)
    (hC : Looks (model prog w) h (mroOf (.ref C)) l₀) (hl : (l₀.dropWhile (· != .ref D)).drop 1 = l) (X : K.In h)
    (hf : alongIn K name l = some (some (.builtin "ValueError.__init__"))) (hxC : x ≠ C) (hn : (name == ("__class__" : Str)) = false) (hin : Looks (model prog w) h (isInstance (.ref x) (.type "ValueError")) true)
    (hq : Q (.ref h.objs.size, []) ⟨h.push (bv x), g, d, t + 1, os⟩) :
    wpAny (model prog w) A (getMethod (.ref so) name pl) Q E ⟨h, g, d, t, os⟩ := by
  have hlk := F.ks_slot_super_ga.lookup
  have hcan := F.ks_canon_super_ga
  have hT : ∀ t', (⟨h, g, d, t', os⟩ : Shared).TypeIs (.ref so) "super" := fun _ => ⟨_, hso, rfl⟩
  unfold getMethod
  refine wpAny_bind (wpAny_specialOf (hT _) hlk ?_)
  show wpAny _ _ (if (Manifest.canonical "super.__getattribute__" != "object.__getattribute__") = true then _ else _) _ _ _
  rw [if_pos hcan]
  unfold getAttr getAttrBy
  refine wpAny_bind (wpAny_bind (wpAny_mkText (wpAny_holding (wpAny_bind (wpAny_typeOf (hT _) (wpAny_bind (wpAny_of_eq hlk ?_)))))))
  show wpAny _ _ (getAttrByItsOwn (.ref so) (.str name t) (.type "super") (.builtin "super.__getattribute__") true false) _ _ _
  unfold getAttrByItsOwn hookBefore callGetattribute boundAndCalled
  refine wpAny_bind (wpAny_of_eq (show (if onTheHeap (.type "super") then typeLookup (.type "super") "__getattr__" else pure none) = pure none from rfl) ?_)
  refine wpAny_bind (wpAny_attempt (wpAny_holding ?_))
  show wpAny _ _ (bindSpecial (.builtin "super.__getattribute__") (.ref so) >>= _) _ _ _
  refine wpAny_bind (wpAny_of_eq (F.ks_slot_super_ga.bind _) ?_)
  refine wpAny_mono (Q := fun v s' => v = .ref h.objs.size ∧ s' = ⟨h.push (bv x), g, d, t + 1, os⟩) (E := fun _ _ => False)
    (wpAny_call_entry F.ks_slot_super_ga (hT _) F.ks_entry_super_ga (ga_v hso hno hC hl X hf hxC hn hin ⟨_, rfl, rfl, rfl⟩) (F.ks_gaArgs_super _ _)) (fun v s' hv => ?_) fun _ _ z => z.elim
  obtain ⟨rfl, rfl⟩ := hv
  exact wpAny_pure (wpAny_pure hq)
end
section
variable {prog : Program} {w : World} {M : Model} {A : Around} {E : Value → Shared → Prop} {s : Shared}
theorem callWith_v {pos : Pos} {u x : Addr} {args : List (Bool × Sem Value)} {Q : Value → Shared → Prop} (hplain : args.any (·.1) = false)
    (h : wpAny M A (evalArgs (.ref u) true args []) (fun a s₁ => s₁.heap.get? u = some (bv x) ∧ wpAny M A (call (.ref u) ([] ++ a.pos) a.kw) Q E s₁) E s) : wpAny M A (callWith pos (.ref u) [] args []) Q E s := by
  unfold callWith
  refine wpAny_bind (wpAny_holding (wpAny_mono h (fun a s₁ h₁ => wpAny_bind (wpAny_standAt ?_)) fun _ _ x => x))
  obtain ⟨ho, hcall⟩ := h₁
  simp only [hplain, List.any_nil, Bool.or_false]
  refine wpAny_bind (m := keeperOf (.ref u)) ?_
  unfold keeperOf
  refine wpAny_bind (wpAny_load ho ?_)
  simp only [bv, show (Value.type "method-wrapper" != Value.type "method") = true by decide, show (Value.type "method-wrapper" == Value.type "builtin_function_or_method" || Value.type "method-wrapper" == Value.type "method-wrapper") = true by decide, if_true]
  refine wpAny_pure ?_
  exact wpAny_bind (wpAny_mono hcall (fun r s₂ hr => wpAny_bind (wpAny_holding (wpAny_point (wpAny_pure hr)))) fun _ _ x => x)
end
section
variable {prog : Program} {w : World} {A : Around} {E : Value → Shared → Prop} {h : Heap} {g : Array GenState} {d : Drawn} {t : Nat} {os : OsState}
variable {nm q : Str} {C N : Addr} {bs bm : List Value} {hdct : Bool} {sn : List Str} {sub : List Value} {ab : Bool} {col : Option Bool} {dd : Option Addr} {k0 k1 k2 k3 k5 : Option Value}
theorem call_v {u e t0 : Addr} {rest : List Value} {Q : Value → Shared → Prop}
    (hC : h.get? C = some (excClassObj nm q C N bs bm hdct sn sub ab col dd k0 k1 k2 k3 k5 "ValueError.__new__")) (he : h.get? e = some (excO C t0)) (hu : h.get? u = some (bv e)) (hrest : rest.length ≤ sizeLine)
    (hq : ∀ h' t1, (∀ b o, b ≠ e → h.get? b = some o → h'.get? b = some o) → h'.get? e = some (excO C t1) → Q .none ⟨h', g, d, t, os⟩) :
    wpAny (model prog w) A (call (.ref u) rest) Q E ⟨h, g, d, t, os⟩ := by
  refine wpAny_call (codeAny_of_tree ?_)
  show wpAny _ A.in1 (callAny (.ref u) ⟨rest, []⟩) _ _ _
  simp only [callAny]
  refine wpAny_bind (wpAny_load hu ?_)
  simp only [bv, show (Value.type "method-wrapper" == Value.type "method" || Value.type "method-wrapper" == Value.type "builtin_function_or_method" || Value.type "method-wrapper" == Value.type "method-wrapper") = true by decide, if_true]
  refine W.KFB.if_so (by decide) ?_
  refine wpAny_bind (ESX.check_bound F.excBase_ValueError hC he rfl ?_)
  refine wpAny_bind (wpAny_pure (wpAny_pure ?_))
  refine ⟨Code.quiet_builtin _ (by decide +kernel), codeAny_builtin F.excBase_ValueError.initEntry ?_⟩
  rw [Around.under_plainId F.excBase_ValueError.init.plain _]
  wp_walk
  refine hq _ h.objs.size (fun b o hb ho => ?_) ?_
  · rw [Heap.get?_update_other _ _ (Ne.symm hb)]
    exact Heap.get?_push_of_some _ ho
  · rw [Heap.get?_update_self _ (Heap.get?_push_of_some _ he) rfl]
    rfl
end

end Sup
end Dn

/-! Dn18 -/
set_option Elab.async false
set_option linter.all false
set_option maxRecDepth 100000
set_option maxHeartbeats 2000000
/-! Dn18: the __init__ of such an error; raising it. -/
namespace Dn
namespace Sup
open PySem PySem.W PySem.Calls PyProof.Rows PySem.HandSPX
/-! ### the text of __init__ -/
def iA (p1 p2 : Pos) : Arguments := { posonlyargs := [], args := [{ arg := "self", annotation := none, pos := p1 }, { arg := "reason", annotation := none, pos := p2 }], vararg := none, kwonlyargs := [], kw_defaults := [], kwarg := none, defaults := [] }
def iB (txt : Str) (j : Nat) (a1 a2 a3 a4 a5 a6 q1 q2 q3 q4 : Pos) : List Stmt :=
  [.Expr (.Call (.Attribute (.Call (.Name "super" a1) [] [] a2) "__init__" a3) [.Constant (.str txt) j a4] [] a5) a6, .Assign [.Attribute (.Name "self" q1) "reason" q2] (.Name "reason" q3) q4]
def iS : Scope := { kind := .function, names := [(PySem.Str.ofString "self", .local), (PySem.Str.ofString "reason", .local), (PySem.Str.ofString "__class__", .free), (PySem.Str.ofString "super", .globalImplicit)], isGenerator := false, isCoroutine := false, more := [] }
/-- what the written part says of such a class, at C, and of its __init__, at fI -/
structure Txt (P : Program) (K : Frag) (mg : Str → Option Value) (C fI : Addr) : Prop where
  cls : ∃ nm q N bs bm sn sub ab col dd k0 k1 k2 k3 k5, K.lookup C = some (excClassObj nm q C N bs bm true sn sub ab col dd k0 k1 k2 k3 k5 "ValueError.__new__") ∧ refsVE bm = true
  sa : findIn K (.ref C) "__setattr__" = some (some (.builtin "object.__setattr__"))
  noR : findIn K (.ref C) "reason" = some none
  iC : findIn K (.ref C) "__init__" = some (some (.ref fI))
  tI : typeIn K (.ref fI) = some (.type "function")
  kC : keepIn K (.ref C) = true
  exC : subIn K (.ref C) (.type "BaseException") = some true
  tyC : typeIn K (.ref C) = some (.type "type")
  ms : mroIn K C (.ref C) = some true
  mv : mroIn K C (.type "ValueError") = some true
  si : ks_superIn K C C "__init__" = some (some (.builtin "ValueError.__init__"))
  st : nsIn K cStatics "thirdparty.any" = some none
  ns : mg "super" = none
  top : (P.main.scope.names.lookup ("super" : Str)).isSome = false
  fn : ∃ (oc : Value) (od : Option Addr) (qual : Str) (doc pm : Value) (an : Option Addr) (cda : Addr) (ct : Value) (cc : Addr) (osl : Array (Option Value)) (txt : Str) (j : Nat) (p1 p2 a1 a2 a3 a4 a5 a6 q1 q2 q3 q4 : Pos),
    K.lookup fI = some ⟨oc, od, .func (ksFn "__init__" qual (iA p1 p2) (iB txt j a1 a2 a3 a4 a5 a6 q1 q2 q3 q4) iS .none .none doc pm an (.ref cda) ct cc), osl⟩ ∧ codeIn K (.ref cda) qual = true ∧ (a3.endLine == a5.line) = true ∧
      (∃ (ccl : Value) (cdd : Option Addr) (vs : Array Value) (ccs : Array (Option Value)) (file : Str) (tf : Tok), K.lookup cda = some ⟨ccl, cdd, .fields vs, ccs⟩ ∧ vs[2]? = some (.str file tf) ∧ ((P.main.file : Str) == file) = true) ∧
      ∃ (cl : Value) (cld : Option Addr) (csl : Array (Option Value)), K.lookup cc = some ⟨cl, cld, .cell (some (.ref C)), csl⟩
/-- what __init__ leaves of a new error at x -/
structure End (h h' : Heap) (x C dx t1 : Addr) (v : Value) : Prop where
  keep : ∀ b o, b ≠ x → h.get? b = some o → h'.get? b = some o
  obj : h'.get? x = some { cls := .ref C, dict := some dx, data := .fields #[.ref t1, .none, .none, .none, .bool false, .none] }
  dbig : h.objs.size ≤ dx
  dne : dx ≠ x
  ns : h'.Ns1 dx (fun y => if y = "reason" then some v else none)
theorem call_eq {o e : Expr} {name : Str} {apos pos : Pos} {env : Env} (hline : (apos.endLine == pos.line) = true) (hs : starEach [e] env = [(false, eval e env)]) : eval (.Call (.Attribute o name apos) [e] [] pos) env = (do
      let ov ← attributeBase o name env (eval o env)
      standAt apos.atName
      let (f, first) ← holding [ov] (getMethod ov name (do return (← importBound o env).getD true))
      callWith pos f first (backTo pos (starEach [e] env)) []) := by
  rw [arm_eval_Call]
  have hp : methodCallPos true o env apos pos = pure pos := by unfold methodCallPos; simp [hline]
  have hf : methodCallForm ([e].length + ([] : List Keyword).length) (backTo pos (starEach [e] env)) (backToKw pos (keywordEach [] env)) = true := by rw [hs]; rfl
  unfold methodCall
  rw [hf, hp]
  simp only [pure_bind]
  rfl
theorem kept_but {K : Frag} {h h' : Heap} {x : Addr} (X : K.In h) (hx : K.lookup x = none) (k : ∀ b o, b ≠ x → h.get? b = some o → h'.get? b = some o) : K.In h' := fun a o e =>
  k a o (fun z => by rw [z, hx] at e; cases e) (X a o e)
section
variable {prog : Program} {w : World} {A : Around} {E : Value → Shared → Prop} {R : Result → Shared → Prop} {s : Shared} {K : Frag} {mg mb : Str → Option Value} {C fI : Addr}
theorem sup_init (T : Txt prog K mg C fI) {x t0 : Addr} {v : Value} (X : K.In s.heap) (hlim : s.heap.NoLimit) (hG : s.heap.Ns mainGlobals mg) (hB : s.heap.Ns builtinsNs mb) (hb : mb "super" = some (.type "super")) (hx : s.heap.get? x = some (excO C t0)) (hnx : K.lookup x = none) (hroom : A.depth < recursionLimit)
    (hq : ∀ h' tk dx t1, End s.heap h' x C dx t1 v → R (.ok (.ret .none)) { s with heap := h', toks := tk }) :
    codeAny (model prog w) A (.call (.ref fI) ⟨[.ref x, v], []⟩) R s := by
  obtain ⟨oc, od, qual, doc, pm, an, cda, ct, cc, osl, txt, j, p1, p2, a1, a2, a3, a4, a5, a6, q1, q2, q3, q4, ho, hcd, hline, ⟨ccl, cdd, vs, ccs, file, tf, hcda, hvs, hfile⟩, cl, cld, csl, hcc⟩ := T.fn
  obtain ⟨nm, q, N, bs, bm, sn, sub, ab, col, dd, k0, k1, k2, k3, k5, hC, hbm⟩ := T.cls
  have hcl : clsIn K C = some { name := nm, bases := bs, mro := .ref C :: bm, ns := N, qualname := q, hasDict := true, slotNames := sn, subclasses := sub, abstract := ab, collection := col, hasDel := false } := by unfold clsIn; rw [hC] <;> rfl
  refine ks_codeAny_call_defAt (body := iB txt j a1 a2 a3 a4 a5 a6 q1 q2 q3 q4) (binds := [("self", .ref x), ("reason", v)]) hroom (X _ _ ho) rfl hlim (codeRec_of X hcd) rfl (BindsTo.of_eq (by first | rfl | with_unfolding_all rfl)) (show ∀ y ∈ iS.names, y.2 ≠ .cell by decide) (fun y hy => ?_) (fun h₁ hn k => ?_)
  · rcases List.mem_cons.mp hy with rfl | hy
    · rfl
    · rw [List.mem_singleton.mp hy]; rfl
  have X₁ : K.In h₁ := X.keeps k
  have hxL : s.heap.objs.size ≠ x := Nat.ne_of_gt (Heap.lt_size hx)
  have hxC : x ≠ C := fun z => by rw [z, hC] at hnx; cases hnx
  have hx₁ := k _ _ hx
  obtain ⟨s0, gg, dr, tk0, os⟩ := s
  show _root_.PySem.wpAt (model prog w) _ (.func (iB txt j a1 a2 a3 a4 a5 a6 q1 q2 q3 q4) (ksEnv qual iS s0.objs.size fI (.ref cda) cc)) (execs (iB txt j a1 a2 a3 a4 a5 a6 q1 q2 q3 q4) (ksEnv qual iS s0.objs.size fI (.ref cda) cc)) _ _ _
  have hD : ∃ oD, h₁.get? C = some oD ∧ oD.data = .cls { name := nm, bases := bs, mro := .ref C :: bm, ns := N, qualname := q, hasDict := true, slotNames := sn, subclasses := sub, abstract := ab, collection := col, hasDel := false } := ⟨_, X₁ _ _ hC, rfl⟩
  obtain ⟨oD, hD1, hD2⟩ := hD
  have I₁ : InstAt h₁ x (excO C t0) C none := ⟨hx₁, rfl, rfl, trivial⟩
  refine ks_wpAt_execs_cons (ks_wpAt_Expr_any (ks_wpAt_MethodCall (ks_wpAt_super_base (env := ksEnv qual iS s0.objs.size fI (.ref cda) cc) rfl rfl rfl rfl (X₁ _ _ ho) rfl rfl rfl (X₁ _ _ hcda) rfl hvs hfile T.top ?_) (call_eq hline rfl)))
  · have hnone : mg "super" = none := T.ns
    refine ks_loadName_global rfl rfl (loadGlobal_builtin (env := ksEnv qual iS s0.objs.size fI (.ref cda) cc) (hG.keeps k) hnone (hB.keeps k) hb ⟨rfl, ?_⟩)
    refine wpAny_loadName_free rfl rfl rfl ⟨_, X₁ _ _ hcc, rfl⟩ ?_
    refine wpAny_loadName_local rfl rfl hn (by first | rfl | with_unfolding_all rfl | kernel_rfl) ?_
    refine ks_wpAny_isType_cls hD1 hD2 ⟨rfl, ?_⟩
    refine ks_wpAny_call_super hD1 hD2 I₁.at_ I₁.cls (fun c e => by cases e) (looks_mroIn X₁ T.ms) (fun h₂ so k₂ => ?_)
    have X₂ : K.In h₂ := X₁.keeps k₂
    have hx₂ := k₂ _ _ hx₁
    have I₂ : InstAt h₂ x (excO C t0) C none := ⟨hx₂, rfl, rfl, trivial⟩
    have hsi : alongIn K "__init__" (((Value.ref C :: bm).dropWhile (· != .ref C)).drop 1) = some (some (.builtin "ValueError.__init__")) := by
      have := T.si
      unfold ks_superIn at this
      rw [hcl] at this
      exact this
    refine getMethod_v so (looks_opaque X₂ T.st) (l₀ := .ref C :: bm) ((looks_clsIn X₂ hcl).andThen .now) rfl X₂ hsi hxC (by decide) (I₂.type.andThen (looks_mroIn X₂ T.mv)) ?_
    have kv : ∀ b o, h₂.get? b = some o → (h₂.push (bv x)).get? b = some o := fun b o e => Heap.get?_push_of_some _ e
    have hu : (h₂.push (bv x)).get? h₂.objs.size = some (bv x) := Heap.get?_push_size _ rfl
    refine callWith_v (x := x) rfl (evalArgs_plain ?_)
    refine spliced_cons (wpAny_Constant_str (k := j) (pos := a4) (spliced_nil ⟨hu, ?_⟩))
    refine call_v (kv _ _ (X₂ _ _ hC)) (kv _ _ hx₂) hu (by rw [sizeLine_eq]; exact (by decide : 1 ≤ 16777216)) fun h₃ t₃ k₃ hx₃ => ?_
    have old : ∀ b o, b ≠ x → h₁.get? b = some o → h₃.get? b = some o := fun b o hb e => k₃ b o hb (kv _ _ (k₂ _ _ e))
    have X₃ : K.In h₃ := kept_but X₁ hnx old
    have hn₃ : h₃.Ns s0.objs.size (fun y => [((PySem.Str.ofString "self"), Value.ref x), ((PySem.Str.ofString "reason"), v)].reverse.lookup y) := by
      obtain ⟨oL, es, ep, hL, r⟩ := hn
      exact ⟨oL, es, ep, old _ _ hxL hL, r⟩
    refine ks_wpAt_execs_cons (ks_wpAt_Assign_Attr ?_)
    refine wpAt_of_wpAny (wpAny_Name (wpAny_loadName_local rfl rfl hn₃ (by first | rfl | with_unfolding_all rfl | kernel_rfl) ?_) (by decide))
    refine wpAny_Name (wpAny_loadName_local rfl rfl hn₃ (by first | rfl | with_unfolding_all rfl | kernel_rfl) ?_) (by decide)
    refine set_plain X₃ (ox := excO C t₃) (od := none) ⟨hx₃, rfl, rfl, trivial⟩ T.sa ?_
    refine exc_osa X₃ hx₃ hcl (show refsVE (.ref C :: bm) = true from hbm) rfl T.noR (fun h₄ tk₄ dx k₄ dn dne hx₄ hn₄ => ?_)
    have z : s0.objs.size < h₁.objs.size := hn.lt
    have z3 : s0.objs.size < h₃.objs.size := hn₃.lt
    exact wpAt_of_wpAny (wpAny_execs_nil (hq h₄ tk₄ dx t₃ ⟨fun b o hb e => k₄ b o hb (old b o hb (k b o e)), hx₄, Nat.le_of_lt (Nat.lt_of_lt_of_le z3 dn), dne, hn₄⟩))
/-- an error just made -/
structure Made (h h' : Heap) (e C d : Addr) (v : Value) : Prop where
  keep : ∀ b o, h.get? b = some o → h'.get? b = some o
  new : h.objs.size ≤ e
  obj : ∃ oe vs, h'.get? e = some oe ∧ oe.cls = .ref C ∧ oe.dict = some d ∧ oe.data = .fields vs ∧ vs[1]? = some .none ∧ vs[2]? = some .none ∧ 4 < vs.size
  dbig : h.objs.size ≤ d
  dne : d ≠ e
  ns : h'.Ns1 d (fun y => if y = "reason" then some v else none)
theorem sup_made (T : Txt prog K mg C fI) {v : Value} (X : K.In s.heap) (hlim : s.heap.NoLimit) (hG : s.heap.Ns mainGlobals mg) (hB : s.heap.Ns builtinsNs mb) (hb : mb "super" = some (.type "super")) (hroom : A.depth + 1 < recursionLimit)
    (hq : ∀ h' tk e d, Made s.heap h' e C d v → R (.ok (.ret (.ref e))) { s with heap := h', toks := tk }) :
    codeAny (model prog w) A (.call (.ref C) ⟨[v], []⟩) R s := by
  obtain ⟨nm, q, N, bs, bm, sn, sub, ab, col, dd, k0, k1, k2, k3, k5, hC, hbm⟩ := T.cls
  obtain ⟨hp, g, dr, tk, os⟩ := s
  have k : ∀ b o, hp.get? b = some o → ((hp.push (kdv_tup [v])).push (excO C hp.objs.size)).get? b = some o := fun b o e => Heap.get?_push_of_some _ (Heap.get?_push_of_some _ e)
  have hget : ((hp.push (kdv_tup [v])).push (excO C hp.objs.size)).get? (hp.objs.size + 1) = some (excO C hp.objs.size) := by heap_get
  have hnx : K.lookup (hp.objs.size + 1) = none := by
    cases e : K.lookup (hp.objs.size + 1) with
    | none => rfl
    | some o =>
      have z : hp.get? (hp.objs.size + 1) = some o := X _ _ e
      exact absurd (Nat.lt_of_succ_lt (Heap.lt_size z)) (Nat.lt_irrefl _)
  refine call_own F.excBase_ValueError (fun Y => refsVE_contains Y bm hbm) (X _ _ hC) (looks_findIn X T.iC) (fun self => bind_fn X self T.tI) (by rw [sizeLine_eq]; exact (by decide : 1 ≤ 16777216)) ?_
  refine sup_init (mb := mb) (s := ⟨(hp.push (kdv_tup [v])).push (excO C hp.objs.size), g, dr, tk, os⟩) T (X.keeps k) (hlim.keeps k) (hG.keeps k) (hB.keeps k) hb hget hnx ?_ fun h' tk' dx t1 ⟨k', hx, dn, dne, hns⟩ => ?_
  · show A.depth + 1 < recursionLimit
    exact hroom
  · have old : ∀ b o, hp.get? b = some o → h'.get? b = some o := fun b o e => k' b o (Nat.ne_of_lt (Nat.lt_succ_of_lt (Heap.lt_size e))) (k b o e)
    have z : hp.objs.size + 1 + 1 ≤ dx := by
      have q := dn
      rw [Heap.size_push, Heap.size_push] at q
      exact q
    exact ⟨rfl, hq h' tk' (hp.objs.size + 1) dx ⟨old, Nat.le_succ _, ⟨_, _, hx, rfl, rfl, rfl, rfl, rfl, show 4 < 6 by decide⟩, Nat.le_trans (Nat.le_trans (Nat.le_succ _) (Nat.le_succ _)) z, dne, hns⟩⟩
end
end Sup

open PySem PySem.Spec L2
open PyProof.Rows hiding St
theorem relO_reason {v : V} {v' : Value} (r : RelV v v') (f : Str) : RelO (List.lookup f [(("reason" : Str), v)]) (if f = "reason" then some v' else none) := by
  by_cases hw : f = "reason"
  · subst hw
    rw [if_pos rfl]
    have q : List.lookup ("reason" : Str) [(("reason" : Str), v)] = some v := by simp [List.lookup]
    rw [q]
    exact r
  · rw [if_neg hw]
    have qw : (f == ("reason" : Str)) = false := by simpa using hw
    have q2 : List.lookup f [(("reason" : Str), v)] = none := by simp [List.lookup, qw]
    rw [q2]
    trivial
section
variable {X : Cx} {P : Program} {w : World} {K : PySem.W.Frag} {mg : Str → Option Value} {base : Heap} {N : List Str} {sc : Scope} {k : Nat} {bk nn : Bool} {g : Ce} {W : WX}
variable {pu sh : Bool} {e : Expr} {pos p pos' : Pos} {m : Ev} {x : Str} {C fI : Addr}
/-- C(e) -/
def tMkS (C : Addr) (ta : TA) : L2.St → Hp → XK → Prop := fun σ H Q => ta σ H fun vs H1 => ∃ v, vs = [v] ∧ ∀ d, H1 d = none → Q (.ref C) (some d) (upd H1 d (.xd [(("reason" : Str), v)]))
theorem pmk5_sup {te : TE} (T : Sup.Txt X.prog X.K X.mg C fI) (hr : X.A.depth + 1 < recursionLimit) (hg : Gl X x) (hm : X.mg x = some (.ref C)) (ha : PE X e te) (hdb : (x == ("__debug__" : Str)) = false)
    (he : starEach (e :: []) X.env = (false, eval e X.env) :: starEach [] X.env := by rfl) (hpl : (backTo pos (starEach [] X.env)).any (·.1) = false := by rfl) :
    L2H.PMk5 X (.Call (.Name x p) [e] [] pos) (tMkS C (tCons te tNil)) := by
  intro pins s σ H Q I h
  refine wpAny_Call_Name_kw (ld_glob I hg hm ?_ hdb)
  refine PySem.W.callWith_K (h₀ := X.base) I.ok.mod.kin T.kC (thn ((pa_cons ha pa_nil he).run pos pins s σ H _ I h) fun us s1 hh => ?_) he hpl
  obtain ⟨vs, H1, I1, r1, v, ev, q1⟩ := hh
  subst ev
  refine ⟨I1.kIn, ?_⟩
  cases r1 with
  | cons rv rn =>
    rename_i v' us'
    cases rn
    show wpAny _ _ (call (.ref C) [v']) _ _ _
    have hlim := I1.nolimit
    have hG := I1.mod.glob.keeps I1.bk
    obtain ⟨mb, hB0, hb0⟩ := I1.mod.blt
    have hB := hB0.keeps I1.bk
    have hb : mb "super" = some (.type "super") := (hb0 "super" (by decide)).trans rfl
    obtain ⟨hp, gg, dr, tk, os⟩ := s1
    refine wpAny_call (Sup.sup_made T I1.kIn hlim hG hB hb hr fun h' tk' e d M => ?_)
    show L2N.MkP X pins σ Q (.ref e) ⟨h', gg, dr, tk', os⟩ ∧ L2H.Six (.ref e) ⟨h', gg, dr, tk', os⟩
    obtain ⟨oe, fv, hoe, hc, hd, hdat, h1, h2, h4⟩ := M.obj
    have hns := M.ns
    obtain ⟨G', g1, g2⟩ := restrict h' fun b => decide (b ≠ e)
    have gk : ∀ b, b ≠ e → G'.get? b = h'.get? b := fun b hb => g1 b (decide_eq_true hb)
    have ge : G'.get? e = none := g2 e (by simp)
    have old : ∀ b o, hp.get? b = some o → G'.get? b = some o := fun b o q => (gk b (Nat.ne_of_lt (Nat.lt_of_lt_of_le (Heap.lt_size q) M.new))).trans (M.keep b o q)
    have ob : ObjOk X.prog X.w (upd H1 d (.xd [(("reason" : Str), v)])) G' d (.xd [(("reason" : Str), v)]) :=
      ⟨_, hns.at (fun o q => (gk d M.dne).trans q), fun f => relO_reason rv f⟩
    have J : Inv X pins σ (upd H1 d (.xd [(("reason" : Str), v)])) ⟨G', gg, dr, tk', os⟩ := I1.laid (t' := tk') old M.dbig ob
    refine ⟨⟨e, oe, fv, ⟨G', gg, dr, tk', os⟩, _, .ref C, some d, rfl, J, fun b o q => ?_, ge, hoe, ⟨hc, hd, fun vs ev => by rw [hdat] at ev; cases ev; exact h2⟩, hdat, h1, ?_, rfl, I1.bare, raises_own T.exC T.tyC, q1 d (I1.hok.fresh M.dbig)⟩, fun a' oe' vs' ea eo ed => by
      cases ea
      rw [show h'.get? e = some oe' from eo] at hoe
      cases hoe
      rw [ed] at hdat
      cases hdat
      exact h4⟩
    · by_cases hb : b = e
      · have q' : G'.get? b = some o := q
        rw [hb, ge] at q'; cases q'
      · exact (gk b hb).symm.trans q
    · rw [upd_ne (Ne.symm M.dne)]
      exact I1.hok.fresh M.new
theorem pmk_zc {e : Expr} {t : L2.St → Hp → XK → Prop} (h : L2N.PMk X e t) : PMk X e t := fun pins s σ H Q I w => thn (h pins s σ H Q I w) fun u s1 ⟨a, oe, vs, sI, H', cls, d, e1, e2, e3, e4, e5, e6, e7⟩ => ⟨a, oe, vs, sI, H', cls, d, e1, e2, e3, e4, e5, e6.zc, e7⟩
theorem raiseN {e : Expr} {t : L2.St → Hp → XK → Prop} {nn : Bool} (hc : X.calm = true) (tk : Tk nn X W) (he : L2N.PMk X e t) : PS X (.Raise (some e) none pos) (fun _ σ H => t σ H fun cls d H' => W cls d σ H') := by
  cases nn with
  | true => exact L2N.ps_raise hc tk he
  | false => exact L2.ps_raise hc tk (pmk_zc he)
def sRaise (i : Nat) (m : Ev) : Sv := fun env => bnd (m env) fun p => .error (.raise i p.1)
theorem s_raise (Cc : Cok nn X W P w K mg base N sc k bk) {i j : Nat} (T : Sup.Txt P K mg C fI) (hj : j + 1 ≤ k + 1) (hg : gloB sc x = true) (hm : mg x = some (.ref C)) (hec : g.ec i = some C) (hen : g.en i = "reason") (ha : DE X g pu false e m W) (hdb : (x == ("__debug__" : Str)) = false := by rfl)
    (he : starEach (e :: []) X.env = (false, eval e X.env) :: starEach [] X.env := by rfl) (hpl : (backTo pos (starEach [] X.env)).any (·.1) = false := by rfl) : DS X g (.Raise (some (.Call (.Name x p) [e] [] pos)) none pos') (sRaise i m) W := by
  have hgl := gloB_of Cc hg
  have tk := Cc.tk
  have hr := Cc.room
  have hc := Cc.calm
  obtain ⟨rfl, rfl, rfl, rfl, rfl⟩ := And.intro Cc.eP (And.intro Cc.ew (And.intro Cc.eK (And.intro Cc.em Cc.eb)))
  refine PS.imp (raiseN hc tk (L2H.PMk5.pmk (pmk5_sup T (by have := hr.dp; omega) hgl hm ha hdb he hpl))) fun E σ H ⟨xs, env, S, w⟩ => ?_
  refine ⟨xs, env, S, WantS.bindE w fun d env' v H' e s r w' => ⟨v, rfl, fun d' hd => ?_⟩⟩
  have r' : IsD (cc X g) (hide H' (Hid xs env σ)) d v := r
  refine w' _ _ σ _ rfl (s.sm.trans (hide_full.trans (same_new hd))) ⟨C, d', v, hec, rfl, rfl, ?_, r'.same (hide_full.trans (same_new hd))⟩
  show upd H' d' _ d' = some (.xd [(g.en i, v)])
  rw [hen]; exact upd_same
end
end Dn

/-! Dn19 -/
set_option Elab.async false
set_option linter.all false
set_option maxRecDepth 100000
set_option maxHeartbeats 1000000
/-! Dn19: a def that changes its first argument's list. -/
namespace Dn
open PySem PySem.Spec L2
open PyProof.Rows hiding St

def enterO (n : Nat) (s : D) (ds : List D) : En := Sl.ow s :: enter (n - 1) ds
def finO : M (Fl × En) → M (D × D)
  | .ok (fl, env) => match env[(0 : Nat)]? with
    | some (.ow s) => match fl with
      | .nx => .ok (.non, s)
      | .rt d => .ok (d, s)
      | .rf d => .ok (d, s)
      | _ => stuck
    | _ => stuck
  | .error e => .error e
section
variable {c : Cc} {N : List Str} {ds : List D} {s : D} {a : Addr} {ws : List V} {H : Hp} {xs : Addr → Prop} {o : HO}
theorem startO_eq (hN : ws.length + 1 ≤ N.length) : L2.start N (.ref a :: ws) = some (V.ref a) :: (ws.map some ++ List.replicate (N.length - 1 - ws.length) none) := by
  unfold L2.start
  simp only [List.map_cons, List.length_cons, List.cons_append]
  have : N.length - (ws.length + 1) = N.length - 1 - ws.length := by omega
  rw [this]
theorem enterO_owns (hN : ws.length + 1 ≤ N.length) {b : Addr} : Owns (enterO N.length s ds) (L2.start N (.ref a :: ws)) b ↔ b = a := by
  rw [startO_eq hN]
  constructor
  · rintro ⟨i, d, h1, h2⟩
    cases i with
    | zero => simp at h2; exact h2.symm
    | succ i =>
      have h1' : (enter (N.length - 1) ds)[i]? = some (Sl.ow d) := h1
      rcases enter_get h1' with ⟨e, _, h⟩ | h <;> cases h
  · rintro rfl
    exact ⟨0, s, rfl, rfl⟩
theorem enterO_ok (hN : ds.length + 1 ≤ N.length) (hx : ∀ b, xs b → H b ≠ none ∧ b ≠ a) (ho : H a = some o) (hr : ObjRep c (hide H (fun b => b = a ∨ xs b)) s o) (r : IsDs c (hide H (fun b => b = a ∨ xs b)) ds ws) :
    StOk c xs (enterO N.length s ds) (L2.start N (.ref a :: ws)) H := by
  have hl := r.len
  have hN' : ws.length + 1 ≤ N.length := by omega
  have eq : Hid xs (enterO N.length s ds) (L2.start N (.ref a :: ws)) = fun b => b = a ∨ xs b := by
    funext b; unfold Hid; rw [propext (enterO_owns (s := s) (ds := ds) hN')]
  refine ⟨?_, fun b hb => ⟨(hx b hb).1, fun z => (hx b hb).2 ((enterO_owns hN').mp z)⟩, fun i d h => ?_, fun i d h => ?_, fun i j d e b h1 h2 h3 h4 => ?_⟩
  · rw [startO_eq hN']
    unfold enterO enter
    simp [hl]
  · rw [eq, startO_eq hN']
    cases i with
    | zero => cases h
    | succ i =>
      have h' : (enter (N.length - 1) ds)[i]? = some (Sl.va d) := h
      rcases enter_get h' with ⟨e, h1, h2⟩ | h
      · cases h2
        obtain ⟨v, h3, h4⟩ := r.getD h1
        refine ⟨v, ?_, h4⟩
        show (ws.map some ++ _)[i]? = _
        rw [List.getElem?_append_left (by rw [List.length_map]; exact (List.getElem?_eq_some_iff.mp h3).1), List.getElem?_map, h3]
        rfl
      · cases h
  · rw [eq, startO_eq hN']
    cases i with
    | zero =>
      have : s = d := by
        have h' : some (Sl.ow s) = some (Sl.ow d) := h
        cases h'; rfl
      subst this
      exact ⟨a, o, rfl, ho, hr⟩
    | succ i =>
      have h' : (enter (N.length - 1) ds)[i]? = some (Sl.ow d) := h
      rcases enter_get h' with ⟨e, _, h⟩ | h <;> cases h
  · have z : ∀ {i d}, (enterO N.length s ds)[i]? = some (Sl.ow d) → i = 0 := fun {i d} h => by
      cases i with
      | zero => rfl
      | succ i =>
        have h' : (enter (N.length - 1) ds)[i]? = some (Sl.ow d) := h
        rcases enter_get h' with ⟨e, _, h⟩ | h <;> cases h
    rw [z h1, z h2]
theorem body_endO {Q : VK} {E : XK} {r : M (Fl × En)} (hN : ws.length + 1 ≤ N.length)
    (h : match finO r with
      | .ok (d, s') => ∀ v H' o', Same (hide H (· = a)) (hide H' (· = a)) → H' a = some o' → ObjRep c (hide H' (fun b => b = a ∨ xs b)) s' o' → IsD c (hide H' (fun b => b = a ∨ xs b)) d v → Q v H'
      | .error (.raise k p) => ∀ cls dd H', Same (hide H (· = a)) H' → ExcRep c H' k p cls dd → E cls dd H'
      | .error .stuck => False) :
    WantS c xs (enterO N.length s ds) (L2.start N (.ref a :: ws)) H (fun cls d _ H => E cls d H) { nx := fun _ H' => Q .non H', rt := Q } r := by
  have own : Owns (enterO N.length s ds) (L2.start N (.ref a :: ws)) = (· = a) := by funext b; exact propext (enterO_owns hN)
  have hw0 : isOw (enterO N.length s ds) 0 = true := rfl
  have hs0 : (L2.start N (.ref a :: ws))[0]? = some (some (V.ref a)) := by rw [startO_eq hN]; rfl
  cases r with
  | error e => cases e with
    | raise k p => exact fun cls dd σ' H' _ k' r => h cls dd H' (by rw [← own]; exact k') r
    | stuck => exact h
  | ok p =>
    obtain ⟨fl, env'⟩ := p
    have key : ∀ {σ' : St} {H' : Hp}, StOk c xs env' σ' H' → Kept (enterO N.length s ds) (L2.start N (.ref a :: ws)) H env' σ' H' →
        ∃ s' o', env'[0]? = some (Sl.ow s') ∧ H' a = some o' ∧ Same (hide H (· = a)) (hide H' (· = a)) ∧ ObjRep c (hide H' (fun b => b = a ∨ xs b)) s' o' ∧ Same (hide H' (Hid xs env' σ')) (hide H' (fun b => b = a ∨ xs b)) := fun {σ' H'} S' k => by
      obtain ⟨f1, f2⟩ := k.fx hw0
      obtain ⟨s', hs'⟩ := of_isOw f1
      obtain ⟨b, o', e1, e2, e3⟩ := S'.ow 0 s' hs'
      rw [f2, hs0] at e1; cases e1
      have sub : Same (hide H' (Hid xs env' σ')) (hide H' (fun b => b = a ∨ xs b)) := hide_sub fun b z => by
        rcases z with z | z
        · subst z; exact .inl ⟨0, s', hs', by rw [f2, hs0]⟩
        · exact .inr z
      refine ⟨s', o', hs', e2, fun b u hb => ?_, e3.same sub, sub⟩
      obtain ⟨h1, h2⟩ := hide_some hb
      have := k.sm b u (by rw [own]; exact hb)
      rw [hide_of (P := (· = a)) h1]
      exact (hide_some this).2
    cases fl with
    | nx =>
      intro σ' H' S' k
      obtain ⟨s', o', q1, q2, q3, q4, _⟩ := key S' k
      unfold finO at h
      simp only [q1] at h
      exact h .non H' o' q3 q2 q4 isNon
    | bk =>
      intro σ' H' S' k
      obtain ⟨s', o', q1, _⟩ := key S' k
      unfold finO at h
      simp only [q1] at h
    | ct =>
      intro σ' H' S' k
      obtain ⟨s', o', q1, _⟩ := key S' k
      unfold finO at h
      simp only [q1] at h
    | rt d =>
      intro σ' v H' S' k hd
      obtain ⟨s', o', q1, q2, q3, q4, q5⟩ := key S' k
      unfold finO at h
      simp only [q1] at h
      exact h v H' o' q3 q2 q4 (hd.same q5)
    | rf d =>
      rintro σ' v H' S' k ⟨b, u, e1, e2, e3, e4, e5⟩
      obtain ⟨s', o', q1, q2, q3, q4, q5⟩ := key S' k
      unfold finO at h
      simp only [q1] at h
      subst e1
      have nb : ¬ (b = a ∨ xs b) := fun z => e4 (by
        rcases z with z | z
        · subst z
          obtain ⟨f1, f2⟩ := k.fx hw0
          exact .inl ⟨0, s', q1, by rw [f2, hs0]⟩
        · exact .inr z)
      refine h _ H' o' q3 q2 q4 (ObjRep.isD (e5.same (hide_sub fun c' z => ?_)) e3 nb)
      rcases z with (z | z) | z
      · subst z
        obtain ⟨f1, f2⟩ := k.fx hw0
        exact .inl (.inl ⟨0, s', q1, by rw [f2, hs0]⟩)
      · exact .inl (.inr z)
      · exact .inr z
    | ro i =>
      intro σ' a' H' S' k
      obtain ⟨s', o', q1, _⟩ := key S' k
      unfold finO at h
      simp only [q1] at h
end
section
variable {P : Program} {w : World} {K : PySem.W.Frag} {mg : Str → Option Value} {base : Heap} {g : Ce}
/-- THE RULE for a def that may change its first argument's list -/
theorem def_own {nn : Bool} {x qual : Str} {st : Stmt} {f : Addr} {fd : FuncData} {N ps : List Str} {k n : Nat} {mf : D → List D → M (D × D)} {body : Sv} (F : Fun K x qual st f fd) (S : FnScope N ps (defScope st)) (hn : ps.length = n + 1) (hN : ps.length ≤ N.length) (hf : ∀ s ds, mf s ds = finO (body (enterO N.length s ds)))
    (hbody : ∀ (X : Cx) (W : WX), Cok nn X W P w K mg base N (defScope st) k false → PaOk X → DSs X g (defBody st) body W) :
    FnOk P w K mg base (CXn nn P w) (k + 1) f fd ps (spO (ck K g) n mf) := by
  refine fun_ok F S (fun vs H Q E ⟨xs, a, o, s, ds, ws, h1, h2, h3, h4, h5, h6, _⟩ => by rw [h1, List.length_cons, ← h6.len, h2, hn]) (fun cdv A outer s H vs Q E hr ⟨xs, a, o, st', ds, ws, h1, h2, h3, h4, h5, h6, h⟩ => ?_)
  subst h1
  have hl := h6.len
  refine ⟨_, hbody _ _ (ctx_def S hr) (L2H.passesAt_of rfl), xs, enterO N.length st' ds, enterO_ok (by omega) h3 h4 h5 h6, ?_⟩
  rw [hf] at h
  exact body_endO (by omega) h
end
end Dn

/-! Dn20 -/
set_option Elab.async false
set_option linter.all false
set_option maxRecDepth 100000
set_option maxHeartbeats 2000000
/-! Dn20: a def called on the error that a suite holds. -/
namespace Dn
open PySem PySem.Spec L2
open PyProof.Rows hiding St
open L2H (RoomH PinOk)

/-- what such a def promises: it lets no error out -/
structure FnW (P : Program) (w : World) (K : PySem.W.Frag) (mg : Str → Option Value) (base : Heap) (k : Nat) (f : Addr) (fd : FuncData) (ps : List Str) (sp : Addr → Value → Option Addr → Sp) : Prop where
  len : ∀ a cls d vs H Q E, sp a cls d vs H Q E → vs.length = ps.length
  run : ∀ (A : Around) (outer : List Env) (s : Shared) (H : Hp) (args : Args) (us : List Value) (vs : List V) (Q : VK) (a : Addr) (oe : Obj) (cls : Value) (d : Option Addr), RoomH k A → PinOk outer H s (a, oe) → Zc cls d oe → (∃ vs, oe.data = .fields vs) → Env0 P w K mg base A outer s H → BindsTo s fd args (ps.zip us) → Vals vs us →
    sp a cls d vs H Q (fun _ _ _ => False) → codeAny (model P w) A (.call (.ref f) args) (CR CX0 outer P w H s Q (fun _ _ _ => False)) s
theorem fn_ofW {P : Program} {w : World} {K : PySem.W.Frag} {mg : Str → Option Value} {base : Heap} {k : Nat} {f : Addr} {x qual : Str} {st : Stmt} {fd : FuncData} {N ps : List Str} {sp : Addr → Value → Option Addr → Sp} (F : Fun K x qual st f fd) (S : FnScope N ps (defScope st))
    (len : ∀ a cls d vs H Q E, sp a cls d vs H Q E → vs.length = ps.length)
    (hbody : ∀ (cdv : Value) (A : Around) (outer : List Env) (s : Shared) (H : Hp) (vs : List V) (Q : VK) (a : Addr) (oe : Obj) (cls : Value) (d : Option Addr), Zc cls d oe → (∃ vs, oe.data = .fields vs) → sp a cls d vs H Q (fun _ _ _ => False) →
      ∃ t, PSs (L2H.cxH CX0 P w K mg base N qual (defScope st) f cdv A outer s H (fun _ _ _ => False) (a, oe)) (defBody st) t ∧ t { nx := fun _ H' => Q .non H', rt := Q } (L2.start N vs) H) :
    FnW P w K mg base (k + 1) f fd ps sp := by
  obtain ⟨oc, od, kV, doc, pm, an, cdv, ct, osl, rfl, lk, hcd⟩ := F.ex
  refine ⟨len, fun A outer s H args us vs Q a oe cls d hr hpin hz hf e0 hb r hsp => ?_⟩
  have hl := len _ _ _ _ _ _ _ hsp
  have KX : K.In s.heap := e0.mod.kin.keeps fun b o e => (e0.bs b o e).1
  have lim : s.heap.NoLimit := e0.mod.nolimit.keeps fun b o e => (e0.bs b o e).1
  have hkind : ∀ y ∈ ps.zip us, (defScope st).names.lookup y.1 = some .local ∨ ((defScope st).names.lookup y.1 = some .cell ∧ ((cellsFrom (s.heap.objs.size + 1) (defScope st).names []).lookup y.1).isSome = true) := fun ⟨n, v⟩ hy => by
    rcases S.par n (List.of_mem_zip hy).1 with q | q
    · exact .inl q
    · exact .inr ⟨q, PySem.W.cellsFrom_some _ _ _ (.inl q)⟩
  refine codeAny_call_function hr.depth (KX _ _ lk) rfl S.co S.gen rfl (PySem.W.codeRec_of KX hcd) (hb _ _ _ _ ?_)
  refine wpAny_newFunctionEnv_cells S.kind hkind fun env he s1 x => ?_
  subst he
  refine ⟨lim.keeps x.toInCall.keep, codeAny_func ?_⟩
  obtain ⟨t, ht, hq⟩ := hbody cdv A outer s H vs Q a oe cls d hz hf hsp
  have I : Inv (L2H.cxH CX0 P w K mg base N qual (defScope st) f cdv A outer s H (fun _ _ _ => False) (a, oe)) [] (L2.start N vs) H s1 := L2H.inv_startH S hpin e0 hl r x
  refine wpAny_mono (ht.run [] s1 (L2.start N vs) H _ I hq) (fun fl s' hs => ?_) fun e s' hs => hs
  have fin : ∀ {σ' : St} {H' : Hp} {v : V} {u : Value}, Inv (L2H.cxH CX0 P w K mg base N qual (defScope st) f cdv A outer s H (fun _ _ _ => False) (a, oe)) [] σ' H' s' → RelV v u → Q v H' → CE outer P w H s Q u s' :=
    fun {σ' H' v u} J rv q => ⟨v, H', J.os, J.bare, J.base, J.hok, rv, q⟩
  cases fl with
  | ret u =>
    obtain ⟨v, σ', H', J, rv, q⟩ := hs
    exact fin J rv q
  | next =>
    obtain ⟨σ', H', J, q⟩ := hs
    exact fin (v := V.non) (u := Value.none) J rfl q
  | brk =>
    obtain ⟨_, _, _, q⟩ := hs
    exact False.elim q
  | cont =>
    obtain ⟨_, _, _, q⟩ := hs
    exact False.elim q
section
variable {X : Cx} {k : Nat} {f : Addr} {fd : FuncData} {ps : List Str} {sp : Addr → Value → Option Addr → Sp} {x : Str} {q pos : Pos} {e : Expr} {es : List Expr} {t : TA} {a : Addr} {oe : Obj} {cls : Value} {d : Option Addr}
def tCallW (a : Addr) (cls : Value) (d : Option Addr) (sp : Addr → Value → Option Addr → Sp) (t : TA) : TE := fun σ H Q => t σ H fun vs H1 => sp a cls d vs H1 Q (fun _ _ _ => False)
theorem pe_callW (F : FnW X.prog X.w X.K X.mg X.base k f fd ps sp) (hr : RoomH k X.A) (hp : (a, oe) ∈ X.pn) (hz : Zc cls d oe) (hf : ∃ vs, oe.data = .fields vs) (hg : Gl X x) (hm : X.mg x = some (.ref f)) (hk : PySem.W.keepIn X.K (.ref f) = true) (hb : Binds X.K fd ps [])
    (ha : PA X (e :: es) t) (hdb : (x == ("__debug__" : Str)) = false := by decide) (he : starEach (e :: es) X.env = (false, eval e X.env) :: starEach es X.env := by rfl) (hpl : (backTo pos (starEach es X.env)).any (·.1) = false := by rfl) :
    PE X (.Call (.Name x q) (e :: es) [] pos) (tCallW a cls d sp t) := by
  refine ⟨fun pins s σ H Q I h => ?_⟩
  refine wpAny_Call_Name_kw (ld_glob I hg hm ?_ hdb)
  refine PySem.W.callWith_K (h₀ := X.base) I.ok.mod.kin hk (thn (ha.run pos pins s σ H _ I h) fun us s1 ⟨vs, H1, I1, r, q⟩ => ⟨I1.kIn, ?_⟩) he hpl
  have hl : us.length = ps.length := by rw [← r.length]; exact F.len _ _ _ _ _ _ _ q
  have b := hb s1 us I1.kIn (by rw [List.append_nil]; exact hl)
  rw [List.append_nil] at b
  have P1 := I1.pin (a, oe) (List.mem_append_left _ hp)
  have hpin : PinOk X.stack H1 s1 (a, oe) := ⟨P1.1, P1.2.1, fun hm => (List.mem_cons.mp (I1.stkSub a hm)).elim P1.2.2.1 P1.2.2.2.1, P1.2.2.2.2⟩
  show wpAny _ _ (call (.ref f) us) _ _ _
  refine wpAny_call (codeAny_mono (F.run X.A X.stack s1 H1 ⟨us, []⟩ us vs Q a oe cls d hr hpin hz hf I1.env0 b r q) fun r s' hq => ?_)
  cases r with
  | error e => exact False.elim hq
  | ok fl =>
    cases fl with
    | ret u => exact I1.after hq
    | next => exact False.elim hq
    | brk => exact False.elim hq
    | cont => exact False.elim hq
end

/-! ### asking the error -/
section
variable {X : Cx} {a : Addr} {oe : Obj} {cls : Value} {d : Option Addr}
theorem inst_of {pins : List (Addr × Obj)} {σ : St} {H : Hp} {s : Shared} {D dd : Addr} {fs : List (Str × V)} (I : Inv X pins σ H s) (hp : (a, oe) ∈ X.pn) (hz : Zc (.ref D) (some dd) oe) (hf : ∃ vs, oe.data = .fields vs) (hd : H dd = some (.xd fs)) :
    ∃ od, PySem.W.InstAt s.heap a oe D (some od) ∧ s.heap.get? dd = some od := by
  obtain ⟨hget, _⟩ := I.pin (a, oe) (List.mem_append_left _ hp)
  obtain ⟨vs, hv⟩ := hf
  have hx : ObjOk X.prog X.w H s.heap dd (.xd fs) := I.hok dd _ hd
  obtain ⟨mA, hns, hr⟩ := hx
  obtain ⟨od, ho, hl⟩ := L2.lookIn_ns hns
  exact ⟨od, ⟨hget, hz.1, by unfold PySem.W.notCls; rw [hv] <;> rfl, by rw [hz.2]; exact ho⟩, ho⟩
/-- isinstance(e, c) -/
def rIsX (K : PySem.W.Frag) (a : Addr) (cls : Value) (d : Option Addr) : RC := fun xs H Q => ∃ (D dd : Addr) (fs : List (Str × V)) (c : V) (cv : Value) (b : Bool), cls = .ref D ∧ d = some dd ∧ H dd = some (.xd fs) ∧ ExcC K D ∧ xs = [.ref a, c] ∧ (∀ u, RelV c u → u = cv) ∧ PySem.W.kitOne K (.ref D) cv = some b ∧ Q (.bl b) H
theorem call_isX (hp : (a, oe) ∈ X.pn) (hz : Zc cls d oe) (hf : ∃ vs, oe.data = .fields vs) : CallR X (.builtin "isinstance") (rIsX X.K a cls d) := by
  intro pins s σ H xs us Q I r h
  obtain ⟨D, dd, fs, c, cv, b, rfl, rfl, hd, C, rfl, hcv, e, q⟩ := h
  cases r with
  | cons rx rr =>
    cases rr with
    | cons rt rr =>
      cases rr
      cases rx
      have ec := hcv _ rt
      subst ec
      obtain ⟨od, J, _⟩ := inst_of I hp hz hf hd
      have hcl : (PySem.W.clsIn X.K D).isSome = true := by obtain ⟨cd, hc, _⟩ := PySem.W.any_some C.hd; rw [hc]; rfl
      exact PySem.W.kia_one (PySem.W.kitx_exc hcl C.hg C.hk C.hs C.ha C.hn C.ht C.hm) I.kIn J e (fun z => nomatch z) fun tk => ⟨.bl b, H, I.kept (t' := tk) fun _ _ z => z, rfl, q⟩
/-- e.f -/
def tXg (a : Addr) (cls : Value) (d : Option Addr) (K : PySem.W.Frag) (f : Str) (te : TE) : TE := fun σ H Q => te σ H fun x H1 => ∃ (D dd : Addr) (fs : List (Str × V)) (v : V), x = .ref a ∧ cls = .ref D ∧ d = some dd ∧ XfC K D ∧ PySem.W.findIn K (.ref D) f = some none ∧ H1 dd = some (.xd fs) ∧ fs.lookup f = some v ∧ Q v H1
theorem pe_xg {e : Expr} {te : TE} {pos : Pos} {n : Str} (hp : (a, oe) ∈ X.pn) (hz : Zc cls d oe) (hf : ∃ vs, oe.data = .fields vs) (he : PE X e te) (hb : attributeBase e n X.env (eval e X.env) = eval e X.env := by rfl) :
    PE X (.Attribute e n pos) (tXg a cls d X.K n te) := by
  refine ⟨fun pins s σ H Q I h => ?_⟩
  refine attr_of hb (thn (he.run pins s σ H _ I h) fun u s1 hh => ?_)
  obtain ⟨x, H1, I1, rx, D, dd, fs, v, ex, ec, ed, T, hno, ea, l, q⟩ := hh
  subst ex
  obtain rfl : u = Value.ref a := rx
  subst ec
  subst ed
  obtain ⟨ha, _⟩ := I1.pin (a, oe) (List.mem_append_left _ hp)
  obtain ⟨vs, hd⟩ := hf
  have hx : ObjOk X.prog X.w H1 s1.heap dd (.xd fs) := I1.hok dd _ ea
  obtain ⟨mA, hns, hr⟩ := hx
  obtain ⟨od, ho, hl⟩ := L2.lookIn_ns hns
  obtain ⟨u, hu, ru⟩ := RelO.some_of (v := v) (o := mA n) (by rw [← l]; exact hr n)
  have J : PySem.W.InstAt s1.heap a oe D (some od) := ⟨ha, hz.1, by unfold PySem.W.notCls; rw [hd] <;> rfl, by rw [hz.2]; exact ho⟩
  exact HandSPX.exc_get I1.kIn J T.ga T.gg T.exC (PySem.W.findObj_own T.hdC hno rfl (by rw [hl, hu])) (handed_of ru) ⟨v, H1, I1.tok _, ru, q⟩
end

/-! ### list.count, flat items -/
section
variable {X : Cx}
def rCountV (K : PySem.W.Frag) : V → List V → Hp → VK → Prop := fun x xs H Q => ∃ (a : Addr) (ys : List V) (y : V), x = V.ref a ∧ xs = [y] ∧ SqL K H a ys ∧ flatV y = true ∧ ys.all flatV = true ∧ Q (.int (ys.countP fun z => eqV z y : Nat)) H
theorem count_eqU {y : V} : ∀ {ys : List V} {us : List Value}, Vals ys us → ys.all flatV = true → us.countP (eqU y) = ys.countP fun z => eqV z y
  | _, _, .nil, _ => rfl
  | _, _, .cons r t, f => by
    rw [List.all_cons, Bool.and_eq_true] at f
    rw [List.countP_cons, List.countP_cons, count_eqU t f.2, eqU_of r f.1]
theorem mt_countV : MtR X "list.count" (rCountV X.K) := by
  intro pins s σ H x xs v us Q I rx rxs h
  obtain ⟨a, ys, y, rfl, rfl, hs, fy, fys, q⟩ := h
  cases rx
  cases rxs with
  | cons ry rt =>
    rename_i uy ut
    cases rt
    obtain ⟨its, rv, ⟨⟨cls, dd, data, sl⟩, n, ho, hc, hdn, hd⟩, hlen⟩ := I.list hs
    simp only at hc hd
    subst hc hd
    refine call_meets PySem.F.slot_list_count ⟨_, ho, rfl⟩ PySem.F.entry_list_count (PySem.F.args_list_count_2 _ _)
      (SeqAt.list_countAt a its.toArray n dd sl uy (eqU y)) ⟨ho, fun u' hu' => mem_eqAt ry fy rv fys u' (by simpa using hu'), ?_⟩
    refine ⟨.int (ys.countP fun z => eqV z y : Nat), H, I.tok _, ⟨s.toks, ?_⟩, q⟩
    show Value.int ((its.toArray.toList.countP (eqU y) : Nat) : Int) s.toks = _
    rw [show its.toArray.toList = its from rfl, count_eqU rv fys]
end
end Dn

/-! Dn21 -/
set_option Elab.async false
set_option linter.all false
set_option maxRecDepth 100000
set_option maxHeartbeats 2000000
/-! Dn21: _law_word. -/
namespace Dn
open PySem PySem.Spec L2
open PyProof.Rows hiding St

/-! ### the text -/
def wHeads : List Str := ["flow ", "argument ", "paper ", "many "]
def wNames : List Str := ["FlowError", "ArgumentError", "PaperError", "TooMany"]
def wIs (x : Str) (a b c d : Pos) : Expr := .Call (.Name "isinstance" a) [.Name "error" b, .Name x c] [] d
def wBody (j0 j1 j2 j3 j4 j5 j6 j7 : Nat) (p : Nat → Pos) : List Stmt :=
  [.Assign [.Name "heads" (p 0)] (.List [.Constant (.str "flow ") j0 (p 1), .Constant (.str "argument ") j1 (p 2), .Constant (.str "paper ") j2 (p 3), .Constant (.str "many ") j3 (p 4)] (p 5)) (p 6),
   .Assign [.Name "found" (p 7)] (.List [wIs "FlowError" (p 8) (p 9) (p 10) (p 11), wIs "ArgumentError" (p 12) (p 13) (p 14) (p 15), wIs "PaperError" (p 16) (p 17) (p 18) (p 19), wIs "TooMany" (p 20) (p 21) (p 22) (p 23)] (p 24)) (p 25),
   .Return (some (.IfExp (.BoolOp .And [.Compare (.Call (.Attribute (.Name "found" (p 26)) "count" (p 27)) [.Constant (.bool true) j4 (p 28)] [] (p 29)) [.Eq] [.Constant (.int 1) j5 (p 30)] (p 31), wIs "ValueError" (p 32) (p 33) (p 34) (p 35)] (p 36))
     (.BinOp (.Subscript (.Name "heads" (p 37)) (.Call (.Attribute (.Name "found" (p 38)) "index" (p 39)) [.Constant (.bool true) j6 (p 40)] [] (p 41)) (p 42)) .Add (.Attribute (.Name "error" (p 43)) "reason" (p 44)) (p 45))
     (.Constant (.str "other") j7 (p 46)) (p 47))) (p 48)]
def wS : Scope := { kind := .function, names := [("error", .local), ("heads", .local), ("found", .local), ("isinstance", .globalImplicit), ("FlowError", .globalImplicit), ("ArgumentError", .globalImplicit), ("PaperError", .globalImplicit), ("TooMany", .globalImplicit), ("ValueError", .globalImplicit)], isGenerator := false, isCoroutine := false, more := [] }
def wN : List Str := ["error", "heads", "found"]
/-- the four classes -/
structure WCls (K : PySem.W.Frag) (mg : Str → Option Value) (g : Ce) (C : Nat → Addr) : Prop where
  ec : ∀ i, i < 4 → g.ec i = some (C i)
  m0 : mg "FlowError" = some (.ref (C 0))
  m1 : mg "ArgumentError" = some (.ref (C 1))
  m2 : mg "PaperError" = some (.ref (C 2))
  m3 : mg "TooMany" = some (.ref (C 3))
  mi : mg "isinstance" = none
  mv : mg "ValueError" = none
  ex : ∀ i, i < 4 → ExcC K (C i)
  xf : ∀ i, i < 4 → XfC K (C i)
  no : ∀ i, i < 4 → PySem.W.findIn K (.ref (C i)) "reason" = some none
  is : ∀ i j, i < 4 → j < 4 → PySem.W.kitOne K (.ref (C i)) (.ref (C j)) = some (i == j)
  iv : ∀ i, i < 4 → PySem.W.kitOne K (.ref (C i)) (.type "ValueError") = some true
/-- the word for the error i with that reason -/
def wordOf : Nat → D → M D
  | i, .str x => match wHeads[i]? with
    | some h => if x.length ≤ 1000 then .ok (.str (h ++ x)) else stuck
    | none => stuck
  | _, _ => stuck
def spWord (C : Nat → Addr) (a : Addr) (cls : Value) (d : Option Addr) : Sp := fun vs H Q _ => vs = [V.ref a] ∧ ∃ (i : Nat) (h x : Str) (dd : Addr), i < 4 ∧ wHeads[i]? = some h ∧ x.length ≤ 1000 ∧ cls = .ref (C i) ∧ d = some dd ∧ H dd = some (.xd [("reason", .str x)]) ∧
  ∀ H', Same H H' → Q (.str (h ++ x)) H'
section
variable {X : Cx} {K : PySem.W.Frag} {mg : Str → Option Value} {g : Ce} {C : Nat → Addr} {a : Addr} {oe : Obj} {cls : Value} {d : Option Addr}
/-- the reading of isinstance(error, c) -/
def tIsX (K : PySem.W.Frag) (a : Addr) (cls : Value) (d : Option Addr) (cv : V) : TE := tCB (rIsX K a cls d) (tCons (tVar 0) (tCons (tC cv) tNil))
theorem pe_wIs {x : Str} {cv : V} {p1 p2 p3 p4 : Pos} (hp : (a, oe) ∈ X.pn) (hz : Zc cls d oe) (hf : ∃ vs, oe.data = .fields vs) (hN : X.N = wN) (hs : X.env.scope = wS) (hm : X.mg "isinstance" = none) (hc : PE X (.Name x p3) (tC cv)) (h1 : starEach [.Name x p3] X.env = (false, eval (.Name x p3) X.env) :: starEach [] X.env := by rfl) : PE X (wIs x p1 p2 p3 p4) (tIsX X.K a cls d cv) :=
  pe_callB (call_isX hp hz hf) (by show X.env.scope.names.lookup _ = _; rw [hs]; rfl) hm rfl (pa_cons (pe_var (by rw [hN]; rfl) (.inl (by rw [hs]; rfl))) (pa_cons hc pa_nil))
theorem word_ok {P : Program} {w : World} {base : Heap} {f : Addr} {fd : FuncData} {x qual : Str} {st : Stmt} {k : Nat} {j0 j1 j2 j3 j4 j5 j6 j7 : Nat} {p : Nat → Pos} (T : WCls K mg g C) (F : Fun K x qual st f fd) (hB : defBody st = wBody j0 j1 j2 j3 j4 j5 j6 j7 p) (hS : defScope st = wS)
    (l1 : ((p 27).endLine == (p 29).line) = true) (l2 : ((p 39).endLine == (p 41).line) = true) (S : FnScope wN ["error"] (defScope st)) : FnW P w K mg base (k + 1) f fd ["error"] (spWord C) := by
  refine fn_ofW F S (fun a cls d vs H Q E ⟨e, _⟩ => by rw [e]; rfl) (fun cdv A outer s H vs Q a oe cls d hz hf hsp => ?_)
  obtain ⟨ev, i, h, x, dd, hi, hh, hx, ec, ed, hd, q⟩ := hsp
  subst ev ec ed
  generalize hX : L2H.cxH CX0 P w K mg base wN qual (defScope st) f cdv A outer s H (fun _ _ _ => False) (a, oe) = X
  have eN : X.N = wN := by rw [← hX]; rfl
  have es : X.env.scope = wS := by rw [← hX, ← hS]; rfl
  have eK : X.K = K := by rw [← hX]; rfl
  have em : X.mg = mg := by rw [← hX]; rfl
  have ef : ∀ y, X.fn y = true := by rw [← hX]; exact fun _ => rfl
  have hp : (a, oe) ∈ X.pn := by rw [← hX]; exact List.mem_cons_self
  have gl : ∀ y : Str, wS.names.lookup y = some .globalImplicit → Gl X y := fun y e => by show X.env.scope.names.lookup y = _; rw [es]; exact e
  have vr : ∀ (n : Nat) (y : Str) (pos : Pos), wN[n]? = some y → wS.names.lookup y = some .local → (y == ("__debug__" : Str)) = false → (y == ("__classdict__" : Str)) = false → PE X (.Name y pos) (tVar n) := fun n y pos h1 h2 h3 h4 => pe_var (by rw [eN]; exact h1) (.inl (by rw [es]; exact h2)) h3 h4
  have cl : ∀ (y : Str) (n : Nat) (pos : Pos), wS.names.lookup y = some .globalImplicit → mg y = some (.ref (C n)) → (y == ("__debug__" : Str)) = false → PE X (.Name y pos) (tC (.ref (C n))) := fun y n pos h1 h2 h3 => pe_glob (gl y h1) (by rw [em]; exact h2) rfl h3
  have hmi : X.mg "isinstance" = none := by rw [em]; exact T.mi
  have s1 : PS X (.Assign [.Name "heads" (p 0)] (.List [.Constant (.str "flow ") j0 (p 1), .Constant (.str "argument ") j1 (p 2), .Constant (.str "paper ") j2 (p 3), .Constant (.str "many ") j3 (p 4)] (p 5)) (p 6)) _ :=
    ps_set (i := 1) (by rw [eN]; decide) (by rw [eN]; rfl) (.inl (by rw [es]; rfl)) (pe_lst (pa_cons pe_str (pa_cons pe_str (pa_cons pe_str (pa_cons pe_str pa_nil))))) rfl (.inl (ef _))
  have s2 : PS X (.Assign [.Name "found" (p 7)] (.List [wIs "FlowError" (p 8) (p 9) (p 10) (p 11), wIs "ArgumentError" (p 12) (p 13) (p 14) (p 15), wIs "PaperError" (p 16) (p 17) (p 18) (p 19), wIs "TooMany" (p 20) (p 21) (p 22) (p 23)] (p 24)) (p 25)) _ :=
    ps_set (i := 2) (by rw [eN]; decide) (by rw [eN]; rfl) (.inl (by rw [es]; rfl)) (pe_lst (pa_cons (pe_wIs hp hz hf eN es hmi (cl _ 0 _ rfl T.m0 rfl)) (pa_cons (pe_wIs hp hz hf eN es hmi (cl _ 1 _ rfl T.m1 rfl)) (pa_cons (pe_wIs hp hz hf eN es hmi (cl _ 2 _ rfl T.m2 rfl)) (pa_cons (pe_wIs hp hz hf eN es hmi (cl _ 3 _ rfl T.m3 rfl)) pa_nil))))) rfl (.inl (ef _))
  have s3 : PS X (.Return (some (.IfExp (.BoolOp .And [.Compare (.Call (.Attribute (.Name "found" (p 26)) "count" (p 27)) [.Constant (.bool true) j4 (p 28)] [] (p 29)) [.Eq] [.Constant (.int 1) j5 (p 30)] (p 31), wIs "ValueError" (p 32) (p 33) (p 34) (p 35)] (p 36))
     (.BinOp (.Subscript (.Name "heads" (p 37)) (.Call (.Attribute (.Name "found" (p 38)) "index" (p 39)) [.Constant (.bool true) j6 (p 40)] [] (p 41)) (p 42)) .Add (.Attribute (.Name "error" (p 43)) "reason" (p 44)) (p 45))
     (.Constant (.str "other") j7 (p 46)) (p 47))) (p 48)) _ :=
    ps_ret (pe_ifExp (pw_and (pt_cmpR op_eq (pe_bm PySem.F.plainAttrs_list PySem.F.slot_list_count PySem.F.type_list_count mt_countV (vr 2 "found" _ rfl rfl rfl rfl) (pa_cons pe_bl pa_nil) rfl rfl l1) pe_int rfl)
        (pw_and1 (pt_val (pe_wIs hp hz hf eN es hmi (pe_bltn (v := .ty "ValueError") (gl _ rfl) (by rw [em]; exact T.mv) PyProof.Rows.Boot.«ValueError» rfl))))).pt
      (pe_op op_add_str (pe_ix ix_list (vr 1 "heads" _ rfl rfl rfl rfl) (pe_bm PySem.F.plainAttrs_list PySem.F.slot_list_index PySem.F.type_list_index mt_index (vr 2 "found" _ rfl rfl rfl rfl) (pa_cons pe_bl pa_nil) rfl rfl l2) fun _ _ => rfl) (pe_xg hp hz hf (vr 0 "error" _ rfl rfl rfl rfl))) pe_str)
  refine ⟨_, by rw [hB]; exact pss_cons s1 (pss_cons s2 (pss_one s3)), ?_⟩
  have hst : L2.start wN [V.ref a] = [some (V.ref a), none, none] := rfl
  rw [hst]
  -- isinstance(error, C j), anywhere that keeps the error's dict
  have isj : ∀ (j : Nat) (σ : L2.St) (H' : Hp) (Q' : VK), j < 4 → σ[0]? = some (some (V.ref a)) → Same H H' → Q' (.bl (i == j)) H' → tIsX X.K a (.ref (C i)) (some dd) (.ref (C j)) σ H' Q' := fun j σ H' Q' hj h0 k q' =>
    ⟨.ref a, h0, C i, dd, _, .ref (C j), .ref (C j), (i == j), rfl, rfl, k _ _ hd, by rw [eK]; exact T.ex i hi, rfl, fun u r => r, by rw [eK]; exact T.is i j hi hj, q'⟩
  -- heads
  refine ⟨by show 4 ≤ sizeLine; rw [sizeLine_eq]; decide, fun b1 hb1 => ?_⟩
  have k1 : Same H (upd H b1 (.lst [.str "flow ", .str "argument ", .str "paper ", .str "many "])) := same_new hb1
  generalize hH1 : upd H b1 (.lst [.str "flow ", .str "argument ", .str "paper ", .str "many "]) = H1 at k1
  have hd1 : H1 b1 = some (.lst [.str "flow ", .str "argument ", .str "paper ", .str "many "]) := by rw [← hH1]; exact upd_same
  -- found
  refine isj 0 _ _ _ (by decide) rfl k1 (isj 1 _ _ _ (by decide) rfl k1 (isj 2 _ _ _ (by decide) rfl k1 (isj 3 _ _ _ (by decide) rfl k1 ?_)))
  refine ⟨by show 4 ≤ sizeLine; rw [sizeLine_eq]; decide, fun b2 hb2 => ?_⟩
  have k2 : Same H1 (upd H1 b2 (.lst [.bl (i == 0), .bl (i == 1), .bl (i == 2), .bl (i == 3)])) := same_new hb2
  generalize hH2 : upd H1 b2 (.lst [.bl (i == 0), .bl (i == 1), .bl (i == 2), .bl (i == 3)]) = H2 at k2
  have hd2 : H2 b2 = some (.lst [.bl (i == 0), .bl (i == 1), .bl (i == 2), .bl (i == 3)]) := by rw [← hH2]; exact upd_same
  have k3 := k1.trans k2
  have he : ∃ h0 : Str, wHeads[i]? = some h0 ∧ h0.length ≤ 10 := by
    have : i = 0 ∨ i = 1 ∨ i = 2 ∨ i = 3 := by omega
    rcases this with rfl | rfl | rfl | rfl <;> exact ⟨_, rfl, by decide⟩
  obtain ⟨h0, e0, z0⟩ := he
  rw [hh] at e0
  cases e0
  have hcount : ([V.bl (i == 0), .bl (i == 1), .bl (i == 2), .bl (i == 3)].countP fun z => eqV z (.bl true)) = 1 := by
    have : i = 0 ∨ i = 1 ∨ i = 2 ∨ i = 3 := by omega
    rcases this with rfl | rfl | rfl | rfl <;> rfl
  have hidx : ∃ z, [V.bl (i == 0), .bl (i == 1), .bl (i == 2), .bl (i == 3)][i]? = some z ∧ eqV z (.bl true) = true ∧ ∀ (m : Nat) (z' : V), m < i → [V.bl (i == 0), .bl (i == 1), .bl (i == 2), .bl (i == 3)][m]? = some z' → eqV z' (.bl true) = false := by
    have : i = 0 ∨ i = 1 ∨ i = 2 ∨ i = 3 := by omega
    rcases this with rfl | rfl | rfl | rfl <;> refine ⟨_, rfl, rfl, fun m z' hm e => ?_⟩
    · omega
    · obtain rfl : m = 0 := by omega
      cases e; rfl
    · have : m = 0 ∨ m = 1 := by omega
      rcases this with rfl | rfl <;> (cases e; rfl)
    · have : m = 0 ∨ m = 1 ∨ m = 2 := by omega
      rcases this with rfl | rfl | rfl <;> (cases e; rfl)
  obtain ⟨z, i1, i2, i3⟩ := hidx
  refine ⟨.ref b2, rfl, .inl ⟨rfl, _, SqL.of hd2⟩, b2, _, .bl true, rfl, rfl, SqL.of hd2, rfl, rfl, ?_⟩
  rw [hcount]
  refine ⟨rfl, true, rfl, ?_⟩
  simp only [↓reduceIte]
  refine ⟨.ref a, rfl, C i, dd, _, .ty "ValueError", .type "ValueError", true, rfl, rfl, k3 _ _ hd, by rw [eK]; exact T.ex i hi, rfl, fun u r => r, by rw [eK]; exact T.iv i hi, true, rfl, ?_⟩
  simp only [↓reduceIte]
  refine ⟨.ref b1, rfl, .ref b2, rfl, .inl ⟨rfl, _, SqL.of hd2⟩, b2, _, .bl true, i, z, rfl, rfl, SqL.of hd2, rfl, rfl, i1, i2, i3, ?_⟩
  refine ⟨b1, _, (i : Int), .str h, rfl, rfl, SqL.of (k2 _ _ hd1), ?_, ?_⟩
  · have : i = 0 ∨ i = 1 ∨ i = 2 ∨ i = 3 := by omega
    rcases this with rfl | rfl | rfl | rfl <;> (cases hh; rfl)
  refine ⟨.ref a, rfl, C i, dd, _, .str x, rfl, rfl, rfl, by rw [eK]; exact T.xf i hi, by rw [eK]; exact T.no i hi, k3 _ _ hd, ?_, h, x, rfl, rfl, by rw [sizeLine_eq]; omega, q _ k3⟩
  simp [List.lookup]
end
end Dn

/-! Dn22 -/
set_option Elab.async false
set_option linter.all false
set_option maxRecDepth 100000
set_option maxHeartbeats 1000000
/-! Dn22: calls of def values; try. -/
namespace Dn
open PySem PySem.Spec L2
open PyProof.Rows hiding St

section
variable {X : Cx} {P : Program} {w : World} {K : PySem.W.Frag} {mg : Str → Option Value} {base : Heap} {N : List Str} {sc : Scope} {k : Nat} {bk nn : Bool} {g : Ce} {W : WX}
variable {pu sh : Bool} {e : Expr} {es : List Expr} {pos p : Pos} {m : Ev} {ma : Av} {shs : List Bool} {x y : Str} {sts : List Stmt} {ms : Sv}

/-! ### calls of defs that are values -/
abbrev Tbl := Nat → Option (Nat × (List D → M D))
def TblOk (nn : Bool) (P : Program) (w : World) (K : PySem.W.Frag) (mg : Str → Option Value) (base : Heap) (k : Nat) (g : Ce) (tbl : Tbl) : Prop :=
  ∀ i n mf, tbl i = some (n, mf) → ∃ (f : Addr) (fd : FuncData) (ps : List Str), g.fa i = some f ∧ FnOk P w K mg base (CXn nn P w) k f fd ps (spP (ck K g) n mf) ∧ PySem.W.keepIn K (.ref f) = true ∧ Binds K fd ps []
def dCallV (tbl : Tbl) (i : Nat) (ms : Av) : Ev := fun env => match env[i]? with
  | some (.va (.fn j)) => match tbl j with
    | some (n, mf) => bnd (ms env) fun p => if p.1.length = n then bnd (mf p.1) fun d => .ok (d, p.2) else stuck
    | none => stuck
  | _ => stuck
theorem e_callV (C : Cok nn X W P w K mg base N sc k bk) {tbl : Tbl} {j i : Nat} (T : TblOk nn P w K mg base j g tbl) (hj : j ≤ k) (hi : N[i]? = some x) (hv : visB sc x = true) (hs : shs.all (!·) = true) (ha : DA X g pu shs (e :: es) ma W)
    (hdb : (x == ("__debug__" : Str)) = false := by rfl) (hcd : (x == ("__classdict__" : Str)) = false := by rfl) (he : starEach (e :: es) X.env = (false, eval e X.env) :: starEach es X.env := by rfl) (hpl : (backTo pos (starEach es X.env)).any (·.1) = false := by rfl) :
    DE X g pu false (.Call (.Name x p) (e :: es) [] pos) (dCallV tbl i ma) W := by
  have hN : X.N[i]? = some x := by rw [C.eN]; exact hi
  have hvis : Vis X.env.scope x := by rw [C.es]; exact visB_of hv
  have tk := C.tk
  have hr := C.room.mono hj
  obtain ⟨rfl, rfl, rfl, rfl, rfl⟩ := And.intro C.eP (And.intro C.ew (And.intro C.eK (And.intro C.em C.eb)))
  refine ⟨fun pins s σ H Q I h => ?_⟩
  obtain ⟨xs, env, S, wn⟩ := h
  unfold dCallV at wn
  split at wn
  case h_2 => exact wn.elim
  rename_i jf hjf
  obtain ⟨v, hv1, hv2⟩ := S.va i _ hjf
  unfold IsD at hv2
  obtain ⟨f, hf, rfl⟩ := hv2
  refine wpAny_Call_Name_kw (thn ((pe_var (pos := p) hN hvis hdb hcd).run pins s σ H (fun v H1 => v = .ref f ∧ H1 = H) I ⟨.ref f, hv1, rfl, rfl⟩) fun u s1 ⟨v, H1, I1, r1, q1⟩ => ?_)
  obtain ⟨rfl, rfl⟩ := q1
  cases r1
  cases ht : tbl jf with
  | none => rw [ht] at wn; exact wn.elim
  | some t =>
  obtain ⟨n0, mf0⟩ := t
  rw [ht] at wn
  obtain ⟨f', fd, ps, h1, G, hk, hb⟩ := T jf n0 mf0 ht
  rw [show g.fa jf = some f from hf] at h1
  cases h1
  refine PySem.W.callWith_K (h₀ := X.base) I.ok.mod.kin hk (thn (ha.run pos pins s1 σ _ (fun vs H2 => spP (ck X.K g) n0 mf0 vs H2 Q (WE W σ)) I1 ⟨xs, env, S, Want.bind wn fun ds env' vs H' e s r w' => ?_⟩) fun us s2 ⟨vs, H2, I2, r, q⟩ => ⟨I2.kIn, ?_⟩) he hpl
  · dsimp only at w'
    split at w'
    case isFalse => exact w'.elim
    rename_i hl
    have hP : ∀ a, Hid xs env σ a → H' a ≠ none := fun a ha => s.st.hid (by rw [s.hid]; exact ha)
    refine ⟨Hid xs env σ, ds, hl, hP, r.clean hs, ?_⟩
    cases q : mf0 ds with
    | error x =>
      rw [q] at w'
      cases x with
      | raise kk pp => exact fun cls dd H2 k2 hx => w' cls dd H2 (s.sm.trans (Same.trans hide_full k2)) hx
      | stuck => exact w'.elim
    | ok d =>
      rw [q] at w'
      intro v H2 k2 hd
      exact w' v H2 (s.grow k2) hd
  · exact run_fnS G hr hb (passAtN tk σ) I2 r q

/-! ### try: .. except C as n: return word(n) -/
def noOwE (env : En) : Bool := env.all fun s => match s with
  | .ow _ => false
  | _ => true
theorem noOwE_of {env : En} (h : noOwE env = true) {σ : St} {a : Addr} : ¬ Owns env σ a := fun ⟨i, d, h1, _⟩ => by
  unfold noOwE at h
  rw [List.all_eq_true] at h
  have := h _ (List.mem_of_getElem? h1)
  cases this
def sHeard (ms : Sv) (i : Nat) : Sv := fun env => if (noOwE env && decide (i < env.length)) = true then (match ms env with
  | .error (.raise k p) => bnd (wordOf k p) fun d => .ok (.rt d, env)
  | .error .stuck => stuck
  | .ok p => .ok p) else stuck
theorem Cok.tr (C : Cok false X W P w K mg base N sc k false) {W' : WX} {pn : List (Addr × Obj)} {xe : Value → Shared → Prop} (tk : L2.Takes (X.tr pn xe) W') (ow : PassesOwn (model X.prog X.w) X.A X.env xe) : Cok false (X.tr pn xe) W' P w K mg base N sc k false :=
  ⟨C.eP, C.ew, C.eK, C.em, C.eb, C.eN, C.es, C.calm, C.room, C.nd, C.fn, tk, fun _ => ow, C.sf⟩
theorem Cok.trN (C : Cok false X W P w K mg base N sc k false) {W' : WX} {pn : List (Addr × Obj)} {xe : Value → Shared → Prop} (tk : L2N.Takes (X.tr pn xe) W') (ow : PassesOwn (model X.prog X.w) X.A X.env xe) : Cok true (X.tr pn xe) W' P w K mg base N sc k false :=
  ⟨C.eP, C.ew, C.eK, C.em, C.eb, C.eN, C.es, C.calm, C.room, C.nd, C.fn, tk, fun _ => ow, C.sf⟩
theorem wordOf_ok {i : Nat} {p d : D} (h : wordOf i p = .ok d) : ∃ x hd, p = .str x ∧ i < 4 ∧ wHeads[i]? = some hd ∧ x.length ≤ 1000 ∧ d = .str (hd ++ x) := by
  unfold wordOf at h
  split at h
  · split at h
    · rename_i hd hh
      split at h
      · rename_i hx
        cases h
        exact ⟨_, hd, rfl, (List.getElem?_eq_some_iff.mp hh).1, hh, hx, rfl⟩
      · cases h
    · cases h
  · cases h
/-- a word function: on the error that a suite holds -/
structure WordOk (P : Program) (w : World) (K : PySem.W.Frag) (mg : Str → Option Value) (base : Heap) (k : Nat) (C : Nat → Addr) (x : Str) : Prop where
  ex : ∃ (f : Addr) (fd : FuncData), mg x = some (.ref f) ∧ FnW P w K mg base k f fd ["error"] (spWord C) ∧ PySem.W.keepIn K (.ref f) = true ∧ Binds K fd ["error"] []
theorem s_heard {xw n xc : Str} {i j : Nat} {AW : Addr} {np p1 p2 p3 pos' : Pos} {Ca : Nat → Addr} (C : Cok false X W P w K mg base N sc k false) (T : WCls K mg g Ca) (hen : ∀ i, i < 4 → g.en i = "reason") (FW : WordOk P w K mg base j Ca xw) (hj : j ≤ k) (hi : N[i]? = some n) (hln : locL sc n = true) (hc : gloB sc xc = true) (hmc : mg xc = some (.ref AW)) (hxm : ∀ i, i < 4 → PySem.W.exmOne K (.ref (Ca i)) (.ref AW) = some true)
    (hgw : gloB sc xw = true) (hb : ∀ (X' : Cx) (W' : WX), Cok false X' W' P w K mg base N sc k false → DSs X' g sts ms W') (hd1 : (xc == ("__debug__" : Str)) = false := by rfl) (hd2 : (xw == ("__debug__" : Str)) = false := by rfl) (hd3 : (n == ("__debug__" : Str)) = false := by rfl) (hd4 : (n == ("__classdict__" : Str)) = false := by rfl)
    (he : ∀ Y : Cx, starEach [.Name n p2] Y.env = (false, eval (.Name n p2) Y.env) :: starEach [] Y.env := by intro _; rfl) (hpl : ∀ Y : Cx, (backTo p3 (starEach [] Y.env)).any (·.1) = false := by intro _; rfl) :
    DS X g (.Try sts [.ExceptHandler (some (.Name xc np)) (some n) [.Return (some (.Call (.Name xw p1) [.Name n p2] [] p3)) pos'] p] [] [] pos) (sHeard ms i) W := by
  obtain ⟨f, fd, hmw, G, hk, hbd⟩ := FW.ex
  have hgl := gloB_of C hgw
  have hgc := gloB_of C hc
  have hl : X.env.scope.names.lookup n = some .local := by rw [C.es]; exact eq_of_beq hln
  have hN : X.N[i]? = some n := by rw [C.eN]; exact hi
  have hNd : X.N.Nodup := by rw [C.eN]; exact C.nd
  have hr : L2H.RoomH j X.A := L2H.roomH_of (C.room.mono hj)
  obtain ⟨sf1, sf2⟩ := C.sf rfl
  have tkW : L2.Takes X W := C.tk
  have hbt := fun (W' : WX) (pn : List (Addr × Obj)) (xe : Value → Shared → Prop) (tk : L2.Takes (X.tr pn xe) W') (ow : PassesOwn (model X.prog X.w) X.A X.env xe) => hb (X.tr pn xe) W' (C.tr tk ow)
  obtain ⟨rfl, rfl, rfl, rfl, rfl⟩ := And.intro C.eP (And.intro C.ew (And.intro C.eK (And.intro C.em C.eb)))
  refine PS.imp (ps_try_as (c := .ref AW) (tb := fun W' => tS (cc X g) ms W') (ts := fun a cls d => tRet (tCallW a cls d (spWord Ca) (tCons (tVar i) tNil))) sf1 sf2 hNd hN hl ⟨hgc, hd1, .inl hmc⟩ tkW hbt fun a oe cls d pn hz hf => ?_) fun E σ H ⟨xs, env, S, w⟩ => ?_
  · exact pss_one (ps_ret (pe_callW (X := X.suite a ((a, oe) :: pn)) G ⟨hr.dp, hr.un⟩ List.mem_cons_self hz hf hgl hmw hk hbd (pa_cons (pe_var hN (.inl hl) hd3 hd4) pa_nil (he _)) hd2 (he _) (hpl _)))
  · unfold sHeard at w
    split at w
    case isFalse => exact w.elim
    rename_i hno
    rw [Bool.and_eq_true, decide_eq_true_eq] at hno
    refine ⟨xs, env, S, ?_⟩
    generalize hr0 : ms env = r at w ⊢
    cases r with
    | ok p =>
      obtain ⟨fl, env'⟩ := p
      cases fl <;> exact w
    | error x =>
      cases x with
      | stuck => exact w.elim
      | raise kk pp =>
        intro cls dd σ' H' hlen q hx
        dsimp only at w
        cases hw : wordOf kk pp with
        | error z =>
          exfalso
          rw [hw] at w
          cases z with
          | raise k1 p1 =>
            unfold wordOf at hw
            split at hw
            · split at hw
              · split at hw <;> cases hw
              · cases hw
            · cases hw
          | stuck => exact w
        | ok d =>
          rw [hw] at w
          obtain ⟨x, hd, rfl, hk4, hh, hxl, rfl⟩ := wordOf_ok hw
          obtain ⟨C0, d0, v, e1, e2, e3, e4, e5⟩ := hx
          have e1' := e1.symm.trans (T.ec kk hk4)
          cases e1'
          unfold IsD at e5
          subst e2 e3 e5
          have own : ∀ a, ¬ Owns env σ a := fun a => noOwE_of hno.1
          have k0 : Same H H' := fun b o hb => q b o (by rw [hide_of (own b)]; exact hb)
          refine ⟨true, hxm kk hk4, fun _ a ha => ?_, fun z => nomatch z⟩
          have hset : (σ'.set i (some (V.ref a)))[i]? = some (some (V.ref a)) := by
            rw [List.getElem?_set, if_pos rfl, if_pos (by rw [hlen, ← S.len]; exact hno.2)]
          refine ⟨.ref a, hset, rfl, kk, hd, x, d0, hk4, hh, hxl, rfl, rfl, ?_, fun H2 k2 => ?_⟩
          · rw [← hen kk hk4]; exact e4
          · have kk2 := k0.trans k2
            exact w σ _ H2 (S.same kk2) ⟨hide_same kk2, Same.th kk2, fun h => ⟨h, rfl⟩, rfl⟩ isStr

/-! ### try: .. except C: raise C'(text) from None -/
def sReraise (ms : Sv) (f : Nat → Bool) (k' : Nat) (txt : Str) : Sv := fun env => match ms env with
  | .error (.raise k p) => if k < 4 then (if f k = true then .error (.raise k' (.str txt)) else .error (.raise k p)) else stuck
  | .error .stuck => stuck
  | .ok p => .ok p
theorem s_reraise {xc xr txt : Str} {i' j jj : Nat} {AC AR fR : Addr} {f : Nat → Bool} {np p1 p2 p3 pos' cp : Pos} {Ca : Nat → Addr} (C : Cok false X W P w K mg base N sc k false) (pa : PaOk X) (T : WCls K mg g Ca) (TR : Sup.Txt P K mg AR fR) (hc : gloB sc xc = true) (hmc : mg xc = some (.ref AC)) (hxm : ∀ i, i < 4 → PySem.W.exmOne K (.ref (Ca i)) (.ref AC) = some (f i))
    (hgr : gloB sc xr = true) (hmr : mg xr = some (.ref AR)) (her : g.ec i' = some AR) (hen : g.en i' = "reason") (hb : ∀ (X' : Cx) (W' : WX), Cok true X' W' P w K mg base N sc k false → DSs X' g sts ms W') (hd1 : (xc == ("__debug__" : Str)) = false := by rfl) (hd2 : (xr == ("__debug__" : Str)) = false := by rfl)
    (he : ∀ Y : Cx, starEach [.Constant (.str txt) jj p2] Y.env = (false, eval (.Constant (.str txt) jj p2) Y.env) :: starEach [] Y.env := by intro _; rfl) (hpl : ∀ Y : Cx, (backTo p3 (starEach [] Y.env)).any (·.1) = false := by intro _; rfl) :
    DS X g (.Try sts [.ExceptHandler (some (.Name xc np)) none [.Raise (some (.Call (.Name xr p1) [.Constant (.str txt) jj p2] [] p3)) (some (.Constant .none j cp)) pos'] p] [] [] pos) (sReraise ms f i' txt) W := by
  have hgl := gloB_of C hgr
  have hgc := gloB_of C hc
  have hdp : X.A.depth + 1 < recursionLimit := by have := C.room.dp; omega
  obtain ⟨sf1, sf2⟩ := C.sf rfl
  have tkW : L2.Takes X W := C.tk
  have hbt := fun (W' : WX) (pn : List (Addr × Obj)) (xe : Value → Shared → Prop) (tk : L2N.Takes (X.tr pn xe) W') (_ : L2.Takes (X.tr pn xe) (L2H.wPass X.K (.ref AC) W)) (ow : PassesOwn (model X.prog X.w) X.A X.env xe) => hb (X.tr pn xe) W' (C.trN tk ow)
  obtain ⟨rfl, rfl, rfl, rfl, rfl⟩ := And.intro C.eP (And.intro C.ew (And.intro C.eK (And.intro C.em C.eb)))
  refine PS.imp (L2H.ps_try_onlyX (c := .ref AC) (Wout := W) (tb := fun W' => tS (cc X g) ms W') (ts := fun a cls d => fun _ σ H => tMkS AR (tCons (tC (.str txt)) tNil) σ H fun cls d H' => W cls d σ H') sf1 sf2 ⟨hgc, hd1, .inl hmc⟩ pa tkW hbt fun a oe cls d pn hz hf tk2 hot => ?_) fun E σ H ⟨xs, env, S, w⟩ => ?_
  · exact pss_one (L2H.ps_raiseHN hot tk2 (pmk5_sup (X := L2H.suiteX X a ((a, oe) :: pn)) TR hdp hgl hmr pe_str hd2 (he _) (hpl _)))
  · unfold sReraise at w
    refine ⟨xs, env, S, ?_⟩
    generalize hr0 : ms env = r at w ⊢
    cases r with
    | ok p =>
      obtain ⟨fl, env'⟩ := p
      cases fl <;> exact w
    | error x =>
      cases x with
      | stuck => exact w.elim
      | raise kk pp =>
        intro cls dd σ' H' hlen q hx
        dsimp only at w
        split at w
        case isFalse => exact w.elim
        rename_i hk4
        have hx' := hx
        obtain ⟨C0, d0, v, e1, e2, e3, e4, e5⟩ := hx'
        have e1' := e1.symm.trans (T.ec kk hk4)
        cases e1'
        subst e2 e3
        refine ⟨f kk, hxm kk hk4, fun hf a ha => ⟨.str txt, rfl, fun d' hd' => ?_⟩, fun hf => ?_⟩
        · rw [if_pos hf] at w
          refine w _ _ σ' _ hlen (q.trans (same_new hd')) ⟨AR, d', .str txt, her, rfl, rfl, ?_, isStr⟩
          show upd H' d' _ d' = some (.xd [(g.en i', V.str txt)])
          rw [hen]; exact upd_same
        · rw [hf, if_neg Bool.false_ne_true] at w
          exact w _ _ σ' H' hlen q hx
end
end Dn

/-! Dn23 -/
set_option Elab.async false
set_option linter.all false
set_option maxRecDepth 100000
set_option maxHeartbeats 1000000
/-! Dn23: short rules for the printer. -/
namespace Dn
open PySem PySem.Spec L2
open PyProof.Rows hiding St

/-! ### code that is never come to -/
def sNever : Sv := fun _ => stuck
def eNever : Ev := fun _ => stuck
section
variable {X : Cx} {P : Program} {w : World} {K : PySem.W.Frag} {mg : Str → Option Value} {base : Heap} {N : List Str} {sc : Scope} {k : Nat} {bk nn : Bool} {g : Ce} {W : WX}
variable {pu pu1 pu2 sh sh1 sh2 : Bool} {e a b : Expr} {es : List Expr} {pos p : Pos} {m m1 m2 : Ev} {ma : Av} {shs : List Bool} {x y : Str} {st : Stmt} {sts : List Stmt} {ms : Sv}
theorem s_never : DS X g st sNever W := ⟨fun _ _ _ _ _ _ ⟨_, _, _, w⟩ => w.elim⟩
theorem ss_never : DSs X g sts sNever W := ⟨fun _ _ _ _ _ _ ⟨_, _, _, w⟩ => w.elim⟩
theorem e_never : DE X g pu sh e eNever W := ⟨fun _ _ _ _ _ _ ⟨_, _, _, w⟩ => w.elim⟩

/-! ### unary minus -/
def dNeg (m : Ev) : Ev := fun env => bnd (m env) fun p => match p.1 with
  | .int i => .ok (.int (-i), p.2)
  | _ => stuck
theorem e_neg (h : DE X g pu sh a m W) : DE X g pu false (.UnaryOp .USub a pos) (dNeg m) W := PE.imp (pe_un un_neg h) fun σ H Q ⟨xs, env, S, w⟩ => ⟨xs, env, S, Want.bind w fun d env' v H' e s r w' => by
  have r' := Rep.shell r
  dsimp only at w'
  split at w'
  · exact ⟨_, r'.int, w' _ H' s (Rep.of isInt)⟩
  · exact w'.elim⟩

/-! ### operators -/
theorem un_room (C : Cok nn X W P w K mg base N sc k bk) : X.A.units + 65 < cLine := by have := C.room.un; omega
theorem un_roomE (C : Cok nn X W P w K mg base N sc k bk) : X.A.units + 64 < cLine := by have := C.room.un; omega
theorem eAdd (hc : sh1 = false ∨ pu2 = true) (ha : DE X g pu1 sh1 a m1 W) (hb : DE X g pu2 sh2 b m2 W) : DE X g (pu1 && pu2) false (.BinOp a .Add b pos) (dBin dAdd m1 m2) W := e_bin op_addD vb_add dAdd_nr hc ha hb
theorem eSub (hc : sh1 = false ∨ pu2 = true) (ha : DE X g pu1 sh1 a m1 W) (hb : DE X g pu2 sh2 b m2 W) : DE X g (pu1 && pu2) false (.BinOp a .Sub b pos) (dBin dSub m1 m2) W := e_bin op_sub vb_sub dIntOp_nr hc ha hb
theorem eMul (hc : sh1 = false ∨ pu2 = true) (ha : DE X g pu1 sh1 a m1 W) (hb : DE X g pu2 sh2 b m2 W) : DE X g (pu1 && pu2) false (.BinOp a .Mult b pos) (dBin dMul m1 m2) W := e_bin op_mulD vb_mul dMul_nr hc ha hb
theorem eFdiv (hc : sh1 = false ∨ pu2 = true) (ha : DE X g pu1 sh1 a m1 W) (hb : DE X g pu2 sh2 b m2 W) : DE X g (pu1 && pu2) false (.BinOp a .FloorDiv b pos) (dBin dFdiv m1 m2) W := e_bin op_fdivW vb_fdiv dIntOp_nr hc ha hb
theorem eMod (hc : sh1 = false ∨ pu2 = true) (ha : DE X g pu1 sh1 a m1 W) (hb : DE X g pu2 sh2 b m2 W) : DE X g (pu1 && pu2) false (.BinOp a .Mod b pos) (dBin dMod m1 m2) W := e_bin op_mod vb_mod dIntOp_nr hc ha hb
theorem ePow (hc : sh1 = false ∨ pu2 = true) (ha : DE X g pu1 sh1 a m1 W) (hb : DE X g pu2 sh2 b m2 W) : DE X g (pu1 && pu2) false (.BinOp a .Pow b pos) (dBin dPow m1 m2) W := e_bin op_pow vb_pow dIntOp_nr hc ha hb
theorem eIx (hc : sh1 = false ∨ pu2 = true) (ha : DE X g pu1 sh1 a m1 W) (hb : DE X g pu2 sh2 b m2 W) (hs : PlainIx b := by intro _ _; rfl) : DE X g (pu1 && pu2) false (.Subscript a b pos) (dBin dIx m1 m2) W := e_ix ix_seq vb_ix dIx_nr hc ha hb hs
theorem eEq (C : Cok nn X W P w K mg base N sc k bk) (hc : sh1 = false ∨ pu2 = true) (ha : DE X g pu1 sh1 a m1 W) (hb : DE X g pu2 sh2 b m2 W) (hm : behindInMarks .Eq b = false := by rfl) : DE X g (pu1 && pu2) false (.Compare a [.Eq] [b] pos) (dBin dEq m1 m2) W := e_cmp (op_eqD (un_roomE C)) vb_eq dEq_nr hc hm ha hb
theorem eNe (C : Cok nn X W P w K mg base N sc k bk) (hc : sh1 = false ∨ pu2 = true) (ha : DE X g pu1 sh1 a m1 W) (hb : DE X g pu2 sh2 b m2 W) (hm : behindInMarks .NotEq b = false := by rfl) : DE X g (pu1 && pu2) false (.Compare a [.NotEq] [b] pos) (dBin dNe m1 m2) W := e_cmp (op_neD (un_roomE C)) vb_ne dNe_nr hc hm ha hb
theorem eLt (hc : sh1 = false ∨ pu2 = true) (ha : DE X g pu1 sh1 a m1 W) (hb : DE X g pu2 sh2 b m2 W) (hm : behindInMarks .Lt b = false := by rfl) : DE X g (pu1 && pu2) false (.Compare a [.Lt] [b] pos) (dBin dLt m1 m2) W := e_cmp op_ltD vb_cmpI dCmpI_nr hc hm ha hb
theorem eLe (hc : sh1 = false ∨ pu2 = true) (ha : DE X g pu1 sh1 a m1 W) (hb : DE X g pu2 sh2 b m2 W) (hm : behindInMarks .LtE b = false := by rfl) : DE X g (pu1 && pu2) false (.Compare a [.LtE] [b] pos) (dBin dLe m1 m2) W := e_cmp op_leD vb_cmpI dCmpI_nr hc hm ha hb
theorem eGt (hc : sh1 = false ∨ pu2 = true) (ha : DE X g pu1 sh1 a m1 W) (hb : DE X g pu2 sh2 b m2 W) (hm : behindInMarks .Gt b = false := by rfl) : DE X g (pu1 && pu2) false (.Compare a [.Gt] [b] pos) (dBin dGt m1 m2) W := e_cmp op_gtD vb_cmpI dCmpI_nr hc hm ha hb
theorem eGe (hc : sh1 = false ∨ pu2 = true) (ha : DE X g pu1 sh1 a m1 W) (hb : DE X g pu2 sh2 b m2 W) (hm : behindInMarks .GtE b = false := by rfl) : DE X g (pu1 && pu2) false (.Compare a [.GtE] [b] pos) (dBin dGe m1 m2) W := e_cmp op_geD vb_cmpI dCmpI_nr hc hm ha hb
theorem eIn (C : Cok nn X W P w K mg base N sc k bk) (hc : sh1 = false ∨ pu2 = true) (ha : DE X g pu1 sh1 a m1 W) (hb : DE X g pu2 sh2 b m2 W) (hm : behindInMarks .In b = false := by rfl) : DE X g (pu1 && pu2) false (.Compare a [.In] [b] pos) (dBin dIn m1 m2) W := e_cmp (op_inS (un_room C)) vb_in dIn_nr hc hm ha hb
theorem eNotIn (C : Cok nn X W P w K mg base N sc k bk) (hc : sh1 = false ∨ pu2 = true) (ha : DE X g pu1 sh1 a m1 W) (hb : DE X g pu2 sh2 b m2 W) (hm : behindInMarks .NotIn b = false := by rfl) : DE X g (pu1 && pu2) false (.Compare a [.NotIn] [b] pos) (dBin dNotIn m1 m2) W := e_cmp (op_notInS (un_room C)) vb_notIn dNotIn_nr hc hm ha hb
theorem tEq (C : Cok nn X W P w K mg base N sc k bk) (hc : sh1 = false ∨ pu2 = true) (ha : DE X g pu1 sh1 a m1 W) (hb : DE X g pu2 sh2 b m2 W) (hm : behindInMarks .Eq b = false := by rfl) : DT X g (pu1 && pu2) (.Compare a [.Eq] [b] pos) (dTb (dBin dEq m1 m2)) W := t_cmp (op_eqD (un_roomE C)) vb_eq dEq_nr hc hm ha hb
theorem tNe (C : Cok nn X W P w K mg base N sc k bk) (hc : sh1 = false ∨ pu2 = true) (ha : DE X g pu1 sh1 a m1 W) (hb : DE X g pu2 sh2 b m2 W) (hm : behindInMarks .NotEq b = false := by rfl) : DT X g (pu1 && pu2) (.Compare a [.NotEq] [b] pos) (dTb (dBin dNe m1 m2)) W := t_cmp (op_neD (un_roomE C)) vb_ne dNe_nr hc hm ha hb
theorem tLt (hc : sh1 = false ∨ pu2 = true) (ha : DE X g pu1 sh1 a m1 W) (hb : DE X g pu2 sh2 b m2 W) (hm : behindInMarks .Lt b = false := by rfl) : DT X g (pu1 && pu2) (.Compare a [.Lt] [b] pos) (dTb (dBin dLt m1 m2)) W := t_cmp op_ltD vb_cmpI dCmpI_nr hc hm ha hb
theorem tLe (hc : sh1 = false ∨ pu2 = true) (ha : DE X g pu1 sh1 a m1 W) (hb : DE X g pu2 sh2 b m2 W) (hm : behindInMarks .LtE b = false := by rfl) : DT X g (pu1 && pu2) (.Compare a [.LtE] [b] pos) (dTb (dBin dLe m1 m2)) W := t_cmp op_leD vb_cmpI dCmpI_nr hc hm ha hb
theorem tGt (hc : sh1 = false ∨ pu2 = true) (ha : DE X g pu1 sh1 a m1 W) (hb : DE X g pu2 sh2 b m2 W) (hm : behindInMarks .Gt b = false := by rfl) : DT X g (pu1 && pu2) (.Compare a [.Gt] [b] pos) (dTb (dBin dGt m1 m2)) W := t_cmp op_gtD vb_cmpI dCmpI_nr hc hm ha hb
theorem tGe (hc : sh1 = false ∨ pu2 = true) (ha : DE X g pu1 sh1 a m1 W) (hb : DE X g pu2 sh2 b m2 W) (hm : behindInMarks .GtE b = false := by rfl) : DT X g (pu1 && pu2) (.Compare a [.GtE] [b] pos) (dTb (dBin dGe m1 m2)) W := t_cmp op_geD vb_cmpI dCmpI_nr hc hm ha hb
theorem tIn (C : Cok nn X W P w K mg base N sc k bk) (hc : sh1 = false ∨ pu2 = true) (ha : DE X g pu1 sh1 a m1 W) (hb : DE X g pu2 sh2 b m2 W) (hm : behindInMarks .In b = false := by rfl) : DT X g (pu1 && pu2) (.Compare a [.In] [b] pos) (dTb (dBin dIn m1 m2)) W := t_cmp (op_inS (un_room C)) vb_in dIn_nr hc hm ha hb
theorem tNotIn (C : Cok nn X W P w K mg base N sc k bk) (hc : sh1 = false ∨ pu2 = true) (ha : DE X g pu1 sh1 a m1 W) (hb : DE X g pu2 sh2 b m2 W) (hm : behindInMarks .NotIn b = false := by rfl) : DT X g (pu1 && pu2) (.Compare a [.NotIn] [b] pos) (dTb (dBin dNotIn m1 m2)) W := t_cmp (op_notInS (un_room C)) vb_notIn dNotIn_nr hc hm ha hb
theorem tTruth (ha : DE X g pu sh a m W) (he : ∀ whole, isTrue a X.env whole = (do let v ← whole; standAt a.pos; holding [v] (truthy v)) := by intro _; rfl) : DT X g pu a (dTr m) W := t_truth he ha

/-! ### zip -/
def zipD (xs ys : List D) : List D := List.zipWith (fun x y => D.tup [x, y]) xs ys
theorem zipD_get : ∀ {xs ys : List D} {i : Nat} {d : D}, (zipD xs ys)[i]? = some d → ∃ x y, xs[i]? = some x ∧ ys[i]? = some y ∧ d = .tup [x, y]
  | [], ys, i, d, h => by simp [zipD] at h
  | x :: xs, [], i, d, h => by simp [zipD] at h
  | x :: xs, y :: ys, 0, d, h => by simp [zipD] at h; exact ⟨x, y, rfl, rfl, h.symm⟩
  | x :: xs, y :: ys, i + 1, d, h => by
    have h' : (zipD xs ys)[i]? = some d := by simpa [zipD] using h
    obtain ⟨x', y', h1, h2, h3⟩ := zipD_get h'
    exact ⟨x', y', by simpa using h1, by simpa using h2, h3⟩
theorem zipD_len (xs ys : List D) : (zipD xs ys).length = min xs.length ys.length := by unfold zipD; exact List.length_zipWith
theorem walk_zipT {K : PySem.W.Frag} {a b : Addr} {xs ys : List V} {n : Nat} (hn : n = min xs.length ys.length) : Walk (RZ.ItzT K a b) n (fun H => SqT K H a xs ∧ SqT K H b ys) (YPair (fun i => xs[i]?) (fun i => ys[i]?)) := by
  subst hn
  refine ⟨fun i _ hi q => ?_, fun _ q => ⟨xs, ys, q.1, q.2, by omega⟩, fun i H v H' _ q y => ?_⟩
  · have h1 : i < xs.length := by omega
    have h2 : i < ys.length := by omega
    exact ⟨xs, ys, xs[i], ys[i], q.1, q.2, by simp [h1], by simp [h2]⟩
  · obtain ⟨T, x, z, h1, h2, h3, h4, h5⟩ := y
    exact ⟨T, x, z, h1, h2, h3, h4 xs q.1, h5 ys q.2⟩
theorem itok_zipT {c : Cc} {G0 : Hp} {a b : Addr} {ds es : List D} {vs ws : List V} (h : SqT c.K G0 a vs) (h' : SqT c.K G0 b ws) (r : IsDs c G0 ds vs) (r' : IsDs c G0 es ws) : ItOk c G0 (RZ.ItzT c.K a b) (zipD ds es) := by
  refine ⟨fun H => SqT c.K H a vs ∧ SqT c.K H b ws, _, walk_zipT (by rw [zipD_len, r.len, r'.len]), fun H z => ⟨SqT.same z h, SqT.same z h'⟩, fun i x H H' d e z y => ?_⟩
  obtain ⟨T, u, v, rfl, hT, rfl, h1, h2⟩ := y
  obtain ⟨d1, d2, e1, e2, rfl⟩ := zipD_get e
  refine ⟨same_new hT, fun Z k hZ => ?_⟩
  obtain ⟨v1, h3, h4⟩ := r.getD e1
  obtain ⟨v2, h5, h6⟩ := r'.getD e2
  rw [show vs[i]? = some u from h1] at h3; cases h3
  rw [show ws[i]? = some v from h2] at h5; cases h5
  exact isNewT hT hZ (IsDs.cons (h4.same k) (IsDs.cons (h6.same k) IsDs.nil))
theorem itok_zipL {c : Cc} {G0 : Hp} {a b : Addr} {ds es : List D} {vs ws : List V} (h : SqL c.K G0 a vs) (h' : SqL c.K G0 b ws) (r : IsDs c G0 ds vs) (r' : IsDs c G0 es ws) : ItOk c G0 (Itz c.K a b) (zipD ds es) := by
  refine ⟨fun H => SqL c.K H a vs ∧ SqL c.K H b ws, _, walk_zip (by rw [zipD_len, r.len, r'.len]), fun H z => ⟨z.seq h, z.seq h'⟩, fun i x H H' d e z y => ?_⟩
  obtain ⟨T, u, v, rfl, hT, rfl, h1, h2⟩ := y
  obtain ⟨d1, d2, e1, e2, rfl⟩ := zipD_get e
  refine ⟨same_new hT, fun Z k hZ => ?_⟩
  obtain ⟨v1, h3, h4⟩ := r.getD e1
  obtain ⟨v2, h5, h6⟩ := r'.getD e2
  rw [show vs[i]? = some u from h1] at h3; cases h3
  rw [show ws[i]? = some v from h2] at h5; cases h5
  exact isNewT hT hZ (IsDs.cons (h4.same k) (IsDs.cons (h6.same k) IsDs.nil))
def dZip (ms : Av) : Iv := fun env => bnd (ms env) fun p => match p.1 with
  | [.lst xs, .lst ys] => .ok (zipD xs ys, p.2)
  | [.tup xs, .tup ys] => .ok (zipD xs ys, p.2)
  | _ => stuck
theorem i_zip {elts : List Expr} {kk : Nat} {tpos : Pos} (hg : Gl X "zip") (hm : X.mg "zip" = none) (h : DA X g pu [false, false] [a, b] ma W) (hs : starEach [a, b] X.env = (false, eval a X.env) :: starEach [b] X.env := by rfl) (hpl : (backTo pos (starEach [b] X.env)).any (·.1) = false := by rfl) : DI X g (.Tuple elts kk tpos) pu (.Call (.Name "zip" p) [a, b] [] pos) (dZip ma) W :=
  PI.imp (RZ.pi_zipA hg hm h hs hpl) fun σ H Q ⟨xs, env, S, w⟩ => ⟨xs, env, S, Want.bind w fun ds env' vs H' e s r w' => by
    have rc := r.clean rfl
    dsimp only at w'
    split at w'
    · obtain ⟨v1, v2, rfl, h1, h2⟩ := rc.two
      unfold IsD at h1 h2
      obtain ⟨a1, vs1, rfl, q1, r1⟩ := h1
      obtain ⟨a2, vs2, rfl, q2, r2⟩ := h2
      have z1 : SqL X.K (hide H' (Hid xs env σ)) a1 vs1 := SqL.of q1
      have z2 : SqL X.K (hide H' (Hid xs env σ)) a2 vs2 := SqL.of q2
      exact ⟨a1, a2, vs1, vs2, rfl, .inl ⟨SqL.hid z1, SqL.hid z2, w' _ H' s (itok_zipL z1 z2 r1 r2)⟩⟩
    · obtain ⟨v1, v2, rfl, h1, h2⟩ := rc.two
      unfold IsD at h1 h2
      obtain ⟨a1, vs1, rfl, q1, r1⟩ := h1
      obtain ⟨a2, vs2, rfl, q2, r2⟩ := h2
      exact ⟨a1, a2, vs1, vs2, rfl, .inr ⟨SqT.hid q1, SqT.hid q2, w' _ H' s (itok_zipT q1 q2 r1 r2)⟩⟩
    · exact w'.elim⟩

/-! ### defs by name -/
/-- the written part holds this def, as it stands in the text -/
def FunAt (K : PySem.W.Frag) (mg : Str → Option Value) (x : Str) (st : Stmt) (ps : List Str) : Prop := ∃ (f : Addr) (fd : FuncData), mg x = some (.ref f) ∧ Fun K x x st f fd ∧ PySem.W.keepIn K (.ref f) = true ∧ Binds K fd ps []
theorem fok_pure {N ps : List Str} {n : Nat} {mf : List D → M D} {body : Sv} (F : FunAt K mg x st ps) (S : FnScope N ps (defScope st)) (hl : ps.length = n) (hN : ps.length ≤ N.length) (hf : ∀ ds, mf ds = fin (body (enter N.length ds)))
    (hbody : ∀ (X : Cx) (W : WX), Cok nn X W P w K mg base N (defScope st) k false → PaOk X → DSs X g (defBody st) body W) : Fok nn P w K mg base (k + 1) x (spP (ck K g) n mf) := by
  obtain ⟨f, fd, h1, h2, h3, h4⟩ := F
  subst hl
  exact ⟨f, fd, ps, h1, def_pure h2 S hN hf hbody, h3, h4⟩
theorem fok_own {N ps : List Str} {n : Nat} {mf : D → List D → M (D × D)} {body : Sv} (F : FunAt K mg x st ps) (S : FnScope N ps (defScope st)) (hn : ps.length = n + 1) (hN : ps.length ≤ N.length) (hf : ∀ s ds, mf s ds = finO (body (enterO N.length s ds)))
    (hbody : ∀ (X : Cx) (W : WX), Cok nn X W P w K mg base N (defScope st) k false → PaOk X → DSs X g (defBody st) body W) : Fok nn P w K mg base (k + 1) x (spO (ck K g) n mf) := by
  obtain ⟨f, fd, h1, h2, h3, h4⟩ := F
  exact ⟨f, fd, ps, h1, def_own h2 S hn hN hf hbody, h3, h4⟩
/-- out of a body that hands back a new object -/
def finF : M (Fl × En) → M D
  | .ok (.rf d, _) => .ok d
  | .ok (.ro i, env) => match env[i]? with
    | some (.ow d) => .ok d
    | _ => stuck
  | .ok _ => stuck
  | .error e => .error e
theorem fok_fresh {N ps : List Str} {n : Nat} {mf : List D → M D} {body : Sv} (F : FunAt K mg x st ps) (S : FnScope N ps (defScope st)) (hl : ps.length = n) (hN : ps.length ≤ N.length) (hf : ∀ ds, mf ds = finF (body (enter N.length ds)))
    (hbody : ∀ (X : Cx) (W : WX), Cok nn X W P w K mg base N (defScope st) k false → PaOk X → DSs X g (defBody st) body W) : Fok nn P w K mg base (k + 1) x (spF (ck K g) n mf) := by
  obtain ⟨f, fd, h1, h2, h3, h4⟩ := F
  subst hl
  refine ⟨f, fd, ps, h1, ?_, h3, h4⟩
  refine fun_ok h2 S (fun vs H Q E ⟨xs, ds, h1, h2, h3, _⟩ => by rw [← h3.len, h1]) (fun cdv A outer s H vs Q E hr ⟨xs, ds, h1, h2, h3, h⟩ => ?_)
  refine ⟨_, hbody _ _ (ctx_def S hr) (L2H.passesAt_of rfl), xs, enter N.length ds, enter_ok (by rw [h1]; exact hN) h2 h3, ?_⟩
  rw [hf] at h
  cases hb : body (enter N.length ds) with
  | error e =>
    rw [hb] at h
    refine body_endF (fun d env z => nomatch z) (fun env z => nomatch z) ?_
    cases e <;> exact h
  | ok p =>
    obtain ⟨fl, env'⟩ := p
    rw [hb] at h
    cases fl with
    | nx => exact h.elim
    | rt d => exact h.elim
    | bk => exact h.elim
    | ct => exact h.elim
    | rf d => exact body_endF (fun d env z => nomatch z) (fun env z => nomatch z) h
    | ro i => exact body_endF (fun d env z => nomatch z) (fun env z => nomatch z) h
/-- a def as a value -/
theorem tbl_of {i n : Nat} {mf : List D → M D} {f : Addr} (F : Fok nn P w K mg base k x (spP (ck K g) n mf)) (hm : mg x = some (.ref f)) (hf : g.fa i = some f) : ∃ (f : Addr) (fd : FuncData) (ps : List Str), g.fa i = some f ∧ FnOk P w K mg base (CXn nn P w) k f fd ps (spP (ck K g) n mf) ∧ PySem.W.keepIn K (.ref f) = true ∧ Binds K fd ps [] := by
  obtain ⟨f', fd, ps, h1, h2, h3, h4⟩ := F.ex
  rw [hm] at h1
  cases h1
  exact ⟨f, fd, ps, hf, h2, h3, h4⟩
theorem Fok.mono {j k : Nat} {sp : Sp} (F : Fok nn P w K mg base j x sp) (h : j ≤ k) : Fok nn P w K mg base k x sp := by
  obtain ⟨f, fd, ps, h1, h2, h3, h4⟩ := F.ex
  exact ⟨f, fd, ps, h1, h2.mono h, h3, h4⟩
end
end Dn

/-! Dn24 -/
set_option Elab.async false
set_option linter.all false
set_option maxRecDepth 100000
set_option maxHeartbeats 1000000
/-! Dn24: plain laws: what an evaluation gives. -/
namespace Dn
open PySem
/-- it ends well, and Q holds of what it gives -/
def wm {β : Type} (r : M β) (Q : β → Prop) : Prop := match r with
  | .ok b => Q b
  | .error _ => False
@[simp] theorem wm_ok {β : Type} (b : β) (Q : β → Prop) : wm (.ok b) Q = Q b := rfl
@[simp] theorem wm_stuck {β : Type} (x : Exn) (Q : β → Prop) : wm (.error x) Q = False := rfl
theorem wm_bnd {α β : Type} (m : M α) (f : α → M β) (Q : β → Prop) : wm (bnd m f) Q = wm m (fun a => wm (f a) Q) := by
  cases m <;> rfl
theorem wm_mono {β : Type} {r : M β} {Q Q' : β → Prop} (h : wm r Q) (k : ∀ b, Q b → Q' b) : wm r Q' := by
  cases r with
  | ok b => exact k b h
  | error x => exact h
theorem wm_eq {β : Type} {r : M β} {b : β} {Q : β → Prop} (h : r = .ok b) (q : Q b) : wm r Q := by rw [h]; exact q
theorem wm_out {β : Type} {r : M β} {Q : β → Prop} (h : wm r Q) : ∃ b, r = .ok b ∧ Q b := by
  cases r with
  | ok b => exact ⟨b, rfl, h⟩
  | error x => exact h.elim
theorem wm_ite {β : Type} {c : Prop} [Decidable c] {a b : M β} {Q : β → Prop} : wm (if c then a else b) Q = if c then wm a Q else wm b Q := by split <;> rfl
/-- a for loop by an invariant -/
theorem forL_inv {mt : Gv} {mb : Sv} {Q : Fl × En → Prop} (I : Nat → En → Prop) : ∀ (ds : List D) (i : Nat) (env : En), I i env →
    (∀ (j : Nat) (d : D) (e : En), ds[j]? = some d → I (i + j) e → wm (ns (mt d e)) fun e1 => wm (mb e1) fun q => match q.1 with
      | .nx => I (i + j + 1) q.2
      | .ct => I (i + j + 1) q.2
      | .bk => Q (.nx, q.2)
      | f => Q (f, q.2)) → (∀ e, I (i + ds.length) e → Q (.nx, e)) → wm (forL mt mb ds env) Q
  | [], i, env, h, _, hd => hd env (by simpa using h)
  | d :: r, i, env, h, hs, hd => by
    unfold forL
    rw [wm_bnd]
    refine wm_mono (hs 0 d env rfl (by simpa using h)) fun e1 h1 => ?_
    rw [wm_bnd]
    refine wm_mono h1 fun q hq => ?_
    obtain ⟨fl, e2⟩ := q
    have next : I (i + 1) e2 → wm (forL mt mb r e2) Q := fun hI => forL_inv I r (i + 1) e2 hI (fun j d' e he hi => by
      have := hs (j + 1) d' e (by simpa using he) (by rw [← Nat.add_assoc, Nat.add_right_comm]; exact hi)
      rw [← Nat.add_assoc, Nat.add_right_comm i j 1] at this
      exact this) fun e he => hd e (by rw [List.length_cons, ← Nat.add_assoc, Nat.add_right_comm]; exact he)
    cases fl with
    | nx => exact next hq
    | ct => exact next hq
    | bk => exact hq
    | rt d => exact hq
    | rf d => exact hq
    | ro i => exact hq
theorem bitsOf_lt {i : Int} {n : Nat} (h : i.natAbs < 2 ^ n) : bitsOf i ≤ n := by
  unfold bitsOf
  by_cases z : i.natAbs = 0
  · rw [z]; exact Nat.zero_le _
  · exact Nat.le_of_lt ((Nat.log2_lt z).mpr h)
theorem mulOk_of {i j : Int} {m n : Nat} (h1 : i.natAbs < 2 ^ m) (h2 : j.natAbs < 2 ^ n) (h : m + n < 1000000) : mulOk i j = true := by
  unfold mulOk
  have := bitsOf_lt h1
  have := bitsOf_lt h2
  exact decide_eq_true (by omega)
theorem divOk_of {i j : Int} {n : Nat} (h0 : 0 < j) (h2 : j.natAbs < 2 ^ n) (h : n < 9000) : divOk i j = true := by
  unfold divOk
  have := bitsOf_lt h2
  rw [decide_eq_true h0, decide_eq_true (show bitsOf j < 9000 by omega)]; rfl
end Dn

/-! Dn25 -/
set_option Elab.async false
set_option linter.all false
set_option maxRecDepth 100000
set_option maxHeartbeats 1000000
/-! Dn25: from a law's mirror to the row. -/
namespace Dn
open PySem PySem.Spec L2
open PyProof.Rows hiding St
/-- what the law's def promises -/
def spL (K : PySem.W.Frag) : Sp := fun vs H Q _ => ∃ (a : Addr) (ns : List Int), vs = [.ref a] ∧ SqL K H a (ns.map V.int) ∧ ∀ H', Q (.bl true) H'
theorem FnOk.weaken {P : Program} {w : World} {K : PySem.W.Frag} {mg : Str → Option Value} {base : Heap} {CX : CXT} {k : Nat} {f : Addr} {fd : FuncData} {ps : List Str} {sp sp' : Sp} (F : FnOk P w K mg base CX k f fd ps sp) (h : ∀ vs H Q E, sp' vs H Q E → sp vs H Q E) : FnOk P w K mg base CX k f fd ps sp' :=
  ⟨fun vs H Q E z => F.len vs H Q E (h _ _ _ _ z), fun A outer s H args us vs Q E hr e0 b r z => F.run A outer s H args us vs Q E hr e0 b r (h _ _ _ _ z)⟩
theorem law_fn {P : Program} {w : World} {K : PySem.W.Frag} {mg : Str → Option Value} {base : Heap} {k : Nat} {g : Ce} {f : Addr} {fd : FuncData} {ps : List Str} {mf : List D → M D} (F : FnOk P w K mg base (CXn false P w) k f fd ps (spP (ck K g) 1 mf)) (hl : ∀ ns : List Int, mf [.scr ns] = .ok (.bl true)) :
    FnOk P w K mg base (L2.CX P w) k f fd ps (spL K) := by
  refine FnOk.weaken F fun vs H Q E ⟨a, ns, e, hs, q⟩ => ⟨fun _ => False, [.scr ns], rfl, fun _ z => z.elim, ?_, ?_⟩
  · subst e
    refine IsDs.cons ?_ IsDs.nil
    unfold IsD
    exact ⟨a, rfl, Same.seq (fun b o hb => by rw [hide_of (fun z => z)]; exact hb) hs⟩
  · rw [hl ns]
    intro v H' _ hv
    unfold IsD at hv
    subst hv
    exact q H'
theorem walkD {l : PySem.W.OpenLaw} {k : Nat} {q : Program} {loose : List Str} {XP : (Str → Option Value) → Heap → Prop} {YP : World → Heap → Prop} {d : DefRec} {K : Params → PySem.W.Frag} (hn : l.most = some 63) (hdf : d.params.defaults = []) (hr : Room k callerA)
    (hY : ∀ (w : World) (h : Heap), YP w h → (K w.params).In h)
    (F : ∀ (w : World) (mg : Str → Option Value) (fa : Addr) (h : Heap), (K w.params).In h → h.Ns mainGlobals mg → mg d.name = some (.ref fa) →
      ∃ fd : FuncData, (∀ (s : Shared) (u : Value), BindsTo s fd ⟨[u], []⟩ [("script", u)]) ∧ ∀ base : Heap, (K w.params).In base → base.Ns mainGlobals mg → FnOk l.prog w (K w.params) mg base (L2.CX l.prog w) k fa fd ["script"] (spL (K w.params))) :
    PySem.W.WalkO q loose XP YP l.row.toRowW d [] (fun f vs => PySem.call f vs) :=
  L2.walk_of (n := 63) (k := k) (x := "script") (CX := fun w => L2.CX l.prog w) (sp := fun w => spL (K w.params)) hn (by decide) hdf hr hY F (fun _ _ a ns hl _ hS => ⟨a, ns, rfl, hS, fun _ => rfl⟩) fun _ _ _ _ _ ⟨_, _, _, _, _, _, _, _, _, _, _, _, z⟩ => z.elim
end Dn

/-! Dn26 -/
set_option Elab.async false
set_option linter.all false
set_option maxRecDepth 100000
set_option maxHeartbeats 1000000
/-! Dn26: several targets, of which some are places of own lists. -/
namespace Dn
open PySem PySem.Spec L2
open PyProof.Rows hiding St

section
variable {X : Cx} {P : Program} {w : World} {K : PySem.W.Frag} {mg : Str → Option Value} {base : Heap} {N : List Str} {sc : Scope} {k : Nat} {bk nn : Bool} {g : Ce} {W : WX}
variable {pu pu1 pu2 sh sh1 sh2 : Bool} {m m1 m2 : Ev} {a b e tg : Expr} {es : List Expr} {pos p pos' : Pos} {x : Str} {mg1 : Gv} {mgs : Gsv} {i : Nat}

def WantG2 (c : Cc) (xs : Addr → Prop) (env : En) (σ : St) (H : Hp) (Q : St → Hp → Prop) : M En → Prop
  | .ok env' => ∀ σ' H', StOk c xs env' σ' H' → Kept env σ H env' σ' H' → Q σ' H'
  | .error _ => False
def tG2 (c : Cc) (m : Gv) : TG := fun v σ H Q => ∃ xs env d, StOk c xs env σ H ∧ IsD c (hide H (Hid xs env σ)) d v ∧ WantG2 c xs env σ H Q (m d env)
def tG2s (c : Cc) (m : Gsv) : TGs := fun v σ H Q => ∃ xs env d, StOk c xs env σ H ∧ IsDs c (hide H (Hid xs env σ)) d v ∧ WantG2 c xs env σ H Q (m d env)
abbrev DG2 (X : Cx) (g : Ce) (e : Expr) (m : Gv) : Prop := PG X e (tG2 (cc X g) m)
abbrev DG2s (X : Cx) (g : Ce) (e : List Expr) (m : Gsv) : Prop := PGs X e (tG2s (cc X g) m)
theorem g2_name (h : PG X e (gName i)) : DG2 X g e (gSet i) := PG.imp h fun v σ H Q ⟨xs, env, d, S, r, w⟩ => by
  unfold gSet at w
  rcases put_cases i (.va d) env with q | ⟨q, h0⟩ <;> rw [q] at w
  · exact w.elim
  · exact w _ H (S.setVa i r) (kept_set_va h0)
theorem g2_nil : DG2s X g [] gsNil := PGs.imp pgs_nil fun v σ H Q ⟨xs, env, ds, S, r, w⟩ => by
  cases ds with
  | nil => unfold IsDs at r; exact ⟨r, w σ H S .refl⟩
  | cons _ _ => exact w.elim
theorem g2_cons (h1 : DG2 X g e mg1) (h2 : DG2s X g es mgs) (hs : (assignEach (e :: es) X.env).map (·.2) = assign e X.env :: (assignEach es X.env).map (·.2) := by rfl) : DG2s X g (e :: es) (gsCons mg1 mgs) :=
  PGs.imp (pgs_cons h1 h2 hs) fun v σ H Q ⟨xs, env, ds, S, r, w⟩ => by
    cases ds with
    | nil => exact w.elim
    | cons d ds =>
      unfold IsDs at r
      obtain ⟨v1, vr, e1, r1, r2⟩ := r
      refine ⟨v1, vr, e1, xs, env, d, S, r1, ?_⟩
      have w' : WantG2 (cc X g) xs env σ H Q (bnd (mg1 d env) fun env1 => mgs ds env1) := w
      cases q : mg1 d env with
      | error x => rw [q] at w'; exact w'.elim
      | ok env1 =>
        rw [q] at w'
        intro σ1 H1 S1 k1
        refine ⟨xs, env1, ds, S1, r2.same k1.smH, ?_⟩
        dsimp only [bnd] at w'
        cases q2 : mgs ds env1 with
        | error x => rw [q2] at w'; exact w'.elim
        | ok env2 =>
          rw [q2] at w'
          exact fun σ2 H2 S2 k2 => w' σ2 H2 S2 (k1.trans k2)
theorem g2_tup {kk : Nat} (hc : X.calm = true) (h : DG2s X g es mgs) (hst : (assignEach es X.env).findIdx? (·.1) = none := by rfl) (hl : (assignEach es X.env).length = es.length := by rfl) : DG2 X g (.Tuple es kk pos) (gTupD (lenOf es.length mgs)) :=
  PG.imp (pg_tup hc h hl hst) fun v σ H Q ⟨xs, env, d, S, r, w⟩ => by
    unfold gTupD at w
    split at w
    · rename_i ds
      unfold IsD at r
      obtain ⟨a, ws, e1, e2, e3⟩ := r
      unfold lenOf at w
      split at w
      · rename_i hz
        exact ⟨a, ws, e1, SqT.hid e2, by rw [← e3.len]; exact hz, xs, env, ds, S, e3, w⟩
      · exact w.elim
    · exact w.elim
def gSubT (i : Nat) (mi : Ev) : Gv := fun d env => match env[i]? with
  | some (.ow _) => bnd (ns (mi env)) fun q => match q.2[i]?, q.1 with
    | some (.ow (.lst ds)), .int k => match ixN ds.length k with
      | some j => .ok (q.2.set i (.ow (.lst (ds.set j d))))
      | none => stuck
    | _, _ => stuck
  | _ => stuck
theorem g2_sub (hx : PE X (.Name x p) (tVar i)) (hi : DE X g pu1 sh1 b m1 W) (ha : ∀ v, assign (.Subscript (.Name x p) b pos') X.env v = (do
      let ov ← holding [v] (eval (.Name x p) X.env)
      let iv ← holding [v, ov] (eval b X.env)
      standAt pos'
      holding [v, ov, iv] (setItem ov iv v)
      release [v, ov, iv] []) := by intro _; rfl) : DG2 X g (.Subscript (.Name x p) b pos') (gSubT i m1) :=
  PG.imp (pg_sub hx hi set_list ha) fun v σ H Q ⟨xs, env, d, S, r, w⟩ => by
    unfold gSubT at w
    split at w
    case h_2 => exact w.elim
    rename_i d0 hi0
    obtain ⟨a, o0, ha0, ho0, hr0⟩ := S.ow i d0 hi0
    refine ⟨.ref a, ha0, xs, env, S, ?_⟩
    cases e2 : m1 env with
    | error z => rw [e2] at w; exact w.elim
    | ok pr =>
      obtain ⟨dk, env2⟩ := pr
      rw [e2] at w
      intro vk H2 s2 r2
      rw [ns_ok, bnd_ok] at w
      dsimp only at w
      split at w
      case h_2 => exact w.elim
      rename_i ds kk hi2
      split at w
      case h_2 => exact w.elim
      rename_i j hj
      obtain ⟨a', vs, ha2, ho2, hr2⟩ := own_lst s2.st hi2
      rw [ha0] at ha2; cases ha2
      have r2' := IsD.same s2.smH _ _ r
      rw [s2.hid] at hr2
      have hst := s2.st.write hi2 ha0 (ds' := ds.set j d) (vs' := vs.set j v) (by rw [s2.hid]; exact hr2.set j r2')
      exact ⟨a, vs, kk, j, rfl, (Rep.shell r2).int, ho2, by rw [← hr2.len]; exact hj, w σ _ hst.st (s2.kept.trans hst.kept)⟩
theorem s_asg2 (he : DE X g pu false e m W) (hg : DG2 X g tg mg1) (hs : swapsWithSole [tg] e pos.line X.env = pure false := by rfl) (hw : swappedStores [tg] e X.env = pure none := by rfl)
    (h1 : (assignEach [tg] X.env).map (·.2) = [assign tg X.env] := by rfl) : DS X g (.Assign [tg] e pos) (sAsg m mg1) W := PS.imp (ps_asg he hg hs hw h1) fun E σ H ⟨xs, env, S, w⟩ =>
  ⟨xs, env, S, WantS.bindE w fun d env' v H' e s r w' => by
    have r' : IsD (cc X g) (hide H' (Hid xs env σ)) d v := r
    rw [← s.hid] at r'
    refine ⟨xs, env', d, s.st, r', ?_⟩
    dsimp only at w'
    cases q : mg1 d env' with
    | error x =>
      rw [q] at w'
      exact w'.elim
    | ok env2 =>
      rw [q] at w'
      exact fun σ2 H2 S2 k2 => w' σ2 H2 S2 (s.kept.trans k2)⟩

/-! ### operators that make a new list -/
def VBF (c : Cc) (r : R2) (f : D → D → M D) : Prop := ∀ (P : Addr → Prop) (H : Hp) (x y : V) (d1 d2 d : D) (Q : VK), (∀ a, P a → H a ≠ none) → RepS c P H d1 x → RepS c P H d2 y →
  f d1 d2 = .ok d → (∀ v H', Same H H' → RepV c P H H' d v → Q v H') → r x y H Q
theorem t_binF {r : R2} {f : D → D → M D} (hv : VBF (cc X g) r f) (nr : NoR2 f) (hc : sh1 = false ∨ pu2 = true) {σ : St} {H : Hp} {Q : VK} (h : tF (cc X g) (pu1 && pu2) (dBin f m1 m2) W σ H Q) :
    tOp r (tE (cc X g) pu1 sh1 m1 W) (tE (cc X g) pu2 sh2 m2 W) σ H Q := by
  obtain ⟨xs, env, S, w⟩ := h
  refine ⟨xs, env, S, w.bind fun d1 env1 x H1 e1 s1 r1 w1 => ?_⟩
  refine ⟨xs, env1, s1.st, Want.bind (pu' := pu2) (w1.after s1) fun d2 env2 y H2 e2 s2 r2 w2 => ?_⟩
  rw [← s1.hid] at r1
  have r1' := (s2.rep hc r1).shell
  have r2' := r2.shell
  cases q : f d1 d2 with
  | error e => cases e with
    | raise k p => exact absurd q (nr _ _ _ _)
    | stuck => rw [q] at w2; exact w2.elim
  | ok d =>
    rw [q] at w2
    refine hv (Hid xs env1 σ) H2 x y d1 d2 d Q (fun a ha => s2.st.hid (by rw [s2.hid]; exact ha)) r1' r2' q fun v H' k hd => ?_
    rw [s1.hid] at hd
    have ss := s1.trans s2
    exact w2 v H' (s2.grow k) (hd.step ss S k fun p hp => ss.free S hp)
theorem f_bin {op : Operator} {r : R2} {f : D → D → M D} (ho : OpR X (binaryOp op) r) (hv : VBF (cc X g) r f) (nr : NoR2 f) (hc : sh1 = false ∨ pu2 = true) (ha : DE X g pu1 sh1 a m1 W) (hb : DE X g pu2 sh2 b m2 W) :
    DF X g (pu1 && pu2) (.BinOp a op b pos) (dBin f m1 m2) W := PE.imp (pe_op ho ha hb) fun _ _ _ h => t_binF hv nr hc h
def dMulL : D → D → M D
  | .lst ds, .int k => if (decide (k ≤ 16777216) && decide (-16777216 ≤ k) && decide (ds.length * k.toNat ≤ maxSeq)) = true then .ok (.lst (repD k ds)) else stuck
  | _, _ => stuck
theorem dMulL_nr : NoR2 dMulL := fun d1 d2 k p h => by
  unfold dMulL at h
  split at h <;> (try split at h) <;> cases h
theorem vbf_mulL {c : Cc} : VBF c (rMulD c.K) dMulL := by
  intro P H x y d1 d2 d Q hP r1 r2 e k
  unfold dMulL at e
  split at e
  · split at e
    · rename_i h
      simp only [Bool.and_eq_true, decide_eq_true_eq] at h
      cases e
      obtain ⟨a, vs, rfl, h1, h2⟩ := r1.lst
      exact .inr (.inl ⟨a, _, vs, rfl, r2.int, h1, by omega, by omega, by rw [maxSeq_eq, ← h2.len]; exact h.2, fun p hp => k _ _ (same_new hp) (repV_lst hp (h2.rep _))⟩)
    · cases e
  · cases e
theorem fMulL (hc : sh1 = false ∨ pu2 = true) (ha : DE X g pu1 sh1 a m1 W) (hb : DE X g pu2 sh2 b m2 W) : DF X g (pu1 && pu2) (.BinOp a .Mult b pos) (dBin dMulL m1 m2) W := f_bin op_mulD vbf_mulL dMulL_nr hc ha hb
end
end Dn

/-! Dn27 -/
set_option Elab.async false
set_option linter.all false
set_option maxRecDepth 100000
set_option maxHeartbeats 1000000
/-! Dn27: zip over a tuple and a list, in any mix. -/
namespace Dn
open PySem PySem.Spec L2
open PyProof.Rows hiding St

/-- t: a tuple; else a list -/
def SqB (K : PySem.W.Frag) (t : Bool) (H : Hp) (a : Addr) (xs : List V) : Prop := match t with
  | true => SqT K H a xs
  | false => SqL K H a xs
def ItB (h : Heap) (t : Bool) (it a : Addr) (i : Nat) : Prop := match t with
  | true => h.IsTupleIter it a i
  | false => h.IsListIter it a i
def StB (h : Heap) (t : Bool) (a : Addr) (its : Array Value) : Prop := match t with
  | true => h.IsTuple a its
  | false => h.IsList a its
def obB (t : Bool) (a : Addr) : Obj := match t with
  | true => { cls := .type "tuple_iterator", data := .fields #[.ref a, .int 0 0] }
  | false => { cls := .type "list_iterator", data := .fields #[.ref a, .int 0 0] }
theorem begB (t : Bool) (a : Addr) (its : Array Value) : Begins (.ref a) (obB t a) (fun h => StB h t a its) := by
  cases t
  · exact begins_list a its
  · exact begins_tuple a its
theorem drawB {prog : Program} {w : World} {A : Around} (hh : A.handled = none) (t : Bool) {it a : Addr} (ne : a ≠ it) (its : Array Value) : Draws prog w A it [it, a] its.size (fun i v => its[i]? = some v) (fun i h => ItB h t it a i ∧ StB h t a its) := by
  cases t
  · exact Draws.list hh it a ne its
  · exact Draws.tuple hh it a ne its
theorem ItB.at' {h h' : Heap} {t : Bool} {it a : Addr} {i : Nat} (x : ItB h t it a i) (k : ∀ o, h.get? it = some o → h'.get? it = some o) : ItB h' t it a i := by
  cases t
  · exact Heap.IsListIter.at x k
  · exact Heap.IsTupleIter.at x k
theorem ItB.obj {h : Heap} {t : Bool} {it a : Addr} {i : Nat} (x : ItB h t it a i) : ∃ o, h.get? it = some o ∧ ∀ v, o.data ≠ .cell v := by
  cases t <;>
  · obtain ⟨o, e, _, d⟩ := x
    exact ⟨o, e, fun v z => by rw [d] at z; cases z⟩
theorem ItB.of {h : Heap} {t : Bool} {it a : Addr} (x : h.get? it = some (obB t a)) : ItB h t it a 0 := by
  cases t <;> exact ⟨_, x, rfl, rfl⟩
theorem SqB.of_inv {X : Cx} {pins : List (Addr × Obj)} {σ : L2.St} {H : Hp} {s : Shared} {t : Bool} {a : Addr} {xs : List V} (I : Inv X pins σ H s) (h : SqB X.K t H a xs) : ∃ its : List Value, Vals xs its ∧ StB s.heap t a its.toArray := by
  cases t
  · obtain ⟨its, r, p, _⟩ := I.list h
    exact ⟨its, r, p.isList⟩
  · obtain ⟨its, r, p, _⟩ := I.tuple h
    exact ⟨its, r, p⟩
theorem StB.lt {h : Heap} {t : Bool} {a : Addr} {its : Array Value} (x : StB h t a its) : a < h.objs.size := by
  cases t <;>
  · obtain ⟨o, e, _⟩ := x
    exact Heap.lt_size e
theorem SqB.inj {X : Cx} {pins : List (Addr × Obj)} {σ : L2.St} {H : Hp} {s : Shared} {t : Bool} {a : Addr} {xs ys : List V} (I : Inv X pins σ H s) (h : SqB X.K t H a xs) (h' : SqB X.K t H a ys) : xs = ys := by
  cases t
  · exact I.list_inj h h'
  · exact I.tuple_inj h h'
theorem SqB.same {K : PySem.W.Frag} {t : Bool} {H H' : Hp} {a : Addr} {xs : List V} (k : Same H H') (h : SqB K t H a xs) : SqB K t H' a xs := by
  cases t
  · exact k.seq h
  · exact SqT.same k h
theorem SqB.unhide {K : PySem.W.Frag} {t : Bool} {H : Hp} {P : Addr → Prop} {a : Addr} {xs : List V} (h : SqB K t (hide H P) a xs) : SqB K t H a xs := by
  cases t
  · exact SqL.hid h
  · exact SqT.hid h

def ItzB (K : PySem.W.Frag) (t1 t2 : Bool) (a b : Addr) : It where
  go := fun i H => ∃ (xs ys : List V), SqB K t1 H a xs ∧ SqB K t2 H b ys ∧ i < min xs.length ys.length
  yld := fun i H v H' => ∃ T x y, v = .ref T ∧ H T = none ∧ H' = upd H T (.tup [x, y]) ∧ (∀ xs, SqB K t1 H a xs → xs[i]? = some x) ∧ ∀ ys, SqB K t2 H b ys → ys[i]? = some y
  stop := fun i H => ∃ xs ys : List V, SqB K t1 H a xs ∧ SqB K t2 H b ys ∧ i = min xs.length ys.length
/-- what stands while it turns -/
def TnB (z TI TO i1 i2 a b : Addr) (t1 t2 : Bool) (i : Nat) (h : Heap) : Prop := IsZip h z TI TO .none ∧ IsTupOf2 h TI (.ref i1) (.ref i2) ∧ (∃ x y, IsTupOf2 h TO x y) ∧ ItB h t1 i1 a i ∧ ItB h t2 i2 b i
theorem turn_zipB {P : Program} {w : World} {K : PySem.W.Frag} {elts : List Expr} {kk : Nat} {tpos : Pos} {t1 t2 : Bool} {a b z TI TO i1 i2 : Addr} (S : ZipSep2 z TI TO i1 i2 [i1, a] [i2, b]) :
    Turn P w K (.Tuple elts kk tpos) (ItzB K t1 t2 a b) [z, TI, TO, i1, i2] z (TnB z TI TO i1 i2 a b t1 t2) where
  mem := List.mem_cons_self
  obj := by
    rintro i h ⟨q1, q2, ⟨x, y, q3⟩, q4, q5⟩ c hc
    simp only [List.mem_cons, List.not_mem_nil, or_false] at hc
    rcases hc with rfl | rfl | rfl | rfl | rfl
    · exact ⟨_, q1, fun v q => nomatch q⟩
    · exact ⟨_, q2, fun v q => nomatch q⟩
    · exact ⟨_, q3, fun v q => nomatch q⟩
    · exact q4.obj
    · exact q5.obj
  keep := by
    rintro i h h' ⟨q1, q2, ⟨x, y, q3⟩, q4, q5⟩ k
    have m : ∀ c, c ∈ [z, TI, TO, i1, i2] → ∀ o, h.get? c = some o → h'.get? c = some o := k
    exact ⟨m z (by simp) _ q1, m TI (by simp) _ q2, ⟨x, y, m TO (by simp) _ q3⟩, q4.at' (m i1 (by simp)), q5.at' (m i2 (by simp))⟩
  item := by
    intro X hP hw hK hc i pins s σ H E I hf st hg
    subst hP hw hK
    obtain ⟨xs, ys, hx, hy, hi⟩ := hg
    obtain ⟨its, rv, p⟩ := hx.of_inv I
    obtain ⟨its2, rv2, p2⟩ := hy.of_inv I
    have l1 := rv.length
    have l2 := rv2.length
    obtain ⟨q1, q2, q3, q4, q5⟩ := st
    have n1 : a ≠ i1 := fun e => by
      obtain ⟨o, ho, _⟩ := q4.obj
      subst e
      cases t1
      · obtain ⟨o1, e1, c1, _⟩ := p
        obtain ⟨o2, e2, c2, _⟩ := q4
        rw [e1] at e2; cases e2; rw [c1] at c2; simp at c2
      · obtain ⟨o1, e1, c1, _⟩ := p
        obtain ⟨o2, e2, c2, _⟩ := q4
        rw [e1] at e2; cases e2; rw [c1] at c2; simp at c2
    have n2 : b ≠ i2 := fun e => by
      subst e
      cases t2
      · obtain ⟨o1, e1, c1, _⟩ := p2
        obtain ⟨o2, e2, c2, _⟩ := q5
        rw [e1] at e2; cases e2; rw [c1] at c2; simp at c2
      · obtain ⟨o1, e1, c1, _⟩ := p2
        obtain ⟨o2, e2, c2, _⟩ := q5
        rw [e1] at e2; cases e2; rw [c1] at c2; simp at c2
    have hh : X.A.in1.handled = none := I.ok.hd hc
    have W := GoesN.zip2 (prog := X.prog) (w := X.w) (A := X.A) (elts := elts) (x1 := kk) (pos := tpos) S (drawB hh t1 n1 its.toArray) (drawB hh t2 n2 its2.toArray)
    have hi' : i < min its.toArray.size its2.toArray.size := by simp only [List.size_toArray]; omega
    refine W.goes i s _ E hi' ⟨q1, q2, q3, ⟨q4, p⟩, ⟨q5, p2⟩⟩ fun v h' tk hY st' hk _ => ?_
    obtain ⟨T, u, u2, rfl, hT, hu, hu2, hpair⟩ := hY
    have hx1 : xs[i]? = some xs[i] := List.getElem?_eq_getElem (by omega)
    have hy1 : ys[i]? = some ys[i] := List.getElem?_eq_getElem (by omega)
    obtain ⟨u', hu', ru⟩ := rv.get hx1
    obtain ⟨u2', hu2', ru2⟩ := rv2.get hy1
    have hu3 : its[i]? = some u := by simpa using hu
    have hu4 : its2[i]? = some u2 := by simpa using hu2
    rw [hu3] at hu'; cases hu'
    rw [hu4] at hu2'; cases hu2'
    have new : ObjOk X.prog X.w (upd H T (.tup [xs[i], ys[i]])) h' T (.tup [xs[i], ys[i]]) := ⟨by show 2 ≤ sizeLine; decide, [u, u2], .cons ru (.cons ru2 .nil), hpair⟩
    have I1 : Inv X pins σ (upd H T (.tup [xs[i], ys[i]])) { s with heap := h', toks := tk } :=
      I.turnedNew (t' := tk) (ch := [z, TI, TO, i1, i2]) (fun c o hb q => hk c o (fun q' => hb (by
        simp only [List.mem_cons, List.not_mem_nil, or_false] at q' ⊢
        rcases q' with e | e | e | e
        · exact .inl e
        · exact .inr (.inr (.inl e))
        · exact .inr (.inr (.inr (.inl e)))
        · exact .inr (.inr (.inr (.inr e))))) q) hf hT new
    refine ⟨.ref T, _, I1, rfl, ⟨T, _, _, rfl, I.hok.fresh hT, rfl, fun l hl => by rw [hl.inj I hx]; exact hx1, fun l hl => by rw [hl.inj I hy]; exact hy1⟩, ?_, fun c hcm => ?_⟩
    · obtain ⟨r1, r2, r3, r4, r5⟩ := st'
      exact ⟨r1, r2, r3, r4.1, r5.1⟩
    · have hlt : c < s.heap.objs.size := by
        simp only [List.mem_cons, List.not_mem_nil, or_false] at hcm
        obtain ⟨x, y, q3⟩ := q3
        rcases hcm with rfl | rfl | rfl | rfl | rfl
        · exact Heap.lt_size q1
        · exact Heap.lt_size q2
        · exact Heap.lt_size q3
        · obtain ⟨o, e, _⟩ := q4.obj; exact Heap.lt_size e
        · obtain ⟨o, e, _⟩ := q5.obj; exact Heap.lt_size e
      rw [upd_ne (Nat.ne_of_lt (Nat.lt_of_lt_of_le hlt hT))]
      exact (hf c hcm).1
  done := by
    intro X hP hw hK hc i pins s σ H E I hf st hg
    subst hP hw hK
    obtain ⟨xs, ys, hx, hy, hi⟩ := hg
    obtain ⟨its, rv, p⟩ := hx.of_inv I
    obtain ⟨its2, rv2, p2⟩ := hy.of_inv I
    have l1 := rv.length
    have l2 := rv2.length
    obtain ⟨q1, q2, q3, q4, q5⟩ := st
    have n1 : a ≠ i1 := fun e => by
      subst e
      cases t1
      · obtain ⟨o1, e1, c1, _⟩ := p
        obtain ⟨o2, e2, c2, _⟩ := q4
        rw [e1] at e2; cases e2; rw [c1] at c2; simp at c2
      · obtain ⟨o1, e1, c1, _⟩ := p
        obtain ⟨o2, e2, c2, _⟩ := q4
        rw [e1] at e2; cases e2; rw [c1] at c2; simp at c2
    have n2 : b ≠ i2 := fun e => by
      subst e
      cases t2
      · obtain ⟨o1, e1, c1, _⟩ := p2
        obtain ⟨o2, e2, c2, _⟩ := q5
        rw [e1] at e2; cases e2; rw [c1] at c2; simp at c2
      · obtain ⟨o1, e1, c1, _⟩ := p2
        obtain ⟨o2, e2, c2, _⟩ := q5
        rw [e1] at e2; cases e2; rw [c1] at c2; simp at c2
    have hh : X.A.in1.handled = none := I.ok.hd hc
    have W := GoesN.zip2 (prog := X.prog) (w := X.w) (A := X.A) (elts := elts) (x1 := kk) (pos := tpos) S (drawB hh t1 n1 its.toArray) (drawB hh t2 n2 its2.toArray)
    have hi' : i = min its.toArray.size its2.toArray.size := by simp only [List.size_toArray]; omega
    subst hi'
    refine W.stops s _ E ⟨q1, q2, q3, ⟨q4, p⟩, ⟨q5, p2⟩⟩ fun h' tk hk _ => ?_
    exact I.turnedL (t' := tk) (ch := [z, TI, TO, i1, i2]) (fun c o hb q => hk c o (fun q' => hb (by
        simp only [List.mem_cons, List.not_mem_nil, or_false] at q' ⊢
        rcases q' with e | e | e | e
        · exact .inl e
        · exact .inr (.inr (.inl e))
        · exact .inr (.inr (.inr (.inl e)))
        · exact .inr (.inr (.inr (.inr e))))) q) hf
  self := fun A i s Q E st h => wpAny_pyIter_zip st.1 h
def iZipB (K : PySem.W.Frag) (ta : TA) : TI := fun σ H R => ta σ H fun vs H1 => ∃ t1 t2 a b xs ys, vs = [.ref a, .ref b] ∧ SqB K t1 H1 a xs ∧ SqB K t2 H1 b ys ∧ R (ItzB K t1 t2 a b) H1
theorem pi_zipB {X : Cx} {e e2 : Expr} {ta : TA} {p pos tpos : Pos} {elts : List Expr} {kk : Nat} (hg : Gl X "zip") (hm : X.mg "zip" = none) (ha : PA X [e, e2] ta)
    (hs : starEach [e, e2] X.env = (false, eval e X.env) :: starEach [e2] X.env := by rfl) (hpl : (backTo pos (starEach [e2] X.env)).any (·.1) = false := by rfl) :
    PI X (.Tuple elts kk tpos) (.Call (.Name "zip" p) [e, e2] [] pos) (iZipB X.K ta) := by
  refine ⟨fun pins s σ H R I h => ?_⟩
  refine Call_ (ld_blt I hg hm PyProof.Rows.boot_zip (PyProof.Rows.callWith_type1 (thn (ha.run pos pins s σ H _ I h) fun us s1 ⟨vs, H1, I1, r1, q1⟩ => ?_) hs hpl))
  obtain ⟨t1, t2, a, b, xs, ys, rfl, hx, hy, q⟩ := q1
  cases r1 with
  | cons r rr =>
  cases rr with
  | cons r' rr =>
  cases rr
  cases r
  cases r'
  obtain ⟨its, rv, p1⟩ := hx.of_inv I1
  obtain ⟨its2, rv2, p2⟩ := hy.of_inv I1
  refine zip_begins2 (begB t1 a its.toArray) (begB t2 b its2.toArray) p1 p2 fun h' hz hTI hTO h1 h2 _ hk => wpAny_pyIter_zip hz ?_
  have I2 : Inv X pins σ H1 { s1 with heap := h' } := I1.kept (t' := s1.toks) hk
  have la := p1.lt
  have lb := p2.lt
  refine ⟨_, [s1.heap.objs.size + 4, s1.heap.objs.size + 2, s1.heap.objs.size + 3, s1.heap.objs.size, s1.heap.objs.size + 1], TnB (s1.heap.objs.size + 4) (s1.heap.objs.size + 2) (s1.heap.objs.size + 3) s1.heap.objs.size (s1.heap.objs.size + 1) a b t1 t2, ItzB X.K t1 t2 a b, H1, rfl, I2,
    turn_zipB (zip_sep2 (fun c hc => by rw [List.mem_singleton.mp hc]; exact la) fun c hc => by rw [List.mem_singleton.mp hc]; exact lb), ⟨hz, hTI, ⟨_, _, hTO⟩, .of h1, .of h2⟩, fun c hcm => ?_, q⟩
  have le : s1.heap.objs.size ≤ c := by
    simp only [List.mem_cons, List.not_mem_nil, or_false] at hcm
    rcases hcm with rfl | rfl | rfl | rfl | rfl <;> first | exact Nat.le_refl _ | exact Nat.le_add_right _ _
  exact I1.fpOk le (I1.hok.fresh le)
theorem walk_zipB {K : PySem.W.Frag} {t1 t2 : Bool} {a b : Addr} {xs ys : List V} {n : Nat} (hn : n = min xs.length ys.length) : Walk (ItzB K t1 t2 a b) n (fun H => SqB K t1 H a xs ∧ SqB K t2 H b ys) (YPair (fun i => xs[i]?) (fun i => ys[i]?)) := by
  subst hn
  refine ⟨fun i H hi q => ⟨xs, ys, q.1, q.2, hi⟩, fun H q => ⟨xs, ys, q.1, q.2, rfl⟩, fun i H v H' _ q y => ?_⟩
  obtain ⟨T, x, z, h1, h2, h3, h4, h5⟩ := y
  exact ⟨T, x, z, h1, h2, h3, h4 xs q.1, h5 ys q.2⟩
theorem itok_zipB {c : Cc} {G0 : Hp} {t1 t2 : Bool} {a b : Addr} {ds es : List D} {vs ws : List V} (h : SqB c.K t1 G0 a vs) (h' : SqB c.K t2 G0 b ws) (r : IsDs c G0 ds vs) (r' : IsDs c G0 es ws) : ItOk c G0 (ItzB c.K t1 t2 a b) (zipD ds es) := by
  refine ⟨fun H => SqB c.K t1 H a vs ∧ SqB c.K t2 H b ws, _, walk_zipB (by rw [zipD_len, r.len, r'.len]), fun H z => ⟨h.same z, h'.same z⟩, fun i x H H' d e z y => ?_⟩
  obtain ⟨T, u, v, rfl, hT, rfl, h1, h2⟩ := y
  obtain ⟨d1, d2, e1, e2, rfl⟩ := zipD_get e
  refine ⟨same_new hT, fun Z k hZ => ?_⟩
  obtain ⟨v1, h3, h4⟩ := r.getD e1
  obtain ⟨v2, h5, h6⟩ := r'.getD e2
  rw [show vs[i]? = some u from h1] at h3; cases h3
  rw [show ws[i]? = some v from h2] at h5; cases h5
  exact isNewT hT hZ (IsDs.cons (h4.same k) (IsDs.cons (h6.same k) IsDs.nil))
/-- what zip takes -/
def seqD : D → Option (List D)
  | .lst xs => some xs
  | .tup xs => some xs
  | _ => none
theorem seqD_sq {c : Cc} {H : Hp} {d : D} {xs : List D} {v : V} (h : seqD d = some xs) (r : IsD c H d v) : ∃ t a vs, v = .ref a ∧ SqB c.K t H a vs ∧ IsDs c H xs vs := by
  cases d <;> first | cases h; done | skip
  all_goals
    cases h
    unfold IsD at r
    obtain ⟨a, vs, rfl, q, r⟩ := r
  · exact ⟨true, a, vs, rfl, q, r⟩
  · exact ⟨false, a, vs, rfl, SqL.of q, r⟩
def dZipB (ms : Av) : Iv := fun env => bnd (ms env) fun p => match p.1 with
  | [a, b] => match seqD a, seqD b with
    | some xs, some ys => .ok (zipD xs ys, p.2)
    | _, _ => stuck
  | _ => stuck
section
variable {X : Cx} {g : Ce} {W : WX} {pu : Bool} {a b : Expr} {pos p : Pos} {ma : Av}
theorem i_zipB {elts : List Expr} {kk : Nat} {tpos : Pos} (hg : Gl X "zip") (hm : X.mg "zip" = none) (h : DA X g pu [false, false] [a, b] ma W) (hs : starEach [a, b] X.env = (false, eval a X.env) :: starEach [b] X.env := by rfl) (hpl : (backTo pos (starEach [b] X.env)).any (·.1) = false := by rfl) : DI X g (.Tuple elts kk tpos) pu (.Call (.Name "zip" p) [a, b] [] pos) (dZipB ma) W :=
  PI.imp (pi_zipB hg hm h hs hpl) fun σ H Q ⟨xs, env, S, w⟩ => ⟨xs, env, S, Want.bind w fun ds env' vs H' e s r w' => by
    have rc := r.clean rfl
    dsimp only at w'
    split at w'
    · rename_i d1 d2
      obtain ⟨v1, v2, rfl, h1, h2⟩ := rc.two
      cases q1 : seqD d1 with
      | none => rw [q1] at w'; exact w'.elim
      | some xs1 =>
        cases q2 : seqD d2 with
        | none => rw [q1, q2] at w'; exact w'.elim
        | some xs2 =>
          rw [q1, q2] at w'
          obtain ⟨t1, a1, vs1, rfl, z1, r1⟩ := seqD_sq q1 h1
          obtain ⟨t2, a2, vs2, rfl, z2, r2⟩ := seqD_sq q2 h2
          exact ⟨t1, t2, a1, a2, vs1, vs2, rfl, z1.unhide, z2.unhide, w' _ H' s (itok_zipB z1 z2 r1 r2)⟩
    · exact w'.elim⟩
end
end Dn

/-! PG1 -/
set_option Elab.async false
set_option linter.all false
set_option maxRecDepth 100000
set_option maxHeartbeats 1000000
namespace Dn
namespace LW
open PySem
/-! ### plain facts for every law -/
theorem dEq_int (i j : Int) : dEq (.int i) (.int j) = .ok (.bl (decide (i = j))) := rfl
theorem dNe_int (i j : Int) : dNe (.int i) (.int j) = .ok (.bl (!decide (i = j))) := rfl
theorem natAbs_mul_lt {a b : Int} {m n : Nat} (h1 : a.natAbs < 2 ^ m) (h2 : b.natAbs < 2 ^ n) : (a * b).natAbs < 2 ^ (m + n) := by
  rw [Int.natAbs_mul, Nat.pow_add]
  exact Nat.mul_lt_mul'' h1 h2
theorem lcL_map {mt : Gv} {te : Ev} {vs : List Nat} {f : D → D} {env : En} : ∀ (ds : List D), (∀ d, d ∈ ds → ∃ e1 e2, mt d env = .ok e1 ∧ te e1 = .ok (f d, e2) ∧ wipeE e2 vs = env) → lcL mt dYes te vs ds env = .ok (ds.map f, env)
  | [], _ => rfl
  | d :: r, h => by
    obtain ⟨e1, e2, q1, q2, q3⟩ := h d List.mem_cons_self
    unfold lcL
    rw [q1, bnd_ok]
    simp only [dYes, bnd_ok, if_true, q2, q3]
    rw [lcL_map r fun d' hd => h d' (List.mem_cons_of_mem _ hd)]
    rfl
/-- a comprehension with a test -/
theorem lcL_fmap {mt : Gv} {tt : Tv} {te : Ev} {vs : List Nat} {P : D → Bool} {f : D → D} {env : En} : ∀ (ds : List D), (∀ d, d ∈ ds → ∃ e1 e2 e3, mt d env = .ok e1 ∧ tt e1 = .ok (P d, e2) ∧ wipeE e2 vs = env ∧ (P d = true → te e2 = .ok (f d, e3) ∧ wipeE e3 vs = env)) → lcL mt tt te vs ds env = .ok ((ds.filter P).map f, env)
  | [], _ => rfl
  | d :: r, h => by
    obtain ⟨e1, e2, e3, q1, q2, q3, q4⟩ := h d List.mem_cons_self
    unfold lcL
    rw [q1, bnd_ok, q2, bnd_ok]
    have ih := lcL_fmap (P := P) (f := f) r fun d' hd => h d' (List.mem_cons_of_mem _ hd)
    cases hp : P d with
    | true => obtain ⟨q5, q6⟩ := q4 hp; simp only [if_true, q5, bnd_ok, q6, ih, List.filter_cons, hp, List.map_cons]
    | false =>
      simp only [Bool.false_eq_true, if_false, q3, ih, List.filter_cons, hp]
theorem bools_map : ∀ (bs : List Bool), bools (bs.map D.bl) = some bs
  | [] => rfl
  | b :: r => by
    rw [List.map_cons]
    unfold bools
    rw [bools_map r]
    rfl
theorem intsOf_map : ∀ (ss : List Int), intsOf (ss.map D.int) = some ss
  | [] => rfl
  | s :: r => by
    rw [List.map_cons]
    unfold intsOf
    rw [intsOf_map r]
    rfl
theorem intsOf_some : ∀ {ds : List D} {ws : List Int}, intsOf ds = some ws → ds = ws.map D.int
  | [], ws, h => by cases h; rfl
  | d :: r, ws, h => by
    cases d with
    | int i =>
      unfold intsOf at h
      cases e : intsOf r with
      | none => rw [e] at h; cases h
      | some w => rw [e] at h; cases h; rw [intsOf_some e]; rfl
    | _ => cases h
/-- whether it is an integer -/
def isI : D → Bool
  | .int _ => true
  | _ => false
theorem all_isI : ∀ (ds : List D), ds.all isI = (intsOf ds).isSome
  | [] => rfl
  | d :: r => by
    cases d with
    | int i =>
      rw [List.all_cons, all_isI r, show intsOf (D.int i :: r) = (intsOf r).map (i :: ·) from rfl]
      cases intsOf r <;> rfl
    | _ => rfl
theorem bAll_map (bs : List Bool) : bAll [.lst (bs.map D.bl)] = .ok (.bl (bs.all id)) := by
  simp only [bAll, bools_map]
theorem bAll_mapf {α : Type} (f : α → Bool) (xs : List α) : bAll [.lst (xs.map fun x => D.bl (f x))] = .ok (.bl (xs.all f)) := by
  rw [show xs.map (fun x => D.bl (f x)) = (xs.map f).map D.bl by rw [List.map_map]; rfl, bAll_map, List.all_map]
  rfl
theorem bSum_map (ss : List Int) : bSum [.lst (ss.map D.int)] = .ok (.int ss.sum) := by
  simp only [bSum, intsOf_map]
theorem dRng_ok {ms : Av} {env env' : En} {n : Int} (h : ms env = .ok ([.int n], env')) (h0 : smallI n = true) : dRng ms env = .ok (rngD 0 1 n.toNat, env') := by
  unfold dRng
  rw [h, bnd_ok]
  simp only [h0, if_true]
theorem mx2 : 2 ≤ maxSeq := by decide
theorem mx : 0 < maxSeq ∧ 1 < maxSeq ∧ 1 ≤ maxSeq ∧ 2 ≤ maxSeq := by decide
theorem mxs : 1 ≤ maxSeq ∧ 2 ≤ maxSeq ∧ 3 ≤ maxSeq ∧ 4 ≤ maxSeq ∧ 5 ≤ maxSeq ∧ 6 ≤ maxSeq ∧ 7 ≤ maxSeq ∧ 8 ≤ maxSeq ∧ 9 ≤ maxSeq ∧ 10 ≤ maxSeq ∧ 11 ≤ maxSeq ∧ 12 ≤ maxSeq ∧ 13 ≤ maxSeq ∧ 14 ≤ maxSeq ∧ 15 ≤ maxSeq ∧ 16 ≤ maxSeq := by decide
theorem le_maxSeq {n : Nat} (h : n ≤ 1000) : n ≤ maxSeq := Nat.le_trans h (by decide)
theorem smallI_of_le {n : Int} (h0 : 0 ≤ n) (h : n ≤ 1000) : smallI n = true := by
  unfold smallI
  rw [Bool.and_eq_true, decide_eq_true_eq, decide_eq_true_eq]
  omega
theorem dCall1 {f : List D → M D} {m : Ev} {env env' : En} {a r : D} (h : m env = .ok (a, env')) (hf : f [a] = .ok r) : dCall f (dCons m dNil) env = .ok (r, env') := by
  simp [dCall, dCons, dNil, h, hf]
theorem dCall2 {f : List D → M D} {m1 m2 : Ev} {env e1 e2 : En} {a b r : D} (h1 : m1 env = .ok (a, e1)) (h2 : m2 e1 = .ok (b, e2)) (hf : f [a, b] = .ok r) : dCall f (dCons m1 (dCons m2 dNil)) env = .ok (r, e2) := by
  simp [dCall, dCons, dNil, h1, h2, hf]
theorem dBin_ok {f : D → D → M D} {m1 m2 : Ev} {env e1 e2 : En} {a b r : D} (h1 : m1 env = .ok (a, e1)) (h2 : m2 e1 = .ok (b, e2)) (hf : f a b = .ok r) : dBin f m1 m2 env = .ok (r, e2) := by
  simp [dBin, h1, h2, hf]
theorem dTb_ok {m : Ev} {env e1 : En} {b : Bool} (h : m env = .ok (.bl b, e1)) : dTb m env = .ok (b, e1) := by
  simp [dTb, h]
theorem dTNot_ok {t : Tv} {env e1 : En} {b : Bool} (h : t env = .ok (b, e1)) : dTNot t env = .ok (!b, e1) := by
  simp [dTNot, h]
theorem dCons_ok {m : Ev} {ms : Av} {env e1 e2 : En} {a : D} {as : List D} (h1 : m env = .ok (a, e1)) (h2 : ms e1 = .ok (as, e2)) : dCons m ms env = .ok (a :: as, e2) := by
  simp [dCons, h1, h2]
theorem dCallN {f : List D → M D} {ms : Av} {env e1 : En} {as : List D} {r : D} (h1 : ms env = .ok (as, e1)) (hf : f as = .ok r) : dCall f ms env = .ok (r, e1) := by
  simp [dCall, h1, hf]
theorem sRet_ok {m : Ev} {env e1 : En} {d : D} (h : m env = .ok (d, e1)) : sRet m env = .ok (.rt d, e1) := by
  simp [sRet, h]
theorem dIf_ok {t : Tv} {m1 m2 : Ev} {env e1 : En} {b : Bool} (h : t env = .ok (b, e1)) : dIf t m1 m2 env = if b = true then m1 e1 else m2 e1 := by
  simp [dIf, h]
theorem sRaise_ok {i : Nat} {m : Ev} {env e1 : En} {d : D} (h : m env = .ok (d, e1)) : sRaise i m env = .error (.raise i d) := by
  simp [sRaise, h]
theorem dLst_ok {ms : Av} {env env' : En} {ds : List D} (h : ms env = .ok (ds, env')) (hl : ds.length ≤ 1000) : dLst ms env = .ok (.lst ds, env') := by
  unfold dLst
  rw [h, bnd_ok]
  simp only [le_maxSeq hl, if_true]
theorem dItems_lst {m : Ev} {env env' : En} {ds : List D} (h : m env = .ok (.lst ds, env')) : dItems m env = .ok (ds, env') := by
  unfold dItems
  rw [h]
  rfl
theorem dItems_tup {m : Ev} {env env' : En} {ds : List D} (h : m env = .ok (.tup ds, env')) : dItems m env = .ok (ds, env') := by
  unfold dItems
  rw [h]
  rfl
theorem set_back {env : En} {v : Nat} {s : Sl} (h1 : env[v]? = some s) : env.set v s = env := by
  apply List.ext_getElem?
  intro k
  by_cases e : v = k
  · subst e
    rw [List.getElem?_set, h1]
    have := (List.getElem?_eq_some_iff.mp h1).1
    simp [this]
  · rw [List.getElem?_set_ne e]
/-- a comprehension whose parts may change the slots (a drawing), but for the own one -/
theorem dLc_gen {mi : Iv} {mt : Gv} {tt : Tv} {te : Ev} {v : Nat} {env e0 e1 : En} {s : Sl} {ds rs : List D} (h : mi env = .ok (ds, e0)) (h0 : isOw e0 v = false) (h1 : e0[v]? = some s) (h2 : lcL mt tt te [v] ds (e0.set v .un) = .ok (rs, e1)) (h3 : rs.length ≤ 1000) : dLc mi mt tt te [v] env = .ok (.lst rs, e1.set v s) := by
  unfold dLc
  rw [h, bnd_ok]
  simp only [noOw, List.all_cons, List.all_nil, h0, Bool.not_false, Bool.and_self, if_true, wipeE, h2, ns_ok, bnd_ok, le_maxSeq h3, resE, h1, Option.getD_some]
theorem dLc_ok2 {mi : Iv} {mt : Gv} {tt : Tv} {te : Ev} {v : Nat} {env : En} {s : Sl} {ds rs : List D} (h : mi env = .ok (ds, env)) (h0 : isOw env v = false) (h1 : env[v]? = some s) (h2 : lcL mt tt te [v] ds (env.set v .un) = .ok (rs, env.set v .un)) (h3 : rs.length ≤ 1000) : dLc mi mt tt te [v] env = .ok (.lst rs, env) := by
  rw [dLc_gen h h0 h1 h2 h3, List.set_set, set_back h1]
theorem dTr_lst {m : Ev} {env env' : En} {rs : List D} (h : m env = .ok (.lst rs, env')) : dTr m env = .ok (!rs.isEmpty, env') := by
  unfold dTr
  rw [h]
  rfl
theorem dTr_bl {m : Ev} {env env' : En} {b : Bool} (h : m env = .ok (.bl b, env')) : dTr m env = .ok (b, env') := by
  unfold dTr
  rw [h]
  rfl
theorem ixl (x y : D) : dIx (.lst [x, y]) (.int 0) = .ok x ∧ dIx (.lst [x, y]) (.int 1) = .ok y := ⟨rfl, rfl⟩
theorem ixt (x y : D) : dIx (.tup [x, y]) (.int 0) = .ok x ∧ dIx (.tup [x, y]) (.int 1) = .ok y := ⟨rfl, rfl⟩
def intsD (ss : List Int) : D := .tup (ss.map D.int)
def intsL (ss : List Int) : D := .lst (ss.map D.int)
theorem ix_ints {ss : List Int} {i : Nat} {a : Int} (h : ss[i]? = some a) : dIx (intsD ss) (.int i) = .ok (.int a) := by
  have hi := (List.getElem?_eq_some_iff.mp h).1
  have e : ss[i] = a := by rw [List.getElem?_eq_getElem hi] at h; exact Option.some.inj h
  unfold intsD
  simp [dIx, L2.atI, L2.ixN, hi, e]
theorem ix_intsL {ss : List Int} {i : Nat} {a : Int} (h : ss[i]? = some a) : dIx (intsL ss) (.int i) = .ok (.int a) := by
  have hi := (List.getElem?_eq_some_iff.mp h).1
  have e : ss[i] = a := by rw [List.getElem?_eq_getElem hi] at h; exact Option.some.inj h
  unfold intsL
  simp [dIx, L2.atI, L2.ixN, hi, e]
theorem ix_tup {ds : List D} {i : Nat} {a : D} (h : ds[i]? = some a) : dIx (.tup ds) (.int i) = .ok a := by
  have hi := (List.getElem?_eq_some_iff.mp h).1
  have e : ds[i] = a := by rw [List.getElem?_eq_getElem hi] at h; exact Option.some.inj h
  simp [dIx, L2.atI, L2.ixN, hi, e]
theorem len_ints (ss : List Int) : bLen [intsD ss] = .ok (.int ss.length) := by unfold intsD; simp [bLen]
theorem mem_rng {n : Nat} {d : D} (h : d ∈ rngD 0 1 n) : ∃ k : Nat, k < n ∧ d = .int k := by
  unfold rngD at h
  obtain ⟨k, h1, h2⟩ := List.mem_map.mp h
  exact ⟨k, List.mem_range.mp h1, by rw [← h2]; congr 1; omega⟩
theorem rng_eq (n : Nat) : rngD 0 1 n = (List.range n).map fun k => D.int (k : Nat) := by
  unfold rngD
  apply List.map_congr_left
  intro k _
  congr 1
  omega
theorem ne_lit {x : Str} (h : x.cps.all (· < 0x110000) = true) : dNe (.str x) (.str x) = .ok (.bl false) := by
  have e : (x == x) = true := beq_self_eq_true x
  unfold dNe D.ok
  simp only [D.lay, D.dep, D.eqv, h, e, Nat.zero_le, decide_true, Bool.and_self, if_true, Bool.not_true]
theorem ne_self {d : D} (h : d.ok = true) (e : D.eqv d d = true) : dNe d d = .ok (.bl false) := by
  unfold dNe
  simp only [h, e, Bool.and_self, if_true, Bool.not_true]
theorem eq_self {d : D} (h : d.ok = true) (e : D.eqv d d = true) : dEq d d = .ok (.bl true) := by
  unfold dEq
  simp only [h, e, Bool.and_self, if_true]
theorem okS {x : Str} (h : x.cps.all (· < 0x110000) = true) : (D.str x).ok = true ∧ (D.str x).lay = true ∧ (D.str x).dep = 0 ∧ D.eqv (.str x) (.str x) = true := by
  refine ⟨?_, ?_, ?_, ?_⟩
  · unfold D.ok; simp only [D.lay, D.dep, h, Nat.zero_le, decide_true, Bool.and_self]
  · simp only [D.lay, h]
  · simp only [D.dep]
  · simp only [D.eqv]; exact beq_self_eq_true x
theorem rep_lay {x : Str} (h : x.cps.all (· < 0x110000) = true) : ∀ n : Nat, D.lays (List.replicate n (.str x)) = true ∧ D.deps (List.replicate n (.str x)) = 0 ∧ D.eqvs (List.replicate n (.str x)) (List.replicate n (.str x)) = true
  | 0 => by simp [D.lays, D.deps, D.eqvs]
  | n + 1 => by
    obtain ⟨a, b, c⟩ := rep_lay h n
    obtain ⟨_, l, d, e⟩ := okS h
    simp only [List.replicate_succ, D.lays, D.deps, D.eqvs, a, b, c, l, d, e, Bool.and_self, Nat.max_self, and_self]
/-- [x] * n beside itself -/
theorem ne_rep {x : Str} (h : x.cps.all (· < 0x110000) = true) (n : Nat) : dNe (.lst (List.replicate n (.str x))) (.lst (List.replicate n (.str x))) = .ok (.bl false) := by
  obtain ⟨a, b, c⟩ := rep_lay h n
  refine ne_self ?_ ?_
  · unfold D.ok; simp only [D.lay, D.dep, a, b]; rfl
  · simp only [D.eqv, c]
theorem mul_rep (x : D) (n : Nat) (h : n ≤ 1000) : dMul (.lst [x]) (.int n) = .ok (.lst (List.replicate n x)) := by
  have e : repD n [x] = List.replicate n x := by
    unfold repD
    rw [Int.toNat_natCast]
    clear h
    induction n with
    | zero => rfl
    | succ n ih => rw [List.replicate_succ, List.flatten_cons, ih]; rfl
  have h1 : (n : Int) ≤ 16777216 := by omega
  have h2 : (-16777216 : Int) ≤ n := by omega
  have h3 : ([x] : List D).length * (n : Int).toNat ≤ maxSeq := by rw [Int.toNat_natCast]; exact le_maxSeq (by simpa using h)
  simp only [dMul, e, h1, h2, h3, decide_true, Bool.and_self, if_true]
theorem stp {s rest : Sv} {env e' : En} (h : s env = .ok (.nx, e')) : bSeq s rest env = rest e' := by unfold bSeq; rw [h]; rfl
theorem stpk {s rest : Sv} {env e' : En} {R : M (Fl × En)} (h : s env = .ok (.nx, e')) (k : rest e' = R) : bSeq s rest env = R := by rw [stp h]; exact k
theorem stpw {s rest : Sv} {env e' : En} {Q : Fl × En → Prop} (h : s env = .ok (.nx, e')) (k : wm (rest e') Q) : wm (bSeq s rest env) Q := by rw [stp h]; exact k
theorem sIf_f {t : Tv} {x y : Sv} {env e' : En} (h : t env = .ok (false, e')) : sIf t x y env = y e' := by unfold sIf; rw [h]; rfl
theorem sIf_t {t : Tv} {x y : Sv} {env e' : En} (h : t env = .ok (true, e')) : sIf t x y env = x e' := by unfold sIf; rw [h]; rfl
theorem sSet_ok {i : Nat} {m : Ev} {env e' : En} {d : D} (h : m env = .ok (d, e')) : sSet (i + 1) m env = .ok (.nx, e'.set (i + 1) (.va d)) := by unfold sSet; rw [h]; rfl
theorem bInt_bl (b : Bool) : bInt [.bl b] = .ok (.int (if b = true then 1 else 0)) := by cases b <;> rfl
/-- a loop that goes on to its end -/
theorem forL_nx {mt : Gv} {mb : Sv} (I : En → Prop) : ∀ (ds : List D) (env : En), (∀ d, d ∈ ds → ∀ e, I e → ∃ e1 e2, mt d e = .ok e1 ∧ mb e1 = .ok (.nx, e2) ∧ I e2) → I env → ∃ e', forL mt mb ds env = .ok (.nx, e') ∧ I e'
  | [], env, _, h => ⟨env, rfl, h⟩
  | d :: r, env, hs, h => by
    obtain ⟨e1, e2, q1, q2, q3⟩ := hs d List.mem_cons_self env h
    obtain ⟨e', q4, q5⟩ := forL_nx I r e2 (fun d' hd => hs d' (List.mem_cons_of_mem _ hd)) q3
    refine ⟨e', ?_, q5⟩
    unfold forL
    rw [q1, ns_ok, bnd_ok, q2, bnd_ok]
    exact q4
/-- a comprehension whose parts may change the slots -/
theorem lcL_inv {mt : Gv} {te : Ev} {vs : List Nat} (I : En → Prop) (P : D → Prop) : ∀ (ds : List D) (env : En), (∀ d, d ∈ ds → ∀ e, I e → ∃ e1 e2 r, mt d e = .ok e1 ∧ te e1 = .ok (r, e2) ∧ P r ∧ I (wipeE e2 vs)) → I env → ∃ rs e', lcL mt dYes te vs ds env = .ok (rs, e') ∧ rs.length = ds.length ∧ (∀ r, r ∈ rs → P r) ∧ I e'
  | [], env, _, h => ⟨[], env, rfl, rfl, (fun _ z => by cases z), h⟩
  | d :: r, env, hs, h => by
    obtain ⟨e1, e2, x, q1, q2, q3, q4⟩ := hs d List.mem_cons_self env h
    obtain ⟨rs, e', q5, q6, q7, q8⟩ := lcL_inv I P r (wipeE e2 vs) (fun d' hd => hs d' (List.mem_cons_of_mem _ hd)) q4
    refine ⟨x :: rs, e', ?_, by simp [q6], ?_, q8⟩
    · unfold lcL
      rw [q1, bnd_ok]
      simp only [dYes, bnd_ok, if_true, q2]
      rw [q5]
      rfl
    · intro y hy
      rcases List.mem_cons.mp hy with rfl | hy
      · exact q3
      · exact q7 y hy
theorem ints_of {rs : List D} {P : Int → Prop} (h : ∀ r, r ∈ rs → ∃ i, r = .int i ∧ P i) : ∃ ss : List Int, rs = ss.map D.int ∧ ∀ s, s ∈ ss → P s := by
  induction rs with
  | nil => exact ⟨[], rfl, (fun _ z => by cases z)⟩
  | cons r rs ih =>
    obtain ⟨ss, e, hs⟩ := ih fun x hx => h x (List.mem_cons_of_mem _ hx)
    obtain ⟨i, rfl, hi⟩ := h r List.mem_cons_self
    refine ⟨i :: ss, by rw [e]; rfl, fun s z => ?_⟩
    rcases List.mem_cons.mp z with rfl | z
    · exact hi
    · exact hs s z
end LW
end Dn

/-! L10 -/
set_option Elab.async false
set_option linter.all false
set_option maxRecDepth 100000
set_option maxHeartbeats 4000000
namespace Dn
namespace LW
open PySem PySem.Spec L2
open PyProof.Rows hiding St
abbrev PP : Program := PySem.Challenge.pw_doneorundone_k10_papers_and_arguments_of
def top (i : Nat) : Stmt := PP.main.body.getD i (.Pass ⟨0, 0, 0, 0⟩)
theorem dbg_MAX_MOVES : (("MAX_MOVES" : Str) == ("__debug__" : Str)) = false := by decide +kernel
theorem cld_MAX_MOVES : (("MAX_MOVES" : Str) == ("__classdict__" : Str)) = false := by decide +kernel
theorem dbg_MAX_PLACES : (("MAX_PLACES" : Str) == ("__debug__" : Str)) = false := by decide +kernel
theorem cld_MAX_PLACES : (("MAX_PLACES" : Str) == ("__classdict__" : Str)) = false := by decide +kernel
theorem dbg_MAX_SIZE : (("MAX_SIZE" : Str) == ("__debug__" : Str)) = false := by decide +kernel
theorem cld_MAX_SIZE : (("MAX_SIZE" : Str) == ("__classdict__" : Str)) = false := by decide +kernel
theorem dbg__law_apart_due : (("_law_apart_due" : Str) == ("__debug__" : Str)) = false := by decide +kernel
theorem cld__law_apart_due : (("_law_apart_due" : Str) == ("__classdict__" : Str)) = false := by decide +kernel
theorem dbg__law_bent : (("_law_bent" : Str) == ("__debug__" : Str)) = false := by decide +kernel
theorem cld__law_bent : (("_law_bent" : Str) == ("__classdict__" : Str)) = false := by decide +kernel
theorem dbg__law_bound_due : (("_law_bound_due" : Str) == ("__debug__" : Str)) = false := by decide +kernel
theorem cld__law_bound_due : (("_law_bound_due" : Str) == ("__classdict__" : Str)) = false := by decide +kernel
theorem dbg__law_called : (("_law_called" : Str) == ("__debug__" : Str)) = false := by decide +kernel
theorem cld__law_called : (("_law_called" : Str) == ("__classdict__" : Str)) = false := by decide +kernel
theorem dbg__law_counts_due : (("_law_counts_due" : Str) == ("__debug__" : Str)) = false := by decide +kernel
theorem cld__law_counts_due : (("_law_counts_due" : Str) == ("__classdict__" : Str)) = false := by decide +kernel
theorem dbg__law_draw : (("_law_draw" : Str) == ("__debug__" : Str)) = false := by decide +kernel
theorem cld__law_draw : (("_law_draw" : Str) == ("__classdict__" : Str)) = false := by decide +kernel
theorem dbg__law_heard : (("_law_heard" : Str) == ("__debug__" : Str)) = false := by decide +kernel
theorem cld__law_heard : (("_law_heard" : Str) == ("__classdict__" : Str)) = false := by decide +kernel
theorem dbg__law_less_hold : (("_law_less_hold" : Str) == ("__debug__" : Str)) = false := by decide +kernel
theorem cld__law_less_hold : (("_law_less_hold" : Str) == ("__classdict__" : Str)) = false := by decide +kernel
theorem dbg__law_papers_hold : (("_law_papers_hold" : Str) == ("__debug__" : Str)) = false := by decide +kernel
theorem cld__law_papers_hold : (("_law_papers_hold" : Str) == ("__classdict__" : Str)) = false := by decide +kernel
theorem dbg__law_pick : (("_law_pick" : Str) == ("__debug__" : Str)) = false := by decide +kernel
theorem cld__law_pick : (("_law_pick" : Str) == ("__classdict__" : Str)) = false := by decide +kernel
theorem dbg__law_row : (("_law_row" : Str) == ("__debug__" : Str)) = false := by decide +kernel
theorem cld__law_row : (("_law_row" : Str) == ("__classdict__" : Str)) = false := by decide +kernel
theorem dbg__law_start : (("_law_start" : Str) == ("__debug__" : Str)) = false := by decide +kernel
theorem cld__law_start : (("_law_start" : Str) == ("__classdict__" : Str)) = false := by decide +kernel
theorem dbg__law_sum : (("_law_sum" : Str) == ("__debug__" : Str)) = false := by decide +kernel
theorem cld__law_sum : (("_law_sum" : Str) == ("__classdict__" : Str)) = false := by decide +kernel
theorem dbg__law_whole : (("_law_whole" : Str) == ("__debug__" : Str)) = false := by decide +kernel
theorem cld__law_whole : (("_law_whole" : Str) == ("__classdict__" : Str)) = false := by decide +kernel
theorem dbg__law_word : (("_law_word" : Str) == ("__debug__" : Str)) = false := by decide +kernel
theorem cld__law_word : (("_law_word" : Str) == ("__classdict__" : Str)) = false := by decide +kernel
theorem dbg_abs : (("abs" : Str) == ("__debug__" : Str)) = false := by decide +kernel
theorem cld_abs : (("abs" : Str) == ("__classdict__" : Str)) = false := by decide +kernel
theorem dbg_accept_apart : (("accept_apart" : Str) == ("__debug__" : Str)) = false := by decide +kernel
theorem cld_accept_apart : (("accept_apart" : Str) == ("__classdict__" : Str)) = false := by decide +kernel
theorem dbg_accept_bound : (("accept_bound" : Str) == ("__debug__" : Str)) = false := by decide +kernel
theorem cld_accept_bound : (("accept_bound" : Str) == ("__classdict__" : Str)) = false := by decide +kernel
theorem dbg_accept_counts : (("accept_counts" : Str) == ("__debug__" : Str)) = false := by decide +kernel
theorem cld_accept_counts : (("accept_counts" : Str) == ("__classdict__" : Str)) = false := by decide +kernel
theorem dbg_all : (("all" : Str) == ("__debug__" : Str)) = false := by decide +kernel
theorem cld_all : (("all" : Str) == ("__classdict__" : Str)) = false := by decide +kernel
theorem dbg_any : (("any" : Str) == ("__debug__" : Str)) = false := by decide +kernel
theorem cld_any : (("any" : Str) == ("__classdict__" : Str)) = false := by decide +kernel
theorem dbg_at : (("at" : Str) == ("__debug__" : Str)) = false := by decide +kernel
theorem cld_at : (("at" : Str) == ("__classdict__" : Str)) = false := by decide +kernel
theorem dbg_bad : (("bad" : Str) == ("__debug__" : Str)) = false := by decide +kernel
theorem cld_bad : (("bad" : Str) == ("__classdict__" : Str)) = false := by decide +kernel
theorem dbg_bound : (("bound" : Str) == ("__debug__" : Str)) = false := by decide +kernel
theorem cld_bound : (("bound" : Str) == ("__classdict__" : Str)) = false := by decide +kernel
theorem dbg_bounds : (("bounds" : Str) == ("__debug__" : Str)) = false := by decide +kernel
theorem cld_bounds : (("bounds" : Str) == ("__classdict__" : Str)) = false := by decide +kernel
theorem dbg_bounds_by : (("bounds_by" : Str) == ("__debug__" : Str)) = false := by decide +kernel
theorem cld_bounds_by : (("bounds_by" : Str) == ("__classdict__" : Str)) = false := by decide +kernel
theorem dbg_call : (("call" : Str) == ("__debug__" : Str)) = false := by decide +kernel
theorem cld_call : (("call" : Str) == ("__classdict__" : Str)) = false := by decide +kernel
theorem dbg_cell : (("cell" : Str) == ("__debug__" : Str)) = false := by decide +kernel
theorem cld_cell : (("cell" : Str) == ("__classdict__" : Str)) = false := by decide +kernel
theorem dbg_changes : (("changes" : Str) == ("__debug__" : Str)) = false := by decide +kernel
theorem cld_changes : (("changes" : Str) == ("__classdict__" : Str)) = false := by decide +kernel
theorem dbg_check_changes : (("check_changes" : Str) == ("__debug__" : Str)) = false := by decide +kernel
theorem cld_check_changes : (("check_changes" : Str) == ("__classdict__" : Str)) = false := by decide +kernel
theorem dbg_check_mark : (("check_mark" : Str) == ("__debug__" : Str)) = false := by decide +kernel
theorem cld_check_mark : (("check_mark" : Str) == ("__classdict__" : Str)) = false := by decide +kernel
theorem dbg_check_second : (("check_second" : Str) == ("__debug__" : Str)) = false := by decide +kernel
theorem cld_check_second : (("check_second" : Str) == ("__classdict__" : Str)) = false := by decide +kernel
theorem dbg_check_weights : (("check_weights" : Str) == ("__debug__" : Str)) = false := by decide +kernel
theorem cld_check_weights : (("check_weights" : Str) == ("__classdict__" : Str)) = false := by decide +kernel
theorem dbg_common_divisor : (("common_divisor" : Str) == ("__debug__" : Str)) = false := by decide +kernel
theorem cld_common_divisor : (("common_divisor" : Str) == ("__classdict__" : Str)) = false := by decide +kernel
theorem dbg_counts : (("counts" : Str) == ("__debug__" : Str)) = false := by decide +kernel
theorem cld_counts : (("counts" : Str) == ("__classdict__" : Str)) = false := by decide +kernel
theorem dbg_double : (("double" : Str) == ("__debug__" : Str)) = false := by decide +kernel
theorem cld_double : (("double" : Str) == ("__classdict__" : Str)) = false := by decide +kernel
theorem dbg_enumerate : (("enumerate" : Str) == ("__debug__" : Str)) = false := by decide +kernel
theorem cld_enumerate : (("enumerate" : Str) == ("__classdict__" : Str)) = false := by decide +kernel
theorem dbg_error : (("error" : Str) == ("__debug__" : Str)) = false := by decide +kernel
theorem cld_error : (("error" : Str) == ("__classdict__" : Str)) = false := by decide +kernel
theorem dbg_found : (("found" : Str) == ("__debug__" : Str)) = false := by decide +kernel
theorem cld_found : (("found" : Str) == ("__classdict__" : Str)) = false := by decide +kernel
theorem dbg_goal : (("goal" : Str) == ("__debug__" : Str)) = false := by decide +kernel
theorem cld_goal : (("goal" : Str) == ("__classdict__" : Str)) = false := by decide +kernel
theorem dbg_heads : (("heads" : Str) == ("__debug__" : Str)) = false := by decide +kernel
theorem cld_heads : (("heads" : Str) == ("__classdict__" : Str)) = false := by decide +kernel
theorem dbg_high : (("high" : Str) == ("__debug__" : Str)) = false := by decide +kernel
theorem cld_high : (("high" : Str) == ("__classdict__" : Str)) = false := by decide +kernel
theorem dbg_how : (("how" : Str) == ("__debug__" : Str)) = false := by decide +kernel
theorem cld_how : (("how" : Str) == ("__classdict__" : Str)) = false := by decide +kernel
theorem dbg_int : (("int" : Str) == ("__debug__" : Str)) = false := by decide +kernel
theorem cld_int : (("int" : Str) == ("__classdict__" : Str)) = false := by decide +kernel
theorem dbg_is_between : (("is_between" : Str) == ("__debug__" : Str)) = false := by decide +kernel
theorem cld_is_between : (("is_between" : Str) == ("__classdict__" : Str)) = false := by decide +kernel
theorem dbg_is_integer : (("is_integer" : Str) == ("__debug__" : Str)) = false := by decide +kernel
theorem cld_is_integer : (("is_integer" : Str) == ("__classdict__" : Str)) = false := by decide +kernel
theorem dbg_is_integers : (("is_integers" : Str) == ("__debug__" : Str)) = false := by decide +kernel
theorem cld_is_integers : (("is_integers" : Str) == ("__classdict__" : Str)) = false := by decide +kernel
theorem dbg_is_weights : (("is_weights" : Str) == ("__debug__" : Str)) = false := by decide +kernel
theorem cld_is_weights : (("is_weights" : Str) == ("__classdict__" : Str)) = false := by decide +kernel
theorem dbg_isinstance : (("isinstance" : Str) == ("__debug__" : Str)) = false := by decide +kernel
theorem cld_isinstance : (("isinstance" : Str) == ("__classdict__" : Str)) = false := by decide +kernel
theorem dbg_judge_between : (("judge_between" : Str) == ("__debug__" : Str)) = false := by decide +kernel
theorem cld_judge_between : (("judge_between" : Str) == ("__classdict__" : Str)) = false := by decide +kernel
theorem dbg_judge_kept : (("judge_kept" : Str) == ("__debug__" : Str)) = false := by decide +kernel
theorem cld_judge_kept : (("judge_kept" : Str) == ("__classdict__" : Str)) = false := by decide +kernel
theorem dbg_k : (("k" : Str) == ("__debug__" : Str)) = false := by decide +kernel
theorem cld_k : (("k" : Str) == ("__classdict__" : Str)) = false := by decide +kernel
theorem dbg_kept_in : (("kept_in" : Str) == ("__debug__" : Str)) = false := by decide +kernel
theorem cld_kept_in : (("kept_in" : Str) == ("__classdict__" : Str)) = false := by decide +kernel
theorem dbg_kept_weights : (("kept_weights" : Str) == ("__debug__" : Str)) = false := by decide +kernel
theorem cld_kept_weights : (("kept_weights" : Str) == ("__classdict__" : Str)) = false := by decide +kernel
theorem dbg_known : (("known" : Str) == ("__debug__" : Str)) = false := by decide +kernel
theorem cld_known : (("known" : Str) == ("__classdict__" : Str)) = false := by decide +kernel
theorem dbg_law : (("law" : Str) == ("__debug__" : Str)) = false := by decide +kernel
theorem cld_law : (("law" : Str) == ("__classdict__" : Str)) = false := by decide +kernel
theorem dbg_least_keeps : (("least_keeps" : Str) == ("__debug__" : Str)) = false := by decide +kernel
theorem cld_least_keeps : (("least_keeps" : Str) == ("__classdict__" : Str)) = false := by decide +kernel
theorem dbg_led : (("led" : Str) == ("__debug__" : Str)) = false := by decide +kernel
theorem cld_led : (("led" : Str) == ("__classdict__" : Str)) = false := by decide +kernel
theorem dbg_len : (("len" : Str) == ("__debug__" : Str)) = false := by decide +kernel
theorem cld_len : (("len" : Str) == ("__classdict__" : Str)) = false := by decide +kernel
theorem dbg_list : (("list" : Str) == ("__debug__" : Str)) = false := by decide +kernel
theorem cld_list : (("list" : Str) == ("__classdict__" : Str)) = false := by decide +kernel
theorem dbg_low : (("low" : Str) == ("__debug__" : Str)) = false := by decide +kernel
theorem cld_low : (("low" : Str) == ("__classdict__" : Str)) = false := by decide +kernel
theorem dbg_many : (("many" : Str) == ("__debug__" : Str)) = false := by decide +kernel
theorem cld_many : (("many" : Str) == ("__classdict__" : Str)) = false := by decide +kernel
theorem dbg_mark : (("mark" : Str) == ("__debug__" : Str)) = false := by decide +kernel
theorem cld_mark : (("mark" : Str) == ("__classdict__" : Str)) = false := by decide +kernel
theorem dbg_max : (("max" : Str) == ("__debug__" : Str)) = false := by decide +kernel
theorem cld_max : (("max" : Str) == ("__classdict__" : Str)) = false := by decide +kernel
theorem dbg_min : (("min" : Str) == ("__debug__" : Str)) = false := by decide +kernel
theorem cld_min : (("min" : Str) == ("__classdict__" : Str)) = false := by decide +kernel
theorem dbg_most : (("most" : Str) == ("__debug__" : Str)) = false := by decide +kernel
theorem cld_most : (("most" : Str) == ("__classdict__" : Str)) = false := by decide +kernel
theorem dbg_move : (("move" : Str) == ("__debug__" : Str)) = false := by decide +kernel
theorem cld_move : (("move" : Str) == ("__classdict__" : Str)) = false := by decide +kernel
theorem dbg_number : (("number" : Str) == ("__debug__" : Str)) = false := by decide +kernel
theorem cld_number : (("number" : Str) == ("__classdict__" : Str)) = false := by decide +kernel
theorem dbg_one : (("one" : Str) == ("__debug__" : Str)) = false := by decide +kernel
theorem cld_one : (("one" : Str) == ("__classdict__" : Str)) = false := by decide +kernel
theorem dbg_other : (("other" : Str) == ("__debug__" : Str)) = false := by decide +kernel
theorem cld_other : (("other" : Str) == ("__classdict__" : Str)) = false := by decide +kernel
theorem dbg_own : (("own" : Str) == ("__debug__" : Str)) = false := by decide +kernel
theorem cld_own : (("own" : Str) == ("__classdict__" : Str)) = false := by decide +kernel
theorem dbg_part : (("part" : Str) == ("__debug__" : Str)) = false := by decide +kernel
theorem cld_part : (("part" : Str) == ("__classdict__" : Str)) = false := by decide +kernel
theorem dbg_place : (("place" : Str) == ("__debug__" : Str)) = false := by decide +kernel
theorem cld_place : (("place" : Str) == ("__classdict__" : Str)) = false := by decide +kernel
theorem dbg_places : (("places" : Str) == ("__debug__" : Str)) = false := by decide +kernel
theorem cld_places : (("places" : Str) == ("__classdict__" : Str)) = false := by decide +kernel
theorem dbg_positive_at : (("positive_at" : Str) == ("__debug__" : Str)) = false := by decide +kernel
theorem cld_positive_at : (("positive_at" : Str) == ("__classdict__" : Str)) = false := by decide +kernel
theorem dbg_range : (("range" : Str) == ("__debug__" : Str)) = false := by decide +kernel
theorem cld_range : (("range" : Str) == ("__classdict__" : Str)) = false := by decide +kernel
theorem dbg_reduced : (("reduced" : Str) == ("__debug__" : Str)) = false := by decide +kernel
theorem cld_reduced : (("reduced" : Str) == ("__classdict__" : Str)) = false := by decide +kernel
theorem dbg_right : (("right" : Str) == ("__debug__" : Str)) = false := by decide +kernel
theorem cld_right : (("right" : Str) == ("__classdict__" : Str)) = false := by decide +kernel
theorem dbg_rising_sets : (("rising_sets" : Str) == ("__debug__" : Str)) = false := by decide +kernel
theorem cld_rising_sets : (("rising_sets" : Str) == ("__classdict__" : Str)) = false := by decide +kernel
theorem dbg_row : (("row" : Str) == ("__debug__" : Str)) = false := by decide +kernel
theorem cld_row : (("row" : Str) == ("__classdict__" : Str)) = false := by decide +kernel
theorem dbg_rows : (("rows" : Str) == ("__debug__" : Str)) = false := by decide +kernel
theorem cld_rows : (("rows" : Str) == ("__classdict__" : Str)) = false := by decide +kernel
theorem dbg_script : (("script" : Str) == ("__debug__" : Str)) = false := by decide +kernel
theorem cld_script : (("script" : Str) == ("__classdict__" : Str)) = false := by decide +kernel
theorem dbg_seed : (("seed" : Str) == ("__debug__" : Str)) = false := by decide +kernel
theorem cld_seed : (("seed" : Str) == ("__classdict__" : Str)) = false := by decide +kernel
theorem dbg_sizes : (("sizes" : Str) == ("__debug__" : Str)) = false := by decide +kernel
theorem cld_sizes : (("sizes" : Str) == ("__classdict__" : Str)) = false := by decide +kernel
theorem dbg_some : (("some" : Str) == ("__debug__" : Str)) = false := by decide +kernel
theorem cld_some : (("some" : Str) == ("__classdict__" : Str)) = false := by decide +kernel
theorem dbg_sorted : (("sorted" : Str) == ("__debug__" : Str)) = false := by decide +kernel
theorem cld_sorted : (("sorted" : Str) == ("__classdict__" : Str)) = false := by decide +kernel
theorem dbg_spare : (("spare" : Str) == ("__debug__" : Str)) = false := by decide +kernel
theorem cld_spare : (("spare" : Str) == ("__classdict__" : Str)) = false := by decide +kernel
theorem dbg_state : (("state" : Str) == ("__debug__" : Str)) = false := by decide +kernel
theorem cld_state : (("state" : Str) == ("__classdict__" : Str)) = false := by decide +kernel
theorem dbg_str : (("str" : Str) == ("__debug__" : Str)) = false := by decide +kernel
theorem cld_str : (("str" : Str) == ("__classdict__" : Str)) = false := by decide +kernel
theorem dbg_sum : (("sum" : Str) == ("__debug__" : Str)) = false := by decide +kernel
theorem cld_sum : (("sum" : Str) == ("__classdict__" : Str)) = false := by decide +kernel
theorem dbg_table : (("table" : Str) == ("__debug__" : Str)) = false := by decide +kernel
theorem cld_table : (("table" : Str) == ("__classdict__" : Str)) = false := by decide +kernel
theorem dbg_times : (("times" : Str) == ("__debug__" : Str)) = false := by decide +kernel
theorem cld_times : (("times" : Str) == ("__classdict__" : Str)) = false := by decide +kernel
theorem dbg_told : (("told" : Str) == ("__debug__" : Str)) = false := by decide +kernel
theorem cld_told : (("told" : Str) == ("__classdict__" : Str)) = false := by decide +kernel
theorem dbg_tuple : (("tuple" : Str) == ("__debug__" : Str)) = false := by decide +kernel
theorem cld_tuple : (("tuple" : Str) == ("__classdict__" : Str)) = false := by decide +kernel
theorem dbg_turn : (("turn" : Str) == ("__debug__" : Str)) = false := by decide +kernel
theorem cld_turn : (("turn" : Str) == ("__classdict__" : Str)) = false := by decide +kernel
theorem dbg_unit : (("unit" : Str) == ("__debug__" : Str)) = false := by decide +kernel
theorem cld_unit : (("unit" : Str) == ("__classdict__" : Str)) = false := by decide +kernel
theorem dbg_value : (("value" : Str) == ("__debug__" : Str)) = false := by decide +kernel
theorem cld_value : (("value" : Str) == ("__classdict__" : Str)) = false := by decide +kernel
theorem dbg_way : (("way" : Str) == ("__debug__" : Str)) = false := by decide +kernel
theorem cld_way : (("way" : Str) == ("__classdict__" : Str)) = false := by decide +kernel
theorem dbg_weighed : (("weighed" : Str) == ("__debug__" : Str)) = false := by decide +kernel
theorem cld_weighed : (("weighed" : Str) == ("__classdict__" : Str)) = false := by decide +kernel
theorem dbg_weights : (("weights" : Str) == ("__debug__" : Str)) = false := by decide +kernel
theorem cld_weights : (("weights" : Str) == ("__classdict__" : Str)) = false := by decide +kernel
theorem dbg_without_divisor : (("without_divisor" : Str) == ("__debug__" : Str)) = false := by decide +kernel
theorem cld_without_divisor : (("without_divisor" : Str) == ("__classdict__" : Str)) = false := by decide +kernel
theorem dbg_wrong : (("wrong" : Str) == ("__debug__" : Str)) = false := by decide +kernel
theorem cld_wrong : (("wrong" : Str) == ("__classdict__" : Str)) = false := by decide +kernel
theorem dbg_zip : (("zip" : Str) == ("__debug__" : Str)) = false := by decide +kernel
theorem cld_zip : (("zip" : Str) == ("__classdict__" : Str)) = false := by decide +kernel
def wposL : List Pos := [⟨207, 4, 207, 9⟩, ⟨207, 13, 207, 20⟩, ⟨207, 22, 207, 33⟩, ⟨207, 35, 207, 43⟩, ⟨207, 45, 207, 52⟩, ⟨207, 12, 207, 53⟩, ⟨207, 4, 207, 53⟩, ⟨208, 4, 208, 9⟩, ⟨208, 13, 208, 23⟩, ⟨208, 24, 208, 29⟩, ⟨208, 31, 208, 40⟩, ⟨208, 13, 208, 41⟩, ⟨208, 43, 208, 53⟩, ⟨208, 54, 208, 59⟩, ⟨208, 61, 208, 74⟩, ⟨208, 43, 208, 75⟩, ⟨208, 77, 208, 87⟩, ⟨208, 88, 208, 93⟩, ⟨208, 95, 208, 105⟩, ⟨208, 77, 208, 106⟩, ⟨208, 108, 208, 118⟩, ⟨208, 119, 208, 124⟩, ⟨208, 126, 208, 133⟩, ⟨208, 108, 208, 134⟩, ⟨208, 12, 208, 135⟩, ⟨208, 4, 208, 135⟩, ⟨209, 54, 209, 59⟩, ⟨209, 54, 209, 65⟩, ⟨209, 66, 209, 70⟩, ⟨209, 54, 209, 71⟩, ⟨209, 75, 209, 76⟩, ⟨209, 54, 209, 76⟩, ⟨209, 81, 209, 91⟩, ⟨209, 92, 209, 97⟩, ⟨209, 99, 209, 109⟩, ⟨209, 81, 209, 110⟩, ⟨209, 54, 209, 110⟩, ⟨209, 11, 209, 16⟩, ⟨209, 17, 209, 22⟩, ⟨209, 17, 209, 28⟩, ⟨209, 29, 209, 33⟩, ⟨209, 17, 209, 34⟩, ⟨209, 11, 209, 35⟩, ⟨209, 38, 209, 43⟩, ⟨209, 38, 209, 50⟩, ⟨209, 11, 209, 50⟩, ⟨209, 116, 209, 123⟩, ⟨209, 11, 209, 123⟩, ⟨209, 4, 209, 123⟩]
def wpos (i : Nat) : Pos := wposL.getD i ⟨0, 0, 0, 0⟩
theorem mgn {nn bk : Bool} {X : Cx} {W : WX} {P : Program} {w : World} {K : PySem.W.Frag} {mg : Str → Option Value} {base : Heap} {N : List Str} {sc : Scope} {k : Nat} {x : Str} (C : Cok nn X W P w K mg base N sc k bk) (h : mg x = none) : X.mg x = none := by rw [C.em]; exact h
-- _law_start: script, seed, cell
abbrev N__law_start : List Str := ["script", "seed", "cell"]
def b__law_start : Sv := bSeq (sSet 1 (dC (.int 7)))
  (bSeq (sFor (dItems (dVar 0)) (gSet 2) (sSet 1 (dBin dAdd (dBin dMod (dCall bInt (dCons (dBin dAdd (dBin dMul (dVar 1) (dC (.int 48271))) (dVar 2)) (dNil))) (dC (.int 2147483629))) (dC (.int 1)))))
  (sRetF (dLst (dCons (dCall bList (dCons (dVar 0) (dNil))) (dCons (dC (.int 0)) (dCons (dC (.int 0)) (dCons (dVar 1) (dNil))))))))
def m__law_start : List D → M D := fun ds => finF (b__law_start (enter 3 ds))
-- _law_draw: state, many, value
abbrev N__law_draw : List Str := ["state", "many", "value"]
def b__law_draw : Sv := bSeq (sIf (dTAnd (dTb (dBin dEq (dBin dIx (dVarO 0) (dC (.int 1))) (dC (.int 0)))) (dTb (dBin dGe (dBin dIx (dVarO 0) (dC (.int 2))) (dCall bLen (dCons (dBin dIx (dVarO 0) (dC (.int 0))) (dNil)))))) (bSeq (sSub 0 (dC (.int 3)) (dBin dMod (dCall bInt (dCons (dBin dAdd (dBin dMul (dBin dIx (dVarO 0) (dC (.int 3))) (dC (.int 48271))) (dC (.int 69621))) (dNil))) (dC (.int 2147483629))))
  (sRet (dBin dMod (dCall bInt (dCons (dBin dFdiv (dBin dIx (dVarO 0) (dC (.int 3))) (dC (.int 13))) (dNil))) (dVar 1)))) (bNil))
  (bSeq (sIf (dTb (dBin dEq (dBin dIx (dVarO 0) (dC (.int 1))) (dC (.int 0)))) (bSeq (sSub 0 (dC (.int 1)) (dCall bAbs (dCons (dBin dIx (dBin dIx (dVarO 0) (dC (.int 0))) (dBin dIx (dVarO 0) (dC (.int 2)))) (dNil))))
  (sSub 0 (dC (.int 2)) (dBin dAdd (dBin dIx (dVarO 0) (dC (.int 2))) (dC (.int 1))))) (bNil))
  (bSeq (sSet 2 (dBin dMod (dCall bInt (dCons (dBin dIx (dVarO 0) (dC (.int 1))) (dNil))) (dVar 1)))
  (bSeq (sSub 0 (dC (.int 1)) (dBin dFdiv (dBin dIx (dVarO 0) (dC (.int 1))) (dVar 1)))
  (sRet (dVar 2)))))
def m__law_draw : D → List D → M (D × D) := fun s ds => finO (b__law_draw (enterO 3 s ds))
-- _law_pick: state, some
abbrev N__law_pick : List Str := ["state", "some"]
def b__law_pick : Sv := sRet (dBin dIx (dVar 1) (dCallO m__law_draw 0 (dCons (dCall bLen (dCons (dVar 1) (dNil))) (dNil))))
def m__law_pick : D → List D → M (D × D) := fun s ds => finO (b__law_pick (enterO 2 s ds))
-- _law_sum: weights, row, k
abbrev N__law_sum : List Str := ["weights", "row", "k"]
def b__law_sum : Sv := sRet (dCall bSum (dCons (dLc (dRng (dCons (dCall bLen (dCons (dVar 1) (dNil))) (dNil))) (gSet 2) (dYes) (dBin dMul (dBin dIx (dVar 0) (dVar 2)) (dBin dIx (dVar 1) (dVar 2))) [2]) (dNil)))
def m__law_sum : List D → M D := fun ds => fin (b__law_sum (enter 3 ds))
-- _law_bent: state, value, part, at, how
abbrev N__law_bent : List Str := ["state", "value", "part", "at", "how"]
def b__law_bent : Sv := bSeq (sIf (dTOr (dTNot (dTr (dIsi "tuple" (dVar 1)))) (dTNot (dTr (dVar 1)))) (sNever) (bNil))
  (bSeq (sPar 3 4 (dCons (dCallO m__law_draw 0 (dCons (dCall bLen (dCons (dVar 1) (dNil))) (dNil))) (dCons (dCallO m__law_draw 0 (dCons (dC (.int 7)) (dNil))) (dNil))))
  (bSeq (sSet 2 (dBin dIx (dVar 1) (dVar 3)))
  (bSeq (sIf (dTAnd (dTb (dBin dLt (dVar 4) (dC (.int 4)))) (dTr (dIsi "tuple" (dVar 2)))) (sNever) (bNil))
  (bSeq (sIf (dTAnd (dTb (dBin dLt (dVar 4) (dC (.int 4)))) (dTr (dIsi "int" (dVar 2)))) (sRet (dBin dAdd (dBin dAdd (dSlice (dVar 1) (dONone) (dOSome (dVar 3))) (dTup (dCons (dCallO m__law_pick 0 (dCons (dLst (dCons (dBin dAdd (dVar 2) (dC (.int 1))) (dCons (dBin dSub (dVar 2) (dC (.int 1))) (dCons (dBin dEq (dVar 2) (dC (.int 1))) (dCons (dC .non) (dCons (dBin dAdd (dVar 2) (dC (.int 3))) (dNil))))))) (dNil))) (dNil)))) (dSlice (dVar 1) (dOSome (dBin dAdd (dVar 3) (dC (.int 1)))) (dONone)))) (bNil))
  (bSeq (sIf (dTb (dBin dLt (dVar 4) (dC (.int 4)))) (sNever) (bNil))
  (sRet (dBin dIx (dLst (dCons (dBin dAdd (dSlice (dVar 1) (dONone) (dOSome (dVar 3))) (dSlice (dVar 1) (dOSome (dBin dAdd (dVar 3) (dC (.int 1)))) (dONone))) (dCons (dBin dAdd (dVar 1) (dTup (dCons (dVar 2) (dNil)))) (dCons (dCall bList (dCons (dVar 1) (dNil))) (dNil))))) (dBin dSub (dVar 4) (dC (.int 4))))))))))
def m__law_bent : D → List D → M (D × D) := fun s ds => finO (b__law_bent (enterO 5 s ds))
-- is_integer: value
abbrev N_is_integer : List Str := ["value"]
def b_is_integer : Sv := sRet (dAndV (dIsi "int" (dVar 0)) (dNotV (dIsi "bool" (dVar 0))))
def m_is_integer : List D → M D := fun ds => fin (b_is_integer (enter 1 ds))
-- is_between: value, low, high
abbrev N_is_between : List Str := ["value", "low", "high"]
def b_is_between : Sv := sRet (dAndV (dCall m_is_integer (dCons (dVar 0) (dNil))) (dChain dLe dLe (dVar 1) (dVar 0) (dVar 2)))
def m_is_between : List D → M D := fun ds => fin (b_is_between (enter 3 ds))
-- check_changes: changes, row, own
abbrev N_check_changes : List Str := ["changes", "row", "own"]
def b_check_changes : Sv := bSeq (sIf (dTOr (dTNot (dTr (dIsi "tuple" (dVar 0)))) (dTNot (dTb (dChain dLe dLe (dC (.int 1)) (dCall bLen (dCons (dVar 0) (dNil))) (dC (.int 12)))))) (sRaise 0 (dC (.str "changes"))) (bNil))
  (sFor (dItems (dVar 0)) (gSet 1) (bSeq (sIf (dTOr (dTNot (dTr (dIsi "tuple" (dVar 1)))) (dTOr (dTNot (dTb (dChain dLe dLe (dC (.int 1)) (dCall bLen (dCons (dVar 1) (dNil))) (dC (.int 10))))) (dTb (dBin dNe (dCall bLen (dCons (dVar 1) (dNil))) (dCall bLen (dCons (dBin dIx (dVar 0) (dC (.int 0))) (dNil))))))) (sRaise 0 (dC (.str "changes"))) (bNil))
  (sIf (dTNot (dTr (dCall bAll (dCons (dLc (dItems (dVar 1)) (gSet 2) (dYes) (dCall m_is_between (dCons (dVar 2) (dCons (dNeg (dC (.int 1000000000000))) (dCons (dC (.int 1000000000000)) (dNil))))) [2]) (dNil))))) (sRaise 0 (dC (.str "changes"))) (bNil))))
def m_check_changes : List D → M D := fun ds => fin (b_check_changes (enter 3 ds))
-- check_mark: changes, mark, own
abbrev N_check_mark : List Str := ["changes", "mark", "own"]
def b_check_mark : Sv := bSeq (sIf (dTOr (dTNot (dTr (dIsi "tuple" (dVar 1)))) (dTb (dBin dNe (dCall bLen (dCons (dVar 1) (dNil))) (dCall bLen (dCons (dBin dIx (dVar 0) (dC (.int 0))) (dNil)))))) (sRaise 1 (dC (.str "mark"))) (bNil))
  (sIf (dTNot (dTr (dCall bAll (dCons (dLc (dItems (dVar 1)) (gSet 2) (dYes) (dCall m_is_between (dCons (dVar 2) (dCons (dC (.int 0)) (dCons (dC (.int 1000000000000)) (dNil))))) [2]) (dNil))))) (sRaise 1 (dC (.str "mark"))) (bNil))
def m_check_mark : List D → M D := fun ds => fin (b_check_mark (enter 3 ds))
-- check_second: changes, mark
abbrev N_check_second : List Str := ["changes", "mark"]
def b_check_second : Sv := sReraise (sDrop (dCall m_check_mark (dCons (dVar 0) (dCons (dVar 1) (dNil))))) (fun i => i == 1) 1 "other"
def m_check_second : List D → M D := fun ds => fin (b_check_second (enter 2 ds))
-- is_integers: value, many, own
abbrev N_is_integers : List Str := ["value", "many", "own"]
def b_is_integers : Sv := sRet (dAndV (dIsi "tuple" (dVar 0)) (dAndV (dBin dEq (dCall bLen (dCons (dVar 0) (dNil))) (dVar 1)) (dCall bAll (dCons (dLc (dItems (dVar 0)) (gSet 2) (dYes) (dCall m_is_integer (dCons (dVar 2) (dNil))) [2]) (dNil)))))
def m_is_integers : List D → M D := fun ds => fin (b_is_integers (enter 3 ds))
-- weighed: weights, row, own, part
abbrev N_weighed : List Str := ["weights", "row", "own", "part"]
def b_weighed : Sv := sRet (dCall bSum (dCons (dLc (dZipB (dCons (dVar 0) (dCons (dVar 1) (dNil)))) (gTupD (lenOf 2 (gsCons (gSet 2) (gsCons (gSet 3) (gsNil))))) (dYes) (dBin dMul (dVar 2) (dVar 3)) [2, 3]) (dNil)))
def m_weighed : List D → M D := fun ds => fin (b_weighed (enter 4 ds))
-- accept_counts: changes, one, other, counts, times, place, row
abbrev N_accept_counts : List Str := ["changes", "one", "other", "counts", "times", "place", "row"]
def b_accept_counts : Sv := bSeq (sDrop (dCall m_check_changes (dCons (dVar 0) (dNil))))
  (bSeq (sDrop (dCall m_check_mark (dCons (dVar 0) (dCons (dVar 1) (dNil)))))
  (bSeq (sDrop (dCall m_check_second (dCons (dVar 0) (dCons (dVar 2) (dNil)))))
  (bSeq (sIf (dTNot (dTr (dCall m_is_integers (dCons (dVar 3) (dCons (dCall bLen (dCons (dVar 0) (dNil))) (dNil)))))) (sRaise 2 (dC (.str "form"))) (bNil))
  (bSeq (sIf (dTOr (dTNot (dTr (dCall m_is_integer (dCons (dVar 4) (dNil))))) (dTb (dBin dLt (dVar 4) (dC (.int 1))))) (sRaise 2 (dC (.str "form"))) (bNil))
  (sFor (dRng (dCons (dCall bLen (dCons (dVar 1) (dNil))) (dNil))) (gSet 5) (sIf (dTb (dBin dNe (dCall m_weighed (dCons (dVar 3) (dCons (dLc (dItems (dVar 0)) (gSet 6) (dYes) (dBin dIx (dVar 6) (dVar 5)) [6]) (dNil)))) (dBin dMul (dVar 4) (dBin dSub (dBin dIx (dVar 2) (dVar 5)) (dBin dIx (dVar 1) (dVar 5)))))) (sRaise 2 (dC (.str "place"))) (bNil)))))))
def m_accept_counts : List D → M D := fun ds => fin (b_accept_counts (enter 7 ds))
-- accept_apart: changes, one, other, weights, row
abbrev N_accept_apart : List Str := ["changes", "one", "other", "weights", "row"]
def b_accept_apart : Sv := bSeq (sDrop (dCall m_check_changes (dCons (dVar 0) (dNil))))
  (bSeq (sDrop (dCall m_check_mark (dCons (dVar 0) (dCons (dVar 1) (dNil)))))
  (bSeq (sDrop (dCall m_check_second (dCons (dVar 0) (dCons (dVar 2) (dNil)))))
  (bSeq (sIf (dTNot (dTr (dCall m_is_integers (dCons (dVar 3) (dCons (dCall bLen (dCons (dBin dIx (dVar 0) (dC (.int 0))) (dNil))) (dNil)))))) (sRaise 2 (dC (.str "form"))) (bNil))
  (bSeq (sIf (dTr (dLc (dItems (dVar 0)) (gSet 4) (dTb (dBin dNe (dCall m_weighed (dCons (dVar 3) (dCons (dVar 4) (dNil)))) (dC (.int 0)))) (dC (.int 1)) [4])) (sRaise 2 (dC (.str "move"))) (bNil))
  (sIf (dTb (dBin dEq (dCall m_weighed (dCons (dVar 3) (dCons (dVar 1) (dNil)))) (dCall m_weighed (dCons (dVar 3) (dCons (dVar 2) (dNil)))))) (sRaise 2 (dC (.str "same"))) (bNil))))))
def m_accept_apart : List D → M D := fun ds => fin (b_accept_apart (enter 5 ds))
-- is_weights: value, many, own
abbrev N_is_weights : List Str := ["value", "many", "own"]
def b_is_weights : Sv := sRet (dAndV (dIsi "tuple" (dVar 0)) (dAndV (dBin dEq (dCall bLen (dCons (dVar 0) (dNil))) (dVar 1)) (dCall bAll (dCons (dLc (dItems (dVar 0)) (gSet 2) (dYes) (dAndV (dCall m_is_integer (dCons (dVar 2) (dNil))) (dBin dGe (dVar 2) (dC (.int 0)))) [2]) (dNil)))))
def m_is_weights : List D → M D := fun ds => fin (b_is_weights (enter 3 ds))
-- accept_bound: changes, mark, place, bound, weights, row
abbrev N_accept_bound : List Str := ["changes", "mark", "place", "bound", "weights", "row"]
def b_accept_bound : Sv := bSeq (sDrop (dCall m_check_changes (dCons (dVar 0) (dNil))))
  (bSeq (sDrop (dCall m_check_mark (dCons (dVar 0) (dCons (dVar 1) (dNil)))))
  (bSeq (sIf (dTOr (dTNot (dTr (dCall m_is_integer (dCons (dVar 2) (dNil))))) (dTNot (dTb (dChain dLe dLt (dC (.int 0)) (dVar 2) (dCall bLen (dCons (dVar 1) (dNil))))))) (sRaise 1 (dC (.str "place"))) (bNil))
  (bSeq (sIf (dTOr (dTNot (dTr (dCall m_is_integer (dCons (dVar 3) (dNil))))) (dTNot (dTr (dCall m_is_weights (dCons (dVar 4) (dCons (dCall bLen (dCons (dVar 1) (dNil))) (dNil))))))) (sRaise 2 (dC (.str "form"))) (bNil))
  (bSeq (sIf (dTr (dLc (dItems (dVar 0)) (gSet 5) (dTb (dBin dGt (dCall m_weighed (dCons (dVar 4) (dCons (dVar 5) (dNil)))) (dC (.int 0)))) (dC (.int 1)) [5])) (sRaise 2 (dC (.str "move"))) (bNil))
  (sIf (dTb (dBin dGe (dCall m_weighed (dCons (dVar 4) (dCons (dVar 1) (dNil)))) (dBin dMul (dBin dIx (dVar 4) (dVar 2)) (dBin dAdd (dVar 3) (dC (.int 1)))))) (sRaise 2 (dC (.str "bound"))) (bNil))))))
def m_accept_bound : List D → M D := fun ds => fin (b_accept_bound (enter 6 ds))
-- judge_between: changes, one, other, rows, place, row, counts, many, places, spare, table, told, unit, at, number
abbrev N_judge_between : List Str := ["changes", "one", "other", "rows", "place", "row", "counts", "many", "places", "spare", "table", "told", "unit", "at", "number"]
def b_judge_between : Sv := bSeq (sDrop (dCall m_check_changes (dCons (dVar 0) (dNil))))
  (bSeq (sDrop (dCall m_check_mark (dCons (dVar 0) (dCons (dVar 1) (dNil)))))
  (bSeq (sDrop (dCall m_check_second (dCons (dVar 0) (dCons (dVar 2) (dNil)))))
  (sNever)))
def m_judge_between : List D → M D := fun ds => fin (b_judge_between (enter 15 ds))
-- check_weights: changes, weights
abbrev N_check_weights : List Str := ["changes", "weights"]
def b_check_weights : Sv := sIf (dTNot (dTr (dCall m_is_integers (dCons (dVar 1) (dCons (dCall bLen (dCons (dBin dIx (dVar 0) (dC (.int 0))) (dNil))) (dNil)))))) (sRaise 1 (dC (.str "weights"))) (bNil)
def m_check_weights : List D → M D := fun ds => fin (b_check_weights (enter 2 ds))
-- judge_kept: changes, weights, number, row
abbrev N_judge_kept : List Str := ["changes", "weights", "number", "row"]
def b_judge_kept : Sv := bSeq (sDrop (dCall m_check_changes (dCons (dVar 0) (dNil))))
  (bSeq (sDrop (dCall m_check_weights (dCons (dVar 0) (dCons (dVar 1) (dNil)))))
  (bSeq (sFor (dEnum (dVar 0)) (gTupD (lenOf 2 (gsCons (gSet 2) (gsCons (gSet 3) (gsNil))))) (sIf (dTb (dBin dNe (dCall m_weighed (dCons (dVar 1) (dCons (dVar 3) (dNil)))) (dC (.int 0)))) (sNever) (bNil)))
  (sRet (dTup (dCons (dC (.str "kept")) (dNil))))))
def m_judge_kept : List D → M D := fun ds => fin (b_judge_kept (enter 4 ds))
-- bounds_by: changes, mark, rows, found, place, bounds, row
abbrev N_bounds_by : List Str := ["changes", "mark", "rows", "found", "place", "bounds", "row"]
def b_bounds_by : Sv := bSeq (sDrop (dCall m_check_changes (dCons (dVar 0) (dNil))))
  (bSeq (sDrop (dCall m_check_mark (dCons (dVar 0) (dCons (dVar 1) (dNil)))))
  (sNever))
def m_bounds_by : List D → M D := fun ds => fin (b_bounds_by (enter 7 ds))
-- kept_weights: changes
abbrev N_kept_weights : List Str := ["changes"]
def b_kept_weights : Sv := bSeq (sDrop (dCall m_check_changes (dCons (dVar 0) (dNil))))
  (sNever)
def m_kept_weights : List D → M D := fun ds => fin (b_kept_weights (enter 1 ds))
-- least_keeps: changes, many, some, found, known, rows, weights, own, row, place
abbrev N_least_keeps : List Str := ["changes", "many", "some", "found", "known", "rows", "weights", "own", "row", "place"]
def b_least_keeps : Sv := bSeq (sDrop (dCall m_check_changes (dCons (dVar 0) (dNil))))
  (sNever)
def m_least_keeps : List D → M D := fun ds => fin (b_least_keeps (enter 10 ds))
-- _law_called: call, some
abbrev N__law_called : List Str := ["call", "some"]
def tbl : Tbl
  | 0 => some (5, m_accept_counts)
  | 1 => some (4, m_accept_apart)
  | 2 => some (5, m_accept_bound)
  | 3 => some (3, m_judge_between)
  | 4 => some (2, m_judge_kept)
  | 5 => some (2, m_bounds_by)
  | 6 => some (1, m_kept_weights)
  | 7 => some (1, m_least_keeps)
  | _ => none
def b__law_called : Sv := bSeq (sIf (dTb (dBin dLt (dCall bLen (dCons (dVar 1) (dNil))) (dC (.int 3)))) (sRet (dIf (dTb (dBin dEq (dCall bLen (dCons (dVar 1) (dNil))) (dC (.int 1)))) (dCallV tbl 0 (dCons (dBin dIx (dVar 1) (dC (.int 0))) (dNil))) (dCallV tbl 0 (dCons (dBin dIx (dVar 1) (dC (.int 0))) (dCons (dBin dIx (dVar 1) (dC (.int 1))) (dNil)))))) (bNil))
  (bSeq (sIf (dTb (dBin dLt (dCall bLen (dCons (dVar 1) (dNil))) (dC (.int 5)))) (sRet (dIf (dTb (dBin dEq (dCall bLen (dCons (dVar 1) (dNil))) (dC (.int 3)))) (dCallV tbl 0 (dCons (dBin dIx (dVar 1) (dC (.int 0))) (dCons (dBin dIx (dVar 1) (dC (.int 1))) (dCons (dBin dIx (dVar 1) (dC (.int 2))) (dNil))))) (dCallV tbl 0 (dCons (dBin dIx (dVar 1) (dC (.int 0))) (dCons (dBin dIx (dVar 1) (dC (.int 1))) (dCons (dBin dIx (dVar 1) (dC (.int 2))) (dCons (dBin dIx (dVar 1) (dC (.int 3))) (dNil)))))))) (bNil))
  (sRet (dCallV tbl 0 (dCons (dBin dIx (dVar 1) (dC (.int 0))) (dCons (dBin dIx (dVar 1) (dC (.int 1))) (dCons (dBin dIx (dVar 1) (dC (.int 2))) (dCons (dBin dIx (dVar 1) (dC (.int 3))) (dCons (dBin dIx (dVar 1) (dC (.int 4))) (dNil)))))))))
def m__law_called : List D → M D := fun ds => fin (b__law_called (enter 2 ds))
-- _law_word: error, heads, found
abbrev N__law_word : List Str := ["error", "heads", "found"]
-- _law_heard: call, some, error
abbrev N__law_heard : List Str := ["call", "some", "error"]
def b__law_heard : Sv := sHeard (sRet (dLst (dCons (dCall m__law_called (dCons (dVar 0) (dCons (dVar 1) (dNil)))) (dNil)))) 2
def m__law_heard : List D → M D := fun ds => fin (b__law_heard (enter 3 ds))
-- _law_whole: value
abbrev N__law_whole : List Str := ["value"]
def b__law_whole : Sv := sRet (dAndV (dIsi "int" (dVar 0)) (dNotV (dIsi "bool" (dVar 0))))
def m__law_whole : List D → M D := fun ds => fin (b__law_whole (enter 1 ds))
-- _law_row: value, many, own
abbrev N__law_row : List Str := ["value", "many", "own"]
def b__law_row : Sv := sRet (dAndV (dIsi "tuple" (dVar 0)) (dAndV (dBin dEq (dCall bLen (dCons (dVar 0) (dNil))) (dVar 1)) (dCall bAll (dCons (dLc (dItems (dVar 0)) (gSet 2) (dYes) (dCall m__law_whole (dCons (dVar 2) (dNil))) [2]) (dNil)))))
def m__law_row : List D → M D := fun ds => fin (b__law_row (enter 3 ds))
-- _law_apart_due: changes, one, other, weights, move
abbrev N__law_apart_due : List Str := ["changes", "one", "other", "weights", "move"]
def b__law_apart_due : Sv := bSeq (sIf (dTNot (dTr (dCall m__law_row (dCons (dVar 3) (dCons (dCall bLen (dCons (dVar 1) (dNil))) (dNil)))))) (sRet (dC (.str "paper form"))) (bNil))
  (bSeq (sIf (dTr (dLc (dItems (dVar 0)) (gSet 4) (dTb (dBin dNe (dCall m__law_sum (dCons (dVar 3) (dCons (dVar 4) (dNil)))) (dC (.int 0)))) (dVar 4) [4])) (sRet (dC (.str "paper move"))) (bNil))
  (sRet (dIf (dTb (dBin dEq (dCall m__law_sum (dCons (dVar 3) (dCons (dVar 1) (dNil)))) (dCall m__law_sum (dCons (dVar 3) (dCons (dVar 2) (dNil)))))) (dC (.str "paper same")) (dLst (dCons (dC .non) (dNil))))))
def m__law_apart_due : List D → M D := fun ds => fin (b__law_apart_due (enter 5 ds))
-- _law_bound_due: changes, mark, place, bound, weights, move
abbrev N__law_bound_due : List Str := ["changes", "mark", "place", "bound", "weights", "move"]
def b__law_bound_due : Sv := bSeq (sIf (dTOr (dTNot (dTr (dCall m__law_whole (dCons (dVar 3) (dNil))))) (dTOr (dTNot (dTr (dCall m__law_row (dCons (dVar 4) (dCons (dCall bLen (dCons (dVar 1) (dNil))) (dNil)))))) (dTb (dBin dLt (dCall bMin (dCons (dVar 4) (dNil))) (dC (.int 0)))))) (sRet (dC (.str "paper form"))) (bNil))
  (bSeq (sIf (dTr (dLc (dItems (dVar 0)) (gSet 5) (dTb (dBin dGt (dCall m__law_sum (dCons (dVar 4) (dCons (dVar 5) (dNil)))) (dC (.int 0)))) (dVar 5) [5])) (sRet (dC (.str "paper move"))) (bNil))
  (sRet (dIf (dTb (dBin dGe (dCall m__law_sum (dCons (dVar 4) (dCons (dVar 1) (dNil)))) (dBin dMul (dBin dIx (dVar 4) (dVar 2)) (dBin dAdd (dVar 3) (dC (.int 1)))))) (dC (.str "paper bound")) (dLst (dCons (dC .non) (dNil))))))
def m__law_bound_due : List D → M D := fun ds => fin (b__law_bound_due (enter 6 ds))
-- _law_counts_due: changes, one, other, counts, times, wrong, k, move
abbrev N__law_counts_due : List Str := ["changes", "one", "other", "counts", "times", "wrong", "k", "move"]
def b__law_counts_due : Sv := bSeq (sIf (dTOr (dTNot (dTr (dCall m__law_row (dCons (dVar 3) (dCons (dCall bLen (dCons (dVar 0) (dNil))) (dNil)))))) (dTOr (dTNot (dTr (dCall m__law_whole (dCons (dVar 4) (dNil))))) (dTb (dBin dLt (dVar 4) (dC (.int 1)))))) (sRet (dC (.str "paper form"))) (bNil))
  (bSeq (sSet 5 (dLc (dRng (dCons (dCall bLen (dCons (dVar 1) (dNil))) (dNil))) (gSet 6) (dTb (dBin dNe (dCall m__law_sum (dCons (dVar 3) (dCons (dLc (dItems (dVar 0)) (gSet 7) (dYes) (dBin dIx (dVar 7) (dVar 6)) [7]) (dNil)))) (dBin dMul (dVar 4) (dBin dSub (dBin dIx (dVar 2) (dVar 6)) (dBin dIx (dVar 1) (dVar 6)))))) (dVar 6) [6]))
  (sRet (dIf (dTr (dVar 5)) (dC (.str "paper place")) (dLst (dCons (dC .non) (dNil))))))
def m__law_counts_due : List D → M D := fun ds => fin (b__law_counts_due (enter 8 ds))
-- _law_papers_hold: state, many, sizes, changes, k, one, counts, led, low, other, bad, own, double, rows, row, right, goal, place, most, bound, times, move
abbrev N__law_papers_hold : List Str := ["state", "many", "sizes", "changes", "k", "one", "counts", "led", "low", "other", "bad", "own", "double", "rows", "row", "right", "goal", "place", "most", "bound", "times", "move"]
def b__law_papers_hold : Sv := bSeq (sSet 1 (dCallO m__law_pick 0 (dCons (dLst (dCons (dC (.int 2)) (dCons (dC (.int 3)) (dCons (dC (.int 10)) (dNil))))) (dNil))))
  (bSeq (sSet 2 (dLc (dRng (dCons (dVar 1) (dNil))) (gSet 4) (dYes) (dBin dAdd (dC (.int 1)) (dCallO m__law_draw 0 (dCons (dC (.int 4)) (dNil)))) [4]))
  (bSeq (sSetO 3 (dLst (dNil)))
  (bSeq (sFor (dRng (dCons (dBin dSub (dVar 1) (dC (.int 1))) (dNil))) (gSet 4) (bSeq (sSetO 14 (dBin dMulL (dLst (dCons (dC (.int 0)) (dNil))) (dVar 1)))
  (bSeq (sAsg (dTup (dCons (dBin dSub (dC (.int 0)) (dBin dIx (dVar 2) (dBin dAdd (dVar 4) (dC (.int 1))))) (dCons (dBin dIx (dVar 2) (dVar 4)) (dNil)))) (gTupD (lenOf 2 (gsCons (gSubT 14 (dVar 4)) (gsCons (gSubT 14 (dBin dAdd (dVar 4) (dC (.int 1)))) (gsNil))))))
  (sDrop (dMeth fApp 3 (dCons (dCall bTuple (dCons (dVarO 14) (dNil))) (dNil)))))))
  (bSeq (sAsg (dTup (dCons (dCall bTuple (dCons (dVarO 3) (dNil))) (dCons (dCall bTuple (dCons (dVar 2) (dNil))) (dNil)))) (gTupD (lenOf 2 (gsCons (gSet 3) (gsCons (gSet 15) (gsNil))))))
  (bSeq (sSet 5 (dCall bTuple (dCons (dLc (dRng (dCons (dVar 1) (dNil))) (gSet 4) (dYes) (dCallO m__law_draw 0 (dCons (dC (.int 9)) (dNil))) [4]) (dNil))))
  (bSeq (sSet 6 (dCall bTuple (dCons (dLc (dItems (dVar 3)) (gSet 21) (dYes) (dCallO m__law_draw 0 (dCons (dC (.int 4)) (dNil))) [21]) (dNil))))
  (bSeq (sSet 7 (dLc (dRng (dCons (dVar 1) (dNil))) (gSet 4) (dYes) (dBin dAdd (dBin dIx (dVar 5) (dVar 4)) (dCall m__law_sum (dCons (dVar 6) (dCons (dLc (dItems (dVar 3)) (gSet 21) (dYes) (dBin dIx (dVar 21) (dVar 4)) [21]) (dNil))))) [4]))
  (bSeq (sSet 8 (dBin dSub (dC (.int 0)) (dCall bMin (dCons (dBin dAdd (dLst (dCons (dC (.int 0)) (dNil))) (dVar 7)) (dNil)))))
  (bSeq (sAsg (dTup (dCons (dCall bTuple (dCons (dLc (dItems (dVar 5)) (gSet 11) (dYes) (dBin dAdd (dVar 11) (dVar 8)) [11]) (dNil))) (dCons (dCall bTuple (dCons (dLc (dItems (dVar 7)) (gSet 11) (dYes) (dBin dAdd (dVar 11) (dVar 8)) [11]) (dNil))) (dNil)))) (gTupD (lenOf 2 (gsCons (gSet 5) (gsCons (gSet 7) (gsNil))))))
  (bSeq (sSet 9 (dBin dAdd (dSlice (dVar 5) (dONone) (dOSome (dNeg (dC (.int 1))))) (dTup (dCons (dBin dAdd (dBin dIx (dVar 5) (dNeg (dC (.int 1)))) (dC (.int 1))) (dNil)))))
  (bSeq (sSet 10 (dLst (dCons (dVar 15) (dCons (dVar 15) (dCons (dCall bTuple (dCons (dLc (dItems (dVar 15)) (gSet 11) (dYes) (dBin dSub (dC (.int 0)) (dVar 11)) [11]) (dNil))) (dCons (dCall bTuple (dCons (dLc (dItems (dVar 15)) (gSet 11) (dYes) (dBin dMul (dVar 11) (dBin dPow (dC (.int 10)) (dC (.int 12)))) [11]) (dNil))) (dCons (dBin dAdd (dSlice (dVar 15) (dONone) (dOSome (dNeg (dC (.int 1))))) (dTup (dCons (dBin dAdd (dBin dIx (dVar 15) (dNeg (dC (.int 1)))) (dC (.int 1))) (dNil)))) (dCons (dBin dMul (dTup (dCons (dC (.int 0)) (dNil))) (dVar 1)) (dNil)))))))))
  (bSeq (sFor (dItems (dBin dAdd (dVar 10) (dLst (dCons (dSlice (dVar 15) (dONone) (dOSome (dNeg (dC (.int 1))))) (dCons (dCallO m__law_bent 0 (dCons (dVar 15) (dNil))) (dCons (dC .non) (dNil))))))) (gSet 11) (bSeq (sFor (dItems (dLst (dCons (dVar 9) (dCons (dVar 7) (dNil))))) (gSet 16) (sIf (dTb (dBin dNe (dCall m__law_heard (dCons (dC (.fn 1)) (dCons (dLst (dCons (dVar 3) (dCons (dVar 5) (dCons (dVar 16) (dCons (dVar 11) (dNil)))))) (dNil)))) (dCall m__law_apart_due (dCons (dVar 3) (dCons (dVar 5) (dCons (dVar 16) (dCons (dVar 11) (dNil)))))))) (sNever) (bNil)))
  (bSeq (sSet 17 (dCallO m__law_pick 0 (dCons (dLst (dCons (dBin dSub (dVar 1) (dC (.int 1))) (dCons (dCallO m__law_draw 0 (dCons (dVar 1) (dNil))) (dNil)))) (dNil))))
  (bSeq (sSet 18 (dBin dFdiv (dCall m__law_sum (dCons (dVar 15) (dCons (dVar 5) (dNil)))) (dBin dIx (dVar 15) (dVar 17))))
  (sFor (dItems (dLst (dCons (dVar 18) (dCons (dBin dSub (dVar 18) (dC (.int 1))) (dCons (dBin dAdd (dVar 18) (dC (.int 1))) (dCons (dNeg (dC (.int 1))) (dCons (dC .non) (dCons (dC (.bl true)) (dNil))))))))) (gSet 19) (sIf (dTb (dBin dNe (dCall m__law_heard (dCons (dC (.fn 2)) (dCons (dLst (dCons (dVar 3) (dCons (dVar 5) (dCons (dVar 17) (dCons (dVar 19) (dCons (dVar 11) (dNil))))))) (dNil)))) (dCall m__law_bound_due (dCons (dVar 3) (dCons (dVar 5) (dCons (dVar 17) (dCons (dVar 19) (dCons (dVar 11) (dNil))))))))) (sNever) (bNil)))))))
  (bSeq (sSet 12 (dCall bTuple (dCons (dLc (dItems (dVar 6)) (gSet 11) (dYes) (dBin dMul (dC (.int 2)) (dVar 11)) [11]) (dNil))))
  (bSeq (sSet 13 (dLst (dCons (dTup (dCons (dVar 6) (dCons (dC (.int 1)) (dNil)))) (dCons (dTup (dCons (dVar 12) (dCons (dC (.int 2)) (dNil)))) (dCons (dTup (dCons (dVar 6) (dCons (dC (.int 2)) (dNil)))) (dCons (dTup (dCons (dVar 6) (dCons (dC (.int 0)) (dNil)))) (dCons (dTup (dCons (dVar 12) (dCons (dNeg (dC (.int 2))) (dNil)))) (dCons (dTup (dCons (dBin dAdd (dSlice (dVar 6) (dONone) (dOSome (dNeg (dC (.int 1))))) (dTup (dCons (dBin dAdd (dBin dIx (dVar 6) (dNeg (dC (.int 1)))) (dC (.int 1))) (dNil)))) (dCons (dC (.int 1)) (dNil)))) (dCons (dTup (dCons (dSlice (dVar 6) (dONone) (dOSome (dNeg (dC (.int 1))))) (dCons (dC (.int 1)) (dNil)))) (dNil))))))))))
  (bSeq (sFor (dItems (dBin dAdd (dVar 13) (dLst (dCons (dTup (dCons (dCallO m__law_bent 0 (dCons (dVar 6) (dNil))) (dCons (dC (.int 1)) (dNil)))) (dCons (dTup (dCons (dC .non) (dCons (dC (.int 1)) (dNil)))) (dCons (dTup (dCons (dVar 6) (dCons (dC (.bl true)) (dNil)))) (dCons (dTup (dCons (dVar 6) (dCons (dC .non) (dNil)))) (dNil)))))))) (gTupD (lenOf 2 (gsCons (gSet 11) (gsCons (gSet 20) (gsNil))))) (sIf (dTb (dBin dNe (dCall m__law_heard (dCons (dC (.fn 0)) (dCons (dLst (dCons (dVar 3) (dCons (dVar 5) (dCons (dVar 7) (dCons (dVar 11) (dCons (dVar 20) (dNil))))))) (dNil)))) (dCall m__law_counts_due (dCons (dVar 3) (dCons (dVar 5) (dCons (dVar 7) (dCons (dVar 11) (dCons (dVar 20) (dNil))))))))) (sNever) (bNil)))
  (sRet (dC (.bl true))))))))))))))))))
def m__law_papers_hold : D → List D → M (D × D) := fun s ds => finO (b__law_papers_hold (enterO 22 s ds))
-- _law_less_hold: state, changes, mark, k, bound, weights, place
abbrev N__law_less_hold : List Str := ["state", "changes", "mark", "k", "bound", "weights", "place"]
def b__law_less_hold : Sv := bSeq (sSet 1 (dCall bTuple (dCons (dLc (dRng (dCons (dBin dAdd (dC (.int 1)) (dCallO m__law_draw 0 (dCons (dC (.int 2)) (dNil)))) (dNil))) (gSet 3) (dYes) (dCall bTuple (dCons (dLc (dRng (dCons (dC (.int 3)) (dNil))) (gSet 6) (dYes) (dBin dSub (dCallO m__law_draw 0 (dCons (dC (.int 4)) (dNil))) (dC (.int 2))) [6]) (dNil))) [3]) (dNil))))
  (bSeq (sSet 2 (dCall bTuple (dCons (dLc (dRng (dCons (dC (.int 3)) (dNil))) (gSet 6) (dYes) (dCallO m__law_draw 0 (dCons (dC (.int 6)) (dNil))) [6]) (dNil))))
  (bSeq (sFor (dRng (dCons (dC (.int 6)) (dNil))) (gSet 3) (bSeq (sPar 5 6 (dCons (dCall bTuple (dCons (dLc (dRng (dCons (dC (.int 3)) (dNil))) (gSet 3) (dYes) (dCallO m__law_draw 0 (dCons (dC (.int 4)) (dNil))) [3]) (dNil))) (dCons (dCallO m__law_draw 0 (dCons (dC (.int 3)) (dNil))) (dNil))))
  (bSeq (sSet 4 (dCallO m__law_draw 0 (dCons (dC (.int 20)) (dNil))))
  (sIf (dTb (dBin dNe (dCall m__law_heard (dCons (dC (.fn 2)) (dCons (dLst (dCons (dVar 1) (dCons (dVar 2) (dCons (dVar 6) (dCons (dVar 4) (dCons (dVar 5) (dNil))))))) (dNil)))) (dCall m__law_bound_due (dCons (dVar 1) (dCons (dVar 2) (dCons (dVar 6) (dCons (dVar 4) (dCons (dVar 5) (dNil))))))))) (sNever) (bNil)))))
  (sRet (dC (.bl true)))))
def m__law_less_hold : D → List D → M (D × D) := fun s ds => finO (b__law_less_hold (enterO 7 s ds))
-- law: script, state, turn, wrong, changes, weights, mark, told, place, way
abbrev N_law : List Str := ["script", "state", "turn", "wrong", "changes", "weights", "mark", "told", "place", "way"]
def b_law : Sv := bSeq (sSetO 1 (dCall m__law_start (dCons (dVar 0) (dNil))))
  (bSeq (sFor (dRng (dCons (dC (.int 3)) (dNil))) (gSet 2) (sIf (dTOr (dTNot (dTr (dCallO m__law_papers_hold 1 (dNil)))) (dTNot (dTr (dCallO m__law_less_hold 1 (dNil))))) (sNever) (bNil)))
  (bSeq (sFor (dItems (dLst (dCons (dC .non) (dCons (dTup (dNil)) (dCons (dTup (dCons (dTup (dNil)) (dNil))) (dCons (dTup (dCons (dTup (dCons (dC (.int 1)) (dCons (dC (.int 2)) (dNil)))) (dCons (dTup (dCons (dC (.int 1)) (dNil))) (dNil)))) (dCons (dBin dMul (dTup (dCons (dTup (dCons (dC (.int 1)) (dNil))) (dNil))) (dC (.int 13))) (dCons (dTup (dCons (dBin dMul (dTup (dCons (dC (.int 0)) (dNil))) (dC (.int 11))) (dNil))) (dCons (dTup (dCons (dTup (dCons (dBin dAdd (dBin dPow (dC (.int 10)) (dC (.int 12))) (dC (.int 1))) (dNil))) (dNil))) (dCons (dTup (dCons (dTup (dCons (dC (.bl true)) (dNil))) (dNil))) (dCons (dTup (dCons (dC (.str "1")) (dNil))) (dCons (dC (.int 5)) (dCons (dLst (dCons (dTup (dCons (dC (.int 1)) (dNil))) (dNil))) (dNil)))))))))))))) (gSet 3) (bSeq (sSet 7 (dBin dAdd (dLc (dItems (dLst (dCons (dC (.fn 6)) (dCons (dC (.fn 7)) (dNil))))) (gSet 9) (dYes) (dCall m__law_heard (dCons (dVar 9) (dCons (dLst (dCons (dVar 3) (dNil))) (dNil)))) [9]) (dLc (dItems (dLst (dCons (dC (.fn 4)) (dCons (dC (.fn 5)) (dNil))))) (gSet 9) (dYes) (dCall m__law_heard (dCons (dVar 9) (dCons (dLst (dCons (dVar 3) (dCons (dC .non) (dNil)))) (dNil)))) [9])))
  (bSeq (sSet 7 (dBin dAdd (dVar 7) (dLst (dCons (dCall m__law_heard (dCons (dC (.fn 3)) (dCons (dLst (dCons (dVar 3) (dCons (dC .non) (dCons (dC .non) (dNil))))) (dNil)))) (dCons (dCall m__law_heard (dCons (dC (.fn 1)) (dCons (dLst (dCons (dVar 3) (dCons (dC .non) (dCons (dC .non) (dCons (dC .non) (dNil)))))) (dNil)))) (dNil))))))
  (sIf (dTb (dBin dNe (dBin dAdd (dVar 7) (dLc (dItems (dLst (dCons (dC (.fn 0)) (dCons (dC (.fn 2)) (dNil))))) (gSet 9) (dYes) (dCall m__law_heard (dCons (dVar 9) (dCons (dLst (dCons (dVar 3) (dCons (dC .non) (dCons (dC .non) (dCons (dC .non) (dCons (dC .non) (dNil))))))) (dNil)))) [9])) (dBin dMul (dLst (dCons (dC (.str "flow changes")) (dNil))) (dC (.int 8))))) (sNever) (bNil)))))
  (bSeq (sSet 4 (dTup (dCons (dTup (dCons (dBin dSub (dC (.int 0)) (dC (.int 1))) (dCons (dC (.int 1)) (dNil)))) (dCons (dTup (dCons (dC (.int 1)) (dCons (dBin dSub (dC (.int 0)) (dC (.int 1))) (dNil)))) (dNil)))))
  (bSeq (sSet 5 (dCallO m__law_pick 1 (dCons (dLst (dCons (dC .non) (dCons (dTup (dCons (dC (.int 1)) (dNil))) (dCons (dTup (dCons (dC (.int 1)) (dCons (dC (.int 1)) (dCons (dC (.int 1)) (dNil))))) (dCons (dTup (dCons (dC (.int 1)) (dCons (dC (.bl true)) (dNil)))) (dCons (dTup (dCons (dC (.int 1)) (dCons (dC .non) (dNil)))) (dCons (dC (.int 5)) (dCons (dLst (dCons (dC (.int 1)) (dCons (dC (.int 1)) (dNil)))) (dCons (dTup (dCons (dC (.str "1")) (dCons (dC (.int 1)) (dNil)))) (dNil)))))))))) (dNil))))
  (bSeq (sSet 6 (dCallO m__law_pick 1 (dCons (dLst (dCons (dC .non) (dCons (dTup (dCons (dC (.int 1)) (dNil))) (dCons (dTup (dCons (dC (.int 1)) (dCons (dC (.int 2)) (dCons (dC (.int 3)) (dNil))))) (dCons (dTup (dCons (dC (.int 1)) (dCons (dNeg (dC (.int 1))) (dNil)))) (dCons (dTup (dCons (dC (.int 1)) (dCons (dBin dAdd (dBin dPow (dC (.int 10)) (dC (.int 12))) (dC (.int 1))) (dNil)))) (dCons (dTup (dCons (dC (.bl true)) (dCons (dC (.int 1)) (dNil)))) (dCons (dTup (dCons (dC (.str "1")) (dCons (dC (.int 1)) (dNil)))) (dCons (dC (.int 5)) (dCons (dLst (dCons (dC (.int 1)) (dCons (dC (.int 1)) (dNil)))) (dNil))))))))))) (dNil))))
  (bSeq (sIf (dTOr (dTb (dBin dNe (dCall m__law_heard (dCons (dC (.fn 4)) (dCons (dLst (dCons (dVar 4) (dCons (dVar 5) (dNil)))) (dNil)))) (dC (.str "argument weights")))) (dTb (dBin dNe (dCall m__law_heard (dCons (dC (.fn 5)) (dCons (dLst (dCons (dVar 4) (dCons (dVar 6) (dNil)))) (dNil)))) (dC (.str "argument mark"))))) (sNever) (bNil))
  (bSeq (sSetO 7 (dLst (dCons (dCall m__law_heard (dCons (dC (.fn 3)) (dCons (dLst (dCons (dVar 4) (dCons (dVar 6) (dCons (dVar 6) (dNil))))) (dNil)))) (dCons (dCall m__law_heard (dCons (dC (.fn 1)) (dCons (dLst (dCons (dVar 4) (dCons (dVar 6) (dCons (dVar 6) (dCons (dC .non) (dNil)))))) (dNil)))) (dNil)))))
  (bSeq (sDrop (dMeth fApp 7 (dCons (dCall m__law_heard (dCons (dC (.fn 0)) (dCons (dLst (dCons (dVar 4) (dCons (dVar 6) (dCons (dVar 6) (dCons (dC .non) (dCons (dC .non) (dNil))))))) (dNil)))) (dNil))))
  (bSeq (sIf (dTOr (dTb (dBin dNe (dVarO 7) (dBin dMul (dLst (dCons (dC (.str "argument mark")) (dNil))) (dC (.int 3))))) (dTb (dBin dNe (dCall m__law_heard (dCons (dC (.fn 2)) (dCons (dLst (dCons (dVar 4) (dCons (dVar 6) (dCons (dC .non) (dCons (dC .non) (dCons (dC .non) (dNil))))))) (dNil)))) (dC (.str "argument mark"))))) (sNever) (bNil))
  (bSeq (sSetO 7 (dLst (dCons (dCall m__law_heard (dCons (dC (.fn 3)) (dCons (dLst (dCons (dVar 4) (dCons (dTup (dCons (dC (.int 1)) (dCons (dC (.int 1)) (dNil)))) (dCons (dVar 6) (dNil))))) (dNil)))) (dCons (dCall m__law_heard (dCons (dC (.fn 1)) (dCons (dLst (dCons (dVar 4) (dCons (dTup (dCons (dC (.int 1)) (dCons (dC (.int 1)) (dNil)))) (dCons (dVar 6) (dCons (dC .non) (dNil)))))) (dNil)))) (dNil)))))
  (bSeq (sDrop (dMeth fApp 7 (dCons (dCall m__law_heard (dCons (dC (.fn 0)) (dCons (dLst (dCons (dVar 4) (dCons (dTup (dCons (dC (.int 1)) (dCons (dC (.int 1)) (dNil)))) (dCons (dVar 6) (dCons (dC .non) (dCons (dC .non) (dNil))))))) (dNil)))) (dNil))))
  (bSeq (sIf (dTb (dBin dNe (dVarO 7) (dBin dMul (dLst (dCons (dC (.str "argument other")) (dNil))) (dC (.int 3))))) (sNever) (bNil))
  (bSeq (sSet 8 (dCallO m__law_pick 1 (dCons (dLst (dCons (dC .non) (dCons (dNeg (dC (.int 1))) (dCons (dC (.int 2)) (dCons (dC (.bl true)) (dCons (dC (.str "0")) (dCons (dTup (dCons (dC (.int 0)) (dNil))) (dNil)))))))) (dNil))))
  (bSeq (sIf (dTb (dBin dNe (dCall m__law_heard (dCons (dC (.fn 2)) (dCons (dLst (dCons (dVar 4) (dCons (dTup (dCons (dC (.int 1)) (dCons (dC (.int 1)) (dNil)))) (dCons (dVar 8) (dCons (dC .non) (dCons (dC .non) (dNil))))))) (dNil)))) (dC (.str "argument place")))) (sNever) (bNil))
  (sRet (dAndV (dBin dEq (dCall m__law_heard (dCons (dC (.fn 4)) (dCons (dLst (dCons (dVar 4) (dCons (dTup (dCons (dBin dPow (dC (.int 10)) (dC (.int 30))) (dCons (dBin dPow (dC (.int 10)) (dC (.int 30))) (dNil)))) (dNil)))) (dNil)))) (dLst (dCons (dTup (dCons (dC (.str "kept")) (dNil))) (dNil)))) (dBin dEq (dCall m__law_heard (dCons (dC (.fn 1)) (dCons (dLst (dCons (dVar 4) (dCons (dTup (dCons (dC (.int 1)) (dCons (dC (.int 1)) (dNil)))) (dCons (dTup (dCons (dC (.int 1)) (dCons (dC (.int 0)) (dNil)))) (dCons (dTup (dCons (dBin dSub (dC (.int 0)) (dBin dPow (dC (.int 10)) (dC (.int 30)))) (dCons (dBin dSub (dC (.int 0)) (dBin dPow (dC (.int 10)) (dC (.int 30)))) (dNil)))) (dNil)))))) (dNil)))) (dLst (dCons (dC .non) (dNil))))))))))))))))))))
def m_law : List D → M D := fun ds => fin (b_law (enter 10 ds))
structure TF (K : PySem.W.Frag) (mg : Str → Option Value) (g : Ce) (Ca Ci : Nat → Addr) (AW : Addr) : Prop where
  f__law_start : FunAt K mg "_law_start" (top 36) ["script"]
  f__law_draw : FunAt K mg "_law_draw" (top 37) ["state", "many"]
  f__law_pick : FunAt K mg "_law_pick" (top 38) ["state", "some"]
  f__law_sum : FunAt K mg "_law_sum" (top 45) ["weights", "row"]
  f__law_bent : FunAt K mg "_law_bent" (top 43) ["state", "value"]
  f_is_integer : FunAt K mg "is_integer" (top 10) ["value"]
  f_is_between : FunAt K mg "is_between" (top 11) ["value", "low", "high"]
  f_check_changes : FunAt K mg "check_changes" (top 13) ["changes"]
  f_check_mark : FunAt K mg "check_mark" (top 18) ["changes", "mark"]
  f_check_second : FunAt K mg "check_second" (top 28) ["changes", "mark"]
  f_is_integers : FunAt K mg "is_integers" (top 24) ["value", "many"]
  f_weighed : FunAt K mg "weighed" (top 16) ["weights", "row"]
  f_accept_counts : FunAt K mg "accept_counts" (top 30) ["changes", "one", "other", "counts", "times"]
  f_accept_apart : FunAt K mg "accept_apart" (top 29) ["changes", "one", "other", "weights"]
  f_is_weights : FunAt K mg "is_weights" (top 17) ["value", "many"]
  f_accept_bound : FunAt K mg "accept_bound" (top 34) ["changes", "mark", "place", "bound", "weights"]
  f_judge_between : FunAt K mg "judge_between" (top 27) ["changes", "one", "other"]
  f_check_weights : FunAt K mg "check_weights" (top 25) ["changes", "weights"]
  f_judge_kept : FunAt K mg "judge_kept" (top 26) ["changes", "weights"]
  f_bounds_by : FunAt K mg "bounds_by" (top 33) ["changes", "mark"]
  f_kept_weights : FunAt K mg "kept_weights" (top 23) ["changes"]
  f_least_keeps : FunAt K mg "least_keeps" (top 32) ["changes"]
  f__law_called : FunAt K mg "_law_called" (top 40) ["call", "some"]
  f__law_word : FunAt K mg "_law_word" (top 39) ["error"]
  f__law_heard : FunAt K mg "_law_heard" (top 41) ["call", "some"]
  f__law_whole : FunAt K mg "_law_whole" (top 42) ["value"]
  f__law_row : FunAt K mg "_law_row" (top 44) ["value", "many"]
  f__law_apart_due : FunAt K mg "_law_apart_due" (top 46) ["changes", "one", "other", "weights"]
  f__law_bound_due : FunAt K mg "_law_bound_due" (top 48) ["changes", "mark", "place", "bound", "weights"]
  f__law_counts_due : FunAt K mg "_law_counts_due" (top 47) ["changes", "one", "other", "counts", "times"]
  f__law_papers_hold : FunAt K mg "_law_papers_hold" (top 49) ["state"]
  f__law_less_hold : FunAt K mg "_law_less_hold" (top 50) ["state"]
  f_law : FunAt K mg "law" (top 51) ["script"]
  k_MAX_MOVES : ∃ t, mg "MAX_MOVES" = some (.int 12 t)
  k_MAX_PLACES : ∃ t, mg "MAX_PLACES" = some (.int 10 t)
  k_MAX_SIZE : ∃ t, mg "MAX_SIZE" = some (.int 1000000000000 t)
  b_abs : mg "abs" = none
  b_all : mg "all" = none
  b_bool : mg "bool" = none
  b_enumerate : mg "enumerate" = none
  b_int : mg "int" = none
  b_isinstance : mg "isinstance" = none
  b_len : mg "len" = none
  b_list : mg "list" = none
  b_min : mg "min" = none
  b_range : mg "range" = none
  b_sum : mg "sum" = none
  b_tuple : mg "tuple" = none
  b_zip : mg "zip" = none
  v_accept_counts : ∃ f, mg "accept_counts" = some (.ref f) ∧ g.fa 0 = some f
  v_accept_apart : ∃ f, mg "accept_apart" = some (.ref f) ∧ g.fa 1 = some f
  v_accept_bound : ∃ f, mg "accept_bound" = some (.ref f) ∧ g.fa 2 = some f
  v_judge_between : ∃ f, mg "judge_between" = some (.ref f) ∧ g.fa 3 = some f
  v_judge_kept : ∃ f, mg "judge_kept" = some (.ref f) ∧ g.fa 4 = some f
  v_bounds_by : ∃ f, mg "bounds_by" = some (.ref f) ∧ g.fa 5 = some f
  v_kept_weights : ∃ f, mg "kept_weights" = some (.ref f) ∧ g.fa 6 = some f
  v_least_keeps : ∃ f, mg "least_keeps" = some (.ref f) ∧ g.fa 7 = some f
  w : WCls K mg g Ca
  wk : mg "WorkError" = some (.ref AW)
  x0 : Sup.Txt PP K mg (Ca 0) (Ci 0)
  x1 : Sup.Txt PP K mg (Ca 1) (Ci 1)
  x2 : Sup.Txt PP K mg (Ca 2) (Ci 2)
  x3 : Sup.Txt PP K mg (Ca 3) (Ci 3)
  en : ∀ i, g.en i = "reason"
  hx : ∀ i, i < 4 → PySem.W.exmOne K (.ref (Ca i)) (.ref AW) = some true
  xm : ∀ i j, i < 4 → j < 4 → PySem.W.exmOne K (.ref (Ca i)) (.ref (Ca j)) = some (i == j)
section
variable {w : World} {K : PySem.W.Frag} {mg : Str → Option Value} {base : Heap} {g : Ce} {Ca Ci : Nat → Addr} {AW : Addr}
theorem sc__law_start : FnScope N__law_start ["script"] (defScope (top 36)) := ⟨rfl, rfl, rfl, by decide +kernel, rfl, by decide +kernel, by decide +kernel⟩
theorem ok__law_start (nn : Bool) (T : TF K mg g Ca Ci AW) : Fok nn PP w K mg base 1 "_law_start" (spF (ck K g) 1 m__law_start) := by
  have b_int := T.b_int
  have b_list := T.b_list
  refine fok_fresh (k := 0) (N := N__law_start) (body := b__law_start) T.f__law_start sc__law_start rfl (by decide) (fun _ => rfl) fun X W C pa => ?_
  unfold b__law_start
  exact ss_cons (s_set C 1 rfl (by decide +kernel) (e_int))
      (ss_cons (s_for (vs := [2]) C (i_items (n_var C 0 "script" rfl (by decide +kernel) dbg_script cld_script)) (g_name (n_pg C 2 "cell" rfl (by decide +kernel)) (by decide)) (ss_one (s_set C 1 rfl (by decide +kernel) (eAdd (.inl rfl) (eMod (.inl rfl) (e_callT call_int1 vc_int bInt_nr (gloB_of C (by decide +kernel)) (mgn C b_int) rfl (a_cons (.inl rfl) (eAdd (.inl rfl) (eMul (.inl rfl) (n_var C 1 "seed" rfl (by decide +kernel) dbg_seed cld_seed) (e_int)) (n_var C 2 "cell" rfl (by decide +kernel) dbg_cell cld_cell)) (a_nil))) (e_int)) (e_int)))))
      (ss_one (s_retF (f_lst rfl (a_cons (.inl rfl) (DF.val (f_callT call_list_of vcf_list bList_nr (gloB_of C (by decide +kernel)) (mgn C b_list) rfl (a_cons (.inl rfl) (n_var C 0 "script" rfl (by decide +kernel) dbg_script cld_script) (a_nil)))) (a_cons (.inl rfl) (e_int) (a_cons (.inl rfl) (e_int) (a_cons (.inl rfl) (n_var C 1 "seed" rfl (by decide +kernel) dbg_seed cld_seed) (a_nil)))))))))
theorem sc__law_draw : FnScope N__law_draw ["state", "many"] (defScope (top 37)) := ⟨rfl, rfl, rfl, by decide +kernel, rfl, by decide +kernel, by decide +kernel⟩
theorem ok__law_draw (nn : Bool) (T : TF K mg g Ca Ci AW) : Fok nn PP w K mg base 1 "_law_draw" (spO (ck K g) 1 m__law_draw) := by
  have b_abs := T.b_abs
  have b_int := T.b_int
  have b_len := T.b_len
  refine fok_own (k := 0) (N := N__law_draw) (body := b__law_draw) T.f__law_draw sc__law_draw rfl (by decide) (fun _ _ => rfl) fun X W C pa => ?_
  unfold b__law_draw
  exact ss_cons (s_if (t_w (w_and (tEq C (.inl rfl) (eIx (.inr rfl) (n_varO C 0 "state" rfl (by decide +kernel) dbg_state cld_state) (e_int)) (e_int)) (w_and1 (tGe (.inl rfl) (eIx (.inr rfl) (n_varO C 0 "state" rfl (by decide +kernel) dbg_state cld_state) (e_int)) (e_callB call_len vc_len bLen_nr (gloB_of C (by decide +kernel)) (mgn C b_len) rfl (a_cons (.inl rfl) (eIx (.inr rfl) (n_varO C 0 "state" rfl (by decide +kernel) dbg_state cld_state) (e_int)) (a_nil))))))) (ss_cons (s_sub (n_pe C 0 "state" rfl (by decide +kernel) dbg_state cld_state) (e_int) (eMod (.inl rfl) (e_callT call_int1 vc_int bInt_nr (gloB_of C (by decide +kernel)) (mgn C b_int) rfl (a_cons (.inl rfl) (eAdd (.inl rfl) (eMul (.inl rfl) (eIx (.inr rfl) (n_varO C 0 "state" rfl (by decide +kernel) dbg_state cld_state) (e_int)) (e_int)) (e_int)) (a_nil))) (e_int)))
      (ss_one (s_ret (eMod (.inl rfl) (e_callT call_int1 vc_int bInt_nr (gloB_of C (by decide +kernel)) (mgn C b_int) rfl (a_cons (.inl rfl) (eFdiv (.inl rfl) (eIx (.inr rfl) (n_varO C 0 "state" rfl (by decide +kernel) dbg_state cld_state) (e_int)) (e_int)) (a_nil))) (n_var C 1 "many" rfl (by decide +kernel) dbg_many cld_many))))) (ss_nil))
      (ss_cons (s_if (tEq C (.inl rfl) (eIx (.inr rfl) (n_varO C 0 "state" rfl (by decide +kernel) dbg_state cld_state) (e_int)) (e_int)) (ss_cons (s_sub (n_pe C 0 "state" rfl (by decide +kernel) dbg_state cld_state) (e_int) (e_callB call_abs vc_abs bAbs_nr (gloB_of C (by decide +kernel)) (mgn C b_abs) rfl (a_cons (.inl rfl) (eIx (.inl rfl) (eIx (.inr rfl) (n_varO C 0 "state" rfl (by decide +kernel) dbg_state cld_state) (e_int)) (eIx (.inr rfl) (n_varO C 0 "state" rfl (by decide +kernel) dbg_state cld_state) (e_int))) (a_nil))))
      (ss_one (s_sub (n_pe C 0 "state" rfl (by decide +kernel) dbg_state cld_state) (e_int) (eAdd (.inl rfl) (eIx (.inr rfl) (n_varO C 0 "state" rfl (by decide +kernel) dbg_state cld_state) (e_int)) (e_int))))) (ss_nil))
      (ss_cons (s_set C 2 rfl (by decide +kernel) (eMod (.inl rfl) (e_callT call_int1 vc_int bInt_nr (gloB_of C (by decide +kernel)) (mgn C b_int) rfl (a_cons (.inl rfl) (eIx (.inr rfl) (n_varO C 0 "state" rfl (by decide +kernel) dbg_state cld_state) (e_int)) (a_nil))) (n_var C 1 "many" rfl (by decide +kernel) dbg_many cld_many)))
      (ss_cons (s_sub (n_pe C 0 "state" rfl (by decide +kernel) dbg_state cld_state) (e_int) (eFdiv (.inl rfl) (eIx (.inr rfl) (n_varO C 0 "state" rfl (by decide +kernel) dbg_state cld_state) (e_int)) (n_var C 1 "many" rfl (by decide +kernel) dbg_many cld_many)))
      (ss_one (s_ret (n_var C 2 "value" rfl (by decide +kernel) dbg_value cld_value))))))
theorem sc__law_pick : FnScope N__law_pick ["state", "some"] (defScope (top 38)) := ⟨rfl, rfl, rfl, by decide +kernel, rfl, by decide +kernel, by decide +kernel⟩
theorem ok__law_pick (nn : Bool) (T : TF K mg g Ca Ci AW) : Fok nn PP w K mg base 2 "_law_pick" (spO (ck K g) 1 m__law_pick) := by
  have b_len := T.b_len
  have F__law_draw := ok__law_draw (w := w) (base := base) nn T
  refine fok_own (k := 1) (N := N__law_pick) (body := b__law_pick) T.f__law_pick sc__law_pick rfl (by decide) (fun _ _ => rfl) fun X W C pa => ?_
  unfold b__law_pick
  exact ss_one (s_ret (eIx (.inl rfl) (n_var C 1 "some" rfl (by decide +kernel) dbg_some cld_some) (e_callO C F__law_draw (by decide) (by decide +kernel) rfl 0 (n_pe C 0 "state" rfl (by decide +kernel) dbg_state cld_state) (a_cons (.inl rfl) (e_callB call_len vc_len bLen_nr (gloB_of C (by decide +kernel)) (mgn C b_len) rfl (a_cons (.inl rfl) (n_var C 1 "some" rfl (by decide +kernel) dbg_some cld_some) (a_nil))) (a_nil)) dbg__law_draw)))
theorem sc__law_sum : FnScope N__law_sum ["weights", "row"] (defScope (top 45)) := ⟨rfl, rfl, rfl, by decide +kernel, rfl, by decide +kernel, by decide +kernel⟩
theorem ok__law_sum (nn : Bool) (T : TF K mg g Ca Ci AW) : Fok nn PP w K mg base 1 "_law_sum" (spP (ck K g) 2 m__law_sum) := by
  have b_len := T.b_len
  have b_range := T.b_range
  have b_sum := T.b_sum
  refine fok_pure (k := 0) (N := N__law_sum) (body := b__law_sum) T.f__law_sum sc__law_sum rfl (by decide) (fun _ => rfl) fun X W C pa => ?_
  unfold b__law_sum
  exact ss_one (s_ret (e_callB (cr_sumA C.calm) vc_sum bSum_nr (gloB_of C (by decide +kernel)) (mgn C b_sum) rfl (a_cons (.inl rfl) (DF.val (f_lc C [("k", 2)] (by decide +kernel) (i_rng1 (gloB_of C (by decide +kernel)) (mgn C b_range) (a_cons (.inl rfl) (e_callB call_len vc_len bLen_nr (gloB_of C (by decide +kernel)) (mgn C b_len) rfl (a_cons (.inl rfl) (n_var C 1 "row" rfl (by decide +kernel) dbg_row cld_row) (a_nil))) (a_nil))) (fun s1 H1 A1 l1 p1 => g_name (n_tg C s1 H1 A1 l1 p1 2 rfl (by decide +kernel)) (by decide)) (fun s1 H1 A1 l1 p1 => c_nil) (fun s1 H1 A1 l1 p1 => eMul (.inl rfl) (eIx (.inl rfl) (n_var (C.blk s1 H1 _ A1 l1 p1) 0 "weights" rfl (by decide +kernel) dbg_weights cld_weights) (n_var (C.blk s1 H1 _ A1 l1 p1) 2 "k" rfl (by decide +kernel) dbg_k cld_k)) (eIx (.inl rfl) (n_var (C.blk s1 H1 _ A1 l1 p1) 1 "row" rfl (by decide +kernel) dbg_row cld_row) (n_var (C.blk s1 H1 _ A1 l1 p1) 2 "k" rfl (by decide +kernel) dbg_k cld_k))))) (a_nil))))
theorem sc__law_bent : FnScope N__law_bent ["state", "value"] (defScope (top 43)) := ⟨rfl, rfl, rfl, by decide +kernel, rfl, by decide +kernel, by decide +kernel⟩
theorem ok__law_bent (nn : Bool) (T : TF K mg g Ca Ci AW) : Fok nn PP w K mg base 3 "_law_bent" (spO (ck K g) 1 m__law_bent) := by
  have b_int := T.b_int
  have b_isinstance := T.b_isinstance
  have b_len := T.b_len
  have b_list := T.b_list
  have b_tuple := T.b_tuple
  have F__law_draw := ok__law_draw (w := w) (base := base) nn T
  have F__law_pick := ok__law_pick (w := w) (base := base) nn T
  refine fok_own (k := 2) (N := N__law_bent) (body := b__law_bent) T.f__law_bent sc__law_bent rfl (by decide) (fun _ _ => rfl) fun X W C pa => ?_
  unfold b__law_bent
  exact ss_cons (s_if (t_w (w_or (t_not (tTruth (e_isi kitT_tuple (gloB_of C (by decide +kernel)) (mgn C b_isinstance) (gloB_of C (by decide +kernel)) (mgn C b_tuple) rfl (n_var C 1 "value" rfl (by decide +kernel) dbg_value cld_value)))) (w_or1 (t_not (tTruth (n_var C 1 "value" rfl (by decide +kernel) dbg_value cld_value)))))) (ss_never) (ss_nil))
      (ss_cons (s_par C 3 4 rfl rfl (by decide) (by decide +kernel) (by decide +kernel) rfl (a_cons (.inl rfl) (e_callO C F__law_draw (by decide) (by decide +kernel) rfl 0 (n_pe C 0 "state" rfl (by decide +kernel) dbg_state cld_state) (a_cons (.inl rfl) (e_callB call_len vc_len bLen_nr (gloB_of C (by decide +kernel)) (mgn C b_len) rfl (a_cons (.inl rfl) (n_var C 1 "value" rfl (by decide +kernel) dbg_value cld_value) (a_nil))) (a_nil)) dbg__law_draw) (a_cons (.inl rfl) (e_callO C F__law_draw (by decide) (by decide +kernel) rfl 0 (n_pe C 0 "state" rfl (by decide +kernel) dbg_state cld_state) (a_cons (.inl rfl) (e_int) (a_nil)) dbg__law_draw) (a_nil))) (by rfl))
      (ss_cons (s_set C 2 rfl (by decide +kernel) (eIx (.inl rfl) (n_var C 1 "value" rfl (by decide +kernel) dbg_value cld_value) (n_var C 3 "at" rfl (by decide +kernel) dbg_at cld_at)))
      (ss_cons (s_if (t_w (w_and (tLt (.inl rfl) (n_var C 4 "how" rfl (by decide +kernel) dbg_how cld_how) (e_int)) (w_and1 (tTruth (e_isi kitT_tuple (gloB_of C (by decide +kernel)) (mgn C b_isinstance) (gloB_of C (by decide +kernel)) (mgn C b_tuple) rfl (n_var C 2 "part" rfl (by decide +kernel) dbg_part cld_part)))))) (ss_never) (ss_nil))
      (ss_cons (s_if (t_w (w_and (tLt (.inl rfl) (n_var C 4 "how" rfl (by decide +kernel) dbg_how cld_how) (e_int)) (w_and1 (tTruth (e_isi kitT_int (gloB_of C (by decide +kernel)) (mgn C b_isinstance) (gloB_of C (by decide +kernel)) (mgn C b_int) rfl (n_var C 2 "part" rfl (by decide +kernel) dbg_part cld_part)))))) (ss_one (s_ret (eAdd (.inl rfl) (eAdd (.inl rfl) (e_slice ⟨.inl rfl, .inl rfl⟩ (n_var C 1 "value" rfl (by decide +kernel) dbg_value cld_value) (o_none) (o_some (n_var C 3 "at" rfl (by decide +kernel) dbg_at cld_at))) (e_tup rfl (a_cons (.inl rfl) (e_callO C F__law_pick (by decide) (by decide +kernel) rfl 0 (n_pe C 0 "state" rfl (by decide +kernel) dbg_state cld_state) (a_cons (.inl rfl) (DF.val (f_lst rfl (a_cons (.inl rfl) (eAdd (.inl rfl) (n_var C 2 "part" rfl (by decide +kernel) dbg_part cld_part) (e_int)) (a_cons (.inl rfl) (eSub (.inl rfl) (n_var C 2 "part" rfl (by decide +kernel) dbg_part cld_part) (e_int)) (a_cons (.inl rfl) (eEq C (.inl rfl) (n_var C 2 "part" rfl (by decide +kernel) dbg_part cld_part) (e_int)) (a_cons (.inl rfl) (e_non) (a_cons (.inl rfl) (eAdd (.inl rfl) (n_var C 2 "part" rfl (by decide +kernel) dbg_part cld_part) (e_int)) (a_nil)))))))) (a_nil)) dbg__law_pick) (a_nil)))) (e_slice ⟨.inl rfl, .inl rfl⟩ (n_var C 1 "value" rfl (by decide +kernel) dbg_value cld_value) (o_some (eAdd (.inl rfl) (n_var C 3 "at" rfl (by decide +kernel) dbg_at cld_at) (e_int))) (o_none))))) (ss_nil))
      (ss_cons (s_if (tLt (.inl rfl) (n_var C 4 "how" rfl (by decide +kernel) dbg_how cld_how) (e_int)) (ss_never) (ss_nil))
      (ss_one (s_ret (eIx (.inl rfl) (DF.val (f_lst rfl (a_cons (.inl rfl) (eAdd (.inl rfl) (e_slice ⟨.inl rfl, .inl rfl⟩ (n_var C 1 "value" rfl (by decide +kernel) dbg_value cld_value) (o_none) (o_some (n_var C 3 "at" rfl (by decide +kernel) dbg_at cld_at))) (e_slice ⟨.inl rfl, .inl rfl⟩ (n_var C 1 "value" rfl (by decide +kernel) dbg_value cld_value) (o_some (eAdd (.inl rfl) (n_var C 3 "at" rfl (by decide +kernel) dbg_at cld_at) (e_int))) (o_none))) (a_cons (.inl rfl) (eAdd (.inl rfl) (n_var C 1 "value" rfl (by decide +kernel) dbg_value cld_value) (e_tup rfl (a_cons (.inl rfl) (n_var C 2 "part" rfl (by decide +kernel) dbg_part cld_part) (a_nil)))) (a_cons (.inl rfl) (DF.val (f_callT call_list_of vcf_list bList_nr (gloB_of C (by decide +kernel)) (mgn C b_list) rfl (a_cons (.inl rfl) (n_var C 1 "value" rfl (by decide +kernel) dbg_value cld_value) (a_nil)))) (a_nil)))))) (eSub (.inl rfl) (n_var C 4 "how" rfl (by decide +kernel) dbg_how cld_how) (e_int))))))))))
theorem sc_is_integer : FnScope N_is_integer ["value"] (defScope (top 10)) := ⟨rfl, rfl, rfl, by decide +kernel, rfl, by decide +kernel, by decide +kernel⟩
theorem ok_is_integer (nn : Bool) (T : TF K mg g Ca Ci AW) : Fok nn PP w K mg base 1 "is_integer" (spP (ck K g) 1 m_is_integer) := by
  have b_bool := T.b_bool
  have b_int := T.b_int
  have b_isinstance := T.b_isinstance
  refine fok_pure (k := 0) (N := N_is_integer) (body := b_is_integer) T.f_is_integer sc_is_integer rfl (by decide) (fun _ => rfl) fun X W C pa => ?_
  unfold b_is_integer
  exact ss_one (s_ret (e_and (e_isi kitT_int (gloB_of C (by decide +kernel)) (mgn C b_isinstance) (gloB_of C (by decide +kernel)) (mgn C b_int) rfl (n_var C 0 "value" rfl (by decide +kernel) dbg_value cld_value)) (e_one (e_not (e_isi kitT_bool (gloB_of C (by decide +kernel)) (mgn C b_isinstance) (gloB_of C (by decide +kernel)) (mgn C b_bool) rfl (n_var C 0 "value" rfl (by decide +kernel) dbg_value cld_value))))))
theorem sc_is_between : FnScope N_is_between ["value", "low", "high"] (defScope (top 11)) := ⟨rfl, rfl, rfl, by decide +kernel, rfl, by decide +kernel, by decide +kernel⟩
theorem ok_is_between (nn : Bool) (T : TF K mg g Ca Ci AW) : Fok nn PP w K mg base 2 "is_between" (spP (ck K g) 3 m_is_between) := by
  have F_is_integer := ok_is_integer (w := w) (base := base) nn T
  refine fok_pure (k := 1) (N := N_is_between) (body := b_is_between) T.f_is_between sc_is_between rfl (by decide) (fun _ => rfl) fun X W C pa => ?_
  unfold b_is_between
  exact ss_one (s_ret (e_and (e_call C F_is_integer (by decide) (by decide +kernel) rfl (a_cons (.inl rfl) (n_var C 0 "value" rfl (by decide +kernel) dbg_value cld_value) (a_nil)) dbg_is_integer) (e_one (e_chain op_leD op_leD vb_cmpI vb_cmpI dCmpI_nr dCmpI_nr rfl (n_var C 1 "low" rfl (by decide +kernel) dbg_low cld_low) (n_var C 0 "value" rfl (by decide +kernel) dbg_value cld_value) (n_var C 2 "high" rfl (by decide +kernel) dbg_high cld_high)))))
theorem sc_check_changes : FnScope N_check_changes ["changes"] (defScope (top 13)) := ⟨rfl, rfl, rfl, by decide +kernel, rfl, by decide +kernel, by decide +kernel⟩
theorem ok_check_changes (nn : Bool) (T : TF K mg g Ca Ci AW) : Fok nn PP w K mg base 3 "check_changes" (spP (ck K g) 1 m_check_changes) := by
  obtain ⟨t_MAX_MOVES, k_MAX_MOVES⟩ := T.k_MAX_MOVES
  obtain ⟨t_MAX_PLACES, k_MAX_PLACES⟩ := T.k_MAX_PLACES
  obtain ⟨t_MAX_SIZE, k_MAX_SIZE⟩ := T.k_MAX_SIZE
  have b_all := T.b_all
  have b_isinstance := T.b_isinstance
  have b_len := T.b_len
  have b_tuple := T.b_tuple
  have F_is_between := ok_is_between (w := w) (base := base) nn T
  refine fok_pure (k := 2) (N := N_check_changes) (body := b_check_changes) T.f_check_changes sc_check_changes rfl (by decide) (fun _ => rfl) fun X W C pa => ?_
  unfold b_check_changes
  exact ss_cons (s_if (t_w (w_or (t_not (tTruth (e_isi kitT_tuple (gloB_of C (by decide +kernel)) (mgn C b_isinstance) (gloB_of C (by decide +kernel)) (mgn C b_tuple) rfl (n_var C 0 "changes" rfl (by decide +kernel) dbg_changes cld_changes)))) (w_or1 (t_not (t_chain op_leD op_leD vb_cmpI vb_cmpI dCmpI_nr dCmpI_nr rfl (e_int) (e_callB call_len vc_len bLen_nr (gloB_of C (by decide +kernel)) (mgn C b_len) rfl (a_cons (.inl rfl) (n_var C 0 "changes" rfl (by decide +kernel) dbg_changes cld_changes) (a_nil))) (n_const C (by decide +kernel) k_MAX_MOVES dbg_MAX_MOVES)))))) (ss_one (s_raise C (j := 0) T.x0 (by decide) (by decide +kernel) T.w.m0 (T.w.ec 0 (by decide)) (T.en 0) (e_str))) (ss_nil))
      (ss_one (s_for (vs := [1]) C (i_items (n_var C 0 "changes" rfl (by decide +kernel) dbg_changes cld_changes)) (g_name (n_pg C 1 "row" rfl (by decide +kernel)) (by decide)) (ss_cons (s_if (t_w (w_or (t_not (tTruth (e_isi kitT_tuple (gloB_of C (by decide +kernel)) (mgn C b_isinstance) (gloB_of C (by decide +kernel)) (mgn C b_tuple) rfl (n_var C 1 "row" rfl (by decide +kernel) dbg_row cld_row)))) (w_or (t_not (t_chain op_leD op_leD vb_cmpI vb_cmpI dCmpI_nr dCmpI_nr rfl (e_int) (e_callB call_len vc_len bLen_nr (gloB_of C (by decide +kernel)) (mgn C b_len) rfl (a_cons (.inl rfl) (n_var C 1 "row" rfl (by decide +kernel) dbg_row cld_row) (a_nil))) (n_const C (by decide +kernel) k_MAX_PLACES dbg_MAX_PLACES))) (w_or1 (tNe C (.inl rfl) (e_callB call_len vc_len bLen_nr (gloB_of C (by decide +kernel)) (mgn C b_len) rfl (a_cons (.inl rfl) (n_var C 1 "row" rfl (by decide +kernel) dbg_row cld_row) (a_nil))) (e_callB call_len vc_len bLen_nr (gloB_of C (by decide +kernel)) (mgn C b_len) rfl (a_cons (.inl rfl) (eIx (.inl rfl) (n_var C 0 "changes" rfl (by decide +kernel) dbg_changes cld_changes) (e_int)) (a_nil)))))))) (ss_one (s_raise C (j := 0) T.x0 (by decide) (by decide +kernel) T.w.m0 (T.w.ec 0 (by decide)) (T.en 0) (e_str))) (ss_nil))
      (ss_one (s_if (t_not (tTruth (e_callB (cr_all C.calm) vc_all bAll_nr (gloB_of C (by decide +kernel)) (mgn C b_all) rfl (a_cons (.inl rfl) (DF.val (f_lc C [("own", 2)] (by decide +kernel) (i_items (n_var C 1 "row" rfl (by decide +kernel) dbg_row cld_row)) (fun s1 H1 A1 l1 p1 => g_name (n_tg C s1 H1 A1 l1 p1 2 rfl (by decide +kernel)) (by decide)) (fun s1 H1 A1 l1 p1 => c_nil) (fun s1 H1 A1 l1 p1 => e_call (C.blk s1 H1 _ A1 l1 p1) F_is_between (by decide) (by decide +kernel) rfl (a_cons (.inl rfl) (n_var (C.blk s1 H1 _ A1 l1 p1) 2 "own" rfl (by decide +kernel) dbg_own cld_own) (a_cons (.inl rfl) (e_neg (n_const (C.blk s1 H1 _ A1 l1 p1) (by decide +kernel) k_MAX_SIZE dbg_MAX_SIZE)) (a_cons (.inl rfl) (n_const (C.blk s1 H1 _ A1 l1 p1) (by decide +kernel) k_MAX_SIZE dbg_MAX_SIZE) (a_nil)))) dbg_is_between))) (a_nil))))) (ss_one (s_raise C (j := 0) T.x0 (by decide) (by decide +kernel) T.w.m0 (T.w.ec 0 (by decide)) (T.en 0) (e_str))) (ss_nil))))))
theorem sc_check_mark : FnScope N_check_mark ["changes", "mark"] (defScope (top 18)) := ⟨rfl, rfl, rfl, by decide +kernel, rfl, by decide +kernel, by decide +kernel⟩
theorem ok_check_mark (nn : Bool) (T : TF K mg g Ca Ci AW) : Fok nn PP w K mg base 3 "check_mark" (spP (ck K g) 2 m_check_mark) := by
  obtain ⟨t_MAX_SIZE, k_MAX_SIZE⟩ := T.k_MAX_SIZE
  have b_all := T.b_all
  have b_isinstance := T.b_isinstance
  have b_len := T.b_len
  have b_tuple := T.b_tuple
  have F_is_between := ok_is_between (w := w) (base := base) nn T
  refine fok_pure (k := 2) (N := N_check_mark) (body := b_check_mark) T.f_check_mark sc_check_mark rfl (by decide) (fun _ => rfl) fun X W C pa => ?_
  unfold b_check_mark
  exact ss_cons (s_if (t_w (w_or (t_not (tTruth (e_isi kitT_tuple (gloB_of C (by decide +kernel)) (mgn C b_isinstance) (gloB_of C (by decide +kernel)) (mgn C b_tuple) rfl (n_var C 1 "mark" rfl (by decide +kernel) dbg_mark cld_mark)))) (w_or1 (tNe C (.inl rfl) (e_callB call_len vc_len bLen_nr (gloB_of C (by decide +kernel)) (mgn C b_len) rfl (a_cons (.inl rfl) (n_var C 1 "mark" rfl (by decide +kernel) dbg_mark cld_mark) (a_nil))) (e_callB call_len vc_len bLen_nr (gloB_of C (by decide +kernel)) (mgn C b_len) rfl (a_cons (.inl rfl) (eIx (.inl rfl) (n_var C 0 "changes" rfl (by decide +kernel) dbg_changes cld_changes) (e_int)) (a_nil))))))) (ss_one (s_raise C (j := 0) T.x1 (by decide) (by decide +kernel) T.w.m1 (T.w.ec 1 (by decide)) (T.en 1) (e_str))) (ss_nil))
      (ss_one (s_if (t_not (tTruth (e_callB (cr_all C.calm) vc_all bAll_nr (gloB_of C (by decide +kernel)) (mgn C b_all) rfl (a_cons (.inl rfl) (DF.val (f_lc C [("own", 2)] (by decide +kernel) (i_items (n_var C 1 "mark" rfl (by decide +kernel) dbg_mark cld_mark)) (fun s1 H1 A1 l1 p1 => g_name (n_tg C s1 H1 A1 l1 p1 2 rfl (by decide +kernel)) (by decide)) (fun s1 H1 A1 l1 p1 => c_nil) (fun s1 H1 A1 l1 p1 => e_call (C.blk s1 H1 _ A1 l1 p1) F_is_between (by decide) (by decide +kernel) rfl (a_cons (.inl rfl) (n_var (C.blk s1 H1 _ A1 l1 p1) 2 "own" rfl (by decide +kernel) dbg_own cld_own) (a_cons (.inl rfl) (e_int) (a_cons (.inl rfl) (n_const (C.blk s1 H1 _ A1 l1 p1) (by decide +kernel) k_MAX_SIZE dbg_MAX_SIZE) (a_nil)))) dbg_is_between))) (a_nil))))) (ss_one (s_raise C (j := 0) T.x1 (by decide) (by decide +kernel) T.w.m1 (T.w.ec 1 (by decide)) (T.en 1) (e_str))) (ss_nil)))
theorem sc_check_second : FnScope N_check_second ["changes", "mark"] (defScope (top 28)) := ⟨rfl, rfl, rfl, by decide +kernel, rfl, by decide +kernel, by decide +kernel⟩
theorem ok_check_second  (T : TF K mg g Ca Ci AW) : Fok false PP w K mg base 4 "check_second" (spP (ck K g) 2 m_check_second) := by
  have F_check_mark := ok_check_mark (w := w) (base := base) false T
  have G_check_mark := ok_check_mark (w := w) (base := base) true T
  refine fok_pure (k := 3) (N := N_check_second) (body := b_check_second) T.f_check_second sc_check_second rfl (by decide) (fun _ => rfl) fun X W C pa => ?_
  unfold b_check_second
  exact ss_one (s_reraise C pa T.w T.x1 (by decide +kernel) T.w.m1 (fun i h => T.xm i 1 h (by decide)) (by decide +kernel) T.w.m1 (T.w.ec 1 (by decide)) (T.en 1) (fun X1 W1 Y1 => ss_one (s_drop (e_call Y1 G_check_mark (by decide) (by decide +kernel) rfl (a_cons (.inl rfl) (n_var Y1 0 "changes" rfl (by decide +kernel) dbg_changes cld_changes) (a_cons (.inl rfl) (n_var Y1 1 "mark" rfl (by decide +kernel) dbg_mark cld_mark) (a_nil))) dbg_check_mark))))
theorem sc_is_integers : FnScope N_is_integers ["value", "many"] (defScope (top 24)) := ⟨rfl, rfl, rfl, by decide +kernel, rfl, by decide +kernel, by decide +kernel⟩
theorem ok_is_integers (nn : Bool) (T : TF K mg g Ca Ci AW) : Fok nn PP w K mg base 2 "is_integers" (spP (ck K g) 2 m_is_integers) := by
  have b_all := T.b_all
  have b_isinstance := T.b_isinstance
  have b_len := T.b_len
  have b_tuple := T.b_tuple
  have F_is_integer := ok_is_integer (w := w) (base := base) nn T
  refine fok_pure (k := 1) (N := N_is_integers) (body := b_is_integers) T.f_is_integers sc_is_integers rfl (by decide) (fun _ => rfl) fun X W C pa => ?_
  unfold b_is_integers
  exact ss_one (s_ret (e_and (e_isi kitT_tuple (gloB_of C (by decide +kernel)) (mgn C b_isinstance) (gloB_of C (by decide +kernel)) (mgn C b_tuple) rfl (n_var C 0 "value" rfl (by decide +kernel) dbg_value cld_value)) (e_and (eEq C (.inl rfl) (e_callB call_len vc_len bLen_nr (gloB_of C (by decide +kernel)) (mgn C b_len) rfl (a_cons (.inl rfl) (n_var C 0 "value" rfl (by decide +kernel) dbg_value cld_value) (a_nil))) (n_var C 1 "many" rfl (by decide +kernel) dbg_many cld_many)) (e_one (e_callB (cr_all C.calm) vc_all bAll_nr (gloB_of C (by decide +kernel)) (mgn C b_all) rfl (a_cons (.inl rfl) (DF.val (f_lc C [("own", 2)] (by decide +kernel) (i_items (n_var C 0 "value" rfl (by decide +kernel) dbg_value cld_value)) (fun s1 H1 A1 l1 p1 => g_name (n_tg C s1 H1 A1 l1 p1 2 rfl (by decide +kernel)) (by decide)) (fun s1 H1 A1 l1 p1 => c_nil) (fun s1 H1 A1 l1 p1 => e_call (C.blk s1 H1 _ A1 l1 p1) F_is_integer (by decide) (by decide +kernel) rfl (a_cons (.inl rfl) (n_var (C.blk s1 H1 _ A1 l1 p1) 2 "own" rfl (by decide +kernel) dbg_own cld_own) (a_nil)) dbg_is_integer))) (a_nil)))))))
theorem sc_weighed : FnScope N_weighed ["weights", "row"] (defScope (top 16)) := ⟨rfl, rfl, rfl, by decide +kernel, rfl, by decide +kernel, by decide +kernel⟩
theorem ok_weighed (nn : Bool) (T : TF K mg g Ca Ci AW) : Fok nn PP w K mg base 1 "weighed" (spP (ck K g) 2 m_weighed) := by
  have b_sum := T.b_sum
  have b_zip := T.b_zip
  refine fok_pure (k := 0) (N := N_weighed) (body := b_weighed) T.f_weighed sc_weighed rfl (by decide) (fun _ => rfl) fun X W C pa => ?_
  unfold b_weighed
  exact ss_one (s_ret (e_callB (cr_sumA C.calm) vc_sum bSum_nr (gloB_of C (by decide +kernel)) (mgn C b_sum) rfl (a_cons (.inl rfl) (DF.val (f_lc C [("own", 2), ("part", 3)] (by decide +kernel) (i_zipB (gloB_of C (by decide +kernel)) (mgn C b_zip) (a_cons (.inl rfl) (n_var C 0 "weights" rfl (by decide +kernel) dbg_weights cld_weights) (a_cons (.inl rfl) (n_var C 1 "row" rfl (by decide +kernel) dbg_row cld_row) (a_nil)))) (fun s1 H1 A1 l1 p1 => g_tup (C.blk s1 H1 _ A1 l1 p1).calm (g_cons (g_name (n_tg C s1 H1 A1 l1 p1 2 rfl (by decide +kernel)) (by decide)) (g_cons (g_name (n_tg C s1 H1 A1 l1 p1 3 rfl (by decide +kernel)) (by decide)) (g_nil)))) (fun s1 H1 A1 l1 p1 => c_nil) (fun s1 H1 A1 l1 p1 => eMul (.inl rfl) (n_var (C.blk s1 H1 _ A1 l1 p1) 2 "own" rfl (by decide +kernel) dbg_own cld_own) (n_var (C.blk s1 H1 _ A1 l1 p1) 3 "part" rfl (by decide +kernel) dbg_part cld_part)))) (a_nil))))
theorem sc_accept_counts : FnScope N_accept_counts ["changes", "one", "other", "counts", "times"] (defScope (top 30)) := ⟨rfl, rfl, rfl, by decide +kernel, rfl, by decide +kernel, by decide +kernel⟩
theorem ok_accept_counts  (T : TF K mg g Ca Ci AW) : Fok false PP w K mg base 5 "accept_counts" (spP (ck K g) 5 m_accept_counts) := by
  have b_len := T.b_len
  have b_range := T.b_range
  have F_check_changes := ok_check_changes (w := w) (base := base) false T
  have F_check_mark := ok_check_mark (w := w) (base := base) false T
  have F_check_second := ok_check_second (w := w) (base := base) T
  have F_is_integers := ok_is_integers (w := w) (base := base) false T
  have F_is_integer := ok_is_integer (w := w) (base := base) false T
  have F_weighed := ok_weighed (w := w) (base := base) false T
  refine fok_pure (k := 4) (N := N_accept_counts) (body := b_accept_counts) T.f_accept_counts sc_accept_counts rfl (by decide) (fun _ => rfl) fun X W C pa => ?_
  unfold b_accept_counts
  exact ss_cons (s_drop (e_call C F_check_changes (by decide) (by decide +kernel) rfl (a_cons (.inl rfl) (n_var C 0 "changes" rfl (by decide +kernel) dbg_changes cld_changes) (a_nil)) dbg_check_changes))
      (ss_cons (s_drop (e_call C F_check_mark (by decide) (by decide +kernel) rfl (a_cons (.inl rfl) (n_var C 0 "changes" rfl (by decide +kernel) dbg_changes cld_changes) (a_cons (.inl rfl) (n_var C 1 "one" rfl (by decide +kernel) dbg_one cld_one) (a_nil))) dbg_check_mark))
      (ss_cons (s_drop (e_call C F_check_second (by decide) (by decide +kernel) rfl (a_cons (.inl rfl) (n_var C 0 "changes" rfl (by decide +kernel) dbg_changes cld_changes) (a_cons (.inl rfl) (n_var C 2 "other" rfl (by decide +kernel) dbg_other cld_other) (a_nil))) dbg_check_second))
      (ss_cons (s_if (t_not (tTruth (e_call C F_is_integers (by decide) (by decide +kernel) rfl (a_cons (.inl rfl) (n_var C 3 "counts" rfl (by decide +kernel) dbg_counts cld_counts) (a_cons (.inl rfl) (e_callB call_len vc_len bLen_nr (gloB_of C (by decide +kernel)) (mgn C b_len) rfl (a_cons (.inl rfl) (n_var C 0 "changes" rfl (by decide +kernel) dbg_changes cld_changes) (a_nil))) (a_nil))) dbg_is_integers))) (ss_one (s_raise C (j := 0) T.x2 (by decide) (by decide +kernel) T.w.m2 (T.w.ec 2 (by decide)) (T.en 2) (e_str))) (ss_nil))
      (ss_cons (s_if (t_w (w_or (t_not (tTruth (e_call C F_is_integer (by decide) (by decide +kernel) rfl (a_cons (.inl rfl) (n_var C 4 "times" rfl (by decide +kernel) dbg_times cld_times) (a_nil)) dbg_is_integer))) (w_or1 (tLt (.inl rfl) (n_var C 4 "times" rfl (by decide +kernel) dbg_times cld_times) (e_int))))) (ss_one (s_raise C (j := 0) T.x2 (by decide) (by decide +kernel) T.w.m2 (T.w.ec 2 (by decide)) (T.en 2) (e_str))) (ss_nil))
      (ss_one (s_for (vs := [5]) C (i_rng1 (gloB_of C (by decide +kernel)) (mgn C b_range) (a_cons (.inl rfl) (e_callB call_len vc_len bLen_nr (gloB_of C (by decide +kernel)) (mgn C b_len) rfl (a_cons (.inl rfl) (n_var C 1 "one" rfl (by decide +kernel) dbg_one cld_one) (a_nil))) (a_nil))) (g_name (n_pg C 5 "place" rfl (by decide +kernel)) (by decide)) (ss_one (s_if (tNe C (.inl rfl) (e_call C F_weighed (by decide) (by decide +kernel) rfl (a_cons (.inl rfl) (n_var C 3 "counts" rfl (by decide +kernel) dbg_counts cld_counts) (a_cons (.inl rfl) (DF.val (f_lc C [("row", 6)] (by decide +kernel) (i_items (n_var C 0 "changes" rfl (by decide +kernel) dbg_changes cld_changes)) (fun s1 H1 A1 l1 p1 => g_name (n_tg C s1 H1 A1 l1 p1 6 rfl (by decide +kernel)) (by decide)) (fun s1 H1 A1 l1 p1 => c_nil) (fun s1 H1 A1 l1 p1 => eIx (.inl rfl) (n_var (C.blk s1 H1 _ A1 l1 p1) 6 "row" rfl (by decide +kernel) dbg_row cld_row) (n_var (C.blk s1 H1 _ A1 l1 p1) 5 "place" rfl (by decide +kernel) dbg_place cld_place)))) (a_nil))) dbg_weighed) (eMul (.inl rfl) (n_var C 4 "times" rfl (by decide +kernel) dbg_times cld_times) (eSub (.inl rfl) (eIx (.inl rfl) (n_var C 2 "other" rfl (by decide +kernel) dbg_other cld_other) (n_var C 5 "place" rfl (by decide +kernel) dbg_place cld_place)) (eIx (.inl rfl) (n_var C 1 "one" rfl (by decide +kernel) dbg_one cld_one) (n_var C 5 "place" rfl (by decide +kernel) dbg_place cld_place))))) (ss_one (s_raise C (j := 0) T.x2 (by decide) (by decide +kernel) T.w.m2 (T.w.ec 2 (by decide)) (T.en 2) (e_str))) (ss_nil)))))))))
theorem sc_accept_apart : FnScope N_accept_apart ["changes", "one", "other", "weights"] (defScope (top 29)) := ⟨rfl, rfl, rfl, by decide +kernel, rfl, by decide +kernel, by decide +kernel⟩
theorem ok_accept_apart  (T : TF K mg g Ca Ci AW) : Fok false PP w K mg base 5 "accept_apart" (spP (ck K g) 4 m_accept_apart) := by
  have b_len := T.b_len
  have F_check_changes := ok_check_changes (w := w) (base := base) false T
  have F_check_mark := ok_check_mark (w := w) (base := base) false T
  have F_check_second := ok_check_second (w := w) (base := base) T
  have F_is_integers := ok_is_integers (w := w) (base := base) false T
  have F_weighed := ok_weighed (w := w) (base := base) false T
  refine fok_pure (k := 4) (N := N_accept_apart) (body := b_accept_apart) T.f_accept_apart sc_accept_apart rfl (by decide) (fun _ => rfl) fun X W C pa => ?_
  unfold b_accept_apart
  exact ss_cons (s_drop (e_call C F_check_changes (by decide) (by decide +kernel) rfl (a_cons (.inl rfl) (n_var C 0 "changes" rfl (by decide +kernel) dbg_changes cld_changes) (a_nil)) dbg_check_changes))
      (ss_cons (s_drop (e_call C F_check_mark (by decide) (by decide +kernel) rfl (a_cons (.inl rfl) (n_var C 0 "changes" rfl (by decide +kernel) dbg_changes cld_changes) (a_cons (.inl rfl) (n_var C 1 "one" rfl (by decide +kernel) dbg_one cld_one) (a_nil))) dbg_check_mark))
      (ss_cons (s_drop (e_call C F_check_second (by decide) (by decide +kernel) rfl (a_cons (.inl rfl) (n_var C 0 "changes" rfl (by decide +kernel) dbg_changes cld_changes) (a_cons (.inl rfl) (n_var C 2 "other" rfl (by decide +kernel) dbg_other cld_other) (a_nil))) dbg_check_second))
      (ss_cons (s_if (t_not (tTruth (e_call C F_is_integers (by decide) (by decide +kernel) rfl (a_cons (.inl rfl) (n_var C 3 "weights" rfl (by decide +kernel) dbg_weights cld_weights) (a_cons (.inl rfl) (e_callB call_len vc_len bLen_nr (gloB_of C (by decide +kernel)) (mgn C b_len) rfl (a_cons (.inl rfl) (eIx (.inl rfl) (n_var C 0 "changes" rfl (by decide +kernel) dbg_changes cld_changes) (e_int)) (a_nil))) (a_nil))) dbg_is_integers))) (ss_one (s_raise C (j := 0) T.x2 (by decide) (by decide +kernel) T.w.m2 (T.w.ec 2 (by decide)) (T.en 2) (e_str))) (ss_nil))
      (ss_cons (s_if (tTruth (DF.val (f_lc C [("row", 4)] (by decide +kernel) (i_items (n_var C 0 "changes" rfl (by decide +kernel) dbg_changes cld_changes)) (fun s1 H1 A1 l1 p1 => g_name (n_tg C s1 H1 A1 l1 p1 4 rfl (by decide +kernel)) (by decide)) (fun s1 H1 A1 l1 p1 => c_one (tNe (C.blk s1 H1 _ A1 l1 p1) (.inl rfl) (e_call (C.blk s1 H1 _ A1 l1 p1) F_weighed (by decide) (by decide +kernel) rfl (a_cons (.inl rfl) (n_var (C.blk s1 H1 _ A1 l1 p1) 3 "weights" rfl (by decide +kernel) dbg_weights cld_weights) (a_cons (.inl rfl) (n_var (C.blk s1 H1 _ A1 l1 p1) 4 "row" rfl (by decide +kernel) dbg_row cld_row) (a_nil))) dbg_weighed) (e_int))) (fun s1 H1 A1 l1 p1 => e_int)))) (ss_one (s_raise C (j := 0) T.x2 (by decide) (by decide +kernel) T.w.m2 (T.w.ec 2 (by decide)) (T.en 2) (e_str))) (ss_nil))
      (ss_one (s_if (tEq C (.inl rfl) (e_call C F_weighed (by decide) (by decide +kernel) rfl (a_cons (.inl rfl) (n_var C 3 "weights" rfl (by decide +kernel) dbg_weights cld_weights) (a_cons (.inl rfl) (n_var C 1 "one" rfl (by decide +kernel) dbg_one cld_one) (a_nil))) dbg_weighed) (e_call C F_weighed (by decide) (by decide +kernel) rfl (a_cons (.inl rfl) (n_var C 3 "weights" rfl (by decide +kernel) dbg_weights cld_weights) (a_cons (.inl rfl) (n_var C 2 "other" rfl (by decide +kernel) dbg_other cld_other) (a_nil))) dbg_weighed)) (ss_one (s_raise C (j := 0) T.x2 (by decide) (by decide +kernel) T.w.m2 (T.w.ec 2 (by decide)) (T.en 2) (e_str))) (ss_nil)))))))
theorem sc_is_weights : FnScope N_is_weights ["value", "many"] (defScope (top 17)) := ⟨rfl, rfl, rfl, by decide +kernel, rfl, by decide +kernel, by decide +kernel⟩
theorem ok_is_weights (nn : Bool) (T : TF K mg g Ca Ci AW) : Fok nn PP w K mg base 2 "is_weights" (spP (ck K g) 2 m_is_weights) := by
  have b_all := T.b_all
  have b_isinstance := T.b_isinstance
  have b_len := T.b_len
  have b_tuple := T.b_tuple
  have F_is_integer := ok_is_integer (w := w) (base := base) nn T
  refine fok_pure (k := 1) (N := N_is_weights) (body := b_is_weights) T.f_is_weights sc_is_weights rfl (by decide) (fun _ => rfl) fun X W C pa => ?_
  unfold b_is_weights
  exact ss_one (s_ret (e_and (e_isi kitT_tuple (gloB_of C (by decide +kernel)) (mgn C b_isinstance) (gloB_of C (by decide +kernel)) (mgn C b_tuple) rfl (n_var C 0 "value" rfl (by decide +kernel) dbg_value cld_value)) (e_and (eEq C (.inl rfl) (e_callB call_len vc_len bLen_nr (gloB_of C (by decide +kernel)) (mgn C b_len) rfl (a_cons (.inl rfl) (n_var C 0 "value" rfl (by decide +kernel) dbg_value cld_value) (a_nil))) (n_var C 1 "many" rfl (by decide +kernel) dbg_many cld_many)) (e_one (e_callB (cr_all C.calm) vc_all bAll_nr (gloB_of C (by decide +kernel)) (mgn C b_all) rfl (a_cons (.inl rfl) (DF.val (f_lc C [("own", 2)] (by decide +kernel) (i_items (n_var C 0 "value" rfl (by decide +kernel) dbg_value cld_value)) (fun s1 H1 A1 l1 p1 => g_name (n_tg C s1 H1 A1 l1 p1 2 rfl (by decide +kernel)) (by decide)) (fun s1 H1 A1 l1 p1 => c_nil) (fun s1 H1 A1 l1 p1 => e_and (e_call (C.blk s1 H1 _ A1 l1 p1) F_is_integer (by decide) (by decide +kernel) rfl (a_cons (.inl rfl) (n_var (C.blk s1 H1 _ A1 l1 p1) 2 "own" rfl (by decide +kernel) dbg_own cld_own) (a_nil)) dbg_is_integer) (e_one (eGe (.inl rfl) (n_var (C.blk s1 H1 _ A1 l1 p1) 2 "own" rfl (by decide +kernel) dbg_own cld_own) (e_int)))))) (a_nil)))))))
theorem sc_accept_bound : FnScope N_accept_bound ["changes", "mark", "place", "bound", "weights"] (defScope (top 34)) := ⟨rfl, rfl, rfl, by decide +kernel, rfl, by decide +kernel, by decide +kernel⟩
theorem ok_accept_bound (nn : Bool) (T : TF K mg g Ca Ci AW) : Fok nn PP w K mg base 4 "accept_bound" (spP (ck K g) 5 m_accept_bound) := by
  have b_len := T.b_len
  have F_check_changes := ok_check_changes (w := w) (base := base) nn T
  have F_check_mark := ok_check_mark (w := w) (base := base) nn T
  have F_is_integer := ok_is_integer (w := w) (base := base) nn T
  have F_is_weights := ok_is_weights (w := w) (base := base) nn T
  have F_weighed := ok_weighed (w := w) (base := base) nn T
  refine fok_pure (k := 3) (N := N_accept_bound) (body := b_accept_bound) T.f_accept_bound sc_accept_bound rfl (by decide) (fun _ => rfl) fun X W C pa => ?_
  unfold b_accept_bound
  exact ss_cons (s_drop (e_call C F_check_changes (by decide) (by decide +kernel) rfl (a_cons (.inl rfl) (n_var C 0 "changes" rfl (by decide +kernel) dbg_changes cld_changes) (a_nil)) dbg_check_changes))
      (ss_cons (s_drop (e_call C F_check_mark (by decide) (by decide +kernel) rfl (a_cons (.inl rfl) (n_var C 0 "changes" rfl (by decide +kernel) dbg_changes cld_changes) (a_cons (.inl rfl) (n_var C 1 "mark" rfl (by decide +kernel) dbg_mark cld_mark) (a_nil))) dbg_check_mark))
      (ss_cons (s_if (t_w (w_or (t_not (tTruth (e_call C F_is_integer (by decide) (by decide +kernel) rfl (a_cons (.inl rfl) (n_var C 2 "place" rfl (by decide +kernel) dbg_place cld_place) (a_nil)) dbg_is_integer))) (w_or1 (t_not (t_chain op_leD op_ltD vb_cmpI vb_cmpI dCmpI_nr dCmpI_nr rfl (e_int) (n_var C 2 "place" rfl (by decide +kernel) dbg_place cld_place) (e_callB call_len vc_len bLen_nr (gloB_of C (by decide +kernel)) (mgn C b_len) rfl (a_cons (.inl rfl) (n_var C 1 "mark" rfl (by decide +kernel) dbg_mark cld_mark) (a_nil)))))))) (ss_one (s_raise C (j := 0) T.x1 (by decide) (by decide +kernel) T.w.m1 (T.w.ec 1 (by decide)) (T.en 1) (e_str))) (ss_nil))
      (ss_cons (s_if (t_w (w_or (t_not (tTruth (e_call C F_is_integer (by decide) (by decide +kernel) rfl (a_cons (.inl rfl) (n_var C 3 "bound" rfl (by decide +kernel) dbg_bound cld_bound) (a_nil)) dbg_is_integer))) (w_or1 (t_not (tTruth (e_call C F_is_weights (by decide) (by decide +kernel) rfl (a_cons (.inl rfl) (n_var C 4 "weights" rfl (by decide +kernel) dbg_weights cld_weights) (a_cons (.inl rfl) (e_callB call_len vc_len bLen_nr (gloB_of C (by decide +kernel)) (mgn C b_len) rfl (a_cons (.inl rfl) (n_var C 1 "mark" rfl (by decide +kernel) dbg_mark cld_mark) (a_nil))) (a_nil))) dbg_is_weights)))))) (ss_one (s_raise C (j := 0) T.x2 (by decide) (by decide +kernel) T.w.m2 (T.w.ec 2 (by decide)) (T.en 2) (e_str))) (ss_nil))
      (ss_cons (s_if (tTruth (DF.val (f_lc C [("row", 5)] (by decide +kernel) (i_items (n_var C 0 "changes" rfl (by decide +kernel) dbg_changes cld_changes)) (fun s1 H1 A1 l1 p1 => g_name (n_tg C s1 H1 A1 l1 p1 5 rfl (by decide +kernel)) (by decide)) (fun s1 H1 A1 l1 p1 => c_one (tGt (.inl rfl) (e_call (C.blk s1 H1 _ A1 l1 p1) F_weighed (by decide) (by decide +kernel) rfl (a_cons (.inl rfl) (n_var (C.blk s1 H1 _ A1 l1 p1) 4 "weights" rfl (by decide +kernel) dbg_weights cld_weights) (a_cons (.inl rfl) (n_var (C.blk s1 H1 _ A1 l1 p1) 5 "row" rfl (by decide +kernel) dbg_row cld_row) (a_nil))) dbg_weighed) (e_int))) (fun s1 H1 A1 l1 p1 => e_int)))) (ss_one (s_raise C (j := 0) T.x2 (by decide) (by decide +kernel) T.w.m2 (T.w.ec 2 (by decide)) (T.en 2) (e_str))) (ss_nil))
      (ss_one (s_if (tGe (.inl rfl) (e_call C F_weighed (by decide) (by decide +kernel) rfl (a_cons (.inl rfl) (n_var C 4 "weights" rfl (by decide +kernel) dbg_weights cld_weights) (a_cons (.inl rfl) (n_var C 1 "mark" rfl (by decide +kernel) dbg_mark cld_mark) (a_nil))) dbg_weighed) (eMul (.inl rfl) (eIx (.inl rfl) (n_var C 4 "weights" rfl (by decide +kernel) dbg_weights cld_weights) (n_var C 2 "place" rfl (by decide +kernel) dbg_place cld_place)) (eAdd (.inl rfl) (n_var C 3 "bound" rfl (by decide +kernel) dbg_bound cld_bound) (e_int)))) (ss_one (s_raise C (j := 0) T.x2 (by decide) (by decide +kernel) T.w.m2 (T.w.ec 2 (by decide)) (T.en 2) (e_str))) (ss_nil)))))))
theorem sc_judge_between : FnScope N_judge_between ["changes", "one", "other"] (defScope (top 27)) := ⟨rfl, rfl, rfl, by decide +kernel, rfl, by decide +kernel, by decide +kernel⟩
theorem ok_judge_between  (T : TF K mg g Ca Ci AW) : Fok false PP w K mg base 5 "judge_between" (spP (ck K g) 3 m_judge_between) := by
  have F_check_changes := ok_check_changes (w := w) (base := base) false T
  have F_check_mark := ok_check_mark (w := w) (base := base) false T
  have F_check_second := ok_check_second (w := w) (base := base) T
  refine fok_pure (k := 4) (N := N_judge_between) (body := b_judge_between) T.f_judge_between sc_judge_between rfl (by decide) (fun _ => rfl) fun X W C pa => ?_
  unfold b_judge_between
  exact ss_cons (s_drop (e_call C F_check_changes (by decide) (by decide +kernel) rfl (a_cons (.inl rfl) (n_var C 0 "changes" rfl (by decide +kernel) dbg_changes cld_changes) (a_nil)) dbg_check_changes))
      (ss_cons (s_drop (e_call C F_check_mark (by decide) (by decide +kernel) rfl (a_cons (.inl rfl) (n_var C 0 "changes" rfl (by decide +kernel) dbg_changes cld_changes) (a_cons (.inl rfl) (n_var C 1 "one" rfl (by decide +kernel) dbg_one cld_one) (a_nil))) dbg_check_mark))
      (ss_cons (s_drop (e_call C F_check_second (by decide) (by decide +kernel) rfl (a_cons (.inl rfl) (n_var C 0 "changes" rfl (by decide +kernel) dbg_changes cld_changes) (a_cons (.inl rfl) (n_var C 2 "other" rfl (by decide +kernel) dbg_other cld_other) (a_nil))) dbg_check_second))
      (ss_never)))
theorem sc_check_weights : FnScope N_check_weights ["changes", "weights"] (defScope (top 25)) := ⟨rfl, rfl, rfl, by decide +kernel, rfl, by decide +kernel, by decide +kernel⟩
theorem ok_check_weights (nn : Bool) (T : TF K mg g Ca Ci AW) : Fok nn PP w K mg base 3 "check_weights" (spP (ck K g) 2 m_check_weights) := by
  have b_len := T.b_len
  have F_is_integers := ok_is_integers (w := w) (base := base) nn T
  refine fok_pure (k := 2) (N := N_check_weights) (body := b_check_weights) T.f_check_weights sc_check_weights rfl (by decide) (fun _ => rfl) fun X W C pa => ?_
  unfold b_check_weights
  exact ss_one (s_if (t_not (tTruth (e_call C F_is_integers (by decide) (by decide +kernel) rfl (a_cons (.inl rfl) (n_var C 1 "weights" rfl (by decide +kernel) dbg_weights cld_weights) (a_cons (.inl rfl) (e_callB call_len vc_len bLen_nr (gloB_of C (by decide +kernel)) (mgn C b_len) rfl (a_cons (.inl rfl) (eIx (.inl rfl) (n_var C 0 "changes" rfl (by decide +kernel) dbg_changes cld_changes) (e_int)) (a_nil))) (a_nil))) dbg_is_integers))) (ss_one (s_raise C (j := 0) T.x1 (by decide) (by decide +kernel) T.w.m1 (T.w.ec 1 (by decide)) (T.en 1) (e_str))) (ss_nil))
theorem sc_judge_kept : FnScope N_judge_kept ["changes", "weights"] (defScope (top 26)) := ⟨rfl, rfl, rfl, by decide +kernel, rfl, by decide +kernel, by decide +kernel⟩
theorem ok_judge_kept (nn : Bool) (T : TF K mg g Ca Ci AW) : Fok nn PP w K mg base 4 "judge_kept" (spP (ck K g) 2 m_judge_kept) := by
  have b_enumerate := T.b_enumerate
  have F_check_changes := ok_check_changes (w := w) (base := base) nn T
  have F_check_weights := ok_check_weights (w := w) (base := base) nn T
  have F_weighed := ok_weighed (w := w) (base := base) nn T
  refine fok_pure (k := 3) (N := N_judge_kept) (body := b_judge_kept) T.f_judge_kept sc_judge_kept rfl (by decide) (fun _ => rfl) fun X W C pa => ?_
  unfold b_judge_kept
  exact ss_cons (s_drop (e_call C F_check_changes (by decide) (by decide +kernel) rfl (a_cons (.inl rfl) (n_var C 0 "changes" rfl (by decide +kernel) dbg_changes cld_changes) (a_nil)) dbg_check_changes))
      (ss_cons (s_drop (e_call C F_check_weights (by decide) (by decide +kernel) rfl (a_cons (.inl rfl) (n_var C 0 "changes" rfl (by decide +kernel) dbg_changes cld_changes) (a_cons (.inl rfl) (n_var C 1 "weights" rfl (by decide +kernel) dbg_weights cld_weights) (a_nil))) dbg_check_weights))
      (ss_cons (s_for (vs := [2, 3]) C (i_enum (gloB_of C (by decide +kernel)) (mgn C b_enumerate) (n_var C 0 "changes" rfl (by decide +kernel) dbg_changes cld_changes)) (g_tup C.calm (g_cons (g_name (n_pg C 2 "number" rfl (by decide +kernel)) (by decide)) (g_cons (g_name (n_pg C 3 "row" rfl (by decide +kernel)) (by decide)) (g_nil)))) (ss_one (s_if (tNe C (.inl rfl) (e_call C F_weighed (by decide) (by decide +kernel) rfl (a_cons (.inl rfl) (n_var C 1 "weights" rfl (by decide +kernel) dbg_weights cld_weights) (a_cons (.inl rfl) (n_var C 3 "row" rfl (by decide +kernel) dbg_row cld_row) (a_nil))) dbg_weighed) (e_int)) (ss_never) (ss_nil))))
      (ss_one (s_ret (e_tup rfl (a_cons (.inl rfl) (e_str) (a_nil)))))))
theorem sc_bounds_by : FnScope N_bounds_by ["changes", "mark"] (defScope (top 33)) := ⟨rfl, rfl, rfl, by decide +kernel, rfl, by decide +kernel, by decide +kernel⟩
theorem ok_bounds_by (nn : Bool) (T : TF K mg g Ca Ci AW) : Fok nn PP w K mg base 4 "bounds_by" (spP (ck K g) 2 m_bounds_by) := by
  have F_check_changes := ok_check_changes (w := w) (base := base) nn T
  have F_check_mark := ok_check_mark (w := w) (base := base) nn T
  refine fok_pure (k := 3) (N := N_bounds_by) (body := b_bounds_by) T.f_bounds_by sc_bounds_by rfl (by decide) (fun _ => rfl) fun X W C pa => ?_
  unfold b_bounds_by
  exact ss_cons (s_drop (e_call C F_check_changes (by decide) (by decide +kernel) rfl (a_cons (.inl rfl) (n_var C 0 "changes" rfl (by decide +kernel) dbg_changes cld_changes) (a_nil)) dbg_check_changes))
      (ss_cons (s_drop (e_call C F_check_mark (by decide) (by decide +kernel) rfl (a_cons (.inl rfl) (n_var C 0 "changes" rfl (by decide +kernel) dbg_changes cld_changes) (a_cons (.inl rfl) (n_var C 1 "mark" rfl (by decide +kernel) dbg_mark cld_mark) (a_nil))) dbg_check_mark))
      (ss_never))
theorem sc_kept_weights : FnScope N_kept_weights ["changes"] (defScope (top 23)) := ⟨rfl, rfl, rfl, by decide +kernel, rfl, by decide +kernel, by decide +kernel⟩
theorem ok_kept_weights (nn : Bool) (T : TF K mg g Ca Ci AW) : Fok nn PP w K mg base 4 "kept_weights" (spP (ck K g) 1 m_kept_weights) := by
  have F_check_changes := ok_check_changes (w := w) (base := base) nn T
  refine fok_pure (k := 3) (N := N_kept_weights) (body := b_kept_weights) T.f_kept_weights sc_kept_weights rfl (by decide) (fun _ => rfl) fun X W C pa => ?_
  unfold b_kept_weights
  exact ss_cons (s_drop (e_call C F_check_changes (by decide) (by decide +kernel) rfl (a_cons (.inl rfl) (n_var C 0 "changes" rfl (by decide +kernel) dbg_changes cld_changes) (a_nil)) dbg_check_changes))
      (ss_never)
theorem sc_least_keeps : FnScope N_least_keeps ["changes"] (defScope (top 32)) := ⟨rfl, rfl, rfl, by decide +kernel, rfl, by decide +kernel, by decide +kernel⟩
theorem ok_least_keeps (nn : Bool) (T : TF K mg g Ca Ci AW) : Fok nn PP w K mg base 4 "least_keeps" (spP (ck K g) 1 m_least_keeps) := by
  have F_check_changes := ok_check_changes (w := w) (base := base) nn T
  refine fok_pure (k := 3) (N := N_least_keeps) (body := b_least_keeps) T.f_least_keeps sc_least_keeps rfl (by decide) (fun _ => rfl) fun X W C pa => ?_
  unfold b_least_keeps
  exact ss_cons (s_drop (e_call C F_check_changes (by decide) (by decide +kernel) rfl (a_cons (.inl rfl) (n_var C 0 "changes" rfl (by decide +kernel) dbg_changes cld_changes) (a_nil)) dbg_check_changes))
      (ss_never)
theorem tblOk (T : TF K mg g Ca Ci AW) : TblOk false PP w K mg base 5 g tbl := fun i n mf h => by
  match i, h with
  | 0, h => cases h; obtain ⟨f, h1, h2⟩ := T.v_accept_counts; exact tbl_of ((ok_accept_counts T).mono (by decide)) h1 h2
  | 1, h => cases h; obtain ⟨f, h1, h2⟩ := T.v_accept_apart; exact tbl_of ((ok_accept_apart T).mono (by decide)) h1 h2
  | 2, h => cases h; obtain ⟨f, h1, h2⟩ := T.v_accept_bound; exact tbl_of ((ok_accept_bound false T).mono (by decide)) h1 h2
  | 3, h => cases h; obtain ⟨f, h1, h2⟩ := T.v_judge_between; exact tbl_of ((ok_judge_between T).mono (by decide)) h1 h2
  | 4, h => cases h; obtain ⟨f, h1, h2⟩ := T.v_judge_kept; exact tbl_of ((ok_judge_kept false T).mono (by decide)) h1 h2
  | 5, h => cases h; obtain ⟨f, h1, h2⟩ := T.v_bounds_by; exact tbl_of ((ok_bounds_by false T).mono (by decide)) h1 h2
  | 6, h => cases h; obtain ⟨f, h1, h2⟩ := T.v_kept_weights; exact tbl_of ((ok_kept_weights false T).mono (by decide)) h1 h2
  | 7, h => cases h; obtain ⟨f, h1, h2⟩ := T.v_least_keeps; exact tbl_of ((ok_least_keeps false T).mono (by decide)) h1 h2
theorem sc__law_called : FnScope N__law_called ["call", "some"] (defScope (top 40)) := ⟨rfl, rfl, rfl, by decide +kernel, rfl, by decide +kernel, by decide +kernel⟩
theorem ok__law_called  (T : TF K mg g Ca Ci AW) : Fok false PP w K mg base 6 "_law_called" (spP (ck K g) 2 m__law_called) := by
  have b_len := T.b_len
  have TB : TblOk false PP w K mg base 5 g tbl := tblOk T
  refine fok_pure (k := 5) (N := N__law_called) (body := b__law_called) T.f__law_called sc__law_called rfl (by decide) (fun _ => rfl) fun X W C pa => ?_
  unfold b__law_called
  exact ss_cons (s_if (tLt (.inl rfl) (e_callB call_len vc_len bLen_nr (gloB_of C (by decide +kernel)) (mgn C b_len) rfl (a_cons (.inl rfl) (n_var C 1 "some" rfl (by decide +kernel) dbg_some cld_some) (a_nil))) (e_int)) (ss_one (s_ret (e_if (tEq C (.inl rfl) (e_callB call_len vc_len bLen_nr (gloB_of C (by decide +kernel)) (mgn C b_len) rfl (a_cons (.inl rfl) (n_var C 1 "some" rfl (by decide +kernel) dbg_some cld_some) (a_nil))) (e_int)) (e_callV C TB (by decide) rfl (by decide +kernel) rfl (a_cons (.inl rfl) (eIx (.inl rfl) (n_var C 1 "some" rfl (by decide +kernel) dbg_some cld_some) (e_int)) (a_nil)) dbg_call cld_call) (e_callV C TB (by decide) rfl (by decide +kernel) rfl (a_cons (.inl rfl) (eIx (.inl rfl) (n_var C 1 "some" rfl (by decide +kernel) dbg_some cld_some) (e_int)) (a_cons (.inl rfl) (eIx (.inl rfl) (n_var C 1 "some" rfl (by decide +kernel) dbg_some cld_some) (e_int)) (a_nil))) dbg_call cld_call)))) (ss_nil))
      (ss_cons (s_if (tLt (.inl rfl) (e_callB call_len vc_len bLen_nr (gloB_of C (by decide +kernel)) (mgn C b_len) rfl (a_cons (.inl rfl) (n_var C 1 "some" rfl (by decide +kernel) dbg_some cld_some) (a_nil))) (e_int)) (ss_one (s_ret (e_if (tEq C (.inl rfl) (e_callB call_len vc_len bLen_nr (gloB_of C (by decide +kernel)) (mgn C b_len) rfl (a_cons (.inl rfl) (n_var C 1 "some" rfl (by decide +kernel) dbg_some cld_some) (a_nil))) (e_int)) (e_callV C TB (by decide) rfl (by decide +kernel) rfl (a_cons (.inl rfl) (eIx (.inl rfl) (n_var C 1 "some" rfl (by decide +kernel) dbg_some cld_some) (e_int)) (a_cons (.inl rfl) (eIx (.inl rfl) (n_var C 1 "some" rfl (by decide +kernel) dbg_some cld_some) (e_int)) (a_cons (.inl rfl) (eIx (.inl rfl) (n_var C 1 "some" rfl (by decide +kernel) dbg_some cld_some) (e_int)) (a_nil)))) dbg_call cld_call) (e_callV C TB (by decide) rfl (by decide +kernel) rfl (a_cons (.inl rfl) (eIx (.inl rfl) (n_var C 1 "some" rfl (by decide +kernel) dbg_some cld_some) (e_int)) (a_cons (.inl rfl) (eIx (.inl rfl) (n_var C 1 "some" rfl (by decide +kernel) dbg_some cld_some) (e_int)) (a_cons (.inl rfl) (eIx (.inl rfl) (n_var C 1 "some" rfl (by decide +kernel) dbg_some cld_some) (e_int)) (a_cons (.inl rfl) (eIx (.inl rfl) (n_var C 1 "some" rfl (by decide +kernel) dbg_some cld_some) (e_int)) (a_nil))))) dbg_call cld_call)))) (ss_nil))
      (ss_one (s_ret (e_callV C TB (by decide) rfl (by decide +kernel) rfl (a_cons (.inl rfl) (eIx (.inl rfl) (n_var C 1 "some" rfl (by decide +kernel) dbg_some cld_some) (e_int)) (a_cons (.inl rfl) (eIx (.inl rfl) (n_var C 1 "some" rfl (by decide +kernel) dbg_some cld_some) (e_int)) (a_cons (.inl rfl) (eIx (.inl rfl) (n_var C 1 "some" rfl (by decide +kernel) dbg_some cld_some) (e_int)) (a_cons (.inl rfl) (eIx (.inl rfl) (n_var C 1 "some" rfl (by decide +kernel) dbg_some cld_some) (e_int)) (a_cons (.inl rfl) (eIx (.inl rfl) (n_var C 1 "some" rfl (by decide +kernel) dbg_some cld_some) (e_int)) (a_nil)))))) dbg_call cld_call))))
theorem sc__law_word : FnScope N__law_word ["error"] (defScope (top 39)) := ⟨rfl, rfl, rfl, by decide +kernel, rfl, by decide +kernel, by decide +kernel⟩
theorem ok__law_word (T : TF K mg g Ca Ci AW) : WordOk PP w K mg base 1 Ca "_law_word" := by
  obtain ⟨f, fd, h1, h2, h3, h4⟩ := T.f__law_word
  refine ⟨f, fd, h1, ?_, h3, h4⟩
  exact word_ok (k := 0) (j0 := 0) (j1 := 0) (j2 := 0) (j3 := 0) (j4 := 0) (j5 := 0) (j6 := 0) (j7 := 0) (p := wpos) T.w h2 (by rfl) (by rfl) rfl rfl sc__law_word
theorem sc__law_heard : FnScope N__law_heard ["call", "some"] (defScope (top 41)) := ⟨rfl, rfl, rfl, by decide +kernel, rfl, by decide +kernel, by decide +kernel⟩
theorem ok__law_heard  (T : TF K mg g Ca Ci AW) : Fok false PP w K mg base 7 "_law_heard" (spP (ck K g) 2 m__law_heard) := by
  have F__law_called := ok__law_called (w := w) (base := base) T
  have F__law_word : WordOk PP w K mg base 1 Ca "_law_word" := ok__law_word T
  refine fok_pure (k := 6) (N := N__law_heard) (body := b__law_heard) T.f__law_heard sc__law_heard rfl (by decide) (fun _ => rfl) fun X W C pa => ?_
  unfold b__law_heard
  exact ss_one (s_heard C T.w (fun i _ => T.en i) F__law_word (by decide) rfl (by decide +kernel) (by decide +kernel) T.wk T.hx (by decide +kernel) (fun X1 W1 Y1 => ss_one (s_ret (DF.val (f_lst rfl (a_cons (.inl rfl) (e_call Y1 F__law_called (by decide) (by decide +kernel) rfl (a_cons (.inl rfl) (n_var Y1 0 "call" rfl (by decide +kernel) dbg_call cld_call) (a_cons (.inl rfl) (n_var Y1 1 "some" rfl (by decide +kernel) dbg_some cld_some) (a_nil))) dbg__law_called) (a_nil)))))))
theorem sc__law_whole : FnScope N__law_whole ["value"] (defScope (top 42)) := ⟨rfl, rfl, rfl, by decide +kernel, rfl, by decide +kernel, by decide +kernel⟩
theorem ok__law_whole (nn : Bool) (T : TF K mg g Ca Ci AW) : Fok nn PP w K mg base 1 "_law_whole" (spP (ck K g) 1 m__law_whole) := by
  have b_bool := T.b_bool
  have b_int := T.b_int
  have b_isinstance := T.b_isinstance
  refine fok_pure (k := 0) (N := N__law_whole) (body := b__law_whole) T.f__law_whole sc__law_whole rfl (by decide) (fun _ => rfl) fun X W C pa => ?_
  unfold b__law_whole
  exact ss_one (s_ret (e_and (e_isi kitT_int (gloB_of C (by decide +kernel)) (mgn C b_isinstance) (gloB_of C (by decide +kernel)) (mgn C b_int) rfl (n_var C 0 "value" rfl (by decide +kernel) dbg_value cld_value)) (e_one (e_not (e_isi kitT_bool (gloB_of C (by decide +kernel)) (mgn C b_isinstance) (gloB_of C (by decide +kernel)) (mgn C b_bool) rfl (n_var C 0 "value" rfl (by decide +kernel) dbg_value cld_value))))))
theorem sc__law_row : FnScope N__law_row ["value", "many"] (defScope (top 44)) := ⟨rfl, rfl, rfl, by decide +kernel, rfl, by decide +kernel, by decide +kernel⟩
theorem ok__law_row (nn : Bool) (T : TF K mg g Ca Ci AW) : Fok nn PP w K mg base 2 "_law_row" (spP (ck K g) 2 m__law_row) := by
  have b_all := T.b_all
  have b_isinstance := T.b_isinstance
  have b_len := T.b_len
  have b_tuple := T.b_tuple
  have F__law_whole := ok__law_whole (w := w) (base := base) nn T
  refine fok_pure (k := 1) (N := N__law_row) (body := b__law_row) T.f__law_row sc__law_row rfl (by decide) (fun _ => rfl) fun X W C pa => ?_
  unfold b__law_row
  exact ss_one (s_ret (e_and (e_isi kitT_tuple (gloB_of C (by decide +kernel)) (mgn C b_isinstance) (gloB_of C (by decide +kernel)) (mgn C b_tuple) rfl (n_var C 0 "value" rfl (by decide +kernel) dbg_value cld_value)) (e_and (eEq C (.inl rfl) (e_callB call_len vc_len bLen_nr (gloB_of C (by decide +kernel)) (mgn C b_len) rfl (a_cons (.inl rfl) (n_var C 0 "value" rfl (by decide +kernel) dbg_value cld_value) (a_nil))) (n_var C 1 "many" rfl (by decide +kernel) dbg_many cld_many)) (e_one (e_callB (cr_all C.calm) vc_all bAll_nr (gloB_of C (by decide +kernel)) (mgn C b_all) rfl (a_cons (.inl rfl) (DF.val (f_lc C [("own", 2)] (by decide +kernel) (i_items (n_var C 0 "value" rfl (by decide +kernel) dbg_value cld_value)) (fun s1 H1 A1 l1 p1 => g_name (n_tg C s1 H1 A1 l1 p1 2 rfl (by decide +kernel)) (by decide)) (fun s1 H1 A1 l1 p1 => c_nil) (fun s1 H1 A1 l1 p1 => e_call (C.blk s1 H1 _ A1 l1 p1) F__law_whole (by decide) (by decide +kernel) rfl (a_cons (.inl rfl) (n_var (C.blk s1 H1 _ A1 l1 p1) 2 "own" rfl (by decide +kernel) dbg_own cld_own) (a_nil)) dbg__law_whole))) (a_nil)))))))
theorem sc__law_apart_due : FnScope N__law_apart_due ["changes", "one", "other", "weights"] (defScope (top 46)) := ⟨rfl, rfl, rfl, by decide +kernel, rfl, by decide +kernel, by decide +kernel⟩
theorem ok__law_apart_due (nn : Bool) (T : TF K mg g Ca Ci AW) : Fok nn PP w K mg base 3 "_law_apart_due" (spP (ck K g) 4 m__law_apart_due) := by
  have b_len := T.b_len
  have F__law_row := ok__law_row (w := w) (base := base) nn T
  have F__law_sum := ok__law_sum (w := w) (base := base) nn T
  refine fok_pure (k := 2) (N := N__law_apart_due) (body := b__law_apart_due) T.f__law_apart_due sc__law_apart_due rfl (by decide) (fun _ => rfl) fun X W C pa => ?_
  unfold b__law_apart_due
  exact ss_cons (s_if (t_not (tTruth (e_call C F__law_row (by decide) (by decide +kernel) rfl (a_cons (.inl rfl) (n_var C 3 "weights" rfl (by decide +kernel) dbg_weights cld_weights) (a_cons (.inl rfl) (e_callB call_len vc_len bLen_nr (gloB_of C (by decide +kernel)) (mgn C b_len) rfl (a_cons (.inl rfl) (n_var C 1 "one" rfl (by decide +kernel) dbg_one cld_one) (a_nil))) (a_nil))) dbg__law_row))) (ss_one (s_ret (e_str))) (ss_nil))
      (ss_cons (s_if (tTruth (DF.val (f_lc C [("move", 4)] (by decide +kernel) (i_items (n_var C 0 "changes" rfl (by decide +kernel) dbg_changes cld_changes)) (fun s1 H1 A1 l1 p1 => g_name (n_tg C s1 H1 A1 l1 p1 4 rfl (by decide +kernel)) (by decide)) (fun s1 H1 A1 l1 p1 => c_one (tNe (C.blk s1 H1 _ A1 l1 p1) (.inl rfl) (e_call (C.blk s1 H1 _ A1 l1 p1) F__law_sum (by decide) (by decide +kernel) rfl (a_cons (.inl rfl) (n_var (C.blk s1 H1 _ A1 l1 p1) 3 "weights" rfl (by decide +kernel) dbg_weights cld_weights) (a_cons (.inl rfl) (n_var (C.blk s1 H1 _ A1 l1 p1) 4 "move" rfl (by decide +kernel) dbg_move cld_move) (a_nil))) dbg__law_sum) (e_int))) (fun s1 H1 A1 l1 p1 => n_var (C.blk s1 H1 _ A1 l1 p1) 4 "move" rfl (by decide +kernel) dbg_move cld_move)))) (ss_one (s_ret (e_str))) (ss_nil))
      (ss_one (s_ret (e_if (tEq C (.inl rfl) (e_call C F__law_sum (by decide) (by decide +kernel) rfl (a_cons (.inl rfl) (n_var C 3 "weights" rfl (by decide +kernel) dbg_weights cld_weights) (a_cons (.inl rfl) (n_var C 1 "one" rfl (by decide +kernel) dbg_one cld_one) (a_nil))) dbg__law_sum) (e_call C F__law_sum (by decide) (by decide +kernel) rfl (a_cons (.inl rfl) (n_var C 3 "weights" rfl (by decide +kernel) dbg_weights cld_weights) (a_cons (.inl rfl) (n_var C 2 "other" rfl (by decide +kernel) dbg_other cld_other) (a_nil))) dbg__law_sum)) (e_str) (DF.val (f_lst rfl (a_cons (.inl rfl) (e_non) (a_nil))))))))
theorem sc__law_bound_due : FnScope N__law_bound_due ["changes", "mark", "place", "bound", "weights"] (defScope (top 48)) := ⟨rfl, rfl, rfl, by decide +kernel, rfl, by decide +kernel, by decide +kernel⟩
theorem ok__law_bound_due (nn : Bool) (T : TF K mg g Ca Ci AW) : Fok nn PP w K mg base 3 "_law_bound_due" (spP (ck K g) 5 m__law_bound_due) := by
  have b_len := T.b_len
  have b_min := T.b_min
  have F__law_whole := ok__law_whole (w := w) (base := base) nn T
  have F__law_row := ok__law_row (w := w) (base := base) nn T
  have F__law_sum := ok__law_sum (w := w) (base := base) nn T
  refine fok_pure (k := 2) (N := N__law_bound_due) (body := b__law_bound_due) T.f__law_bound_due sc__law_bound_due rfl (by decide) (fun _ => rfl) fun X W C pa => ?_
  unfold b__law_bound_due
  exact ss_cons (s_if (t_w (w_or (t_not (tTruth (e_call C F__law_whole (by decide) (by decide +kernel) rfl (a_cons (.inl rfl) (n_var C 3 "bound" rfl (by decide +kernel) dbg_bound cld_bound) (a_nil)) dbg__law_whole))) (w_or (t_not (tTruth (e_call C F__law_row (by decide) (by decide +kernel) rfl (a_cons (.inl rfl) (n_var C 4 "weights" rfl (by decide +kernel) dbg_weights cld_weights) (a_cons (.inl rfl) (e_callB call_len vc_len bLen_nr (gloB_of C (by decide +kernel)) (mgn C b_len) rfl (a_cons (.inl rfl) (n_var C 1 "mark" rfl (by decide +kernel) dbg_mark cld_mark) (a_nil))) (a_nil))) dbg__law_row))) (w_or1 (tLt (.inl rfl) (e_callB (cr_minA C.calm) vc_min bMin_nr (gloB_of C (by decide +kernel)) (mgn C b_min) rfl (a_cons (.inl rfl) (n_var C 4 "weights" rfl (by decide +kernel) dbg_weights cld_weights) (a_nil))) (e_int)))))) (ss_one (s_ret (e_str))) (ss_nil))
      (ss_cons (s_if (tTruth (DF.val (f_lc C [("move", 5)] (by decide +kernel) (i_items (n_var C 0 "changes" rfl (by decide +kernel) dbg_changes cld_changes)) (fun s1 H1 A1 l1 p1 => g_name (n_tg C s1 H1 A1 l1 p1 5 rfl (by decide +kernel)) (by decide)) (fun s1 H1 A1 l1 p1 => c_one (tGt (.inl rfl) (e_call (C.blk s1 H1 _ A1 l1 p1) F__law_sum (by decide) (by decide +kernel) rfl (a_cons (.inl rfl) (n_var (C.blk s1 H1 _ A1 l1 p1) 4 "weights" rfl (by decide +kernel) dbg_weights cld_weights) (a_cons (.inl rfl) (n_var (C.blk s1 H1 _ A1 l1 p1) 5 "move" rfl (by decide +kernel) dbg_move cld_move) (a_nil))) dbg__law_sum) (e_int))) (fun s1 H1 A1 l1 p1 => n_var (C.blk s1 H1 _ A1 l1 p1) 5 "move" rfl (by decide +kernel) dbg_move cld_move)))) (ss_one (s_ret (e_str))) (ss_nil))
      (ss_one (s_ret (e_if (tGe (.inl rfl) (e_call C F__law_sum (by decide) (by decide +kernel) rfl (a_cons (.inl rfl) (n_var C 4 "weights" rfl (by decide +kernel) dbg_weights cld_weights) (a_cons (.inl rfl) (n_var C 1 "mark" rfl (by decide +kernel) dbg_mark cld_mark) (a_nil))) dbg__law_sum) (eMul (.inl rfl) (eIx (.inl rfl) (n_var C 4 "weights" rfl (by decide +kernel) dbg_weights cld_weights) (n_var C 2 "place" rfl (by decide +kernel) dbg_place cld_place)) (eAdd (.inl rfl) (n_var C 3 "bound" rfl (by decide +kernel) dbg_bound cld_bound) (e_int)))) (e_str) (DF.val (f_lst rfl (a_cons (.inl rfl) (e_non) (a_nil))))))))
theorem sc__law_counts_due : FnScope N__law_counts_due ["changes", "one", "other", "counts", "times"] (defScope (top 47)) := ⟨rfl, rfl, rfl, by decide +kernel, rfl, by decide +kernel, by decide +kernel⟩
theorem ok__law_counts_due (nn : Bool) (T : TF K mg g Ca Ci AW) : Fok nn PP w K mg base 3 "_law_counts_due" (spP (ck K g) 5 m__law_counts_due) := by
  have b_len := T.b_len
  have b_range := T.b_range
  have F__law_row := ok__law_row (w := w) (base := base) nn T
  have F__law_whole := ok__law_whole (w := w) (base := base) nn T
  have F__law_sum := ok__law_sum (w := w) (base := base) nn T
  refine fok_pure (k := 2) (N := N__law_counts_due) (body := b__law_counts_due) T.f__law_counts_due sc__law_counts_due rfl (by decide) (fun _ => rfl) fun X W C pa => ?_
  unfold b__law_counts_due
  exact ss_cons (s_if (t_w (w_or (t_not (tTruth (e_call C F__law_row (by decide) (by decide +kernel) rfl (a_cons (.inl rfl) (n_var C 3 "counts" rfl (by decide +kernel) dbg_counts cld_counts) (a_cons (.inl rfl) (e_callB call_len vc_len bLen_nr (gloB_of C (by decide +kernel)) (mgn C b_len) rfl (a_cons (.inl rfl) (n_var C 0 "changes" rfl (by decide +kernel) dbg_changes cld_changes) (a_nil))) (a_nil))) dbg__law_row))) (w_or (t_not (tTruth (e_call C F__law_whole (by decide) (by decide +kernel) rfl (a_cons (.inl rfl) (n_var C 4 "times" rfl (by decide +kernel) dbg_times cld_times) (a_nil)) dbg__law_whole))) (w_or1 (tLt (.inl rfl) (n_var C 4 "times" rfl (by decide +kernel) dbg_times cld_times) (e_int)))))) (ss_one (s_ret (e_str))) (ss_nil))
      (ss_cons (s_setLc C [("k", 6)] (by decide +kernel) rfl 5 rfl (by decide +kernel) (i_rng1 (gloB_of C (by decide +kernel)) (mgn C b_range) (a_cons (.inl rfl) (e_callB call_len vc_len bLen_nr (gloB_of C (by decide +kernel)) (mgn C b_len) rfl (a_cons (.inl rfl) (n_var C 1 "one" rfl (by decide +kernel) dbg_one cld_one) (a_nil))) (a_nil))) (fun s1 H1 A1 l1 p1 => g_name (n_tg C s1 H1 A1 l1 p1 6 rfl (by decide +kernel)) (by decide)) (fun s1 H1 A1 l1 p1 => c_one (tNe (C.blk s1 H1 _ A1 l1 p1) (.inl rfl) (e_call (C.blk s1 H1 _ A1 l1 p1) F__law_sum (by decide) (by decide +kernel) rfl (a_cons (.inl rfl) (n_var (C.blk s1 H1 _ A1 l1 p1) 3 "counts" rfl (by decide +kernel) dbg_counts cld_counts) (a_cons (.inl rfl) (DF.val (f_lc (C.blk s1 H1 _ A1 l1 p1) [("move", 7)] (by decide +kernel) (i_items (n_var (C.blk s1 H1 _ A1 l1 p1) 0 "changes" rfl (by decide +kernel) dbg_changes cld_changes)) (fun s2 H2 A2 l2 p2 => g_name (n_tg (C.blk s1 H1 _ A1 l1 p1) s2 H2 A2 l2 p2 7 rfl (by decide +kernel)) (by decide)) (fun s2 H2 A2 l2 p2 => c_nil) (fun s2 H2 A2 l2 p2 => eIx (.inl rfl) (n_var ((C.blk s1 H1 _ A1 l1 p1).blk s2 H2 _ A2 l2 p2) 7 "move" rfl (by decide +kernel) dbg_move cld_move) (n_var ((C.blk s1 H1 _ A1 l1 p1).blk s2 H2 _ A2 l2 p2) 6 "k" rfl (by decide +kernel) dbg_k cld_k)))) (a_nil))) dbg__law_sum) (eMul (.inl rfl) (n_var (C.blk s1 H1 _ A1 l1 p1) 4 "times" rfl (by decide +kernel) dbg_times cld_times) (eSub (.inl rfl) (eIx (.inl rfl) (n_var (C.blk s1 H1 _ A1 l1 p1) 2 "other" rfl (by decide +kernel) dbg_other cld_other) (n_var (C.blk s1 H1 _ A1 l1 p1) 6 "k" rfl (by decide +kernel) dbg_k cld_k)) (eIx (.inl rfl) (n_var (C.blk s1 H1 _ A1 l1 p1) 1 "one" rfl (by decide +kernel) dbg_one cld_one) (n_var (C.blk s1 H1 _ A1 l1 p1) 6 "k" rfl (by decide +kernel) dbg_k cld_k)))))) (fun s1 H1 A1 l1 p1 => n_var (C.blk s1 H1 _ A1 l1 p1) 6 "k" rfl (by decide +kernel) dbg_k cld_k))
      (ss_one (s_ret (e_if (tTruth (n_var C 5 "wrong" rfl (by decide +kernel) dbg_wrong cld_wrong)) (e_str) (DF.val (f_lst rfl (a_cons (.inl rfl) (e_non) (a_nil))))))))
theorem sc__law_papers_hold : FnScope N__law_papers_hold ["state"] (defScope (top 49)) := ⟨rfl, rfl, rfl, by decide +kernel, rfl, by decide +kernel, by decide +kernel⟩
theorem ok__law_papers_hold  (T : TF K mg g Ca Ci AW) : Fok false PP w K mg base 8 "_law_papers_hold" (spO (ck K g) 0 m__law_papers_hold) := by
  have b_min := T.b_min
  have b_range := T.b_range
  have b_tuple := T.b_tuple
  obtain ⟨a_accept_counts, v_accept_counts⟩ := T.v_accept_counts
  obtain ⟨a_accept_apart, v_accept_apart⟩ := T.v_accept_apart
  obtain ⟨a_accept_bound, v_accept_bound⟩ := T.v_accept_bound
  have F__law_pick := ok__law_pick (w := w) (base := base) false T
  have F__law_draw := ok__law_draw (w := w) (base := base) false T
  have F__law_sum := ok__law_sum (w := w) (base := base) false T
  have F__law_bent := ok__law_bent (w := w) (base := base) false T
  have F__law_heard := ok__law_heard (w := w) (base := base) T
  have F__law_apart_due := ok__law_apart_due (w := w) (base := base) false T
  have F__law_bound_due := ok__law_bound_due (w := w) (base := base) false T
  have F__law_counts_due := ok__law_counts_due (w := w) (base := base) false T
  refine fok_own (k := 7) (N := N__law_papers_hold) (body := b__law_papers_hold) T.f__law_papers_hold sc__law_papers_hold rfl (by decide) (fun _ _ => rfl) fun X W C pa => ?_
  unfold b__law_papers_hold
  exact ss_cons (s_set C 1 rfl (by decide +kernel) (e_callO C F__law_pick (by decide) (by decide +kernel) rfl 0 (n_pe C 0 "state" rfl (by decide +kernel) dbg_state cld_state) (a_cons (.inl rfl) (DF.val (f_lst rfl (a_cons (.inl rfl) (e_int) (a_cons (.inl rfl) (e_int) (a_cons (.inl rfl) (e_int) (a_nil)))))) (a_nil)) dbg__law_pick))
      (ss_cons (s_setLc C [("k", 4)] (by decide +kernel) rfl 2 rfl (by decide +kernel) (i_rng1 (gloB_of C (by decide +kernel)) (mgn C b_range) (a_cons (.inl rfl) (n_var C 1 "many" rfl (by decide +kernel) dbg_many cld_many) (a_nil))) (fun s1 H1 A1 l1 p1 => g_name (n_tg C s1 H1 A1 l1 p1 4 rfl (by decide +kernel)) (by decide)) (fun s1 H1 A1 l1 p1 => c_nil) (fun s1 H1 A1 l1 p1 => eAdd (.inl rfl) (e_int) (e_callO (C.blk s1 H1 _ A1 l1 p1) F__law_draw (by decide) (by decide +kernel) rfl 0 (n_pe (C.blk s1 H1 _ A1 l1 p1) 0 "state" rfl (by decide +kernel) dbg_state cld_state) (a_cons (.inl rfl) (e_int) (a_nil)) dbg__law_draw)))
      (ss_cons (s_setO C 3 rfl (by decide +kernel) (f_lst rfl (a_nil)))
      (ss_cons (s_for (vs := [4]) C (i_rng1 (gloB_of C (by decide +kernel)) (mgn C b_range) (a_cons (.inl rfl) (eSub (.inl rfl) (n_var C 1 "many" rfl (by decide +kernel) dbg_many cld_many) (e_int)) (a_nil))) (g_name (n_pg C 4 "k" rfl (by decide +kernel)) (by decide)) (ss_cons (s_setO C 14 rfl (by decide +kernel) (fMulL (.inl rfl) (DF.val (f_lst rfl (a_cons (.inl rfl) (e_int) (a_nil)))) (n_var C 1 "many" rfl (by decide +kernel) dbg_many cld_many)))
      (ss_cons (s_asg2 (e_tup rfl (a_cons (.inl rfl) (eSub (.inl rfl) (e_int) (eIx (.inl rfl) (n_var C 2 "sizes" rfl (by decide +kernel) dbg_sizes cld_sizes) (eAdd (.inl rfl) (n_var C 4 "k" rfl (by decide +kernel) dbg_k cld_k) (e_int)))) (a_cons (.inl rfl) (eIx (.inl rfl) (n_var C 2 "sizes" rfl (by decide +kernel) dbg_sizes cld_sizes) (n_var C 4 "k" rfl (by decide +kernel) dbg_k cld_k)) (a_nil)))) (g2_tup C.calm (g2_cons (g2_sub (n_pe C 14 "row" rfl (by decide +kernel) dbg_row cld_row) (n_var C 4 "k" rfl (by decide +kernel) dbg_k cld_k)) (g2_cons (g2_sub (n_pe C 14 "row" rfl (by decide +kernel) dbg_row cld_row) (eAdd (.inl rfl) (n_var C 4 "k" rfl (by decide +kernel) dbg_k cld_k) (e_int))) (g2_nil)))) rfl ((sws_eq C.es _ _).trans (by rfl)))
      (ss_one (s_drop (e_meth PySem.F.plainAttrs_list PySem.F.slot_list_append PySem.F.type_list_append mt_append vm_app fApp_nr rfl (n_pe C 3 "changes" rfl (by decide +kernel) dbg_changes cld_changes) (a_cons (.inl rfl) (e_callT call_tuple_of vc_tuple bTuple_nr (gloB_of C (by decide +kernel)) (mgn C b_tuple) rfl (a_cons (.inr rfl) (n_varO C 14 "row" rfl (by decide +kernel) dbg_row cld_row) (a_nil))) (a_nil))))))))
      (ss_cons (s_asg (vs := [3, 15]) (e_tup rfl (a_cons (.inl rfl) (e_callT call_tuple_of vc_tuple bTuple_nr (gloB_of C (by decide +kernel)) (mgn C b_tuple) rfl (a_cons (.inr rfl) (n_varO C 3 "changes" rfl (by decide +kernel) dbg_changes cld_changes) (a_nil))) (a_cons (.inl rfl) (e_callT call_tuple_of vc_tuple bTuple_nr (gloB_of C (by decide +kernel)) (mgn C b_tuple) rfl (a_cons (.inl rfl) (n_var C 2 "sizes" rfl (by decide +kernel) dbg_sizes cld_sizes) (a_nil))) (a_nil)))) (g_tup C.calm (g_cons (g_name (n_pg C 3 "changes" rfl (by decide +kernel)) (by decide)) (g_cons (g_name (n_pg C 15 "right" rfl (by decide +kernel)) (by decide)) (g_nil)))) rfl ((sws_eq C.es _ _).trans (by rfl)))
      (ss_cons (s_set C 5 rfl (by decide +kernel) (e_callT call_tuple_of vc_tuple bTuple_nr (gloB_of C (by decide +kernel)) (mgn C b_tuple) rfl (a_cons (.inl rfl) (DF.val (f_lc C [("k", 4)] (by decide +kernel) (i_rng1 (gloB_of C (by decide +kernel)) (mgn C b_range) (a_cons (.inl rfl) (n_var C 1 "many" rfl (by decide +kernel) dbg_many cld_many) (a_nil))) (fun s2 H2 A2 l2 p2 => g_name (n_tg C s2 H2 A2 l2 p2 4 rfl (by decide +kernel)) (by decide)) (fun s2 H2 A2 l2 p2 => c_nil) (fun s2 H2 A2 l2 p2 => e_callO (C.blk s2 H2 _ A2 l2 p2) F__law_draw (by decide) (by decide +kernel) rfl 0 (n_pe (C.blk s2 H2 _ A2 l2 p2) 0 "state" rfl (by decide +kernel) dbg_state cld_state) (a_cons (.inl rfl) (e_int) (a_nil)) dbg__law_draw))) (a_nil))))
      (ss_cons (s_set C 6 rfl (by decide +kernel) (e_callT call_tuple_of vc_tuple bTuple_nr (gloB_of C (by decide +kernel)) (mgn C b_tuple) rfl (a_cons (.inl rfl) (DF.val (f_lc C [("move", 21)] (by decide +kernel) (i_items (n_var C 3 "changes" rfl (by decide +kernel) dbg_changes cld_changes)) (fun s3 H3 A3 l3 p3 => g_name (n_tg C s3 H3 A3 l3 p3 21 rfl (by decide +kernel)) (by decide)) (fun s3 H3 A3 l3 p3 => c_nil) (fun s3 H3 A3 l3 p3 => e_callO (C.blk s3 H3 _ A3 l3 p3) F__law_draw (by decide) (by decide +kernel) rfl 0 (n_pe (C.blk s3 H3 _ A3 l3 p3) 0 "state" rfl (by decide +kernel) dbg_state cld_state) (a_cons (.inl rfl) (e_int) (a_nil)) dbg__law_draw))) (a_nil))))
      (ss_cons (s_setLc C [("k", 4)] (by decide +kernel) rfl 7 rfl (by decide +kernel) (i_rng1 (gloB_of C (by decide +kernel)) (mgn C b_range) (a_cons (.inl rfl) (n_var C 1 "many" rfl (by decide +kernel) dbg_many cld_many) (a_nil))) (fun s4 H4 A4 l4 p4 => g_name (n_tg C s4 H4 A4 l4 p4 4 rfl (by decide +kernel)) (by decide)) (fun s4 H4 A4 l4 p4 => c_nil) (fun s4 H4 A4 l4 p4 => eAdd (.inl rfl) (eIx (.inl rfl) (n_var (C.blk s4 H4 _ A4 l4 p4) 5 "one" rfl (by decide +kernel) dbg_one cld_one) (n_var (C.blk s4 H4 _ A4 l4 p4) 4 "k" rfl (by decide +kernel) dbg_k cld_k)) (e_call (C.blk s4 H4 _ A4 l4 p4) F__law_sum (by decide) (by decide +kernel) rfl (a_cons (.inl rfl) (n_var (C.blk s4 H4 _ A4 l4 p4) 6 "counts" rfl (by decide +kernel) dbg_counts cld_counts) (a_cons (.inl rfl) (DF.val (f_lc (C.blk s4 H4 _ A4 l4 p4) [("move", 21)] (by decide +kernel) (i_items (n_var (C.blk s4 H4 _ A4 l4 p4) 3 "changes" rfl (by decide +kernel) dbg_changes cld_changes)) (fun s5 H5 A5 l5 p5 => g_name (n_tg (C.blk s4 H4 _ A4 l4 p4) s5 H5 A5 l5 p5 21 rfl (by decide +kernel)) (by decide)) (fun s5 H5 A5 l5 p5 => c_nil) (fun s5 H5 A5 l5 p5 => eIx (.inl rfl) (n_var ((C.blk s4 H4 _ A4 l4 p4).blk s5 H5 _ A5 l5 p5) 21 "move" rfl (by decide +kernel) dbg_move cld_move) (n_var ((C.blk s4 H4 _ A4 l4 p4).blk s5 H5 _ A5 l5 p5) 4 "k" rfl (by decide +kernel) dbg_k cld_k)))) (a_nil))) dbg__law_sum)))
      (ss_cons (s_set C 8 rfl (by decide +kernel) (eSub (.inl rfl) (e_int) (e_callB (cr_minA C.calm) vc_min bMin_nr (gloB_of C (by decide +kernel)) (mgn C b_min) rfl (a_cons (.inl rfl) (eAdd (.inl rfl) (DF.val (f_lst rfl (a_cons (.inl rfl) (e_int) (a_nil)))) (n_var C 7 "led" rfl (by decide +kernel) dbg_led cld_led)) (a_nil)))))
      (ss_cons (s_asg (vs := [5, 7]) (e_tup rfl (a_cons (.inl rfl) (e_callT call_tuple_of vc_tuple bTuple_nr (gloB_of C (by decide +kernel)) (mgn C b_tuple) rfl (a_cons (.inl rfl) (DF.val (f_lc C [("own", 11)] (by decide +kernel) (i_items (n_var C 5 "one" rfl (by decide +kernel) dbg_one cld_one)) (fun s6 H6 A6 l6 p6 => g_name (n_tg C s6 H6 A6 l6 p6 11 rfl (by decide +kernel)) (by decide)) (fun s6 H6 A6 l6 p6 => c_nil) (fun s6 H6 A6 l6 p6 => eAdd (.inl rfl) (n_var (C.blk s6 H6 _ A6 l6 p6) 11 "own" rfl (by decide +kernel) dbg_own cld_own) (n_var (C.blk s6 H6 _ A6 l6 p6) 8 "low" rfl (by decide +kernel) dbg_low cld_low)))) (a_nil))) (a_cons (.inl rfl) (e_callT call_tuple_of vc_tuple bTuple_nr (gloB_of C (by decide +kernel)) (mgn C b_tuple) rfl (a_cons (.inl rfl) (DF.val (f_lc C [("own", 11)] (by decide +kernel) (i_items (n_var C 7 "led" rfl (by decide +kernel) dbg_led cld_led)) (fun s7 H7 A7 l7 p7 => g_name (n_tg C s7 H7 A7 l7 p7 11 rfl (by decide +kernel)) (by decide)) (fun s7 H7 A7 l7 p7 => c_nil) (fun s7 H7 A7 l7 p7 => eAdd (.inl rfl) (n_var (C.blk s7 H7 _ A7 l7 p7) 11 "own" rfl (by decide +kernel) dbg_own cld_own) (n_var (C.blk s7 H7 _ A7 l7 p7) 8 "low" rfl (by decide +kernel) dbg_low cld_low)))) (a_nil))) (a_nil)))) (g_tup C.calm (g_cons (g_name (n_pg C 5 "one" rfl (by decide +kernel)) (by decide)) (g_cons (g_name (n_pg C 7 "led" rfl (by decide +kernel)) (by decide)) (g_nil)))) rfl ((sws_eq C.es _ _).trans (by rfl)))
      (ss_cons (s_set C 9 rfl (by decide +kernel) (eAdd (.inl rfl) (e_slice ⟨.inl rfl, .inl rfl⟩ (n_var C 5 "one" rfl (by decide +kernel) dbg_one cld_one) (o_none) (o_some (e_neg (e_int)))) (e_tup rfl (a_cons (.inl rfl) (eAdd (.inl rfl) (eIx (.inl rfl) (n_var C 5 "one" rfl (by decide +kernel) dbg_one cld_one) (e_neg (e_int))) (e_int)) (a_nil)))))
      (ss_cons (s_set C 10 rfl (by decide +kernel) (DF.val (f_lst rfl (a_cons (.inl rfl) (n_var C 15 "right" rfl (by decide +kernel) dbg_right cld_right) (a_cons (.inl rfl) (n_var C 15 "right" rfl (by decide +kernel) dbg_right cld_right) (a_cons (.inl rfl) (e_callT call_tuple_of vc_tuple bTuple_nr (gloB_of C (by decide +kernel)) (mgn C b_tuple) rfl (a_cons (.inl rfl) (DF.val (f_lc C [("own", 11)] (by decide +kernel) (i_items (n_var C 15 "right" rfl (by decide +kernel) dbg_right cld_right)) (fun s8 H8 A8 l8 p8 => g_name (n_tg C s8 H8 A8 l8 p8 11 rfl (by decide +kernel)) (by decide)) (fun s8 H8 A8 l8 p8 => c_nil) (fun s8 H8 A8 l8 p8 => eSub (.inl rfl) (e_int) (n_var (C.blk s8 H8 _ A8 l8 p8) 11 "own" rfl (by decide +kernel) dbg_own cld_own)))) (a_nil))) (a_cons (.inl rfl) (e_callT call_tuple_of vc_tuple bTuple_nr (gloB_of C (by decide +kernel)) (mgn C b_tuple) rfl (a_cons (.inl rfl) (DF.val (f_lc C [("own", 11)] (by decide +kernel) (i_items (n_var C 15 "right" rfl (by decide +kernel) dbg_right cld_right)) (fun s9 H9 A9 l9 p9 => g_name (n_tg C s9 H9 A9 l9 p9 11 rfl (by decide +kernel)) (by decide)) (fun s9 H9 A9 l9 p9 => c_nil) (fun s9 H9 A9 l9 p9 => eMul (.inl rfl) (n_var (C.blk s9 H9 _ A9 l9 p9) 11 "own" rfl (by decide +kernel) dbg_own cld_own) (ePow (.inl rfl) (e_int) (e_int))))) (a_nil))) (a_cons (.inl rfl) (eAdd (.inl rfl) (e_slice ⟨.inl rfl, .inl rfl⟩ (n_var C 15 "right" rfl (by decide +kernel) dbg_right cld_right) (o_none) (o_some (e_neg (e_int)))) (e_tup rfl (a_cons (.inl rfl) (eAdd (.inl rfl) (eIx (.inl rfl) (n_var C 15 "right" rfl (by decide +kernel) dbg_right cld_right) (e_neg (e_int))) (e_int)) (a_nil)))) (a_cons (.inl rfl) (eMul (.inl rfl) (e_tup rfl (a_cons (.inl rfl) (e_int) (a_nil))) (n_var C 1 "many" rfl (by decide +kernel) dbg_many cld_many)) (a_nil))))))))))
      (ss_cons (s_for (vs := [11]) C (i_items (eAdd (.inl rfl) (n_var C 10 "bad" rfl (by decide +kernel) dbg_bad cld_bad) (DF.val (f_lst rfl (a_cons (.inl rfl) (e_slice ⟨.inl rfl, .inl rfl⟩ (n_var C 15 "right" rfl (by decide +kernel) dbg_right cld_right) (o_none) (o_some (e_neg (e_int)))) (a_cons (.inl rfl) (e_callO C F__law_bent (by decide) (by decide +kernel) rfl 0 (n_pe C 0 "state" rfl (by decide +kernel) dbg_state cld_state) (a_cons (.inl rfl) (n_var C 15 "right" rfl (by decide +kernel) dbg_right cld_right) (a_nil)) dbg__law_bent) (a_cons (.inl rfl) (e_non) (a_nil)))))))) (g_name (n_pg C 11 "own" rfl (by decide +kernel)) (by decide)) (ss_cons (s_for (vs := [16]) C (i_items (DF.val (f_lst rfl (a_cons (.inl rfl) (n_var C 9 "other" rfl (by decide +kernel) dbg_other cld_other) (a_cons (.inl rfl) (n_var C 7 "led" rfl (by decide +kernel) dbg_led cld_led) (a_nil)))))) (g_name (n_pg C 16 "goal" rfl (by decide +kernel)) (by decide)) (ss_one (s_if (tNe C (.inl rfl) (e_call C F__law_heard (by decide) (by decide +kernel) rfl (a_cons (.inl rfl) (n_fn C (by decide +kernel) v_accept_apart.1 v_accept_apart.2 dbg_accept_apart) (a_cons (.inl rfl) (DF.val (f_lst rfl (a_cons (.inl rfl) (n_var C 3 "changes" rfl (by decide +kernel) dbg_changes cld_changes) (a_cons (.inl rfl) (n_var C 5 "one" rfl (by decide +kernel) dbg_one cld_one) (a_cons (.inl rfl) (n_var C 16 "goal" rfl (by decide +kernel) dbg_goal cld_goal) (a_cons (.inl rfl) (n_var C 11 "own" rfl (by decide +kernel) dbg_own cld_own) (a_nil))))))) (a_nil))) dbg__law_heard) (e_call C F__law_apart_due (by decide) (by decide +kernel) rfl (a_cons (.inl rfl) (n_var C 3 "changes" rfl (by decide +kernel) dbg_changes cld_changes) (a_cons (.inl rfl) (n_var C 5 "one" rfl (by decide +kernel) dbg_one cld_one) (a_cons (.inl rfl) (n_var C 16 "goal" rfl (by decide +kernel) dbg_goal cld_goal) (a_cons (.inl rfl) (n_var C 11 "own" rfl (by decide +kernel) dbg_own cld_own) (a_nil))))) dbg__law_apart_due)) (ss_never) (ss_nil))))
      (ss_cons (s_set C 17 rfl (by decide +kernel) (e_callO C F__law_pick (by decide) (by decide +kernel) rfl 0 (n_pe C 0 "state" rfl (by decide +kernel) dbg_state cld_state) (a_cons (.inl rfl) (DF.val (f_lst rfl (a_cons (.inl rfl) (eSub (.inl rfl) (n_var C 1 "many" rfl (by decide +kernel) dbg_many cld_many) (e_int)) (a_cons (.inl rfl) (e_callO C F__law_draw (by decide) (by decide +kernel) rfl 0 (n_pe C 0 "state" rfl (by decide +kernel) dbg_state cld_state) (a_cons (.inl rfl) (n_var C 1 "many" rfl (by decide +kernel) dbg_many cld_many) (a_nil)) dbg__law_draw) (a_nil))))) (a_nil)) dbg__law_pick))
      (ss_cons (s_set C 18 rfl (by decide +kernel) (eFdiv (.inl rfl) (e_call C F__law_sum (by decide) (by decide +kernel) rfl (a_cons (.inl rfl) (n_var C 15 "right" rfl (by decide +kernel) dbg_right cld_right) (a_cons (.inl rfl) (n_var C 5 "one" rfl (by decide +kernel) dbg_one cld_one) (a_nil))) dbg__law_sum) (eIx (.inl rfl) (n_var C 15 "right" rfl (by decide +kernel) dbg_right cld_right) (n_var C 17 "place" rfl (by decide +kernel) dbg_place cld_place))))
      (ss_one (s_for (vs := [19]) C (i_items (DF.val (f_lst rfl (a_cons (.inl rfl) (n_var C 18 "most" rfl (by decide +kernel) dbg_most cld_most) (a_cons (.inl rfl) (eSub (.inl rfl) (n_var C 18 "most" rfl (by decide +kernel) dbg_most cld_most) (e_int)) (a_cons (.inl rfl) (eAdd (.inl rfl) (n_var C 18 "most" rfl (by decide +kernel) dbg_most cld_most) (e_int)) (a_cons (.inl rfl) (e_neg (e_int)) (a_cons (.inl rfl) (e_non) (a_cons (.inl rfl) (e_bl) (a_nil)))))))))) (g_name (n_pg C 19 "bound" rfl (by decide +kernel)) (by decide)) (ss_one (s_if (tNe C (.inl rfl) (e_call C F__law_heard (by decide) (by decide +kernel) rfl (a_cons (.inl rfl) (n_fn C (by decide +kernel) v_accept_bound.1 v_accept_bound.2 dbg_accept_bound) (a_cons (.inl rfl) (DF.val (f_lst rfl (a_cons (.inl rfl) (n_var C 3 "changes" rfl (by decide +kernel) dbg_changes cld_changes) (a_cons (.inl rfl) (n_var C 5 "one" rfl (by decide +kernel) dbg_one cld_one) (a_cons (.inl rfl) (n_var C 17 "place" rfl (by decide +kernel) dbg_place cld_place) (a_cons (.inl rfl) (n_var C 19 "bound" rfl (by decide +kernel) dbg_bound cld_bound) (a_cons (.inl rfl) (n_var C 11 "own" rfl (by decide +kernel) dbg_own cld_own) (a_nil)))))))) (a_nil))) dbg__law_heard) (e_call C F__law_bound_due (by decide) (by decide +kernel) rfl (a_cons (.inl rfl) (n_var C 3 "changes" rfl (by decide +kernel) dbg_changes cld_changes) (a_cons (.inl rfl) (n_var C 5 "one" rfl (by decide +kernel) dbg_one cld_one) (a_cons (.inl rfl) (n_var C 17 "place" rfl (by decide +kernel) dbg_place cld_place) (a_cons (.inl rfl) (n_var C 19 "bound" rfl (by decide +kernel) dbg_bound cld_bound) (a_cons (.inl rfl) (n_var C 11 "own" rfl (by decide +kernel) dbg_own cld_own) (a_nil)))))) dbg__law_bound_due)) (ss_never) (ss_nil)))))))))
      (ss_cons (s_set C 12 rfl (by decide +kernel) (e_callT call_tuple_of vc_tuple bTuple_nr (gloB_of C (by decide +kernel)) (mgn C b_tuple) rfl (a_cons (.inl rfl) (DF.val (f_lc C [("own", 11)] (by decide +kernel) (i_items (n_var C 6 "counts" rfl (by decide +kernel) dbg_counts cld_counts)) (fun s10 H10 A10 l10 p10 => g_name (n_tg C s10 H10 A10 l10 p10 11 rfl (by decide +kernel)) (by decide)) (fun s10 H10 A10 l10 p10 => c_nil) (fun s10 H10 A10 l10 p10 => eMul (.inl rfl) (e_int) (n_var (C.blk s10 H10 _ A10 l10 p10) 11 "own" rfl (by decide +kernel) dbg_own cld_own)))) (a_nil))))
      (ss_cons (s_set C 13 rfl (by decide +kernel) (DF.val (f_lst rfl (a_cons (.inl rfl) (e_tup rfl (a_cons (.inl rfl) (n_var C 6 "counts" rfl (by decide +kernel) dbg_counts cld_counts) (a_cons (.inl rfl) (e_int) (a_nil)))) (a_cons (.inl rfl) (e_tup rfl (a_cons (.inl rfl) (n_var C 12 "double" rfl (by decide +kernel) dbg_double cld_double) (a_cons (.inl rfl) (e_int) (a_nil)))) (a_cons (.inl rfl) (e_tup rfl (a_cons (.inl rfl) (n_var C 6 "counts" rfl (by decide +kernel) dbg_counts cld_counts) (a_cons (.inl rfl) (e_int) (a_nil)))) (a_cons (.inl rfl) (e_tup rfl (a_cons (.inl rfl) (n_var C 6 "counts" rfl (by decide +kernel) dbg_counts cld_counts) (a_cons (.inl rfl) (e_int) (a_nil)))) (a_cons (.inl rfl) (e_tup rfl (a_cons (.inl rfl) (n_var C 12 "double" rfl (by decide +kernel) dbg_double cld_double) (a_cons (.inl rfl) (e_neg (e_int)) (a_nil)))) (a_cons (.inl rfl) (e_tup rfl (a_cons (.inl rfl) (eAdd (.inl rfl) (e_slice ⟨.inl rfl, .inl rfl⟩ (n_var C 6 "counts" rfl (by decide +kernel) dbg_counts cld_counts) (o_none) (o_some (e_neg (e_int)))) (e_tup rfl (a_cons (.inl rfl) (eAdd (.inl rfl) (eIx (.inl rfl) (n_var C 6 "counts" rfl (by decide +kernel) dbg_counts cld_counts) (e_neg (e_int))) (e_int)) (a_nil)))) (a_cons (.inl rfl) (e_int) (a_nil)))) (a_cons (.inl rfl) (e_tup rfl (a_cons (.inl rfl) (e_slice ⟨.inl rfl, .inl rfl⟩ (n_var C 6 "counts" rfl (by decide +kernel) dbg_counts cld_counts) (o_none) (o_some (e_neg (e_int)))) (a_cons (.inl rfl) (e_int) (a_nil)))) (a_nil)))))))))))
      (ss_cons (s_for (vs := [11, 20]) C (i_items (eAdd (.inl rfl) (n_var C 13 "rows" rfl (by decide +kernel) dbg_rows cld_rows) (DF.val (f_lst rfl (a_cons (.inl rfl) (e_tup rfl (a_cons (.inl rfl) (e_callO C F__law_bent (by decide) (by decide +kernel) rfl 0 (n_pe C 0 "state" rfl (by decide +kernel) dbg_state cld_state) (a_cons (.inl rfl) (n_var C 6 "counts" rfl (by decide +kernel) dbg_counts cld_counts) (a_nil)) dbg__law_bent) (a_cons (.inl rfl) (e_int) (a_nil)))) (a_cons (.inl rfl) (e_tup rfl (a_cons (.inl rfl) (e_non) (a_cons (.inl rfl) (e_int) (a_nil)))) (a_cons (.inl rfl) (e_tup rfl (a_cons (.inl rfl) (n_var C 6 "counts" rfl (by decide +kernel) dbg_counts cld_counts) (a_cons (.inl rfl) (e_bl) (a_nil)))) (a_cons (.inl rfl) (e_tup rfl (a_cons (.inl rfl) (n_var C 6 "counts" rfl (by decide +kernel) dbg_counts cld_counts) (a_cons (.inl rfl) (e_non) (a_nil)))) (a_nil))))))))) (g_tup C.calm (g_cons (g_name (n_pg C 11 "own" rfl (by decide +kernel)) (by decide)) (g_cons (g_name (n_pg C 20 "times" rfl (by decide +kernel)) (by decide)) (g_nil)))) (ss_one (s_if (tNe C (.inl rfl) (e_call C F__law_heard (by decide) (by decide +kernel) rfl (a_cons (.inl rfl) (n_fn C (by decide +kernel) v_accept_counts.1 v_accept_counts.2 dbg_accept_counts) (a_cons (.inl rfl) (DF.val (f_lst rfl (a_cons (.inl rfl) (n_var C 3 "changes" rfl (by decide +kernel) dbg_changes cld_changes) (a_cons (.inl rfl) (n_var C 5 "one" rfl (by decide +kernel) dbg_one cld_one) (a_cons (.inl rfl) (n_var C 7 "led" rfl (by decide +kernel) dbg_led cld_led) (a_cons (.inl rfl) (n_var C 11 "own" rfl (by decide +kernel) dbg_own cld_own) (a_cons (.inl rfl) (n_var C 20 "times" rfl (by decide +kernel) dbg_times cld_times) (a_nil)))))))) (a_nil))) dbg__law_heard) (e_call C F__law_counts_due (by decide) (by decide +kernel) rfl (a_cons (.inl rfl) (n_var C 3 "changes" rfl (by decide +kernel) dbg_changes cld_changes) (a_cons (.inl rfl) (n_var C 5 "one" rfl (by decide +kernel) dbg_one cld_one) (a_cons (.inl rfl) (n_var C 7 "led" rfl (by decide +kernel) dbg_led cld_led) (a_cons (.inl rfl) (n_var C 11 "own" rfl (by decide +kernel) dbg_own cld_own) (a_cons (.inl rfl) (n_var C 20 "times" rfl (by decide +kernel) dbg_times cld_times) (a_nil)))))) dbg__law_counts_due)) (ss_never) (ss_nil))))
      (ss_one (s_ret (e_bl))))))))))))))))))
theorem sc__law_less_hold : FnScope N__law_less_hold ["state"] (defScope (top 50)) := ⟨rfl, rfl, rfl, by decide +kernel, rfl, by decide +kernel, by decide +kernel⟩
theorem ok__law_less_hold  (T : TF K mg g Ca Ci AW) : Fok false PP w K mg base 8 "_law_less_hold" (spO (ck K g) 0 m__law_less_hold) := by
  have b_range := T.b_range
  have b_tuple := T.b_tuple
  obtain ⟨a_accept_bound, v_accept_bound⟩ := T.v_accept_bound
  have F__law_draw := ok__law_draw (w := w) (base := base) false T
  have F__law_heard := ok__law_heard (w := w) (base := base) T
  have F__law_bound_due := ok__law_bound_due (w := w) (base := base) false T
  refine fok_own (k := 7) (N := N__law_less_hold) (body := b__law_less_hold) T.f__law_less_hold sc__law_less_hold rfl (by decide) (fun _ _ => rfl) fun X W C pa => ?_
  unfold b__law_less_hold
  exact ss_cons (s_set C 1 rfl (by decide +kernel) (e_callT call_tuple_of vc_tuple bTuple_nr (gloB_of C (by decide +kernel)) (mgn C b_tuple) rfl (a_cons (.inl rfl) (DF.val (f_lc C [("k", 3)] (by decide +kernel) (i_rng1 (gloB_of C (by decide +kernel)) (mgn C b_range) (a_cons (.inl rfl) (eAdd (.inl rfl) (e_int) (e_callO C F__law_draw (by decide) (by decide +kernel) rfl 0 (n_pe C 0 "state" rfl (by decide +kernel) dbg_state cld_state) (a_cons (.inl rfl) (e_int) (a_nil)) dbg__law_draw)) (a_nil))) (fun s1 H1 A1 l1 p1 => g_name (n_tg C s1 H1 A1 l1 p1 3 rfl (by decide +kernel)) (by decide)) (fun s1 H1 A1 l1 p1 => c_nil) (fun s1 H1 A1 l1 p1 => e_callT call_tuple_of vc_tuple bTuple_nr (gloB_of (C.blk s1 H1 _ A1 l1 p1) (by decide +kernel)) (mgn (C.blk s1 H1 _ A1 l1 p1) b_tuple) rfl (a_cons (.inl rfl) (DF.val (f_lc (C.blk s1 H1 _ A1 l1 p1) [("place", 6)] (by decide +kernel) (i_rng1 (gloB_of (C.blk s1 H1 _ A1 l1 p1) (by decide +kernel)) (mgn (C.blk s1 H1 _ A1 l1 p1) b_range) (a_cons (.inl rfl) (e_int) (a_nil))) (fun s2 H2 A2 l2 p2 => g_name (n_tg (C.blk s1 H1 _ A1 l1 p1) s2 H2 A2 l2 p2 6 rfl (by decide +kernel)) (by decide)) (fun s2 H2 A2 l2 p2 => c_nil) (fun s2 H2 A2 l2 p2 => eSub (.inl rfl) (e_callO ((C.blk s1 H1 _ A1 l1 p1).blk s2 H2 _ A2 l2 p2) F__law_draw (by decide) (by decide +kernel) rfl 0 (n_pe ((C.blk s1 H1 _ A1 l1 p1).blk s2 H2 _ A2 l2 p2) 0 "state" rfl (by decide +kernel) dbg_state cld_state) (a_cons (.inl rfl) (e_int) (a_nil)) dbg__law_draw) (e_int)))) (a_nil))))) (a_nil))))
      (ss_cons (s_set C 2 rfl (by decide +kernel) (e_callT call_tuple_of vc_tuple bTuple_nr (gloB_of C (by decide +kernel)) (mgn C b_tuple) rfl (a_cons (.inl rfl) (DF.val (f_lc C [("place", 6)] (by decide +kernel) (i_rng1 (gloB_of C (by decide +kernel)) (mgn C b_range) (a_cons (.inl rfl) (e_int) (a_nil))) (fun s3 H3 A3 l3 p3 => g_name (n_tg C s3 H3 A3 l3 p3 6 rfl (by decide +kernel)) (by decide)) (fun s3 H3 A3 l3 p3 => c_nil) (fun s3 H3 A3 l3 p3 => e_callO (C.blk s3 H3 _ A3 l3 p3) F__law_draw (by decide) (by decide +kernel) rfl 0 (n_pe (C.blk s3 H3 _ A3 l3 p3) 0 "state" rfl (by decide +kernel) dbg_state cld_state) (a_cons (.inl rfl) (e_int) (a_nil)) dbg__law_draw))) (a_nil))))
      (ss_cons (s_for (vs := [3]) C (i_rng1 (gloB_of C (by decide +kernel)) (mgn C b_range) (a_cons (.inl rfl) (e_int) (a_nil))) (g_name (n_pg C 3 "k" rfl (by decide +kernel)) (by decide)) (ss_cons (s_par C 5 6 rfl rfl (by decide) (by decide +kernel) (by decide +kernel) rfl (a_cons (.inl rfl) (e_callT call_tuple_of vc_tuple bTuple_nr (gloB_of C (by decide +kernel)) (mgn C b_tuple) rfl (a_cons (.inl rfl) (DF.val (f_lc C [("k", 3)] (by decide +kernel) (i_rng1 (gloB_of C (by decide +kernel)) (mgn C b_range) (a_cons (.inl rfl) (e_int) (a_nil))) (fun s4 H4 A4 l4 p4 => g_name (n_tg C s4 H4 A4 l4 p4 3 rfl (by decide +kernel)) (by decide)) (fun s4 H4 A4 l4 p4 => c_nil) (fun s4 H4 A4 l4 p4 => e_callO (C.blk s4 H4 _ A4 l4 p4) F__law_draw (by decide) (by decide +kernel) rfl 0 (n_pe (C.blk s4 H4 _ A4 l4 p4) 0 "state" rfl (by decide +kernel) dbg_state cld_state) (a_cons (.inl rfl) (e_int) (a_nil)) dbg__law_draw))) (a_nil))) (a_cons (.inl rfl) (e_callO C F__law_draw (by decide) (by decide +kernel) rfl 0 (n_pe C 0 "state" rfl (by decide +kernel) dbg_state cld_state) (a_cons (.inl rfl) (e_int) (a_nil)) dbg__law_draw) (a_nil))) (by rfl))
      (ss_cons (s_set C 4 rfl (by decide +kernel) (e_callO C F__law_draw (by decide) (by decide +kernel) rfl 0 (n_pe C 0 "state" rfl (by decide +kernel) dbg_state cld_state) (a_cons (.inl rfl) (e_int) (a_nil)) dbg__law_draw))
      (ss_one (s_if (tNe C (.inl rfl) (e_call C F__law_heard (by decide) (by decide +kernel) rfl (a_cons (.inl rfl) (n_fn C (by decide +kernel) v_accept_bound.1 v_accept_bound.2 dbg_accept_bound) (a_cons (.inl rfl) (DF.val (f_lst rfl (a_cons (.inl rfl) (n_var C 1 "changes" rfl (by decide +kernel) dbg_changes cld_changes) (a_cons (.inl rfl) (n_var C 2 "mark" rfl (by decide +kernel) dbg_mark cld_mark) (a_cons (.inl rfl) (n_var C 6 "place" rfl (by decide +kernel) dbg_place cld_place) (a_cons (.inl rfl) (n_var C 4 "bound" rfl (by decide +kernel) dbg_bound cld_bound) (a_cons (.inl rfl) (n_var C 5 "weights" rfl (by decide +kernel) dbg_weights cld_weights) (a_nil)))))))) (a_nil))) dbg__law_heard) (e_call C F__law_bound_due (by decide) (by decide +kernel) rfl (a_cons (.inl rfl) (n_var C 1 "changes" rfl (by decide +kernel) dbg_changes cld_changes) (a_cons (.inl rfl) (n_var C 2 "mark" rfl (by decide +kernel) dbg_mark cld_mark) (a_cons (.inl rfl) (n_var C 6 "place" rfl (by decide +kernel) dbg_place cld_place) (a_cons (.inl rfl) (n_var C 4 "bound" rfl (by decide +kernel) dbg_bound cld_bound) (a_cons (.inl rfl) (n_var C 5 "weights" rfl (by decide +kernel) dbg_weights cld_weights) (a_nil)))))) dbg__law_bound_due)) (ss_never) (ss_nil))))))
      (ss_one (s_ret (e_bl)))))
theorem sc_law : FnScope N_law ["script"] (defScope (top 51)) := ⟨rfl, rfl, rfl, by decide +kernel, rfl, by decide +kernel, by decide +kernel⟩
theorem fn_law (T : TF K mg g Ca Ci AW) {f : Addr} {fd : FuncData} (h2 : Fun K "law" "law" (top 51) f fd) : FnOk PP w K mg base (CXn false PP w) 9 f fd ["script"] (spP (ck K g) 1 m_law) := by
  have b_range := T.b_range
  obtain ⟨a_accept_counts, v_accept_counts⟩ := T.v_accept_counts
  obtain ⟨a_accept_apart, v_accept_apart⟩ := T.v_accept_apart
  obtain ⟨a_accept_bound, v_accept_bound⟩ := T.v_accept_bound
  obtain ⟨a_judge_between, v_judge_between⟩ := T.v_judge_between
  obtain ⟨a_judge_kept, v_judge_kept⟩ := T.v_judge_kept
  obtain ⟨a_bounds_by, v_bounds_by⟩ := T.v_bounds_by
  obtain ⟨a_kept_weights, v_kept_weights⟩ := T.v_kept_weights
  obtain ⟨a_least_keeps, v_least_keeps⟩ := T.v_least_keeps
  have F__law_start := ok__law_start (w := w) (base := base) false T
  have F__law_papers_hold := ok__law_papers_hold (w := w) (base := base) T
  have F__law_less_hold := ok__law_less_hold (w := w) (base := base) T
  have F__law_heard := ok__law_heard (w := w) (base := base) T
  have F__law_pick := ok__law_pick (w := w) (base := base) false T
  refine def_pure (k := 8) (N := N_law) (body := b_law) h2 sc_law (by decide) (fun _ => rfl) fun X W C pa => ?_
  unfold b_law
  exact ss_cons (s_setO C 1 rfl (by decide +kernel) (f_call C F__law_start (by decide) (by decide +kernel) rfl (a_cons (.inl rfl) (n_var C 0 "script" rfl (by decide +kernel) dbg_script cld_script) (a_nil)) dbg__law_start))
      (ss_cons (s_for (vs := [2]) C (i_rng1 (gloB_of C (by decide +kernel)) (mgn C b_range) (a_cons (.inl rfl) (e_int) (a_nil))) (g_name (n_pg C 2 "turn" rfl (by decide +kernel)) (by decide)) (ss_one (s_if (t_w (w_or (t_not (tTruth (e_callO C F__law_papers_hold (by decide) (by decide +kernel) rfl 1 (n_pe C 1 "state" rfl (by decide +kernel) dbg_state cld_state) (a_nil) dbg__law_papers_hold))) (w_or1 (t_not (tTruth (e_callO C F__law_less_hold (by decide) (by decide +kernel) rfl 1 (n_pe C 1 "state" rfl (by decide +kernel) dbg_state cld_state) (a_nil) dbg__law_less_hold)))))) (ss_never) (ss_nil))))
      (ss_cons (s_for (vs := [3]) C (i_items (DF.val (f_lst rfl (a_cons (.inl rfl) (e_non) (a_cons (.inl rfl) (e_tup rfl (a_nil)) (a_cons (.inl rfl) (e_tup rfl (a_cons (.inl rfl) (e_tup rfl (a_nil)) (a_nil))) (a_cons (.inl rfl) (e_tup rfl (a_cons (.inl rfl) (e_tup rfl (a_cons (.inl rfl) (e_int) (a_cons (.inl rfl) (e_int) (a_nil)))) (a_cons (.inl rfl) (e_tup rfl (a_cons (.inl rfl) (e_int) (a_nil))) (a_nil)))) (a_cons (.inl rfl) (eMul (.inl rfl) (e_tup rfl (a_cons (.inl rfl) (e_tup rfl (a_cons (.inl rfl) (e_int) (a_nil))) (a_nil))) (e_int)) (a_cons (.inl rfl) (e_tup rfl (a_cons (.inl rfl) (eMul (.inl rfl) (e_tup rfl (a_cons (.inl rfl) (e_int) (a_nil))) (e_int)) (a_nil))) (a_cons (.inl rfl) (e_tup rfl (a_cons (.inl rfl) (e_tup rfl (a_cons (.inl rfl) (eAdd (.inl rfl) (ePow (.inl rfl) (e_int) (e_int)) (e_int)) (a_nil))) (a_nil))) (a_cons (.inl rfl) (e_tup rfl (a_cons (.inl rfl) (e_tup rfl (a_cons (.inl rfl) (e_bl) (a_nil))) (a_nil))) (a_cons (.inl rfl) (e_tup rfl (a_cons (.inl rfl) (e_str) (a_nil))) (a_cons (.inl rfl) (e_int) (a_cons (.inl rfl) (DF.val (f_lst rfl (a_cons (.inl rfl) (e_tup rfl (a_cons (.inl rfl) (e_int) (a_nil))) (a_nil)))) (a_nil))))))))))))))) (g_name (n_pg C 3 "wrong" rfl (by decide +kernel)) (by decide)) (ss_cons (s_set C 7 rfl (by decide +kernel) (eAdd (.inl rfl) (DF.val (f_lc C [("way", 9)] (by decide +kernel) (i_items (DF.val (f_lst rfl (a_cons (.inl rfl) (n_fn C (by decide +kernel) v_kept_weights.1 v_kept_weights.2 dbg_kept_weights) (a_cons (.inl rfl) (n_fn C (by decide +kernel) v_least_keeps.1 v_least_keeps.2 dbg_least_keeps) (a_nil)))))) (fun s1 H1 A1 l1 p1 => g_name (n_tg C s1 H1 A1 l1 p1 9 rfl (by decide +kernel)) (by decide)) (fun s1 H1 A1 l1 p1 => c_nil) (fun s1 H1 A1 l1 p1 => e_call (C.blk s1 H1 _ A1 l1 p1) F__law_heard (by decide) (by decide +kernel) rfl (a_cons (.inl rfl) (n_var (C.blk s1 H1 _ A1 l1 p1) 9 "way" rfl (by decide +kernel) dbg_way cld_way) (a_cons (.inl rfl) (DF.val (f_lst rfl (a_cons (.inl rfl) (n_var (C.blk s1 H1 _ A1 l1 p1) 3 "wrong" rfl (by decide +kernel) dbg_wrong cld_wrong) (a_nil)))) (a_nil))) dbg__law_heard))) (DF.val (f_lc C [("way", 9)] (by decide +kernel) (i_items (DF.val (f_lst rfl (a_cons (.inl rfl) (n_fn C (by decide +kernel) v_judge_kept.1 v_judge_kept.2 dbg_judge_kept) (a_cons (.inl rfl) (n_fn C (by decide +kernel) v_bounds_by.1 v_bounds_by.2 dbg_bounds_by) (a_nil)))))) (fun s2 H2 A2 l2 p2 => g_name (n_tg C s2 H2 A2 l2 p2 9 rfl (by decide +kernel)) (by decide)) (fun s2 H2 A2 l2 p2 => c_nil) (fun s2 H2 A2 l2 p2 => e_call (C.blk s2 H2 _ A2 l2 p2) F__law_heard (by decide) (by decide +kernel) rfl (a_cons (.inl rfl) (n_var (C.blk s2 H2 _ A2 l2 p2) 9 "way" rfl (by decide +kernel) dbg_way cld_way) (a_cons (.inl rfl) (DF.val (f_lst rfl (a_cons (.inl rfl) (n_var (C.blk s2 H2 _ A2 l2 p2) 3 "wrong" rfl (by decide +kernel) dbg_wrong cld_wrong) (a_cons (.inl rfl) (e_non) (a_nil))))) (a_nil))) dbg__law_heard)))))
      (ss_cons (s_set C 7 rfl (by decide +kernel) (eAdd (.inl rfl) (n_var C 7 "told" rfl (by decide +kernel) dbg_told cld_told) (DF.val (f_lst rfl (a_cons (.inl rfl) (e_call C F__law_heard (by decide) (by decide +kernel) rfl (a_cons (.inl rfl) (n_fn C (by decide +kernel) v_judge_between.1 v_judge_between.2 dbg_judge_between) (a_cons (.inl rfl) (DF.val (f_lst rfl (a_cons (.inl rfl) (n_var C 3 "wrong" rfl (by decide +kernel) dbg_wrong cld_wrong) (a_cons (.inl rfl) (e_non) (a_cons (.inl rfl) (e_non) (a_nil)))))) (a_nil))) dbg__law_heard) (a_cons (.inl rfl) (e_call C F__law_heard (by decide) (by decide +kernel) rfl (a_cons (.inl rfl) (n_fn C (by decide +kernel) v_accept_apart.1 v_accept_apart.2 dbg_accept_apart) (a_cons (.inl rfl) (DF.val (f_lst rfl (a_cons (.inl rfl) (n_var C 3 "wrong" rfl (by decide +kernel) dbg_wrong cld_wrong) (a_cons (.inl rfl) (e_non) (a_cons (.inl rfl) (e_non) (a_cons (.inl rfl) (e_non) (a_nil))))))) (a_nil))) dbg__law_heard) (a_nil)))))))
      (ss_one (s_if (tNe C (.inl rfl) (eAdd (.inl rfl) (n_var C 7 "told" rfl (by decide +kernel) dbg_told cld_told) (DF.val (f_lc C [("way", 9)] (by decide +kernel) (i_items (DF.val (f_lst rfl (a_cons (.inl rfl) (n_fn C (by decide +kernel) v_accept_counts.1 v_accept_counts.2 dbg_accept_counts) (a_cons (.inl rfl) (n_fn C (by decide +kernel) v_accept_bound.1 v_accept_bound.2 dbg_accept_bound) (a_nil)))))) (fun s3 H3 A3 l3 p3 => g_name (n_tg C s3 H3 A3 l3 p3 9 rfl (by decide +kernel)) (by decide)) (fun s3 H3 A3 l3 p3 => c_nil) (fun s3 H3 A3 l3 p3 => e_call (C.blk s3 H3 _ A3 l3 p3) F__law_heard (by decide) (by decide +kernel) rfl (a_cons (.inl rfl) (n_var (C.blk s3 H3 _ A3 l3 p3) 9 "way" rfl (by decide +kernel) dbg_way cld_way) (a_cons (.inl rfl) (DF.val (f_lst rfl (a_cons (.inl rfl) (n_var (C.blk s3 H3 _ A3 l3 p3) 3 "wrong" rfl (by decide +kernel) dbg_wrong cld_wrong) (a_cons (.inl rfl) (e_non) (a_cons (.inl rfl) (e_non) (a_cons (.inl rfl) (e_non) (a_cons (.inl rfl) (e_non) (a_nil)))))))) (a_nil))) dbg__law_heard)))) (eMul (.inl rfl) (DF.val (f_lst rfl (a_cons (.inl rfl) (e_str) (a_nil)))) (e_int))) (ss_never) (ss_nil))))))
      (ss_cons (s_set C 4 rfl (by decide +kernel) (e_tup rfl (a_cons (.inl rfl) (e_tup rfl (a_cons (.inl rfl) (eSub (.inl rfl) (e_int) (e_int)) (a_cons (.inl rfl) (e_int) (a_nil)))) (a_cons (.inl rfl) (e_tup rfl (a_cons (.inl rfl) (e_int) (a_cons (.inl rfl) (eSub (.inl rfl) (e_int) (e_int)) (a_nil)))) (a_nil)))))
      (ss_cons (s_set C 5 rfl (by decide +kernel) (e_callO C F__law_pick (by decide) (by decide +kernel) rfl 1 (n_pe C 1 "state" rfl (by decide +kernel) dbg_state cld_state) (a_cons (.inl rfl) (DF.val (f_lst rfl (a_cons (.inl rfl) (e_non) (a_cons (.inl rfl) (e_tup rfl (a_cons (.inl rfl) (e_int) (a_nil))) (a_cons (.inl rfl) (e_tup rfl (a_cons (.inl rfl) (e_int) (a_cons (.inl rfl) (e_int) (a_cons (.inl rfl) (e_int) (a_nil))))) (a_cons (.inl rfl) (e_tup rfl (a_cons (.inl rfl) (e_int) (a_cons (.inl rfl) (e_bl) (a_nil)))) (a_cons (.inl rfl) (e_tup rfl (a_cons (.inl rfl) (e_int) (a_cons (.inl rfl) (e_non) (a_nil)))) (a_cons (.inl rfl) (e_int) (a_cons (.inl rfl) (DF.val (f_lst rfl (a_cons (.inl rfl) (e_int) (a_cons (.inl rfl) (e_int) (a_nil))))) (a_cons (.inl rfl) (e_tup rfl (a_cons (.inl rfl) (e_str) (a_cons (.inl rfl) (e_int) (a_nil)))) (a_nil))))))))))) (a_nil)) dbg__law_pick))
      (ss_cons (s_set C 6 rfl (by decide +kernel) (e_callO C F__law_pick (by decide) (by decide +kernel) rfl 1 (n_pe C 1 "state" rfl (by decide +kernel) dbg_state cld_state) (a_cons (.inl rfl) (DF.val (f_lst rfl (a_cons (.inl rfl) (e_non) (a_cons (.inl rfl) (e_tup rfl (a_cons (.inl rfl) (e_int) (a_nil))) (a_cons (.inl rfl) (e_tup rfl (a_cons (.inl rfl) (e_int) (a_cons (.inl rfl) (e_int) (a_cons (.inl rfl) (e_int) (a_nil))))) (a_cons (.inl rfl) (e_tup rfl (a_cons (.inl rfl) (e_int) (a_cons (.inl rfl) (e_neg (e_int)) (a_nil)))) (a_cons (.inl rfl) (e_tup rfl (a_cons (.inl rfl) (e_int) (a_cons (.inl rfl) (eAdd (.inl rfl) (ePow (.inl rfl) (e_int) (e_int)) (e_int)) (a_nil)))) (a_cons (.inl rfl) (e_tup rfl (a_cons (.inl rfl) (e_bl) (a_cons (.inl rfl) (e_int) (a_nil)))) (a_cons (.inl rfl) (e_tup rfl (a_cons (.inl rfl) (e_str) (a_cons (.inl rfl) (e_int) (a_nil)))) (a_cons (.inl rfl) (e_int) (a_cons (.inl rfl) (DF.val (f_lst rfl (a_cons (.inl rfl) (e_int) (a_cons (.inl rfl) (e_int) (a_nil))))) (a_nil)))))))))))) (a_nil)) dbg__law_pick))
      (ss_cons (s_if (t_w (w_or (tNe C (.inl rfl) (e_call C F__law_heard (by decide) (by decide +kernel) rfl (a_cons (.inl rfl) (n_fn C (by decide +kernel) v_judge_kept.1 v_judge_kept.2 dbg_judge_kept) (a_cons (.inl rfl) (DF.val (f_lst rfl (a_cons (.inl rfl) (n_var C 4 "changes" rfl (by decide +kernel) dbg_changes cld_changes) (a_cons (.inl rfl) (n_var C 5 "weights" rfl (by decide +kernel) dbg_weights cld_weights) (a_nil))))) (a_nil))) dbg__law_heard) (e_str)) (w_or1 (tNe C (.inl rfl) (e_call C F__law_heard (by decide) (by decide +kernel) rfl (a_cons (.inl rfl) (n_fn C (by decide +kernel) v_bounds_by.1 v_bounds_by.2 dbg_bounds_by) (a_cons (.inl rfl) (DF.val (f_lst rfl (a_cons (.inl rfl) (n_var C 4 "changes" rfl (by decide +kernel) dbg_changes cld_changes) (a_cons (.inl rfl) (n_var C 6 "mark" rfl (by decide +kernel) dbg_mark cld_mark) (a_nil))))) (a_nil))) dbg__law_heard) (e_str))))) (ss_never) (ss_nil))
      (ss_cons (s_setO C 7 rfl (by decide +kernel) (f_lst rfl (a_cons (.inl rfl) (e_call C F__law_heard (by decide) (by decide +kernel) rfl (a_cons (.inl rfl) (n_fn C (by decide +kernel) v_judge_between.1 v_judge_between.2 dbg_judge_between) (a_cons (.inl rfl) (DF.val (f_lst rfl (a_cons (.inl rfl) (n_var C 4 "changes" rfl (by decide +kernel) dbg_changes cld_changes) (a_cons (.inl rfl) (n_var C 6 "mark" rfl (by decide +kernel) dbg_mark cld_mark) (a_cons (.inl rfl) (n_var C 6 "mark" rfl (by decide +kernel) dbg_mark cld_mark) (a_nil)))))) (a_nil))) dbg__law_heard) (a_cons (.inl rfl) (e_call C F__law_heard (by decide) (by decide +kernel) rfl (a_cons (.inl rfl) (n_fn C (by decide +kernel) v_accept_apart.1 v_accept_apart.2 dbg_accept_apart) (a_cons (.inl rfl) (DF.val (f_lst rfl (a_cons (.inl rfl) (n_var C 4 "changes" rfl (by decide +kernel) dbg_changes cld_changes) (a_cons (.inl rfl) (n_var C 6 "mark" rfl (by decide +kernel) dbg_mark cld_mark) (a_cons (.inl rfl) (n_var C 6 "mark" rfl (by decide +kernel) dbg_mark cld_mark) (a_cons (.inl rfl) (e_non) (a_nil))))))) (a_nil))) dbg__law_heard) (a_nil)))))
      (ss_cons (s_drop (e_meth PySem.F.plainAttrs_list PySem.F.slot_list_append PySem.F.type_list_append mt_append vm_app fApp_nr rfl (n_pe C 7 "told" rfl (by decide +kernel) dbg_told cld_told) (a_cons (.inl rfl) (e_call C F__law_heard (by decide) (by decide +kernel) rfl (a_cons (.inl rfl) (n_fn C (by decide +kernel) v_accept_counts.1 v_accept_counts.2 dbg_accept_counts) (a_cons (.inl rfl) (DF.val (f_lst rfl (a_cons (.inl rfl) (n_var C 4 "changes" rfl (by decide +kernel) dbg_changes cld_changes) (a_cons (.inl rfl) (n_var C 6 "mark" rfl (by decide +kernel) dbg_mark cld_mark) (a_cons (.inl rfl) (n_var C 6 "mark" rfl (by decide +kernel) dbg_mark cld_mark) (a_cons (.inl rfl) (e_non) (a_cons (.inl rfl) (e_non) (a_nil)))))))) (a_nil))) dbg__law_heard) (a_nil))))
      (ss_cons (s_if (t_w (w_or (tNe C (.inr rfl) (n_varO C 7 "told" rfl (by decide +kernel) dbg_told cld_told) (eMul (.inl rfl) (DF.val (f_lst rfl (a_cons (.inl rfl) (e_str) (a_nil)))) (e_int))) (w_or1 (tNe C (.inl rfl) (e_call C F__law_heard (by decide) (by decide +kernel) rfl (a_cons (.inl rfl) (n_fn C (by decide +kernel) v_accept_bound.1 v_accept_bound.2 dbg_accept_bound) (a_cons (.inl rfl) (DF.val (f_lst rfl (a_cons (.inl rfl) (n_var C 4 "changes" rfl (by decide +kernel) dbg_changes cld_changes) (a_cons (.inl rfl) (n_var C 6 "mark" rfl (by decide +kernel) dbg_mark cld_mark) (a_cons (.inl rfl) (e_non) (a_cons (.inl rfl) (e_non) (a_cons (.inl rfl) (e_non) (a_nil)))))))) (a_nil))) dbg__law_heard) (e_str))))) (ss_never) (ss_nil))
      (ss_cons (s_setO C 7 rfl (by decide +kernel) (f_lst rfl (a_cons (.inl rfl) (e_call C F__law_heard (by decide) (by decide +kernel) rfl (a_cons (.inl rfl) (n_fn C (by decide +kernel) v_judge_between.1 v_judge_between.2 dbg_judge_between) (a_cons (.inl rfl) (DF.val (f_lst rfl (a_cons (.inl rfl) (n_var C 4 "changes" rfl (by decide +kernel) dbg_changes cld_changes) (a_cons (.inl rfl) (e_tup rfl (a_cons (.inl rfl) (e_int) (a_cons (.inl rfl) (e_int) (a_nil)))) (a_cons (.inl rfl) (n_var C 6 "mark" rfl (by decide +kernel) dbg_mark cld_mark) (a_nil)))))) (a_nil))) dbg__law_heard) (a_cons (.inl rfl) (e_call C F__law_heard (by decide) (by decide +kernel) rfl (a_cons (.inl rfl) (n_fn C (by decide +kernel) v_accept_apart.1 v_accept_apart.2 dbg_accept_apart) (a_cons (.inl rfl) (DF.val (f_lst rfl (a_cons (.inl rfl) (n_var C 4 "changes" rfl (by decide +kernel) dbg_changes cld_changes) (a_cons (.inl rfl) (e_tup rfl (a_cons (.inl rfl) (e_int) (a_cons (.inl rfl) (e_int) (a_nil)))) (a_cons (.inl rfl) (n_var C 6 "mark" rfl (by decide +kernel) dbg_mark cld_mark) (a_cons (.inl rfl) (e_non) (a_nil))))))) (a_nil))) dbg__law_heard) (a_nil)))))
      (ss_cons (s_drop (e_meth PySem.F.plainAttrs_list PySem.F.slot_list_append PySem.F.type_list_append mt_append vm_app fApp_nr rfl (n_pe C 7 "told" rfl (by decide +kernel) dbg_told cld_told) (a_cons (.inl rfl) (e_call C F__law_heard (by decide) (by decide +kernel) rfl (a_cons (.inl rfl) (n_fn C (by decide +kernel) v_accept_counts.1 v_accept_counts.2 dbg_accept_counts) (a_cons (.inl rfl) (DF.val (f_lst rfl (a_cons (.inl rfl) (n_var C 4 "changes" rfl (by decide +kernel) dbg_changes cld_changes) (a_cons (.inl rfl) (e_tup rfl (a_cons (.inl rfl) (e_int) (a_cons (.inl rfl) (e_int) (a_nil)))) (a_cons (.inl rfl) (n_var C 6 "mark" rfl (by decide +kernel) dbg_mark cld_mark) (a_cons (.inl rfl) (e_non) (a_cons (.inl rfl) (e_non) (a_nil)))))))) (a_nil))) dbg__law_heard) (a_nil))))
      (ss_cons (s_if (tNe C (.inr rfl) (n_varO C 7 "told" rfl (by decide +kernel) dbg_told cld_told) (eMul (.inl rfl) (DF.val (f_lst rfl (a_cons (.inl rfl) (e_str) (a_nil)))) (e_int))) (ss_never) (ss_nil))
      (ss_cons (s_set C 8 rfl (by decide +kernel) (e_callO C F__law_pick (by decide) (by decide +kernel) rfl 1 (n_pe C 1 "state" rfl (by decide +kernel) dbg_state cld_state) (a_cons (.inl rfl) (DF.val (f_lst rfl (a_cons (.inl rfl) (e_non) (a_cons (.inl rfl) (e_neg (e_int)) (a_cons (.inl rfl) (e_int) (a_cons (.inl rfl) (e_bl) (a_cons (.inl rfl) (e_str) (a_cons (.inl rfl) (e_tup rfl (a_cons (.inl rfl) (e_int) (a_nil))) (a_nil))))))))) (a_nil)) dbg__law_pick))
      (ss_cons (s_if (tNe C (.inl rfl) (e_call C F__law_heard (by decide) (by decide +kernel) rfl (a_cons (.inl rfl) (n_fn C (by decide +kernel) v_accept_bound.1 v_accept_bound.2 dbg_accept_bound) (a_cons (.inl rfl) (DF.val (f_lst rfl (a_cons (.inl rfl) (n_var C 4 "changes" rfl (by decide +kernel) dbg_changes cld_changes) (a_cons (.inl rfl) (e_tup rfl (a_cons (.inl rfl) (e_int) (a_cons (.inl rfl) (e_int) (a_nil)))) (a_cons (.inl rfl) (n_var C 8 "place" rfl (by decide +kernel) dbg_place cld_place) (a_cons (.inl rfl) (e_non) (a_cons (.inl rfl) (e_non) (a_nil)))))))) (a_nil))) dbg__law_heard) (e_str)) (ss_never) (ss_nil))
      (ss_one (s_ret (e_and (eEq C (.inl rfl) (e_call C F__law_heard (by decide) (by decide +kernel) rfl (a_cons (.inl rfl) (n_fn C (by decide +kernel) v_judge_kept.1 v_judge_kept.2 dbg_judge_kept) (a_cons (.inl rfl) (DF.val (f_lst rfl (a_cons (.inl rfl) (n_var C 4 "changes" rfl (by decide +kernel) dbg_changes cld_changes) (a_cons (.inl rfl) (e_tup rfl (a_cons (.inl rfl) (ePow (.inl rfl) (e_int) (e_int)) (a_cons (.inl rfl) (ePow (.inl rfl) (e_int) (e_int)) (a_nil)))) (a_nil))))) (a_nil))) dbg__law_heard) (DF.val (f_lst rfl (a_cons (.inl rfl) (e_tup rfl (a_cons (.inl rfl) (e_str) (a_nil))) (a_nil))))) (e_one (eEq C (.inl rfl) (e_call C F__law_heard (by decide) (by decide +kernel) rfl (a_cons (.inl rfl) (n_fn C (by decide +kernel) v_accept_apart.1 v_accept_apart.2 dbg_accept_apart) (a_cons (.inl rfl) (DF.val (f_lst rfl (a_cons (.inl rfl) (n_var C 4 "changes" rfl (by decide +kernel) dbg_changes cld_changes) (a_cons (.inl rfl) (e_tup rfl (a_cons (.inl rfl) (e_int) (a_cons (.inl rfl) (e_int) (a_nil)))) (a_cons (.inl rfl) (e_tup rfl (a_cons (.inl rfl) (e_int) (a_cons (.inl rfl) (e_int) (a_nil)))) (a_cons (.inl rfl) (e_tup rfl (a_cons (.inl rfl) (eSub (.inl rfl) (e_int) (ePow (.inl rfl) (e_int) (e_int))) (a_cons (.inl rfl) (eSub (.inl rfl) (e_int) (ePow (.inl rfl) (e_int) (e_int))) (a_nil)))) (a_nil))))))) (a_nil))) dbg__law_heard) (DF.val (f_lst rfl (a_cons (.inl rfl) (e_non) (a_nil)))))))))))))))))))))))
end
end LW
end Dn

/-! PG2 -/
set_option Elab.async false
set_option linter.all false
set_option maxRecDepth 100000
set_option maxHeartbeats 2000000
namespace Dn
namespace LW
open PySem
/-! ### the drawing -/
/-- a state of the drawing that may come -/
def Good (s : D) : Prop := ∃ (ns : List Int) (v p c : Int), s = .lst [.lst (ns.map D.int), .int v, .int p, .int c] ∧ 0 ≤ v ∧ 0 ≤ p ∧ 0 ≤ c ∧ c < 4294967296
theorem start_ok (ns : List Int) : ∃ s, m__law_start [.scr ns] = .ok s ∧ Good s := by
  have key : ∀ (ms : List Int) (c : Int), 0 ≤ c → c < 4294967296 → ∃ c', 0 ≤ c' ∧ c' < 4294967296 ∧ ∀ o, ∃ o', forL (gSet 2) (sSet 1 (dBin dAdd (dBin dMod (dCall bInt (dCons (dBin dAdd (dBin dMul (dVar 1) (dC (.int 48271))) (dVar 2)) (dNil))) (dC (.int 2147483629))) (dC (.int 1)))) (ms.map D.int) [.va (.scr ns), .va (.int c), o] = .ok (.nx, [.va (.scr ns), .va (.int c'), o']) := by
    intro ms
    induction ms with
    | nil => exact fun c h1 h2 => ⟨c, h1, h2, fun o => ⟨o, rfl⟩⟩
    | cons m ms ih =>
      intro c h1 h2
      have hm : mulOk c 48271 = true := mulOk_of (m := 32) (n := 16) (by omega) (by decide) (by decide)
      have h3 : 0 ≤ (c * 48271 + m) % 2147483629 + 1 := by omega
      have h4 : (c * 48271 + m) % 2147483629 + 1 < 4294967296 := by omega
      obtain ⟨c', q1, q2, q3⟩ := ih _ h3 h4
      refine ⟨c', q1, q2, fun o => ?_⟩
      obtain ⟨o', q4⟩ := q3 (.va (.int m))
      refine ⟨o', ?_⟩
      rw [← q4, List.map_cons, forL]
      simp [gSet, put, Dn.ns, sSet, dBin, dVar, dC, dCall, dCons, dNil, dMul, hm, dAdd, bInt, dIntOp, isOw]
  obtain ⟨c, h1, h2, h3⟩ := key ns 7 (by decide) (by decide)
  obtain ⟨o, h3⟩ := h3 .un
  refine ⟨.lst [.lst (ns.map D.int), .int 0, .int 0, .int c], ?_, ns, 0, 0, c, rfl, by decide, by decide, h1, h2⟩
  unfold m__law_start b__law_start
  simp [enter, bSeq, sSet, dC, put, isOw, sFor, dItems, dVar, h3, sRetF, dLst, dCons, dCall, bList, dNil, maxSeq, finF]
theorem draw_ok {s : D} {n : Int} (h : Good s) (hn : 0 < n) (hn2 : n < 1099511627776) : wm (m__law_draw s [.int n]) fun q => ∃ k, q.1 = .int k ∧ 0 ≤ k ∧ k < n ∧ Good q.2 := by
  obtain ⟨cs, v, p, c, rfl, hv, hp, hc, hc2⟩ := h
  have hm : mulOk c 48271 = true := mulOk_of (m := 32) (n := 16) (by omega) (by decide) (by decide)
  have hd : ∀ i, divOk i n = true := fun i => divOk_of (n := 40) hn (by omega) (by decide)
  have hd13 : ∀ i, divOk i 13 = true := fun i => divOk_of (n := 40) (by decide) (by decide) (by decide)
  have nn0 := Int.emod_nonneg
  unfold m__law_draw b__law_draw
  by_cases h0 : v = 0
  · subst h0
    by_cases hl : (cs.length : Int) ≤ p
    · simp [bSeq, bNil, sIf, dTAnd, dTb, dBin, dIx, dVarO, dVar, dC, enterO, enter, dEq, D.eqv, D.ok, D.lay, D.dep, L2.atI, L2.ixN, dCall, dCons, dNil, bLen, hl, sSub, dMul, hm, dAdd, bInt, dIntOp, hd13, hn, sRet, finO, dCmpI]
      refine ⟨Int.emod_nonneg _ (by omega), Int.emod_lt_of_pos _ hn, cs, 0, p, _, rfl, by decide, hp, by omega, by omega⟩
    · have hp2 : p.toNat < cs.length := by omega
      have hp3 : p < (cs.length : Int) := by omega
      simp [bSeq, bNil, sIf, dTAnd, dTb, dBin, dIx, dVarO, dVar, dC, enterO, enter, dEq, D.eqv, D.ok, D.lay, D.dep, L2.atI, L2.ixN, dCall, dCons, dNil, bLen, hl, hp, hp2, hp3, sSub, dMul, hm, dAdd, bInt, bAbs, dIntOp, hd13, hd, hn, sRet, finO, dCmpI, sSet]
      refine ⟨Int.emod_nonneg _ (by omega), Int.emod_lt_of_pos _ hn, cs, _, p + 1, c, rfl, ?_, by omega, hc, hc2⟩
      refine Int.ediv_nonneg ?_ (by omega)
      split <;> omega
  · simp [bSeq, bNil, sIf, dTAnd, dTb, dBin, dIx, dVarO, dVar, dC, enterO, enter, dEq, D.eqv, D.ok, D.lay, D.dep, L2.atI, L2.ixN, dCall, dCons, dNil, bLen, h0, sSub, dMul, hm, dAdd, bInt, bAbs, dIntOp, hd13, hd, hn, sRet, finO, dCmpI, sSet]
    refine ⟨Int.emod_nonneg _ (by omega), Int.emod_lt_of_pos _ hn, cs, _, p, c, rfl, Int.ediv_nonneg hv (by omega), hp, hc, hc2⟩
theorem pick_ok {s : D} {xs : List D} (h : Good s) (h0 : xs ≠ []) (h1 : xs.length < 1000000) : wm (m__law_pick s [.lst xs]) fun q => q.1 ∈ xs ∧ Good q.2 := by
  have hl : 0 < (xs.length : Int) := by
    cases xs with
    | nil => exact absurd rfl h0
    | cons x r => exact Int.ofNat_lt.mpr (Nat.succ_pos _)
  have hd := draw_ok (n := xs.length) h hl (by omega)
  obtain ⟨⟨q1, q2⟩, hq, k, e1, k0, k1, hg⟩ := wm_out hd
  cases e1
  have hk : k.toNat < xs.length := by omega
  unfold m__law_pick b__law_pick
  simp [enterO, enter, sRet, dBin, dVar, dCallO, dCons, dCall, dNil, bLen, hq, dIx, L2.atI, L2.ixN, k0, k1, hk, finO, hg]

theorem is_integer_ok (d : D) (h : d.ty ≠ none) : m_is_integer [d] = .ok (.bl (isI d)) := by
  cases d <;> first | rfl | exact absurd rfl h
theorem whole_ok (d : D) (h : d.ty ≠ none) : m__law_whole [d] = .ok (.bl (isI d)) := by
  cases d <;> first | rfl | exact absurd rfl h
@[simp] theorem is_integer_int (i : Int) : m_is_integer [.int i] = .ok (.bl true) := rfl
@[simp] theorem whole_int (i : Int) : m__law_whole [.int i] = .ok (.bl true) := rfl
theorem between_int (i lo hi : Int) : m_is_between [.int i, .int lo, .int hi] = .ok (.bl (decide (lo ≤ i) && decide (i ≤ hi))) := by
  unfold m_is_between b_is_between
  by_cases h : lo ≤ i
  · simp [enter, sRet, dAndV, dCall, dCons, dNil, dVar, dChain, dLe, dCmpI, h, fin]
  · simp [enter, sRet, dAndV, dCall, dCons, dNil, dVar, dChain, dLe, dCmpI, h, fin]
theorem between_no (d : D) (a b : D) (h : d.ty ≠ none) (h2 : isI d = false) : m_is_between [d, a, b] = .ok (.bl false) := by
  unfold m_is_between b_is_between
  simp only [enter, sRet, dAndV, dCall, dCons, dNil, dVar, List.map_cons, List.map_nil, List.length_cons, List.length_nil, List.cons_append, List.nil_append, List.getElem?_cons_zero, bnd_ok, is_integer_ok d h]
  rw [h2]
  rfl
theorem bw_non (a b : D) : m_is_between [.non, a, b] = .ok (.bl false) := between_no _ _ _ (fun e => by cases e) rfl
theorem bw_bl (x : Bool) (a b : D) : m_is_between [.bl x, a, b] = .ok (.bl false) := between_no _ _ _ (fun e => by cases e) rfl
theorem bw_str (x : Str) (a b : D) : m_is_between [.str x, a, b] = .ok (.bl false) := between_no _ _ _ (fun e => by cases e) rfl
theorem bw_tup (x : List D) (a b : D) : m_is_between [.tup x, a, b] = .ok (.bl false) := between_no _ _ _ (fun e => by cases e) rfl
theorem bw_lst (x : List D) (a b : D) : m_is_between [.lst x, a, b] = .ok (.bl false) := between_no _ _ _ (fun e => by cases e) rfl
theorem heard1 (f : Nat) (mf : List D → M D) (a : D) (ht : tbl f = some (1, mf)) : m__law_heard [.fn f, .lst [a]] = match mf [a] with
    | .ok r => .ok (.lst [r])
    | .error (.raise k p) => wordOf k p
    | .error .stuck => stuck := by
  unfold m__law_heard b__law_heard m__law_called b__law_called
  simp [enter, sHeard, noOwE, sRet, dLst, dCons, dCall, dNil, dVar, bSeq, bNil, sIf, dTb, dBin, bLen, dC, dLt, dCmpI, dIf, dEq_int, dCallV, ht, dIx, L2.atI, L2.ixN]
  cases h : mf [a] with
  | ok r => simp [fin, maxSeq]
  | error x => cases x with
    | stuck => rfl
    | raise k p =>
      simp [fin]
      cases wordOf k p <;> rfl
theorem h1e {f : Nat} {mf : List D → M D} {a p r : D} {k : Nat} (ht : tbl f = some (1, mf)) (h : mf [a] = .error (.raise k p)) (hw : wordOf k p = .ok r) : m__law_heard [.fn f, .lst [a]] = .ok r := by rw [heard1 f mf a ht, h]; exact hw
theorem h1o {f : Nat} {mf : List D → M D} {a r : D} (ht : tbl f = some (1, mf)) (h : mf [a] = .ok r) : m__law_heard [.fn f, .lst [a]] = .ok (.lst [r]) := by rw [heard1 f mf a ht, h]
theorem heard2 (f : Nat) (mf : List D → M D) (a b : D) (ht : tbl f = some (2, mf)) : m__law_heard [.fn f, .lst [a, b]] = match mf [a, b] with
    | .ok r => .ok (.lst [r])
    | .error (.raise k p) => wordOf k p
    | .error .stuck => stuck := by
  unfold m__law_heard b__law_heard m__law_called b__law_called
  simp [enter, sHeard, noOwE, sRet, dLst, dCons, dCall, dNil, dVar, bSeq, bNil, sIf, dTb, dBin, bLen, dC, dLt, dCmpI, dIf, dEq_int, dCallV, ht, dIx, L2.atI, L2.ixN]
  cases h : mf [a, b] with
  | ok r => simp [fin, maxSeq]
  | error x => cases x with
    | stuck => rfl
    | raise k p =>
      simp [fin]
      cases wordOf k p <;> rfl
theorem h2e {f : Nat} {mf : List D → M D} {a b p r : D} {k : Nat} (ht : tbl f = some (2, mf)) (h : mf [a, b] = .error (.raise k p)) (hw : wordOf k p = .ok r) : m__law_heard [.fn f, .lst [a, b]] = .ok r := by rw [heard2 f mf a b ht, h]; exact hw
theorem h2o {f : Nat} {mf : List D → M D} {a b r : D} (ht : tbl f = some (2, mf)) (h : mf [a, b] = .ok r) : m__law_heard [.fn f, .lst [a, b]] = .ok (.lst [r]) := by rw [heard2 f mf a b ht, h]
theorem heard3 (f : Nat) (mf : List D → M D) (a b c : D) (ht : tbl f = some (3, mf)) : m__law_heard [.fn f, .lst [a, b, c]] = match mf [a, b, c] with
    | .ok r => .ok (.lst [r])
    | .error (.raise k p) => wordOf k p
    | .error .stuck => stuck := by
  unfold m__law_heard b__law_heard m__law_called b__law_called
  simp [enter, sHeard, noOwE, sRet, dLst, dCons, dCall, dNil, dVar, bSeq, bNil, sIf, dTb, dBin, bLen, dC, dLt, dCmpI, dIf, dEq_int, dCallV, ht, dIx, L2.atI, L2.ixN]
  cases h : mf [a, b, c] with
  | ok r => simp [fin, maxSeq]
  | error x => cases x with
    | stuck => rfl
    | raise k p =>
      simp [fin]
      cases wordOf k p <;> rfl
theorem h3e {f : Nat} {mf : List D → M D} {a b c p r : D} {k : Nat} (ht : tbl f = some (3, mf)) (h : mf [a, b, c] = .error (.raise k p)) (hw : wordOf k p = .ok r) : m__law_heard [.fn f, .lst [a, b, c]] = .ok r := by rw [heard3 f mf a b c ht, h]; exact hw
theorem h3o {f : Nat} {mf : List D → M D} {a b c r : D} (ht : tbl f = some (3, mf)) (h : mf [a, b, c] = .ok r) : m__law_heard [.fn f, .lst [a, b, c]] = .ok (.lst [r]) := by rw [heard3 f mf a b c ht, h]
theorem heard4 (f : Nat) (mf : List D → M D) (a b c d : D) (ht : tbl f = some (4, mf)) : m__law_heard [.fn f, .lst [a, b, c, d]] = match mf [a, b, c, d] with
    | .ok r => .ok (.lst [r])
    | .error (.raise k p) => wordOf k p
    | .error .stuck => stuck := by
  unfold m__law_heard b__law_heard m__law_called b__law_called
  simp [enter, sHeard, noOwE, sRet, dLst, dCons, dCall, dNil, dVar, bSeq, bNil, sIf, dTb, dBin, bLen, dC, dLt, dCmpI, dIf, dEq_int, dCallV, ht, dIx, L2.atI, L2.ixN]
  cases h : mf [a, b, c, d] with
  | ok r => simp [fin, maxSeq]
  | error x => cases x with
    | stuck => rfl
    | raise k p =>
      simp [fin]
      cases wordOf k p <;> rfl
theorem h4e {f : Nat} {mf : List D → M D} {a b c d p r : D} {k : Nat} (ht : tbl f = some (4, mf)) (h : mf [a, b, c, d] = .error (.raise k p)) (hw : wordOf k p = .ok r) : m__law_heard [.fn f, .lst [a, b, c, d]] = .ok r := by rw [heard4 f mf a b c d ht, h]; exact hw
theorem h4o {f : Nat} {mf : List D → M D} {a b c d r : D} (ht : tbl f = some (4, mf)) (h : mf [a, b, c, d] = .ok r) : m__law_heard [.fn f, .lst [a, b, c, d]] = .ok (.lst [r]) := by rw [heard4 f mf a b c d ht, h]
theorem heard5 (f : Nat) (mf : List D → M D) (a b c d e : D) (ht : tbl f = some (5, mf)) : m__law_heard [.fn f, .lst [a, b, c, d, e]] = match mf [a, b, c, d, e] with
    | .ok r => .ok (.lst [r])
    | .error (.raise k p) => wordOf k p
    | .error .stuck => stuck := by
  unfold m__law_heard b__law_heard m__law_called b__law_called
  simp [enter, sHeard, noOwE, sRet, dLst, dCons, dCall, dNil, dVar, bSeq, bNil, sIf, dTb, dBin, bLen, dC, dLt, dCmpI, dIf, dEq_int, dCallV, ht, dIx, L2.atI, L2.ixN]
  cases h : mf [a, b, c, d, e] with
  | ok r => simp [fin, maxSeq]
  | error x => cases x with
    | stuck => rfl
    | raise k p =>
      simp [fin]
      cases wordOf k p <;> rfl
theorem h5e {f : Nat} {mf : List D → M D} {a b c d e p r : D} {k : Nat} (ht : tbl f = some (5, mf)) (h : mf [a, b, c, d, e] = .error (.raise k p)) (hw : wordOf k p = .ok r) : m__law_heard [.fn f, .lst [a, b, c, d, e]] = .ok r := by rw [heard5 f mf a b c d e ht, h]; exact hw
theorem h5o {f : Nat} {mf : List D → M D} {a b c d e r : D} (ht : tbl f = some (5, mf)) (h : mf [a, b, c, d, e] = .ok r) : m__law_heard [.fn f, .lst [a, b, c, d, e]] = .ok (.lst [r]) := by rw [heard5 f mf a b c d e ht, h]
end LW
end Dn

/-! P10a -/
set_option Elab.async false
set_option linter.all false
set_option maxRecDepth 100000
set_option maxHeartbeats 2000000
namespace Dn
namespace LW
open PySem
/-! ### k10: sums -/
def dot : List Int → List Int → Int
  | a :: r, b :: s => a * b + dot r s
  | _, _ => 0
def SmallB (n : Nat) (ss : List Int) : Prop := ∀ s, s ∈ ss → s.natAbs < 2 ^ n
theorem dot_sum : ∀ (ws row : List Int), (List.zipWith (fun a b => a * b) ws row).sum = dot ws row
  | [], _ => by simp [dot]
  | _ :: _, [] => by simp [dot]
  | a :: r, b :: s => by simp [dot, dot_sum r s]
theorem dot_bound {m n : Nat} : ∀ {ws row : List Int}, SmallB m ws → SmallB n row → (dot ws row).natAbs ≤ ws.length * 2 ^ (m + n)
  | [], _, _, _ => by simp [dot]
  | _ :: _, [], _, _ => by simp [dot]
  | a :: r, b :: s, h1, h2 => by
    have ih := dot_bound (ws := r) (row := s) (fun x hx => h1 x (List.mem_cons_of_mem _ hx)) (fun x hx => h2 x (List.mem_cons_of_mem _ hx))
    have p := natAbs_mul_lt (h1 a List.mem_cons_self) (h2 b List.mem_cons_self)
    have q := Int.natAbs_add_le (a * b) (dot r s)
    simp only [dot, List.length_cons, Nat.add_mul, Nat.one_mul]
    omega
theorem mul_small {m n : Nat} {ws row : List Int} {a b : Int} (h1 : SmallB m ws) (h2 : SmallB n row) (h : m + n < 1000000) (ha : a ∈ ws) (hb : b ∈ row) : mulOk a b = true := mulOk_of (h1 a ha) (h2 b hb) h
theorem zip_lc {m n : Nat} (hmn : m + n < 1000000) (W R : D) : ∀ (ws row : List Int), SmallB m ws → SmallB n row → lcL (gTupD (lenOf 2 (gsCons (gSet 2) (gsCons (gSet 3) (gsNil))))) (dYes) (dBin dMul (dVar 2) (dVar 3)) [2, 3] (zipD (ws.map D.int) (row.map D.int)) [.va W, .va R, .un, .un] = .ok ((List.zipWith (fun a b => a * b) ws row).map D.int, [.va W, .va R, .un, .un])
  | [], _, _, _ => by simp [zipD, lcL]
  | _ :: _, [], _, _ => by simp [zipD, lcL]
  | a :: r, b :: s, h1, h2 => by
    have ih := zip_lc hmn W R r s (fun x hx => h1 x (List.mem_cons_of_mem _ hx)) (fun x hx => h2 x (List.mem_cons_of_mem _ hx))
    have hm := mul_small h1 h2 hmn List.mem_cons_self List.mem_cons_self
    rw [List.zipWith_cons_cons, show zipD ((a :: r).map D.int) ((b :: s).map D.int) = .tup [.int a, .int b] :: zipD (r.map D.int) (s.map D.int) from rfl, lcL, List.map_cons]
    generalize zipD (r.map D.int) (s.map D.int) = Z at ih ⊢
    generalize (List.zipWith (fun a b => a * b) r s).map D.int = Y at ih ⊢
    simp [gTupD, lenOf, gsCons, gsNil, gSet, put, isOw, dYes, dBin, dVar, dMul, hm, wipeE, ih]
theorem weighed_ok {m n : Nat} {W R : D} {ws row : List Int} (hW : seqD W = some (ws.map D.int)) (hR : seqD R = some (row.map D.int)) (b1 : SmallB m ws) (b2 : SmallB n row) (hmn : m + n < 1000000) (l : ws.length ≤ 1000) : m_weighed [W, R] = .ok (.int (dot ws row)) := by
  have e := zip_lc hmn W R ws row b1 b2
  have hl : (List.zipWith (fun a b => a * b) ws row).length ≤ maxSeq := le_maxSeq (by rw [List.length_zipWith]; omega)
  have lc : dLc (dZipB (dCons (dVar 0) (dCons (dVar 1) (dNil)))) (gTupD (lenOf 2 (gsCons (gSet 2) (gsCons (gSet 3) (gsNil))))) (dYes) (dBin dMul (dVar 2) (dVar 3)) [2, 3] [.va W, .va R, .un, .un] = .ok (.lst ((List.zipWith (fun a b => a * b) ws row).map D.int), [.va W, .va R, .un, .un]) := by
    have z : dZipB (dCons (dVar 0) (dCons (dVar 1) (dNil))) [.va W, .va R, .un, .un] = .ok (zipD (ws.map D.int) (row.map D.int), [.va W, .va R, .un, .un]) := by simp [dZipB, dCons, dNil, dVar, hW, hR]
    unfold dLc
    rw [z, bnd_ok]
    simp only []
    rw [if_pos (show noOw [.va W, .va R, .un, .un] [2, 3] = true from rfl), show wipeE [.va W, .va R, .un, .un] [2, 3] = [.va W, .va R, .un, .un] from rfl, e, ns_ok, bnd_ok]
    simp only []
    rw [if_pos (by rw [List.length_map]; exact hl)]
    rfl
  unfold m_weighed b_weighed sRet
  rw [show enter 4 [W, R] = [.va W, .va R, .un, .un] from rfl, dCall1 lc (by rw [bSum_map, dot_sum])]
  rfl
theorem rng_zip {ws row : List Int} (h : ws.length = row.length) : (List.range row.length).map (fun k => (ws[k]?).getD 0 * (row[k]?).getD 0) = List.zipWith (fun a b => a * b) ws row := by
  apply List.ext_getElem?
  intro k
  rw [List.getElem?_map, List.getElem?_zipWith]
  by_cases hk : k < row.length
  · have hk2 : k < ws.length := by omega
    rw [List.getElem?_range hk]
    simp [hk, hk2]
  · rw [List.getElem?_eq_none (by simp; omega), List.getElem?_eq_none (l := row) (by omega)]
    cases ws[k]? <;> rfl
theorem ix_seq {W : D} {ws : List Int} {k : Nat} (hW : seqD W = some (ws.map D.int)) (hk : k < ws.length) : dIx W (.int k) = .ok (.int ((ws[k]?).getD 0)) := by
  rw [List.getElem?_eq_getElem hk]
  cases W <;> first | cases hW; done | skip
  all_goals
    have e := Option.some.inj hW
    subst e
    simp [dIx, L2.atI, L2.ixN, hk]
theorem len_seq {W : D} {ds : List D} (hW : seqD W = some ds) : bLen [W] = .ok (.int ds.length) := by
  cases W <;> first | cases hW; done | skip
  all_goals
    have e := Option.some.inj hW
    subst e
    rfl
theorem sum_ok {m n : Nat} {W R : D} {ws row : List Int} (hW : seqD W = some (ws.map D.int)) (hR : seqD R = some (row.map D.int)) (b1 : SmallB m ws) (b2 : SmallB n row) (hmn : m + n < 1000000) (l : ws.length = row.length) (l2 : row.length ≤ 1000) : m__law_sum [W, R] = .ok (.int (dot ws row)) := by
  have lr : bLen [R] = .ok (.int row.length) := by rw [len_seq hR, List.length_map]
  have z : dRng (dCons (dCall bLen (dCons (dVar 1) (dNil))) (dNil)) [.va W, .va R, .un] = .ok (rngD 0 1 row.length, [.va W, .va R, .un]) :=
    dRng_ok (n := row.length) (by simp [dCons, dNil, dCall, dVar, lr]) (smallI_of_le (by omega) (by omega))
  have lc : lcL (gSet 2) dYes (dBin dMul (dBin dIx (dVar 0) (dVar 2)) (dBin dIx (dVar 1) (dVar 2))) [2] (rngD 0 1 row.length) [.va W, .va R, .un] = .ok ((List.zipWith (fun a b => a * b) ws row).map D.int, [.va W, .va R, .un]) := by
    rw [← rng_zip l, List.map_map, rng_eq]
    have := lcL_map (mt := gSet 2) (te := dBin dMul (dBin dIx (dVar 0) (dVar 2)) (dBin dIx (dVar 1) (dVar 2))) (vs := [2]) (env := [.va W, .va R, .un]) (f := fun d => match d with | .int k => .int ((ws[k.toNat]?).getD 0 * (row[k.toNat]?).getD 0) | _ => .non)
      ((List.range row.length).map fun k => D.int (k : Nat)) (fun d hd => by
        obtain ⟨k, hk, rfl⟩ := List.mem_map.mp hd
        have hk := List.mem_range.mp hk
        have e1 := ix_seq hW (k := k) (by omega)
        have e2 := ix_seq hR (k := k) hk
        have hk2 : k < ws.length := by omega
        have hm : mulOk ((ws[k]?).getD 0) ((row[k]?).getD 0) = true := by
          rw [List.getElem?_eq_getElem hk, List.getElem?_eq_getElem hk2]
          exact mul_small b1 b2 hmn (List.getElem_mem _) (List.getElem_mem _)
        refine ⟨[.va W, .va R, .va (.int k)], [.va W, .va R, .va (.int k)], rfl, ?_, rfl⟩
        simp only [dBin, dVar, List.getElem?_cons_zero, List.getElem?_cons_succ, bnd_ok, e1, e2, dMul, hm, if_true, Int.toNat_natCast])
    rw [this, List.map_map]
    rfl
  unfold m__law_sum b__law_sum sRet
  rw [show enter 3 [W, R] = [.va W, .va R, .un] from rfl, dCall1 (dLc_ok2 z rfl rfl lc (by rw [List.length_map, List.length_zipWith]; omega)) (by rw [bSum_map, dot_sum])]
  rfl
/-! ### what is told as weights, counts -/
structure Own (d : D) : Prop where
  ty : d.ty ≠ none
  it : ∀ ds, d = .tup ds → ds.length ≤ 100 ∧ ∀ x, x ∈ ds → x.ty ≠ none ∧ ∀ i, x = .int i → i.natAbs < 2 ^ 120
def isInts (n : Nat) : D → Option (List Int)
  | .tup ds => if ds.length = n then intsOf ds else none
  | _ => none
theorem isInts_some {n : Nat} {d : D} {ws : List Int} (h : isInts n d = some ws) : d = intsD ws ∧ ws.length = n := by
  cases d <;> first | cases h; done | skip
  rename_i ds
  unfold isInts at h
  by_cases hl : ds.length = n
  · simp only [hl, if_true] at h
    have e := intsOf_some h
    subst e
    rw [List.length_map] at hl
    exact ⟨rfl, hl⟩
  · simp only [hl, if_false] at h
    cases h
theorem Own.small {d : D} {n : Nat} {ws : List Int} (h : Own d) (e : isInts n d = some ws) : SmallB 120 ws := fun s hs => by
  obtain ⟨e1, _⟩ := isInts_some e
  exact (((h.it _ e1).2 (.int s) (List.mem_map.mpr ⟨s, hs, rfl⟩)).2 s rfl)
theorem is_integers_ok {d : D} (h : Own d) (n : Nat) : m_is_integers [d, .int n] = .ok (.bl (isInts n d).isSome) := by
  unfold m_is_integers b_is_integers sRet
  rw [show enter 3 [d, .int n] = [.va d, .va (.int n), .un] from rfl]
  by_cases hd : ∃ ds, d = .tup ds
  · obtain ⟨ds, rfl⟩ := hd
    have lc : dLc (dItems (dVar 0)) (gSet 2) (dYes) (dCall m_is_integer (dCons (dVar 2) (dNil))) [2] [.va (.tup ds), .va (.int n), .un] = .ok (.lst (ds.map fun x => D.bl (isI x)), [.va (.tup ds), .va (.int n), .un]) :=
      dLc_ok2 (dItems_tup rfl) rfl rfl (lcL_map _ fun x hx => ⟨[.va (.tup ds), .va (.int n), .va x], [.va (.tup ds), .va (.int n), .va x], rfl, by simp [dCall, dCons, dNil, dVar, is_integer_ok x ((h.it ds rfl).2 x hx).1], rfl⟩) (by rw [List.length_map]; have := (h.it ds rfl).1; omega)
    have al := dCall1 lc (bAll_mapf isI ds)
    by_cases hl : ds.length = n
    · have hl2 : (ds.length : Int) = n := by omega
      simp [dAndV, dIsi, dVar, D.ty, isTy, dBin, dCall, dCons, dNil, bLen, dEq_int, hl2] at al ⊢
      rw [al]
      simp [fin, isInts, hl, all_isI]
    · have hl2 : ¬ (ds.length : Int) = n := by omega
      simp [dAndV, dIsi, dVar, D.ty, isTy, dBin, dCall, dCons, dNil, bLen, dEq_int, hl2, isInts, hl, fin]
  · have e : isInts n d = none := by cases d <;> first | rfl | exact absurd ⟨_, rfl⟩ hd
    rw [e]
    have ht := h.ty
    cases d <;> first | exact absurd ⟨_, rfl⟩ hd | exact absurd rfl ht | (simp [dAndV, dIsi, dVar, D.ty, isTy, fin])
theorem law_row_ok {d : D} (h : Own d) (n : Nat) : m__law_row [d, .int n] = .ok (.bl (isInts n d).isSome) := by
  unfold m__law_row b__law_row sRet
  rw [show enter 3 [d, .int n] = [.va d, .va (.int n), .un] from rfl]
  by_cases hd : ∃ ds, d = .tup ds
  · obtain ⟨ds, rfl⟩ := hd
    have lc : dLc (dItems (dVar 0)) (gSet 2) (dYes) (dCall m__law_whole (dCons (dVar 2) (dNil))) [2] [.va (.tup ds), .va (.int n), .un] = .ok (.lst (ds.map fun x => D.bl (isI x)), [.va (.tup ds), .va (.int n), .un]) :=
      dLc_ok2 (dItems_tup rfl) rfl rfl (lcL_map _ fun x hx => ⟨[.va (.tup ds), .va (.int n), .va x], [.va (.tup ds), .va (.int n), .va x], rfl, by simp [dCall, dCons, dNil, dVar, whole_ok x ((h.it ds rfl).2 x hx).1], rfl⟩) (by rw [List.length_map]; have := (h.it ds rfl).1; omega)
    have al := dCall1 lc (bAll_mapf isI ds)
    by_cases hl : ds.length = n
    · have hl2 : (ds.length : Int) = n := by omega
      simp [dAndV, dIsi, dVar, D.ty, isTy, dBin, dCall, dCons, dNil, bLen, dEq_int, hl2] at al ⊢
      rw [al]
      simp [fin, isInts, hl, all_isI]
    · have hl2 : ¬ (ds.length : Int) = n := by omega
      simp [dAndV, dIsi, dVar, D.ty, isTy, dBin, dCall, dCons, dNil, bLen, dEq_int, hl2, isInts, hl, fin]
  · have e : isInts n d = none := by cases d <;> first | rfl | exact absurd ⟨_, rfl⟩ hd
    rw [e]
    have ht := h.ty
    cases d <;> first | exact absurd ⟨_, rfl⟩ hd | exact absurd rfl ht | (simp [dAndV, dIsi, dVar, D.ty, isTy, fin])
def isW : D → Bool
  | .int i => decide (0 ≤ i)
  | _ => false
/-- none below nought -/
def isWs (n : Nat) (d : D) : Option (List Int) := (isInts n d).bind fun ws => if ws.all (fun w => decide (0 ≤ w)) then some ws else none
theorem all_isW : ∀ (ds : List D), ds.all isW = ((intsOf ds).bind fun ws => if ws.all (fun w => decide (0 ≤ w)) then some ws else none).isSome
  | [] => rfl
  | d :: r => by
    cases d with
    | int i =>
      rw [List.all_cons, all_isW r, show intsOf (D.int i :: r) = (intsOf r).map (i :: ·) from rfl]
      cases intsOf r with
      | none => simp
      | some w =>
        simp only [isW, Option.bind_some, Option.map_some, List.all_cons]
        by_cases hi : 0 ≤ i
        · simp only [hi, decide_true, Bool.true_and]
          split <;> rfl
        · simp [hi]
    | _ => rfl
theorem is_weights_ok {d : D} (h : Own d) (n : Nat) : m_is_weights [d, .int n] = .ok (.bl (isWs n d).isSome) := by
  unfold m_is_weights b_is_weights sRet
  rw [show enter 3 [d, .int n] = [.va d, .va (.int n), .un] from rfl]
  by_cases hd : ∃ ds, d = .tup ds
  · obtain ⟨ds, rfl⟩ := hd
    have lc : dLc (dItems (dVar 0)) (gSet 2) (dYes) (dAndV (dCall m_is_integer (dCons (dVar 2) (dNil))) (dBin dGe (dVar 2) (dC (.int 0)))) [2] [.va (.tup ds), .va (.int n), .un] = .ok (.lst (ds.map fun x => D.bl (isW x)), [.va (.tup ds), .va (.int n), .un]) :=
      dLc_ok2 (dItems_tup rfl) rfl rfl (lcL_map _ fun x hx => ⟨[.va (.tup ds), .va (.int n), .va x], [.va (.tup ds), .va (.int n), .va x], rfl, by
        have i1 := is_integer_ok x ((h.it ds rfl).2 x hx).1
        have tx := ((h.it ds rfl).2 x hx).1
        cases x <;> first | exact absurd rfl tx | simp [dAndV, dCall, dCons, dNil, dVar, i1, isI, dBin, dC, dGe, dCmpI, isW], rfl⟩) (by rw [List.length_map]; have := (h.it ds rfl).1; omega)
    have al := dCall1 lc (bAll_mapf isW ds)
    by_cases hl : ds.length = n
    · have hl2 : (ds.length : Int) = n := by omega
      simp [dAndV, dIsi, dVar, D.ty, isTy, dBin, dCall, dCons, dNil, bLen, dEq_int, hl2] at al ⊢
      rw [al]
      simp only [bnd_ok, fin, isWs, isInts, hl, all_isW, if_true]
    · have hl2 : ¬ (ds.length : Int) = n := by omega
      simp [dAndV, dIsi, dVar, D.ty, isTy, dBin, dCall, dCons, dNil, bLen, dEq_int, hl2, isWs, isInts, hl, fin]
  · have e : isWs n d = none := by unfold isWs; cases d <;> first | rfl | exact absurd ⟨_, rfl⟩ hd
    rw [e]
    have ht := h.ty
    cases d <;> first | exact absurd ⟨_, rfl⟩ hd | exact absurd rfl ht | (simp [dAndV, dIsi, dVar, D.ty, isTy, fin])
end LW
end Dn

/-! P10b -/
set_option Elab.async false
set_option linter.all false
set_option maxRecDepth 100000
set_option maxHeartbeats 2000000
namespace Dn
namespace LW
open PySem
/-! ### k10: what is right -/
def rowsD (cs : List (List Int)) : D := .tup (cs.map intsD)
structure Chg (n : Nat) (cs : List (List Int)) : Prop where
  l1 : 1 ≤ cs.length
  l2 : cs.length ≤ 12
  n1 : 1 ≤ n
  n2 : n ≤ 10
  row : ∀ c, c ∈ cs → c.length = n ∧ ∀ x, x ∈ c → -1000000000000 ≤ x ∧ x ≤ 1000000000000
structure Mrk (n : Nat) (m : List Int) : Prop where
  len : m.length = n
  rng : ∀ x, x ∈ m → 0 ≤ x ∧ x ≤ 1000000000000
theorem small60 {x : Int} (h : -1000000000000 ≤ x) (h2 : x ≤ 1000000000000) : x.natAbs < 2 ^ 60 := by
  have : (2 : Nat) ^ 60 = 1152921504606846976 := by decide
  omega
theorem Chg.small {n : Nat} {cs : List (List Int)} (h : Chg n cs) {c : List Int} (hc : c ∈ cs) : SmallB 60 c := fun x hx => small60 ((h.row c hc).2 x hx).1 ((h.row c hc).2 x hx).2
theorem Mrk.small {n : Nat} {m : List Int} (h : Mrk n m) : SmallB 60 m := fun x hx => small60 (by have := (h.rng x hx).1; omega) (h.rng x hx).2
def inR (l h : Int) : D → Bool
  | .int i => decide (l ≤ i) && decide (i ≤ h)
  | _ => false
theorem btw_all {lo hi : Ev} {l h : Int} {C : D} {row : List Int} (hlo : ∀ e, lo e = .ok (.int l, e)) (hhi : ∀ e, hi e = .ok (.int h, e)) (hr : ∀ x, x ∈ row → l ≤ x ∧ x ≤ h) (hl : row.length ≤ 1000) :
    dTr (dCall bAll (dCons (dLc (dItems (dVar 1)) (gSet 2) (dYes) (dCall m_is_between (dCons (dVar 2) (dCons lo (dCons hi (dNil))))) [2]) (dNil))) [.va C, .va (intsD row), .un] = .ok (true, [.va C, .va (intsD row), .un]) := by
  have lc : dLc (dItems (dVar 1)) (gSet 2) (dYes) (dCall m_is_between (dCons (dVar 2) (dCons lo (dCons hi (dNil))))) [2] [.va C, .va (intsD row), .un] = .ok (.lst ((row.map D.int).map fun x => D.bl (inR l h x)), [.va C, .va (intsD row), .un]) :=
    dLc_ok2 (dItems_tup rfl) rfl rfl (lcL_map _ fun x hx => by
      obtain ⟨i, hi', rfl⟩ := List.mem_map.mp hx
      exact ⟨[.va C, .va (intsD row), .va (.int i)], [.va C, .va (intsD row), .va (.int i)], rfl, by simp [dCall, dCons, dNil, dVar, hlo, hhi, between_int, inR], rfl⟩) (by rw [List.length_map, List.length_map]; exact hl)
  refine dTr_bl (dCall1 lc ?_)
  rw [bAll_mapf]
  have : (row.map D.int).all (inR l h) = true := by
    rw [List.all_map, List.all_eq_true]
    intro x hx
    simp [inR, hr x hx]
  rw [this]
theorem ix0_rows {cs : List (List Int)} {c : List Int} (h : cs[0]? = some c) : dIx (rowsD cs) (.int 0) = .ok (intsD c) := by
  unfold rowsD
  exact ix_tup (i := 0) (by rw [List.getElem?_map, h]; rfl)
theorem Chg.first {n : Nat} {cs : List (List Int)} (h : Chg n cs) : ∃ c, cs[0]? = some c ∧ c.length = n := by
  have hl := h.l1
  have e := List.getElem?_eq_getElem (l := cs) (i := 0) (by omega)
  exact ⟨_, e, (h.row _ (List.mem_of_getElem? e)).1⟩
theorem len_rows (cs : List (List Int)) : bLen [rowsD cs] = .ok (.int cs.length) := by unfold rowsD; simp [bLen]
theorem check_changes_ok {n : Nat} {cs : List (List Int)} (h : Chg n cs) : m_check_changes [rowsD cs] = .ok .non := by
  obtain ⟨c0, hc0, hl0⟩ := h.first
  have i0 := ix0_rows hc0
  have lr := len_rows cs
  have h1 : (1 : Int) ≤ cs.length := by have := h.l1; omega
  have h2 : (cs.length : Int) ≤ 12 := by have := h.l2; omega
  have n1 : (1 : Int) ≤ n := by have := h.n1; omega
  have n2 : (n : Int) ≤ 10 := by have := h.n2; omega
  unfold m_check_changes b_check_changes
  have t1 : dIsi "tuple" (dVar 0) [.va (rowsD cs), .un, .un] = .ok (.bl true, [.va (rowsD cs), .un, .un]) := rfl
  rw [show enter 3 [rowsD cs] = [.va (rowsD cs), .un, .un] from rfl, bSeq, sIf_f (e' := [.va (rowsD cs), .un, .un]) (by simp [dTOr, dTNot, dTr, t1, truth, dTb, dChain, dLe, dCmpI, dC, dCall, dCons, dNil, dVar, lr, h1, h2])]
  have key := forL_nx (mt := gSet 1) (mb := bSeq (sIf (dTOr (dTNot (dTr (dIsi "tuple" (dVar 1)))) (dTOr (dTNot (dTb (dChain dLe dLe (dC (.int 1)) (dCall bLen (dCons (dVar 1) (dNil))) (dC (.int 10))))) (dTb (dBin dNe (dCall bLen (dCons (dVar 1) (dNil))) (dCall bLen (dCons (dBin dIx (dVar 0) (dC (.int 0))) (dNil))))))) (sRaise 0 (dC (.str "changes"))) (bNil))
  (sIf (dTNot (dTr (dCall bAll (dCons (dLc (dItems (dVar 1)) (gSet 2) (dYes) (dCall m_is_between (dCons (dVar 2) (dCons (dNeg (dC (.int 1000000000000))) (dCons (dC (.int 1000000000000)) (dNil))))) [2]) (dNil))))) (sRaise 0 (dC (.str "changes"))) (bNil)))
    (fun e => ∃ y, e = [.va (rowsD cs), y, .un]) (cs.map intsD) [.va (rowsD cs), .un, .un] (by
      intro d hd e he
      obtain ⟨c, hc, rfl⟩ := List.mem_map.mp hd
      obtain ⟨y, rfl⟩ := he
      have hcl := (h.row c hc).1
      refine ⟨[.va (rowsD cs), .va (intsD c), .un], [.va (rowsD cs), .va (intsD c), .un], rfl, ?_, _, rfl⟩
      have li := len_ints c
      have l0 := len_ints c0
      have t2 : dIsi "tuple" (dVar 1) [.va (rowsD cs), .va (intsD c), .un] = .ok (.bl true, [.va (rowsD cs), .va (intsD c), .un]) := rfl
      rw [bSeq, sIf_f (e' := [.va (rowsD cs), .va (intsD c), .un]) (by simp [dTOr, dTNot, dTr, t2, truth, dTb, dChain, dLe, dCmpI, dC, dCall, dCons, dNil, dVar, li, l0, i0, hcl, hl0, n1, n2, dBin, dNe_int])]
      have ba := btw_all (lo := dNeg (dC (.int 1000000000000))) (hi := dC (.int 1000000000000)) (l := -1000000000000) (h := 1000000000000) (C := rowsD cs) (row := c) (fun _ => rfl) (fun _ => rfl) (h.row c hc).2 (by have := h.n2; omega)
      rw [bNil, bnd_ok]
      simp only []
      rw [sIf_f (e' := [.va (rowsD cs), .va (intsD c), .un]) (by unfold dTNot; rw [ba]; rfl)]
      rfl) ⟨_, rfl⟩
  obtain ⟨e', k1, k2⟩ := key
  have it : dItems (dVar 0) [.va (rowsD cs), .un, .un] = .ok (cs.map intsD, [.va (rowsD cs), .un, .un]) := rfl
  rw [bNil, bnd_ok]
  simp only []
  rw [sFor, it, bnd_ok]
  simp only []
  rw [k1]
  rfl
theorem check_mark_ok {n : Nat} {cs : List (List Int)} {m : List Int} (h : Chg n cs) (hm : Mrk n m) : m_check_mark [rowsD cs, intsD m] = .ok .non := by
  obtain ⟨c0, hc0, hl0⟩ := h.first
  have i0 := ix0_rows hc0
  have li := len_ints m
  have l0 := len_ints c0
  unfold m_check_mark b_check_mark
  have t2 : dIsi "tuple" (dVar 1) [.va (rowsD cs), .va (intsD m), .un] = .ok (.bl true, [.va (rowsD cs), .va (intsD m), .un]) := rfl
  rw [show enter 3 [rowsD cs, intsD m] = [.va (rowsD cs), .va (intsD m), .un] from rfl, bSeq, sIf_f (e' := [.va (rowsD cs), .va (intsD m), .un]) (by simp [dTOr, dTNot, dTr, t2, truth, dTb, dC, dCall, dCons, dNil, dVar, li, l0, i0, hm.len, hl0, dBin, dNe_int])]
  have ba := btw_all (lo := dC (.int 0)) (hi := dC (.int 1000000000000)) (l := 0) (h := 1000000000000) (C := rowsD cs) (row := m) (fun _ => rfl) (fun _ => rfl) hm.rng (by have := h.n2; have := hm.len; omega)
  rw [bNil, bnd_ok]
  simp only []
  rw [sIf_f (e' := [.va (rowsD cs), .va (intsD m), .un]) (by unfold dTNot; rw [ba]; rfl)]
  rfl
theorem check_second_ok {n : Nat} {cs : List (List Int)} {m : List Int} (h : Chg n cs) (hm : Mrk n m) : m_check_second [rowsD cs, intsD m] = .ok .non := by
  have c := check_mark_ok h hm
  unfold m_check_second b_check_second
  simp [enter, sReraise, sDrop, dCall, dCons, dNil, dVar, c, fin]
/-! ### tests over the rows -/
theorem any_filter (ds : List D) (P : D → Bool) (f : D → D) : (!((ds.filter P).map f).isEmpty) = ds.any P := by
  induction ds with
  | nil => rfl
  | cons d r ih =>
    rw [List.filter_cons, List.any_cons]
    cases hp : P d with
    | true => simp [hp]
    | false => simp only [Bool.false_eq_true, if_false, ih, Bool.false_or]
def dotD (ws : List Int) : D → Int
  | .tup ds => dot ws ((intsOf ds).getD [])
  | _ => 0
theorem dotD_ints (ws c : List Int) : dotD ws (intsD c) = dot ws c := by
  unfold dotD intsD
  simp only [intsOf_map, Option.getD_some]
theorem seq_ints (c : List Int) : seqD (intsD c) = some (c.map D.int) := rfl
theorem ne_non : dNe (.lst [.non]) (.lst [.non]) = .ok (.bl false) := by simp [dNe, D.ok, D.lay, D.lays, D.dep, D.deps, D.eqv, D.eqvs]
theorem seq0 {ms : Sv} {env e' : En} {r : Sv} (h : ms env = .ok (.nx, e')) : bSeq ms r env = r e' := stp h
theorem w_form : wordOf 2 (.str "form") = .ok (.str "paper form") := rfl
theorem w_move : wordOf 2 (.str "move") = .ok (.str "paper move") := rfl
theorem w_same : wordOf 2 (.str "same") = .ok (.str "paper same") := rfl
theorem filter_len (cs : List (List Int)) (P : D → Bool) (f : D → D) (h : cs.length ≤ 1000) : (((cs.map intsD).filter P).map f).length ≤ 1000 := by
  rw [List.length_map]
  refine Nat.le_trans (List.length_filter_le _ _) ?_
  rw [List.length_map]; exact h
/-- what accept_apart is to say -/
def vApart (cs : List (List Int)) (n : Nat) (one other : List Int) (own : D) : Option Str := match isInts n own with
  | none => some "paper form"
  | some ws => if cs.any (fun c => !decide (dot ws c = 0)) = true then some "paper move" else if dot ws one = dot ws other then some "paper same" else none
def saidD : Option Str → D
  | some x => .str x
  | none => .lst [.non]
theorem apart_heard {n : Nat} {cs : List (List Int)} {one other : List Int} {own : D} (h : Chg n cs) (h1 : Mrk n one) (h2 : Mrk n other) (ho : Own own) :
    m__law_heard [.fn 1, .lst [rowsD cs, intsD one, intsD other, own]] = .ok (saidD (vApart cs n one other own)) := by
  obtain ⟨c0, hc0, hl0⟩ := h.first
  have i0 := ix0_rows hc0
  have l0 := len_ints c0
  have k1 := check_changes_ok h
  have k2 := check_mark_ok h h1
  have k3 := check_second_ok h h2
  have ii := is_integers_ok ho n
  have hn := h.n2
  rw [heard4 1 m_accept_apart _ _ _ _ rfl]
  unfold m_accept_apart b_accept_apart vApart
  rw [show enter 5 [rowsD cs, intsD one, intsD other, own] = [.va (rowsD cs), .va (intsD one), .va (intsD other), .va own, .un] from rfl]
  rw [stp (e' := [.va (rowsD cs), .va (intsD one), .va (intsD other), .va own, .un]) (by simp [sDrop, dCall, dCons, dNil, dVar, k1])]
  rw [stp (e' := [.va (rowsD cs), .va (intsD one), .va (intsD other), .va own, .un]) (by simp [sDrop, dCall, dCons, dNil, dVar, k2])]
  rw [stp (e' := [.va (rowsD cs), .va (intsD one), .va (intsD other), .va own, .un]) (by simp [sDrop, dCall, dCons, dNil, dVar, k3])]
  cases e : isInts n own with
  | none =>
    rw [e] at ii
    simp [bSeq, sIf, dTNot, dTr, truth, dCall, dCons, dNil, dVar, dBin, dC, i0, l0, hl0, ii, sRaise, fin, w_form, saidD]
  | some ws =>
    rw [e] at ii
    obtain ⟨rfl, hws⟩ := isInts_some e
    have sw := ho.small e
    have w : ∀ c, c.length ≤ 1000 → SmallB 60 c → m_weighed [intsD ws, intsD c] = .ok (.int (dot ws c)) := fun c _ hs => weighed_ok (seq_ints ws) (seq_ints c) sw hs (by decide) (by omega)
    have w1 := w one (by have := h1.len; omega) h1.small
    have w2 := w other (by have := h2.len; omega) h2.small
    rw [stp (e' := [.va (rowsD cs), .va (intsD one), .va (intsD other), .va (intsD ws), .un]) (by simp [sIf, bNil, dTNot, dTr, truth, dCall, dCons, dNil, dVar, dBin, dC, i0, l0, hl0, ii])]
    have t1 : ∀ c, c ∈ cs → dCall m_weighed (dCons (dVar 3) (dCons (dVar 4) (dNil))) [.va (rowsD cs), .va (intsD one), .va (intsD other), .va (intsD ws), .va (intsD c)] = .ok (.int (dot ws c), [.va (rowsD cs), .va (intsD one), .va (intsD other), .va (intsD ws), .va (intsD c)]) := fun c hc => dCall2 rfl rfl (w c (by have := (h.row c hc).1; omega) (h.small hc))
    have t2 : ∀ c, c ∈ cs → dTb (dBin dNe (dCall m_weighed (dCons (dVar 3) (dCons (dVar 4) (dNil)))) (dC (.int 0))) [.va (rowsD cs), .va (intsD one), .va (intsD other), .va (intsD ws), .va (intsD c)] = .ok (!decide (dotD ws (intsD c) = 0), [.va (rowsD cs), .va (intsD one), .va (intsD other), .va (intsD ws), .va (intsD c)]) := fun c hc => by
      rw [dotD_ints]
      exact dTb_ok (dBin_ok (t1 c hc) rfl (dNe_int _ _))
    have lc := dTr_lst (dLc_ok2 (env := [.va (rowsD cs), .va (intsD one), .va (intsD other), .va (intsD ws), .un]) (v := 4) (mi := dItems (dVar 0)) (ds := cs.map intsD) (dItems_tup rfl) rfl rfl
      (lcL_fmap (mt := gSet 4) (tt := dTb (dBin dNe (dCall m_weighed (dCons (dVar 3) (dCons (dVar 4) (dNil)))) (dC (.int 0)))) (te := dC (.int 1)) (P := fun d => !decide (dotD ws d = 0)) (f := fun _ => .int 1) (cs.map intsD) fun d hd => by
        obtain ⟨c, hc, rfl⟩ := List.mem_map.mp hd
        exact ⟨[.va (rowsD cs), .va (intsD one), .va (intsD other), .va (intsD ws), .va (intsD c)], [.va (rowsD cs), .va (intsD one), .va (intsD other), .va (intsD ws), .va (intsD c)], [.va (rowsD cs), .va (intsD one), .va (intsD other), .va (intsD ws), .va (intsD c)], rfl, t2 c hc, rfl, fun _ => ⟨rfl, rfl⟩⟩) (by
        rw [List.length_map]
        refine Nat.le_trans (List.length_filter_le _ _) ?_
        rw [List.length_map]; have := h.l2; omega))
    rw [any_filter, List.any_map, show ((fun d => !decide (dotD ws d = 0)) ∘ intsD) = fun c => !decide (dot ws c = 0) from funext fun c => by rw [Function.comp, dotD_ints]] at lc
    dsimp only
    generalize (cs.any fun c => !decide (dot ws c = 0)) = ha at lc ⊢
    cases ha with
    | true =>
      rw [bSeq, sIf_t lc]
      simp [sRaise, dC, fin, w_move, saidD]
    | false =>
      rw [stp (e' := [.va (rowsD cs), .va (intsD one), .va (intsD other), .va (intsD ws), .un]) (by rw [sIf_f lc]; rfl)]
      by_cases hs : dot ws one = dot ws other
      · simp [sIf, dTb, dBin, dCall, dCons, dNil, dVar, w1, w2, dEq_int, hs, sRaise, dC, fin, saidD, w_same]
      · simp [sIf, dTb, dBin, dCall, dCons, dNil, dVar, w1, w2, dEq_int, hs, bNil, fin, saidD]
theorem apart_due {n : Nat} {cs : List (List Int)} {one other : List Int} {own : D} (h : Chg n cs) (h1 : Mrk n one) (h2 : Mrk n other) (ho : Own own) :
    m__law_apart_due [rowsD cs, intsD one, intsD other, own] = .ok (saidD (vApart cs n one other own)) := by
  have l0 := len_ints one
  have ii := law_row_ok ho n
  have hn := h.n2
  unfold m__law_apart_due b__law_apart_due vApart
  rw [show enter 5 [rowsD cs, intsD one, intsD other, own] = [.va (rowsD cs), .va (intsD one), .va (intsD other), .va own, .un] from rfl]
  cases e : isInts n own with
  | none =>
    rw [e] at ii
    simp [bSeq, sIf, dTNot, dTr, truth, dCall, dCons, dNil, dVar, dC, l0, h1.len, ii, sRet, fin, saidD]
  | some ws =>
    rw [e] at ii
    obtain ⟨rfl, hws⟩ := isInts_some e
    have sw := ho.small e
    have w : ∀ c, c.length = n → SmallB 60 c → m__law_sum [intsD ws, intsD c] = .ok (.int (dot ws c)) := fun c hc hs => sum_ok (seq_ints ws) (seq_ints c) sw hs (by decide) (by omega) (by omega)
    have w1 := w one h1.len h1.small
    have w2 := w other h2.len h2.small
    rw [stp (e' := [.va (rowsD cs), .va (intsD one), .va (intsD other), .va (intsD ws), .un]) (by simp [sIf, bNil, dTNot, dTr, truth, dCall, dCons, dNil, dVar, l0, h1.len, ii])]
    have t1 : ∀ c, c ∈ cs → dCall m__law_sum (dCons (dVar 3) (dCons (dVar 4) (dNil))) [.va (rowsD cs), .va (intsD one), .va (intsD other), .va (intsD ws), .va (intsD c)] = .ok (.int (dot ws c), [.va (rowsD cs), .va (intsD one), .va (intsD other), .va (intsD ws), .va (intsD c)]) := fun c hc => dCall2 rfl rfl (w c (h.row c hc).1 (h.small hc))
    have t2 : ∀ c, c ∈ cs → dTb (dBin dNe (dCall m__law_sum (dCons (dVar 3) (dCons (dVar 4) (dNil)))) (dC (.int 0))) [.va (rowsD cs), .va (intsD one), .va (intsD other), .va (intsD ws), .va (intsD c)] = .ok (!decide (dotD ws (intsD c) = 0), [.va (rowsD cs), .va (intsD one), .va (intsD other), .va (intsD ws), .va (intsD c)]) := fun c hc => by
      rw [dotD_ints]
      exact dTb_ok (dBin_ok (t1 c hc) rfl (dNe_int _ _))
    have lf : lcL (gSet 4) (dTb (dBin dNe (dCall m__law_sum (dCons (dVar 3) (dCons (dVar 4) (dNil)))) (dC (.int 0)))) (dVar 4) [4] (cs.map intsD) [.va (rowsD cs), .va (intsD one), .va (intsD other), .va (intsD ws), .un] = .ok (((cs.map intsD).filter (fun d => !decide (dotD ws d = 0))).map (fun d => d), [.va (rowsD cs), .va (intsD one), .va (intsD other), .va (intsD ws), .un]) :=
      lcL_fmap (P := fun d => !decide (dotD ws d = 0)) (f := fun d => d) (cs.map intsD) fun d hd => by
        obtain ⟨c, hc, rfl⟩ := List.mem_map.mp hd
        exact ⟨[.va (rowsD cs), .va (intsD one), .va (intsD other), .va (intsD ws), .va (intsD c)], [.va (rowsD cs), .va (intsD one), .va (intsD other), .va (intsD ws), .va (intsD c)], [.va (rowsD cs), .va (intsD one), .va (intsD other), .va (intsD ws), .va (intsD c)], rfl, t2 c hc, rfl, fun _ => ⟨rfl, rfl⟩⟩
    have lc := dTr_lst (dLc_ok2 (mi := dItems (dVar 0)) (env := [.va (rowsD cs), .va (intsD one), .va (intsD other), .va (intsD ws), .un]) (s := .un) (v := 4) (dItems_tup rfl) rfl rfl lf (filter_len cs _ _ (by have := h.l2; omega)))
    rw [any_filter, List.any_map, show ((fun d => !decide (dotD ws d = 0)) ∘ intsD) = fun c => !decide (dot ws c = 0) from funext fun c => by rw [Function.comp, dotD_ints]] at lc
    dsimp only
    generalize (cs.any fun c => !decide (dot ws c = 0)) = ha at lc ⊢
    cases ha with
    | true =>
      rw [bSeq, sIf_t lc]
      simp [sRet, dC, fin, saidD]
    | false =>
      rw [stp (e' := [.va (rowsD cs), .va (intsD one), .va (intsD other), .va (intsD ws), .un]) (by rw [sIf_f lc]; rfl)]
      have cmp := dIf_ok (m1 := dC (.str "paper same")) (m2 := dLst (dCons (dC .non) (dNil))) (dTb_ok (dBin_ok (m1 := dCall m__law_sum (dCons (dVar 3) (dCons (dVar 1) (dNil)))) (m2 := dCall m__law_sum (dCons (dVar 3) (dCons (dVar 2) (dNil)))) (env := [.va (rowsD cs), .va (intsD one), .va (intsD other), .va (intsD ws), .un]) (dCall2 rfl rfl w1) (dCall2 rfl rfl w2) (dEq_int _ _)))
      by_cases hs : dot ws one = dot ws other
      · rw [if_pos (decide_eq_true hs)] at cmp
        rw [sRet_ok (cmp.trans rfl)]
        simp only [fin, if_neg Bool.false_ne_true, hs, if_true]
        rfl
      · rw [if_neg (by rw [decide_eq_true_eq]; exact hs)] at cmp
        rw [sRet_ok (cmp.trans (dLst_ok (dCons_ok rfl rfl) (by decide)))]
        simp only [fin, if_neg Bool.false_ne_true, hs, if_false]
        rfl
theorem ne_said {x : Option Str} (h : ∀ s, x = some s → s.cps.all (· < 0x110000) = true) : dNe (saidD x) (saidD x) = .ok (.bl false) := by
  cases x with
  | none => exact ne_non
  | some s => exact ne_lit (h s rfl)
theorem apart_ne {n : Nat} {cs : List (List Int)} {one other : List Int} {own : D} : dNe (saidD (vApart cs n one other own)) (saidD (vApart cs n one other own)) = .ok (.bl false) := by
  refine ne_said fun s hs => ?_
  unfold vApart at hs
  split at hs
  · cases hs; decide +kernel
  · split at hs
    · cases hs; decide +kernel
    · split at hs <;> cases hs
      decide +kernel
end LW
end Dn

/-! P10c -/
set_option Elab.async false
set_option linter.all false
set_option maxRecDepth 100000
set_option maxHeartbeats 2000000
namespace Dn
namespace LW
open PySem
/-! ### more steps -/
theorem dTOr_t {t1 t2 : Tv} {env e1 : En} (h : t1 env = .ok (true, e1)) : dTOr t1 t2 env = .ok (true, e1) := by unfold dTOr; rw [h]; rfl
theorem dTOr_f {t1 t2 : Tv} {env e1 : En} (h : t1 env = .ok (false, e1)) : dTOr t1 t2 env = t2 e1 := by unfold dTOr; rw [h]; rfl
theorem dTAnd_t {t1 t2 : Tv} {env e1 : En} (h : t1 env = .ok (true, e1)) : dTAnd t1 t2 env = t2 e1 := by unfold dTAnd; rw [h]; rfl
theorem dTAnd_f {t1 t2 : Tv} {env e1 : En} (h : t1 env = .ok (false, e1)) : dTAnd t1 t2 env = .ok (false, e1) := by unfold dTAnd; rw [h]; rfl
theorem sDrop_ok {m : Ev} {env e1 : En} {d : D} (h : m env = .ok (d, e1)) : sDrop m env = .ok (.nx, e1) := by unfold sDrop; rw [h]; rfl
theorem bSeq_err {s r : Sv} {env : En} {x : Exn} (h : s env = .error x) : bSeq s r env = .error x := by unfold bSeq; rw [h]; rfl
theorem bSeq_rt {s r : Sv} {env e' : En} {d : D} (h : s env = .ok (.rt d, e')) : bSeq s r env = .ok (.rt d, e') := by unfold bSeq; rw [h]; rfl
theorem dCall3 {f : List D → M D} {m1 m2 m3 : Ev} {env e1 e2 e3 : En} {a b c r : D} (h1 : m1 env = .ok (a, e1)) (h2 : m2 e1 = .ok (b, e2)) (h3 : m3 e2 = .ok (c, e3)) (hf : f [a, b, c] = .ok r) : dCall f (dCons m1 (dCons m2 (dCons m3 dNil))) env = .ok (r, e3) :=
  dCallN (dCons_ok h1 (dCons_ok h2 (dCons_ok h3 rfl))) hf
theorem dGt_int (i j : Int) : dGt (.int i) (.int j) = .ok (.bl (decide (j < i))) := rfl
theorem dGe_int (i j : Int) : dGe (.int i) (.int j) = .ok (.bl (decide (j ≤ i))) := rfl
theorem dLt_int (i j : Int) : dLt (.int i) (.int j) = .ok (.bl (decide (i < j))) := rfl
theorem dMul_int {i j : Int} (h : mulOk i j = true) : dMul (.int i) (.int j) = .ok (.int (i * j)) := by simp [dMul, h]
theorem dChain_int {i j k : Int} {m1 m2 m3 : Ev} {env : En} (h1 : m1 env = .ok (.int i, env)) (h2 : m2 env = .ok (.int j, env)) (h3 : m3 env = .ok (.int k, env)) : dChain dLe dLt m1 m2 m3 env = .ok (.bl (decide (i ≤ j) && decide (j < k)), env) := by
  unfold dChain
  rw [h1, bnd_ok, h2, bnd_ok]
  simp only []
  by_cases z : i ≤ j
  · simp [dLe, dLt, dCmpI, z, h3]
  · simp [dLe, dLt, dCmpI, z]
def intOf : D → Option Int
  | .int i => some i
  | _ => none
theorem intOf_some {d : D} {i : Int} (h : intOf d = some i) : d = .int i := by cases d <;> cases h; rfl
theorem isI_intOf (d : D) : isI d = (intOf d).isSome := by cases d <;> rfl
structure AskI (d : D) : Prop where
  ty : d.ty ≠ none
  sm : ∀ i, d = .int i → i.natAbs < 2 ^ 120
theorem leastOf_ne : ∀ {ss : List Int}, ss ≠ [] → ∃ m, leastOf ss = some m
  | [], h => absurd rfl h
  | s :: r, _ => by
    unfold leastOf
    cases leastOf r <;> exact ⟨_, rfl⟩
theorem min_ints {ws : List Int} (h : ws ≠ []) : ∃ m, bMin [intsD ws] = .ok (.int m) ∧ decide (m < 0) = !(ws.all fun w => decide (0 ≤ w)) := by
  obtain ⟨m, hm⟩ := leastOf_ne h
  obtain ⟨h1, h2⟩ := leastOf_le hm
  refine ⟨m, by unfold intsD; simp only [bMin, intsOf_map, Option.bind_some, hm], ?_⟩
  by_cases z : m < 0
  · have : (ws.all fun w => decide (0 ≤ w)) = false := by
      rw [List.all_eq_false]
      exact ⟨m, h1, by simp; omega⟩
    rw [this]; simp [z]
  · have : (ws.all fun w => decide (0 ≤ w)) = true := by
      rw [List.all_eq_true]
      intro w hw
      have := h2 w hw
      simp; omega
    rw [this]; simp; omega
theorem isWs_some {n : Nat} {d : D} {ws : List Int} (h : isWs n d = some ws) : isInts n d = some ws ∧ (ws.all fun w => decide (0 ≤ w)) = true := by
  unfold isWs at h
  cases e : isInts n d with
  | none => rw [e] at h; cases h
  | some w =>
    rw [e, Option.bind_some] at h
    split at h
    · rename_i q
      cases h
      exact ⟨rfl, q⟩
    · cases h
theorem w_bound : wordOf 2 (.str "bound") = .ok (.str "paper bound") := rfl
theorem w_place : wordOf 2 (.str "place") = .ok (.str "paper place") := rfl
/-- what accept_bound is to say -/
def vBound (cs : List (List Int)) (n : Nat) (m : List Int) (p : Nat) (bound own : D) : Option Str := match intOf bound, isWs n own with
  | some b, some ws => if cs.any (fun c => decide (0 < dot ws c)) = true then some "paper move" else if (ws[p]?).getD 0 * (b + 1) ≤ dot ws m then some "paper bound" else none
  | _, _ => some "paper form"
theorem bound_heard {n : Nat} {cs : List (List Int)} {m : List Int} {p : Nat} {bound own : D} (h : Chg n cs) (hm : Mrk n m) (hp : p < n) (hb : AskI bound) (ho : Own own) :
    m__law_heard [.fn 2, .lst [rowsD cs, intsD m, .int p, bound, own]] = .ok (saidD (vBound cs n m p bound own)) := by
  have lm := len_ints m
  rw [hm.len] at lm
  have k1 := check_changes_ok h
  have k2 := check_mark_ok h hm
  have ii := is_weights_ok ho n
  have ib := is_integer_ok bound hb.ty
  rw [isI_intOf] at ib
  have hn := h.n2
  rw [heard5 2 m_accept_bound _ _ _ _ _ rfl]
  unfold m_accept_bound b_accept_bound
  rw [show enter 6 [rowsD cs, intsD m, .int p, bound, own] = [.va (rowsD cs), .va (intsD m), .va (.int p), .va bound, .va own, .un] from rfl]
  rw [stp (sDrop_ok (dCall1 rfl k1)), stp (sDrop_ok (dCall2 rfl rfl k2))]
  rw [stp (e' := [.va (rowsD cs), .va (intsD m), .va (.int p), .va bound, .va own, .un]) (by
    rw [sIf_f (e' := [.va (rowsD cs), .va (intsD m), .va (.int p), .va bound, .va own, .un])]
    · rfl
    · rw [dTOr_f (dTNot_ok (dTr_bl (dCall1 rfl (is_integer_int _)))), dTNot_ok (dTb_ok (dChain_int (i := 0) (j := p) (k := n) rfl rfl (dCall1 rfl lm)))]
      have : (decide ((0 : Int) ≤ p) && decide ((p : Int) < n)) = true := by simp; omega
      rw [this]; rfl)]
  have bad : (intOf bound = none ∨ isWs n own = none) → vBound cs n m p bound own = some ("paper form" : Str) := by
    rintro (e | e)
    · unfold vBound; rw [e]
    · unfold vBound; rw [e]; cases intOf bound <;> rfl
  cases eb : intOf bound with
  | none =>
    rw [eb] at ib
    rw [bSeq_err (by rw [sIf_t (dTOr_t (dTNot_ok (dTr_bl (dCall1 rfl ib))))]; exact sRaise_ok rfl), bad (.inl eb)]
    exact w_form
  | some b =>
    have hbb := intOf_some eb
    subst hbb
    cases e : isWs n own with
    | none =>
      rw [e] at ii
      rw [bSeq_err (by rw [sIf_t (by rw [dTOr_f (dTNot_ok (dTr_bl (dCall1 rfl (is_integer_int _))))]; exact dTNot_ok (dTr_bl (dCall2 rfl (dCall1 rfl lm) ii)))]; exact sRaise_ok rfl), bad (.inr e)]
      exact w_form
    | some ws =>
      rw [e] at ii
      have hv : vBound cs n m p (.int b) own = if cs.any (fun c => decide (0 < dot ws c)) = true then some ("paper move" : Str) else if (ws[p]?).getD 0 * (b + 1) ≤ dot ws m then some ("paper bound" : Str) else none := by
        unfold vBound; rw [eb, e]
      rw [hv]
      obtain ⟨e1, _⟩ := isWs_some e
      obtain ⟨rfl, hws⟩ := isInts_some e1
      have sw := ho.small e1
      have w : ∀ c, c.length ≤ 1000 → SmallB 60 c → m_weighed [intsD ws, intsD c] = .ok (.int (dot ws c)) := fun c _ hs => weighed_ok (seq_ints ws) (seq_ints c) sw hs (by decide) (by omega)
      have w1 := w m (by have := hm.len; omega) hm.small
      have hpw : p < ws.length := by omega
      have ip : dIx (intsD ws) (.int p) = .ok (.int ((ws[p]?).getD 0)) := ix_seq (seq_ints ws) hpw
      have hmul : mulOk ((ws[p]?).getD 0) (b + 1) = true := by
        rw [List.getElem?_eq_getElem hpw]
        exact mulOk_of (m := 120) (n := 121) (sw _ (List.getElem_mem _)) (by have := hb.sm b rfl; omega) (by decide)
      rw [stp (e' := [.va (rowsD cs), .va (intsD m), .va (.int p), .va (.int b), .va (intsD ws), .un]) (by
        rw [sIf_f (by rw [dTOr_f (dTNot_ok (dTr_bl (dCall1 rfl (is_integer_int _))))]; exact dTNot_ok (dTr_bl (dCall2 rfl (dCall1 rfl lm) ii)))]
        rfl)]
      have t2 : ∀ c, c ∈ cs → dTb (dBin dGt (dCall m_weighed (dCons (dVar 4) (dCons (dVar 5) (dNil)))) (dC (.int 0))) [.va (rowsD cs), .va (intsD m), .va (.int p), .va (.int b), .va (intsD ws), .va (intsD c)] = .ok (decide (0 < dotD ws (intsD c)), [.va (rowsD cs), .va (intsD m), .va (.int p), .va (.int b), .va (intsD ws), .va (intsD c)]) := fun c hc => by
        rw [dotD_ints]
        exact dTb_ok (dBin_ok (dCall2 rfl rfl (w c (by have := (h.row c hc).1; omega) (h.small hc))) rfl (dGt_int _ _))
      have lf : lcL (gSet 5) (dTb (dBin dGt (dCall m_weighed (dCons (dVar 4) (dCons (dVar 5) (dNil)))) (dC (.int 0)))) (dC (.int 1)) [5] (cs.map intsD) [.va (rowsD cs), .va (intsD m), .va (.int p), .va (.int b), .va (intsD ws), .un] = .ok (((cs.map intsD).filter (fun d => decide (0 < dotD ws d))).map (fun _ => .int 1), [.va (rowsD cs), .va (intsD m), .va (.int p), .va (.int b), .va (intsD ws), .un]) :=
        lcL_fmap (P := fun d => decide (0 < dotD ws d)) (f := fun _ => .int 1) (cs.map intsD) fun d hd => by
          obtain ⟨c, hc, rfl⟩ := List.mem_map.mp hd
          exact ⟨_, _, _, rfl, t2 c hc, rfl, fun _ => ⟨rfl, rfl⟩⟩
      have lc := dTr_lst (dLc_ok2 (mi := dItems (dVar 0)) (env := [.va (rowsD cs), .va (intsD m), .va (.int p), .va (.int b), .va (intsD ws), .un]) (s := .un) (v := 5) (dItems_tup rfl) rfl rfl lf (filter_len cs _ _ (by have := h.l2; omega)))
      rw [any_filter, List.any_map, show ((fun d => decide (0 < dotD ws d)) ∘ intsD) = fun c => decide (0 < dot ws c) from funext fun c => by rw [Function.comp, dotD_ints]] at lc
      generalize (cs.any fun c => decide (0 < dot ws c)) = ha at lc ⊢
      cases ha with
      | true =>
        rw [bSeq_err (by rw [sIf_t lc]; exact sRaise_ok rfl)]
        exact w_move
      | false =>
        rw [stp (e' := [.va (rowsD cs), .va (intsD m), .va (.int p), .va (.int b), .va (intsD ws), .un]) (by rw [sIf_f lc]; rfl)]
        have cmp := dTb_ok (dBin_ok (m1 := dCall m_weighed (dCons (dVar 4) (dCons (dVar 1) (dNil)))) (m2 := dBin dMul (dBin dIx (dVar 4) (dVar 2)) (dBin dAdd (dVar 3) (dC (.int 1)))) (env := [.va (rowsD cs), .va (intsD m), .va (.int p), .va (.int b), .va (intsD ws), .un]) (dCall2 rfl rfl w1) (dBin_ok (dBin_ok rfl rfl ip) (dBin_ok rfl rfl (show dAdd (.int b) (.int 1) = .ok (.int (b + 1)) from rfl)) (dMul_int hmul)) (dGe_int _ _))
        by_cases hs : (ws[p]?).getD 0 * (b + 1) ≤ dot ws m
        · rw [decide_eq_true hs] at cmp
          rw [sIf_t cmp, sRaise_ok (d := .str "bound") rfl, if_neg Bool.false_ne_true, if_pos hs]
          exact w_bound
        · rw [decide_eq_false hs] at cmp
          rw [sIf_f cmp, if_neg Bool.false_ne_true, if_neg hs]
          rfl
theorem bound_due {n : Nat} {cs : List (List Int)} {m : List Int} {p : Nat} {bound own : D} (h : Chg n cs) (hm : Mrk n m) (hp : p < n) (hb : AskI bound) (ho : Own own) :
    m__law_bound_due [rowsD cs, intsD m, .int p, bound, own] = .ok (saidD (vBound cs n m p bound own)) := by
  have lm := len_ints m
  rw [hm.len] at lm
  have ii := law_row_ok ho n
  have ib := whole_ok bound hb.ty
  rw [isI_intOf] at ib
  have hn := h.n2
  unfold m__law_bound_due b__law_bound_due
  rw [show enter 6 [rowsD cs, intsD m, .int p, bound, own] = [.va (rowsD cs), .va (intsD m), .va (.int p), .va bound, .va own, .un] from rfl]
  have bad : (intOf bound = none ∨ isWs n own = none) → vBound cs n m p bound own = some ("paper form" : Str) := by
    rintro (e | e)
    · unfold vBound; rw [e]
    · unfold vBound; rw [e]; cases intOf bound <;> rfl
  cases eb : intOf bound with
  | none =>
    rw [eb] at ib
    rw [bSeq_rt (by rw [sIf_t (dTOr_t (dTNot_ok (dTr_bl (dCall1 rfl ib))))]; exact sRet_ok rfl), bad (.inl eb)]
    rfl
  | some b =>
    have hbb := intOf_some eb
    subst hbb
    cases e1 : isInts n own with
    | none =>
      rw [e1] at ii
      rw [bSeq_rt (by rw [sIf_t (by rw [dTOr_f (dTNot_ok (dTr_bl (dCall1 rfl (whole_int _))))]; exact dTOr_t (dTNot_ok (dTr_bl (dCall2 rfl (dCall1 rfl lm) ii))))]; exact sRet_ok rfl), bad (.inr (by unfold isWs; rw [e1]; rfl))]
      rfl
    | some ws =>
      rw [e1] at ii
      obtain ⟨rfl, hws⟩ := isInts_some e1
      have hne : ws ≠ [] := by intro z; rw [z] at hws; simp at hws; have := h.n1; omega
      obtain ⟨mm, hmm, hmm2⟩ := min_ints hne
      have tm : dTb (dBin dLt (dCall bMin (dCons (dVar 4) (dNil))) (dC (.int 0))) [.va (rowsD cs), .va (intsD m), .va (.int p), .va (.int b), .va (intsD ws), .un] = .ok (decide (mm < 0), [.va (rowsD cs), .va (intsD m), .va (.int p), .va (.int b), .va (intsD ws), .un]) := dTb_ok (dBin_ok (dCall1 rfl hmm) rfl (dLt_int _ _))
      rw [hmm2] at tm
      cases ea : (ws.all fun w => decide (0 ≤ w)) with
      | false =>
        rw [ea] at tm
        rw [bSeq_rt (by rw [sIf_t (by rw [dTOr_f (dTNot_ok (dTr_bl (dCall1 rfl (whole_int _)))), dTOr_f (dTNot_ok (dTr_bl (dCall2 rfl (dCall1 rfl lm) ii)))]; exact tm)]; exact sRet_ok rfl), bad (.inr (by unfold isWs; rw [e1, Option.bind_some, ea]; rfl))]
        rfl
      | true =>
        rw [ea] at tm
        have e : isWs n (intsD ws) = some ws := by unfold isWs; rw [e1, Option.bind_some, ea]; rfl
        have hv : vBound cs n m p (.int b) (intsD ws) = if cs.any (fun c => decide (0 < dot ws c)) = true then some ("paper move" : Str) else if (ws[p]?).getD 0 * (b + 1) ≤ dot ws m then some ("paper bound" : Str) else none := by
          unfold vBound; rw [eb, e]
        rw [hv]
        have sw := ho.small e1
        have w : ∀ c, c.length = n → SmallB 60 c → m__law_sum [intsD ws, intsD c] = .ok (.int (dot ws c)) := fun c hc hs => sum_ok (seq_ints ws) (seq_ints c) sw hs (by decide) (by omega) (by omega)
        have w1 := w m hm.len hm.small
        have hpw : p < ws.length := by omega
        have ip : dIx (intsD ws) (.int p) = .ok (.int ((ws[p]?).getD 0)) := ix_seq (seq_ints ws) hpw
        have hmul : mulOk ((ws[p]?).getD 0) (b + 1) = true := by
          rw [List.getElem?_eq_getElem hpw]
          exact mulOk_of (m := 120) (n := 121) (sw _ (List.getElem_mem _)) (by have := hb.sm b rfl; omega) (by decide)
        rw [stp (e' := [.va (rowsD cs), .va (intsD m), .va (.int p), .va (.int b), .va (intsD ws), .un]) (by
          rw [sIf_f (by rw [dTOr_f (dTNot_ok (dTr_bl (dCall1 rfl (whole_int _)))), dTOr_f (dTNot_ok (dTr_bl (dCall2 rfl (dCall1 rfl lm) ii)))]; exact tm)]
          rfl)]
        have t2 : ∀ c, c ∈ cs → dTb (dBin dGt (dCall m__law_sum (dCons (dVar 4) (dCons (dVar 5) (dNil)))) (dC (.int 0))) [.va (rowsD cs), .va (intsD m), .va (.int p), .va (.int b), .va (intsD ws), .va (intsD c)] = .ok (decide (0 < dotD ws (intsD c)), [.va (rowsD cs), .va (intsD m), .va (.int p), .va (.int b), .va (intsD ws), .va (intsD c)]) := fun c hc => by
          rw [dotD_ints]
          exact dTb_ok (dBin_ok (dCall2 rfl rfl (w c (h.row c hc).1 (h.small hc))) rfl (dGt_int _ _))
        have lf : lcL (gSet 5) (dTb (dBin dGt (dCall m__law_sum (dCons (dVar 4) (dCons (dVar 5) (dNil)))) (dC (.int 0)))) (dVar 5) [5] (cs.map intsD) [.va (rowsD cs), .va (intsD m), .va (.int p), .va (.int b), .va (intsD ws), .un] = .ok (((cs.map intsD).filter (fun d => decide (0 < dotD ws d))).map (fun d => d), [.va (rowsD cs), .va (intsD m), .va (.int p), .va (.int b), .va (intsD ws), .un]) :=
          lcL_fmap (P := fun d => decide (0 < dotD ws d)) (f := fun d => d) (cs.map intsD) fun d hd => by
            obtain ⟨c, hc, rfl⟩ := List.mem_map.mp hd
            exact ⟨_, _, _, rfl, t2 c hc, rfl, fun _ => ⟨rfl, rfl⟩⟩
        have lc := dTr_lst (dLc_ok2 (mi := dItems (dVar 0)) (env := [.va (rowsD cs), .va (intsD m), .va (.int p), .va (.int b), .va (intsD ws), .un]) (s := .un) (v := 5) (dItems_tup rfl) rfl rfl lf (filter_len cs _ _ (by have := h.l2; omega)))
        rw [any_filter, List.any_map, show ((fun d => decide (0 < dotD ws d)) ∘ intsD) = fun c => decide (0 < dot ws c) from funext fun c => by rw [Function.comp, dotD_ints]] at lc
        generalize (cs.any fun c => decide (0 < dot ws c)) = ha at lc ⊢
        cases ha with
        | true =>
          rw [bSeq_rt (by rw [sIf_t lc]; exact sRet_ok rfl)]
          rfl
        | false =>
          rw [stp (e' := [.va (rowsD cs), .va (intsD m), .va (.int p), .va (.int b), .va (intsD ws), .un]) (by rw [sIf_f lc]; rfl)]
          have cmp := dIf_ok (m1 := dC (.str "paper bound")) (m2 := dLst (dCons (dC .non) (dNil))) (dTb_ok (dBin_ok (m1 := dCall m__law_sum (dCons (dVar 4) (dCons (dVar 1) (dNil)))) (m2 := dBin dMul (dBin dIx (dVar 4) (dVar 2)) (dBin dAdd (dVar 3) (dC (.int 1)))) (env := [.va (rowsD cs), .va (intsD m), .va (.int p), .va (.int b), .va (intsD ws), .un]) (dCall2 rfl rfl w1) (dBin_ok (dBin_ok rfl rfl ip) (dBin_ok rfl rfl (show dAdd (.int b) (.int 1) = .ok (.int (b + 1)) from rfl)) (dMul_int hmul)) (dGe_int _ _)))
          by_cases hs : (ws[p]?).getD 0 * (b + 1) ≤ dot ws m
          · rw [if_pos (decide_eq_true hs)] at cmp
            rw [sRet_ok (cmp.trans rfl), if_neg Bool.false_ne_true, if_pos hs]
            rfl
          · rw [if_neg (by rw [decide_eq_true_eq]; exact hs)] at cmp
            rw [sRet_ok (cmp.trans (dLst_ok (dCons_ok rfl rfl) (by decide))), if_neg Bool.false_ne_true, if_neg hs]
            rfl
theorem bound_ne {n : Nat} {cs : List (List Int)} {m : List Int} {p : Nat} {bound own : D} : dNe (saidD (vBound cs n m p bound own)) (saidD (vBound cs n m p bound own)) = .ok (.bl false) := by
  refine ne_said fun s hs => ?_
  unfold vBound at hs
  split at hs
  · split at hs
    · cases hs; decide +kernel
    · split at hs <;> cases hs
      decide +kernel
  · cases hs; decide +kernel
end LW
end Dn

/-! P10d -/
set_option Elab.async false
set_option linter.all false
set_option maxRecDepth 100000
set_option maxHeartbeats 2000000
namespace Dn
namespace LW
open PySem
/-! ### k10: counts -/
def col (cs : List (List Int)) (k : Nat) : List Int := cs.map fun c => (c[k]?).getD 0
theorem col_small {n : Nat} {cs : List (List Int)} (h : Chg n cs) {k : Nat} (hk : k < n) : SmallB 60 (col cs k) := fun x hx => by
  obtain ⟨c, hc, rfl⟩ := List.mem_map.mp hx
  have hl := (h.row c hc).1
  rw [List.getElem?_eq_getElem (by omega)]
  exact h.small hc _ (List.getElem_mem _)
theorem col_len (cs : List (List Int)) (k : Nat) : (col cs k).length = cs.length := by unfold col; rw [List.length_map]
def getC (k : Nat) : D → D
  | .tup ds => (ds[k]?).getD .non
  | _ => .non
theorem getC_ints {c : List Int} {k : Nat} (hk : k < c.length) : getC k (intsD c) = .int ((c[k]?).getD 0) := by
  unfold getC intsD
  simp [hk]
theorem col_map {n : Nat} {cs : List (List Int)} (h : Chg n cs) {k : Nat} (hk : k < n) : (cs.map intsD).map (getC k) = (col cs k).map D.int := by
  unfold col
  rw [List.map_map, List.map_map]
  apply List.map_congr_left
  intro c hc
  exact getC_ints (by rw [(h.row c hc).1]; exact hk)
def goodK (cs : List (List Int)) (one other ws : List Int) (t : Int) (k : Nat) : Bool := decide (dot ws (col cs k) = t * ((other[k]?).getD 0 - (one[k]?).getD 0))
/-- what accept_counts is to say -/
def vCounts (cs : List (List Int)) (n : Nat) (one other : List Int) (counts times : D) : Option Str := match isInts cs.length counts, intOf times with
  | some ws, some t => if t < 1 then some ("paper form" : Str) else if (List.range n).all (goodK cs one other ws t) = true then none else some ("paper place" : Str)
  | _, _ => some ("paper form" : Str)
theorem diff_mul {n : Nat} {one other : List Int} (h1 : Mrk n one) (h2 : Mrk n other) {k : Nat} (hk : k < n) {t : Int} (ht : t.natAbs < 2 ^ 120) : mulOk t ((other[k]?).getD 0 - (one[k]?).getD 0) = true := by
  have a := h1.rng ((one[k]?).getD 0) (by rw [List.getElem?_eq_getElem (by rw [h1.len]; exact hk)]; exact List.getElem_mem _)
  have b := h2.rng ((other[k]?).getD 0) (by rw [List.getElem?_eq_getElem (by rw [h2.len]; exact hk)]; exact List.getElem_mem _)
  exact mulOk_of (m := 120) (n := 60) ht (small60 (by omega) (by omega)) (by decide)
theorem cnt_loop {n : Nat} {cs : List (List Int)} {one other ws : List Int} {t : Int} (h : Chg n cs) (h1 : Mrk n one) (h2 : Mrk n other) (sw : SmallB 120 ws) (hws : ws.length = cs.length) (ht : t.natAbs < 2 ^ 120) : ∀ (ks : List Nat), (∀ k, k ∈ ks → k < n) → ∀ s5 : Sl, ∃ s5' : Sl,
    forL (gSet 5) (sIf (dTb (dBin dNe (dCall m_weighed (dCons (dVar 3) (dCons (dLc (dItems (dVar 0)) (gSet 6) (dYes) (dBin dIx (dVar 6) (dVar 5)) [6]) (dNil)))) (dBin dMul (dVar 4) (dBin dSub (dBin dIx (dVar 2) (dVar 5)) (dBin dIx (dVar 1) (dVar 5)))))) (sRaise 2 (dC (.str "place"))) (bNil)) (ks.map fun k => D.int (k : Nat))
      [.va (rowsD cs), .va (intsD one), .va (intsD other), .va (intsD ws), .va (.int t), s5, .un] = if ks.all (goodK cs one other ws t) = true then .ok (.nx, [.va (rowsD cs), .va (intsD one), .va (intsD other), .va (intsD ws), .va (.int t), s5', .un]) else .error (.raise 2 (.str "place"))
  | [], _, s5 => ⟨s5, rfl⟩
  | k :: ks, hks, s5 => by
    obtain ⟨s5', ih⟩ := cnt_loop h h1 h2 sw hws ht ks (fun x hx => hks x (List.mem_cons_of_mem _ hx)) (.va (.int k))
    refine ⟨s5', ?_⟩
    have hk := hks k List.mem_cons_self
    have i1 := ix_seq (seq_ints one) (k := k) (by rw [h1.len]; exact hk)
    have i2 := ix_seq (seq_ints other) (k := k) (by rw [h2.len]; exact hk)
    have hm := diff_mul h1 h2 hk ht
    have lc : dLc (dItems (dVar 0)) (gSet 6) (dYes) (dBin dIx (dVar 6) (dVar 5)) [6] [.va (rowsD cs), .va (intsD one), .va (intsD other), .va (intsD ws), .va (.int t), .va (.int k), .un] = .ok (.lst ((col cs k).map D.int), [.va (rowsD cs), .va (intsD one), .va (intsD other), .va (intsD ws), .va (.int t), .va (.int k), .un]) := by
      rw [← col_map h hk]
      refine dLc_ok2 (dItems_tup rfl) rfl rfl (lcL_map (f := getC k) (cs.map intsD) fun d hd => ?_) (by rw [List.length_map, List.length_map]; have := h.l2; omega)
      obtain ⟨c, hc, rfl⟩ := List.mem_map.mp hd
      have hcl : k < c.length := by rw [(h.row c hc).1]; exact hk
      rw [getC_ints hcl]
      exact ⟨[.va (rowsD cs), .va (intsD one), .va (intsD other), .va (intsD ws), .va (.int t), .va (.int k), .va (intsD c)], [.va (rowsD cs), .va (intsD one), .va (intsD other), .va (intsD ws), .va (.int t), .va (.int k), .va (intsD c)], rfl, dBin_ok rfl rfl (ix_seq (seq_ints c) hcl), rfl⟩
    have we : m_weighed [intsD ws, .lst ((col cs k).map D.int)] = .ok (.int (dot ws (col cs k))) := weighed_ok (seq_ints ws) rfl sw (col_small h hk) (by decide) (by have := h.l2; omega)
    have tt : dTb (dBin dNe (dCall m_weighed (dCons (dVar 3) (dCons (dLc (dItems (dVar 0)) (gSet 6) (dYes) (dBin dIx (dVar 6) (dVar 5)) [6]) (dNil)))) (dBin dMul (dVar 4) (dBin dSub (dBin dIx (dVar 2) (dVar 5)) (dBin dIx (dVar 1) (dVar 5))))) [.va (rowsD cs), .va (intsD one), .va (intsD other), .va (intsD ws), .va (.int t), .va (.int k), .un]
        = .ok (!goodK cs one other ws t k, [.va (rowsD cs), .va (intsD one), .va (intsD other), .va (intsD ws), .va (.int t), .va (.int k), .un]) :=
      dTb_ok (dBin_ok (dCall2 rfl lc we) (dBin_ok rfl (dBin_ok (dBin_ok rfl rfl i2) (dBin_ok rfl rfl i1) (show dSub (.int ((other[k]?).getD 0)) (.int ((one[k]?).getD 0)) = .ok (.int ((other[k]?).getD 0 - (one[k]?).getD 0)) from rfl)) (dMul_int hm)) (dNe_int _ _))
    rw [List.map_cons, forL, show gSet 5 (.int k) [.va (rowsD cs), .va (intsD one), .va (intsD other), .va (intsD ws), .va (.int t), s5, .un] = .ok [.va (rowsD cs), .va (intsD one), .va (intsD other), .va (intsD ws), .va (.int t), .va (.int k), .un] from rfl, ns_ok, bnd_ok, List.all_cons]
    cases hg : goodK cs one other ws t k with
    | true =>
      rw [hg] at tt
      rw [sIf_f tt, bNil, bnd_ok]
      simp only [Bool.true_and]
      exact ih
    | false =>
      rw [hg] at tt
      rw [sIf_t tt, sRaise_ok (d := .str "place") rfl]
      rfl
theorem counts_heard {n : Nat} {cs : List (List Int)} {one other : List Int} {counts times : D} (h : Chg n cs) (h1 : Mrk n one) (h2 : Mrk n other) (ho : Own counts) (hb : AskI times) :
    m__law_heard [.fn 0, .lst [rowsD cs, intsD one, intsD other, counts, times]] = .ok (saidD (vCounts cs n one other counts times)) := by
  have k1 := check_changes_ok h
  have k2 := check_mark_ok h h1
  have k3 := check_second_ok h h2
  have lr := len_rows cs
  have l1 := len_ints one
  rw [h1.len] at l1
  have ii := is_integers_ok ho cs.length
  have ib := is_integer_ok times hb.ty
  rw [isI_intOf] at ib
  have hn := h.n2
  rw [heard5 0 m_accept_counts _ _ _ _ _ rfl]
  unfold m_accept_counts b_accept_counts
  rw [show enter 7 [rowsD cs, intsD one, intsD other, counts, times] = [.va (rowsD cs), .va (intsD one), .va (intsD other), .va counts, .va times, .un, .un] from rfl]
  rw [stp (sDrop_ok (dCall1 rfl k1)), stp (sDrop_ok (dCall2 rfl rfl k2)), stp (sDrop_ok (dCall2 rfl rfl k3))]
  cases e : isInts cs.length counts with
  | none =>
    rw [e] at ii
    have hv : vCounts cs n one other counts times = some ("paper form" : Str) := by unfold vCounts; rw [e]
    rw [bSeq_err (by rw [sIf_t (dTNot_ok (dTr_bl (dCall2 rfl (dCall1 rfl lr) ii)))]; exact sRaise_ok rfl), hv]
    exact w_form
  | some ws =>
    rw [e] at ii
    obtain ⟨rfl, hws⟩ := isInts_some e
    have sw := ho.small e
    rw [stp (e' := [.va (rowsD cs), .va (intsD one), .va (intsD other), .va (intsD ws), .va times, .un, .un]) (by
      rw [sIf_f (dTNot_ok (dTr_bl (dCall2 rfl (dCall1 rfl lr) ii)))]; rfl)]
    cases eb : intOf times with
    | none =>
      rw [eb] at ib
      have hv : vCounts cs n one other (intsD ws) times = some ("paper form" : Str) := by unfold vCounts; rw [e, eb]
      rw [bSeq_err (by rw [sIf_t (dTOr_t (dTNot_ok (dTr_bl (dCall1 rfl ib))))]; exact sRaise_ok rfl), hv]
      exact w_form
    | some t =>
      have hbb := intOf_some eb
      subst hbb
      have hv : vCounts cs n one other (intsD ws) (.int t) = if t < 1 then some ("paper form" : Str) else if (List.range n).all (goodK cs one other ws t) = true then none else some ("paper place" : Str) := by unfold vCounts; rw [e, eb]
      rw [hv]
      have tl : dTb (dBin dLt (dVar 4) (dC (.int 1))) [.va (rowsD cs), .va (intsD one), .va (intsD other), .va (intsD ws), .va (.int t), .un, .un] = .ok (decide (t < 1), [.va (rowsD cs), .va (intsD one), .va (intsD other), .va (intsD ws), .va (.int t), .un, .un]) := dTb_ok (dBin_ok rfl rfl (dLt_int _ _))
      by_cases ht : t < 1
      · rw [decide_eq_true ht] at tl
        rw [bSeq_err (by rw [sIf_t (by rw [dTOr_f (dTNot_ok (dTr_bl (dCall1 rfl (is_integer_int _))))]; exact tl)]; exact sRaise_ok rfl), if_pos ht]
        exact w_form
      · rw [decide_eq_false ht] at tl
        rw [stp (e' := [.va (rowsD cs), .va (intsD one), .va (intsD other), .va (intsD ws), .va (.int t), .un, .un]) (by rw [sIf_f (by rw [dTOr_f (dTNot_ok (dTr_bl (dCall1 rfl (is_integer_int _))))]; exact tl)]; rfl), if_neg ht]
        have rg : dRng (dCons (dCall bLen (dCons (dVar 1) (dNil))) (dNil)) [.va (rowsD cs), .va (intsD one), .va (intsD other), .va (intsD ws), .va (.int t), .un, .un] = .ok (rngD 0 1 n, [.va (rowsD cs), .va (intsD one), .va (intsD other), .va (intsD ws), .va (.int t), .un, .un]) :=
          dRng_ok (n := n) (dCons_ok (dCall1 rfl l1) rfl) (smallI_of_le (by omega) (by omega))
        obtain ⟨s5', cl⟩ := cnt_loop h h1 h2 sw hws (hb.sm t rfl) (List.range n) (fun k hk => List.mem_range.mp hk) .un
        rw [← rng_eq] at cl
        rw [sFor, rg, bnd_ok]
        simp only []
        rw [cl]
        generalize (List.range n).all (goodK cs one other ws t) = ga
        cases ga with
        | true => rfl
        | false => exact w_place
theorem counts_due {n : Nat} {cs : List (List Int)} {one other : List Int} {counts times : D} (h : Chg n cs) (h1 : Mrk n one) (h2 : Mrk n other) (ho : Own counts) (hb : AskI times) :
    m__law_counts_due [rowsD cs, intsD one, intsD other, counts, times] = .ok (saidD (vCounts cs n one other counts times)) := by
  have lr := len_rows cs
  have l1 := len_ints one
  rw [h1.len] at l1
  have ii := law_row_ok ho cs.length
  have ib := whole_ok times hb.ty
  rw [isI_intOf] at ib
  have hn := h.n2
  unfold m__law_counts_due b__law_counts_due
  rw [show enter 8 [rowsD cs, intsD one, intsD other, counts, times] = [.va (rowsD cs), .va (intsD one), .va (intsD other), .va counts, .va times, .un, .un, .un] from rfl]
  cases e : isInts cs.length counts with
  | none =>
    rw [e] at ii
    have hv : vCounts cs n one other counts times = some ("paper form" : Str) := by unfold vCounts; rw [e]
    rw [bSeq_rt (by rw [sIf_t (dTOr_t (dTNot_ok (dTr_bl (dCall2 rfl (dCall1 rfl lr) ii))))]; exact sRet_ok rfl), hv]
    rfl
  | some ws =>
    rw [e] at ii
    obtain ⟨rfl, hws⟩ := isInts_some e
    have sw := ho.small e
    cases eb : intOf times with
    | none =>
      rw [eb] at ib
      have hv : vCounts cs n one other (intsD ws) times = some ("paper form" : Str) := by unfold vCounts; rw [e, eb]
      rw [bSeq_rt (by rw [sIf_t (by rw [dTOr_f (dTNot_ok (dTr_bl (dCall2 rfl (dCall1 rfl lr) ii)))]; exact dTOr_t (dTNot_ok (dTr_bl (dCall1 rfl ib))))]; exact sRet_ok rfl), hv]
      rfl
    | some t =>
      have hbb := intOf_some eb
      subst hbb
      have hv : vCounts cs n one other (intsD ws) (.int t) = if t < 1 then some ("paper form" : Str) else if (List.range n).all (goodK cs one other ws t) = true then none else some ("paper place" : Str) := by unfold vCounts; rw [e, eb]
      rw [hv]
      have tl : dTb (dBin dLt (dVar 4) (dC (.int 1))) [.va (rowsD cs), .va (intsD one), .va (intsD other), .va (intsD ws), .va (.int t), .un, .un, .un] = .ok (decide (t < 1), [.va (rowsD cs), .va (intsD one), .va (intsD other), .va (intsD ws), .va (.int t), .un, .un, .un]) := dTb_ok (dBin_ok rfl rfl (dLt_int _ _))
      by_cases ht : t < 1
      · rw [decide_eq_true ht] at tl
        rw [bSeq_rt (by rw [sIf_t (by rw [dTOr_f (dTNot_ok (dTr_bl (dCall2 rfl (dCall1 rfl lr) ii))), dTOr_f (dTNot_ok (dTr_bl (dCall1 rfl (whole_int _))))]; exact tl)]; exact sRet_ok rfl), if_pos ht]
        rfl
      · rw [decide_eq_false ht] at tl
        rw [stp (e' := [.va (rowsD cs), .va (intsD one), .va (intsD other), .va (intsD ws), .va (.int t), .un, .un, .un]) (by rw [sIf_f (by rw [dTOr_f (dTNot_ok (dTr_bl (dCall2 rfl (dCall1 rfl lr) ii))), dTOr_f (dTNot_ok (dTr_bl (dCall1 rfl (whole_int _))))]; exact tl)]; rfl), if_neg ht]
        have rg : dRng (dCons (dCall bLen (dCons (dVar 1) (dNil))) (dNil)) [.va (rowsD cs), .va (intsD one), .va (intsD other), .va (intsD ws), .va (.int t), .un, .un, .un] = .ok (rngD 0 1 n, [.va (rowsD cs), .va (intsD one), .va (intsD other), .va (intsD ws), .va (.int t), .un, .un, .un]) :=
          dRng_ok (n := n) (dCons_ok (dCall1 rfl l1) rfl) (smallI_of_le (by omega) (by omega))
        have P : D → Bool := fun d => match d with | .int k => !goodK cs one other ws t k.toNat | _ => false
        have lf : lcL (gSet 6) (dTb (dBin dNe (dCall m__law_sum (dCons (dVar 3) (dCons (dLc (dItems (dVar 0)) (gSet 7) (dYes) (dBin dIx (dVar 7) (dVar 6)) [7]) (dNil)))) (dBin dMul (dVar 4) (dBin dSub (dBin dIx (dVar 2) (dVar 6)) (dBin dIx (dVar 1) (dVar 6)))))) (dVar 6) [6] (rngD 0 1 n) [.va (rowsD cs), .va (intsD one), .va (intsD other), .va (intsD ws), .va (.int t), .un, .un, .un]
            = .ok (((rngD 0 1 n).filter (fun d => match d with | .int k => !goodK cs one other ws t k.toNat | _ => false)).map (fun d => d), [.va (rowsD cs), .va (intsD one), .va (intsD other), .va (intsD ws), .va (.int t), .un, .un, .un]) :=
          lcL_fmap (f := fun d => d) (P := fun d => match d with | .int k => !goodK cs one other ws t k.toNat | _ => false) (rngD 0 1 n) fun d hd => by
            obtain ⟨k, hk, rfl⟩ := mem_rng hd
            have i1 := ix_seq (seq_ints one) (k := k) (by rw [h1.len]; exact hk)
            have i2 := ix_seq (seq_ints other) (k := k) (by rw [h2.len]; exact hk)
            have hm := diff_mul h1 h2 hk (hb.sm t rfl)
            have lc : dLc (dItems (dVar 0)) (gSet 7) (dYes) (dBin dIx (dVar 7) (dVar 6)) [7] [.va (rowsD cs), .va (intsD one), .va (intsD other), .va (intsD ws), .va (.int t), .un, .va (.int k), .un] = .ok (.lst ((col cs k).map D.int), [.va (rowsD cs), .va (intsD one), .va (intsD other), .va (intsD ws), .va (.int t), .un, .va (.int k), .un]) := by
              rw [← col_map h hk]
              refine dLc_ok2 (dItems_tup rfl) rfl rfl (lcL_map (f := getC k) (cs.map intsD) fun d hd => ?_) (by rw [List.length_map, List.length_map]; have := h.l2; omega)
              obtain ⟨c, hc, rfl⟩ := List.mem_map.mp hd
              have hcl : k < c.length := by rw [(h.row c hc).1]; exact hk
              rw [getC_ints hcl]
              exact ⟨[.va (rowsD cs), .va (intsD one), .va (intsD other), .va (intsD ws), .va (.int t), .un, .va (.int k), .va (intsD c)], [.va (rowsD cs), .va (intsD one), .va (intsD other), .va (intsD ws), .va (.int t), .un, .va (.int k), .va (intsD c)], rfl, dBin_ok rfl rfl (ix_seq (seq_ints c) hcl), rfl⟩
            have we : m__law_sum [intsD ws, .lst ((col cs k).map D.int)] = .ok (.int (dot ws (col cs k))) := sum_ok (seq_ints ws) rfl sw (col_small h hk) (by decide) (by rw [col_len]; exact hws) (by rw [col_len]; have := h.l2; omega)
            have tt : dTb (dBin dNe (dCall m__law_sum (dCons (dVar 3) (dCons (dLc (dItems (dVar 0)) (gSet 7) (dYes) (dBin dIx (dVar 7) (dVar 6)) [7]) (dNil)))) (dBin dMul (dVar 4) (dBin dSub (dBin dIx (dVar 2) (dVar 6)) (dBin dIx (dVar 1) (dVar 6))))) [.va (rowsD cs), .va (intsD one), .va (intsD other), .va (intsD ws), .va (.int t), .un, .va (.int k), .un]
                = .ok (!goodK cs one other ws t k, [.va (rowsD cs), .va (intsD one), .va (intsD other), .va (intsD ws), .va (.int t), .un, .va (.int k), .un]) :=
              dTb_ok (dBin_ok (dCall2 rfl lc we) (dBin_ok rfl (dBin_ok (dBin_ok rfl rfl i2) (dBin_ok rfl rfl i1) (show dSub (.int ((other[k]?).getD 0)) (.int ((one[k]?).getD 0)) = .ok (.int ((other[k]?).getD 0 - (one[k]?).getD 0)) from rfl)) (dMul_int hm)) (dNe_int _ _))
            exact ⟨_, _, _, rfl, tt, rfl, fun _ => ⟨rfl, rfl⟩⟩
        have lc := dLc_ok2 (s := .un) (v := 6) rg rfl rfl lf (by
          rw [List.length_map]
          refine Nat.le_trans (List.length_filter_le _ _) ?_
          unfold rngD; rw [List.length_map, List.length_range]; omega)
        rw [stp (sSet_ok lc)]
        generalize hF : ((rngD 0 1 n).filter (fun d => match d with | .int k => !goodK cs one other ws t k.toNat | _ => false)).map (fun d => d) = F
        have hFe : (!F.isEmpty) = !((List.range n).all (goodK cs one other ws t)) := by
          rw [← hF, any_filter, rng_eq, List.any_map, List.not_all_eq_any_not]
          rfl
        have cmp := dIf_ok (m1 := dC (.str "paper place")) (m2 := dLst (dCons (dC .non) (dNil))) (dTr_lst (m := dVar 5) (env := [.va (rowsD cs), .va (intsD one), .va (intsD other), .va (intsD ws), .va (.int t), .va (.lst F), .un, .un]) (rs := F) rfl)
        rw [hFe] at cmp
        generalize (List.range n).all (goodK cs one other ws t) = ga at cmp ⊢
        cases ga with
        | true => rw [show List.set [Sl.va (rowsD cs), .va (intsD one), .va (intsD other), .va (intsD ws), .va (.int t), .un, .un, .un] (4 + 1) (.va (.lst F)) = [.va (rowsD cs), .va (intsD one), .va (intsD other), .va (intsD ws), .va (.int t), .va (.lst F), .un, .un] from rfl, sRet_ok (cmp.trans (dLst_ok (dCons_ok rfl rfl) (by decide)))]; rfl
        | false => rw [show List.set [Sl.va (rowsD cs), .va (intsD one), .va (intsD other), .va (intsD ws), .va (.int t), .un, .un, .un] (4 + 1) (.va (.lst F)) = [.va (rowsD cs), .va (intsD one), .va (intsD other), .va (intsD ws), .va (.int t), .va (.lst F), .un, .un] from rfl, sRet_ok (cmp.trans rfl)]; rfl
theorem counts_ne {n : Nat} {cs : List (List Int)} {one other : List Int} {counts times : D} : dNe (saidD (vCounts cs n one other counts times)) (saidD (vCounts cs n one other counts times)) = .ok (.bl false) := by
  refine ne_said fun s hs => ?_
  unfold vCounts at hs
  split at hs
  · split at hs
    · cases hs; decide +kernel
    · split at hs <;> cases hs
      decide +kernel
  · cases hs; decide +kernel
end LW
end Dn

/-! P10e -/
set_option Elab.async false
set_option linter.all false
set_option maxRecDepth 100000
set_option maxHeartbeats 2000000
namespace Dn
namespace LW
open PySem
/-! ### drawing in comprehensions -/
theorem dCallO_ok {f : D → List D → M (D × D)} {i : Nat} {ms : Av} {env e1 : En} {as : List D} {s0 s d s' : D} (h0 : env[i]? = some (.ow s0)) (h1 : ms env = .ok (as, e1)) (h2 : e1[i]? = some (.ow s)) (hf : f s as = .ok (d, s')) : dCallO f i ms env = .ok (d, e1.set i (.ow s')) := by
  unfold dCallO
  rw [h0]
  simp only []
  rw [h1, bnd_ok]
  simp only []
  rw [h2]
  simp only []
  rw [hf, bnd_ok]
theorem dCallO0 {f : D → List D → M (D × D)} {ms : Av} {st s s' d : D} {R : List Sl} {as : List D} (h1 : ms (.ow st :: R) = .ok (as, .ow s :: R)) (hf : f s as = .ok (d, s')) : dCallO f 0 ms (.ow st :: R) = .ok (d, .ow s' :: R) := by
  rw [dCallO_ok (s0 := st) rfl h1 rfl hf]
  rfl
theorem draw_ev {st : D} {R : List Sl} {m : Ev} {n : Int} (g : Good st) (hm : m (.ow st :: R) = .ok (.int n, .ow st :: R)) (h0 : 0 < n) (h1 : n < 1099511627776) : ∃ k st', dCallO m__law_draw 0 (dCons m (dNil)) (.ow st :: R) = .ok (.int k, .ow st' :: R) ∧ 0 ≤ k ∧ k < n ∧ Good st' := by
  obtain ⟨⟨d, st'⟩, e, k, hd, k0, k1, g'⟩ := wm_out (draw_ok g h0 h1)
  simp only at hd g'
  subst hd
  exact ⟨k, st', dCallO0 (dCons_ok hm rfl) e, k0, k1, g'⟩
theorem pick_ev {st : D} {R : List Sl} {m : Ev} {xs : List D} {st1 : D} (g : Good st1) (hm : m (.ow st :: R) = .ok (.lst xs, .ow st1 :: R)) (h0 : xs ≠ []) (h1 : xs.length < 1000000) : ∃ d st', dCallO m__law_pick 0 (dCons m (dNil)) (.ow st :: R) = .ok (d, .ow st' :: R) ∧ d ∈ xs ∧ Good st' := by
  obtain ⟨⟨d, st'⟩, e, hd, g'⟩ := wm_out (pick_ok g h0 h1)
  exact ⟨d, st', dCallO0 (dCons_ok hm rfl) e, hd, g'⟩
theorem gSet_s {v : Nat} {d s : D} {R : List Sl} : gSet (v + 1) d (.ow s :: R) = .ok (.ow s :: R.set v (.va d)) := rfl
theorem drawn_lc {st st0 : D} {R : List Sl} {v : Nat} {mi : Iv} {te : Ev} {ds : List D} {P : D → Prop} {s : Sl} (hs : R[v]? = some s) (how : isOw (.ow st :: R) (v + 1) = false) (hmi : mi (.ow st :: R) = .ok (ds, .ow st0 :: R)) (g : Good st0)
    (hte : ∀ x, x ∈ ds → ∀ st, Good st → ∃ r st', te (.ow st :: R.set v (.va x)) = .ok (r, .ow st' :: R.set v (.va x)) ∧ P r ∧ Good st') (hl : ds.length ≤ 1000) :
    ∃ rs st', dLc mi (gSet (v + 1)) (dYes) te [v + 1] (.ow st :: R) = .ok (.lst rs, .ow st' :: R) ∧ rs.length = ds.length ∧ (∀ r, r ∈ rs → P r) ∧ Good st' := by
  obtain ⟨rs, e', q1, q2, q3, st', q4, g'⟩ := lcL_inv (mt := gSet (v + 1)) (te := te) (vs := [v + 1]) (fun e => ∃ st, e = .ow st :: R.set v .un ∧ Good st) P ds (.ow st0 :: R.set v .un) (by
    rintro d hd e ⟨st, rfl, g⟩
    obtain ⟨r, st', t1, t2, t3⟩ := hte d hd st g
    refine ⟨.ow st :: R.set v (.va d), .ow st' :: R.set v (.va d), r, by rw [gSet_s, List.set_set], t1, t2, st', ?_, t3⟩
    show List.set (.ow st' :: R.set v (.va d)) (v + 1) .un = _
    rw [List.set_cons_succ, List.set_set]) ⟨st0, rfl, g⟩
  subst q4
  refine ⟨rs, st', ?_, q2, q3, g'⟩
  have how2 : isOw (.ow st0 :: R) (v + 1) = false := how
  rw [dLc_gen (e0 := .ow st0 :: R) (s := s) hmi how2 hs q1 (by rw [q2]; exact hl), List.set_cons_succ, List.set_set, set_back hs]
theorem drawn_ints {st st0 : D} {R : List Sl} {v : Nat} {mi : Iv} {te : Ev} {ds : List D} {P : Int → Prop} {s : Sl} (hs : R[v]? = some s) (how : isOw (.ow st :: R) (v + 1) = false) (hmi : mi (.ow st :: R) = .ok (ds, .ow st0 :: R)) (g : Good st0)
    (hte : ∀ x, x ∈ ds → ∀ st, Good st → ∃ i st', te (.ow st :: R.set v (.va x)) = .ok (.int i, .ow st' :: R.set v (.va x)) ∧ P i ∧ Good st') (hl : ds.length ≤ 1000) :
    ∃ (ss : List Int) (st' : D), dLc mi (gSet (v + 1)) (dYes) te [v + 1] (.ow st :: R) = .ok (.lst (ss.map D.int), .ow st' :: R) ∧ ss.length = ds.length ∧ (∀ r, r ∈ ss → P r) ∧ Good st' := by
  obtain ⟨rs, st', q1, q2, q3, g'⟩ := drawn_lc (P := fun d => ∃ i, d = .int i ∧ P i) hs how hmi g (fun x hx st g => by
    obtain ⟨i, st', a, b, c⟩ := hte x hx st g
    exact ⟨_, st', a, ⟨i, rfl, b⟩, c⟩) hl
  obtain ⟨ss, rfl, hP⟩ := ints_of q3
  exact ⟨ss, st', q1, by rw [← q2, List.length_map], hP, g'⟩
/-! ### slices -/
theorem slice_ok {m : Ev} {ml mh : Ov} {env e1 e2 e3 : En} {ds : List D} {lo hi : Option Int} (h : m env = .ok (.tup ds, e1)) (h1 : ml e1 = .ok (lo, e2)) (h2 : mh e2 = .ok (hi, e3)) : dSlice m ml mh env = .ok (.tup (cutD ds lo hi), e3) := by
  unfold dSlice
  rw [h, bnd_ok]
  simp only []
  rw [h1, bnd_ok]
  simp only []
  rw [h2]
  rfl
theorem dOSome_ok {m : Ev} {env e1 : En} {i : Int} (h : m env = .ok (.int i, e1)) : dOSome m env = .ok (some i, e1) := by
  unfold dOSome
  rw [h]
  rfl
theorem mem_cut {ds : List D} {lo hi : Option Int} {x : D} (h : x ∈ cutD ds lo hi) : x ∈ ds := List.mem_of_mem_drop (List.mem_of_mem_take h)
theorem len_cut (ds : List D) (lo hi : Option Int) : (cutD ds lo hi).length ≤ ds.length := by
  unfold cutD
  rw [List.length_take, List.length_drop]
  omega
theorem cut_init (ds : List D) : cutD ds none (some (-1)) = ds.dropLast := by
  unfold cutD
  rw [show HT.sIx ds.length 0 none = 0 from rfl, List.drop_zero, Nat.sub_zero, List.dropLast_eq_take]
  congr 1
  show (if (-1 : Int) < 0 then ((-1 : Int) + (ds.length : Int)).toNat else min (-1 : Int).toNat ds.length) = ds.length - 1
  rw [if_pos (by decide)]
  omega
theorem add_tup {xs ys : List D} (h : xs.length + ys.length ≤ 1000) : dAdd (.tup xs) (.tup ys) = .ok (.tup (xs ++ ys)) := by
  simp only [dAdd, le_maxSeq h, if_true]
theorem add_lst {xs ys : List D} (h : xs.length + ys.length ≤ 1000) : dAdd (.lst xs) (.lst ys) = .ok (.lst (xs ++ ys)) := by
  simp only [dAdd, le_maxSeq h, if_true]
theorem dTup_ok {ms : Av} {env env' : En} {ds : List D} (h : ms env = .ok (ds, env')) (hl : ds.length ≤ 1000) : dTup ms env = .ok (.tup ds, env') := by
  unfold dTup
  rw [h, bnd_ok]
  simp only [le_maxSeq hl, if_true]
/-! ### bent papers -/
def OE (x : D) : Prop := x.ty ≠ none ∧ ∀ i, x = .int i → i.natAbs < 2 ^ 120
theorem own_tup {ds : List D} (h : ds.length ≤ 100) (h2 : ∀ x, x ∈ ds → OE x) : Own (.tup ds) := ⟨(fun e => by cases e), fun ds' e => by cases e; exact ⟨h, h2⟩⟩
theorem own_of {d : D} (h : d.ty ≠ none) (h2 : ∀ ds, d ≠ .tup ds) : Own d := ⟨h, fun ds e => absurd e (h2 ds)⟩
theorem own_ints {ws : List Int} (h : ws.length ≤ 100) (h2 : SmallB 120 ws) : Own (intsD ws) := own_tup (by rw [List.length_map]; exact h) fun x hx => by
  obtain ⟨i, hi, rfl⟩ := List.mem_map.mp hx
  exact ⟨(fun e => by cases e), fun j e => by cases e; exact h2 i hi⟩
theorem oe_int {i : Int} (h : i.natAbs < 2 ^ 120) : OE (.int i) := ⟨(fun e => by cases e), fun j e => by cases e; exact h⟩
theorem oe_non : OE .non := ⟨(fun e => by cases e), fun j e => by cases e⟩
theorem oe_bl (b : Bool) : OE (.bl b) := ⟨(fun e => by cases e), fun j e => by cases e⟩
theorem bent_ok {st : D} {ws : List Int} (g : Good st) (h0 : ws ≠ []) (hl : ws.length ≤ 40) (hb : SmallB 100 ws) : ∃ d st', m__law_bent st [intsD ws] = .ok (d, st') ∧ Own d ∧ Good st' := by
  have hlen : 0 < ws.length := List.length_pos_iff.mpr h0
  have lw := len_ints ws
  have wn : ∀ x, x ∈ ws.map D.int → OE x := fun x hx => by
    obtain ⟨i, hi, rfl⟩ := List.mem_map.mp hx
    exact oe_int (Nat.lt_trans (hb i hi) (by decide))
  obtain ⟨at', st1, q1, a0, a1, g1⟩ := draw_ev (R := [.va (intsD ws), .un, .un, .un]) (m := dCall bLen (dCons (dVar 1) (dNil))) g (dCall1 rfl lw) (by omega) (by omega)
  obtain ⟨how, st2, q2, b0, b1, g2⟩ := draw_ev (R := [.va (intsD ws), .un, .un, .un]) (m := dC (.int 7)) (n := 7) g1 rfl (by omega) (by omega)
  obtain ⟨k, rfl⟩ : ∃ k : Nat, at' = k := ⟨at'.toNat, by omega⟩
  have hk : k < ws.length := by omega
  have ip : dIx (intsD ws) (.int k) = .ok (.int ((ws[k]?).getD 0)) := ix_seq (seq_ints ws) hk
  have hp : ((ws[k]?).getD 0).natAbs < 2 ^ 100 := by rw [List.getElem?_eq_getElem hk]; exact hb _ (List.getElem_mem _)
  generalize (ws[k]?).getD 0 = p at ip hp
  unfold m__law_bent b__law_bent
  rw [show enterO 5 st [intsD ws] = [.ow st, .va (intsD ws), .un, .un, .un] from rfl]
  have t1 : dTr (dIsi "tuple" (dVar 1)) [.ow st, .va (intsD ws), .un, .un, .un] = .ok (true, [.ow st, .va (intsD ws), .un, .un, .un]) := rfl
  have t2 : dTr (dVar 1) [.ow st, .va (intsD ws), .un, .un, .un] = .ok (true, [.ow st, .va (intsD ws), .un, .un, .un]) := by
    unfold dTr
    rw [show dVar 1 [.ow st, .va (intsD ws), .un, .un, .un] = .ok (intsD ws, [.ow st, .va (intsD ws), .un, .un, .un]) from rfl, bnd_ok]
    cases ws with
    | nil => exact absurd rfl h0
    | cons _ _ => rfl
  rw [stp (e' := [.ow st, .va (intsD ws), .un, .un, .un]) (by rw [sIf_f (by rw [dTOr_f (dTNot_ok t1)]; exact dTNot_ok t2)]; rfl)]
  have sp : sPar 3 4 (dCons (dCallO m__law_draw 0 (dCons (dCall bLen (dCons (dVar 1) (dNil))) (dNil))) (dCons (dCallO m__law_draw 0 (dCons (dC (.int 7)) (dNil))) (dNil))) [.ow st, .va (intsD ws), .un, .un, .un] = .ok (.nx, [.ow st2, .va (intsD ws), .un, .va (.int k), .va (.int how)]) := by
    unfold sPar
    rw [dCons_ok q1 (dCons_ok q2 rfl)]
    rfl
  rw [stp sp]
  have s2 : sSet 2 (dBin dIx (dVar 1) (dVar 3)) [.ow st2, .va (intsD ws), .un, .va (.int k), .va (.int how)] = .ok (.nx, [.ow st2, .va (intsD ws), .va (.int p), .va (.int k), .va (.int how)]) := by
    rw [sSet_ok (i := 1) (e' := [.ow st2, .va (intsD ws), .un, .va (.int k), .va (.int how)]) (dBin_ok rfl rfl ip)]
    rfl
  rw [stp s2]
  have tl : dTb (dBin dLt (dVar 4) (dC (.int 4))) [.ow st2, .va (intsD ws), .va (.int p), .va (.int k), .va (.int how)] = .ok (decide (how < 4), [.ow st2, .va (intsD ws), .va (.int p), .va (.int k), .va (.int how)]) := dTb_ok (dBin_ok rfl rfl (dLt_int _ _))
  have sl1 : dSlice (dVar 1) (dONone) (dOSome (dVar 3)) [.ow st2, .va (intsD ws), .va (.int p), .va (.int k), .va (.int how)] = .ok (.tup (cutD (ws.map D.int) none (some k)), [.ow st2, .va (intsD ws), .va (.int p), .va (.int k), .va (.int how)]) := slice_ok rfl rfl (dOSome_ok rfl)
  have sl2 : ∀ st2, dSlice (dVar 1) (dOSome (dBin dAdd (dVar 3) (dC (.int 1)))) (dONone) [.ow st2, .va (intsD ws), .va (.int p), .va (.int k), .va (.int how)] = .ok (.tup (cutD (ws.map D.int) (some ((k : Int) + 1)) none), [.ow st2, .va (intsD ws), .va (.int p), .va (.int k), .va (.int how)]) := fun st2 => slice_ok rfl (dOSome_ok (dBin_ok rfl rfl rfl)) rfl
  have lc1 := len_cut (ws.map D.int) none (some (k : Int))
  have lc2 := len_cut (ws.map D.int) (some ((k : Int) + 1)) none
  rw [List.length_map] at lc1 lc2
  have m1 : ∀ x, x ∈ cutD (ws.map D.int) none (some (k : Int)) → OE x := fun x hx => wn x (mem_cut hx)
  have m2 : ∀ x, x ∈ cutD (ws.map D.int) (some ((k : Int) + 1)) none → OE x := fun x hx => wn x (mem_cut hx)
  generalize cutD (ws.map D.int) none (some (k : Int)) = c1 at sl1 lc1 m1
  generalize cutD (ws.map D.int) (some ((k : Int) + 1)) none = c2 at sl2 lc2 m2
  have nb : ∀ d, (how < 4 → d = false) → dTr (dIsi "tuple" (dVar 2)) [.ow st2, .va (intsD ws), .va (.int p), .va (.int k), .va (.int how)] = .ok (false, [.ow st2, .va (intsD ws), .va (.int p), .va (.int k), .va (.int how)]) := fun _ _ => rfl
  by_cases hh : how < 4
  · rw [decide_eq_true hh] at tl
    rw [stp (e' := [.ow st2, .va (intsD ws), .va (.int p), .va (.int k), .va (.int how)]) (by rw [sIf_f (by rw [dTAnd_t tl]; rfl)]; rfl)]
    have pe := pick_ev (st := st2) (st1 := st2) (R := [.va (intsD ws), .va (.int p), .va (.int k), .va (.int how)]) (m := dLst (dCons (dBin dAdd (dVar 2) (dC (.int 1))) (dCons (dBin dSub (dVar 2) (dC (.int 1))) (dCons (dBin dEq (dVar 2) (dC (.int 1))) (dCons (dC .non) (dCons (dBin dAdd (dVar 2) (dC (.int 3))) (dNil))))))) (xs := [.int (p + 1), .int (p - 1), .bl (decide (p = 1)), .non, .int (p + 3)]) g2
      (dLst_ok (dCons_ok (dBin_ok rfl rfl rfl) (dCons_ok (dBin_ok rfl rfl rfl) (dCons_ok (dBin_ok rfl rfl (dEq_int _ _)) (dCons_ok rfl (dCons_ok (dBin_ok rfl rfl rfl) rfl))))) (by simp)) (by simp) (by simp)
    obtain ⟨x, st3, q3, hx, g3⟩ := pe
    have ox : OE x := by
      ((simp only [List.mem_cons, List.not_mem_nil, or_false] at hx))
      rcases hx with rfl | rfl | rfl | rfl | rfl
      · exact oe_int (by omega)
      · exact oe_int (by omega)
      · exact oe_bl _
      · exact oe_non
      · exact oe_int (by omega)
    refine ⟨.tup ((c1 ++ [x]) ++ c2), st3, ?_, own_tup (by simp; omega) ?_, g3⟩
    · rw [bSeq_rt (by rw [sIf_t (by rw [dTAnd_t tl]; rfl)]; exact sRet_ok (dBin_ok (dBin_ok sl1 (dTup_ok (dCons_ok q3 rfl) (by simp)) (add_tup (by simp; omega))) (sl2 st3) (add_tup (by simp; omega))))]
      rfl
    · intro y hy
      simp only [List.mem_append, List.mem_singleton] at hy
      rcases hy with (hy | rfl) | hy
      · exact m1 y hy
      · exact ox
      · exact m2 y hy
  · rw [decide_eq_false hh] at tl
    rw [stp (e' := [.ow st2, .va (intsD ws), .va (.int p), .va (.int k), .va (.int how)]) (by rw [sIf_f (by rw [dTAnd_f tl])]; rfl)]
    rw [stp (e' := [.ow st2, .va (intsD ws), .va (.int p), .va (.int k), .va (.int how)]) (by rw [sIf_f (by rw [dTAnd_f tl])]; rfl)]
    rw [stp (e' := [.ow st2, .va (intsD ws), .va (.int p), .va (.int k), .va (.int how)]) (by rw [sIf_f tl]; rfl)]
    have li : dLst (dCons (dBin dAdd (dSlice (dVar 1) (dONone) (dOSome (dVar 3))) (dSlice (dVar 1) (dOSome (dBin dAdd (dVar 3) (dC (.int 1)))) (dONone))) (dCons (dBin dAdd (dVar 1) (dTup (dCons (dVar 2) (dNil)))) (dCons (dCall bList (dCons (dVar 1) (dNil))) (dNil)))) [.ow st2, .va (intsD ws), .va (.int p), .va (.int k), .va (.int how)]
        = .ok (.lst [.tup (c1 ++ c2), .tup (ws.map D.int ++ [.int p]), .lst (ws.map D.int)], [.ow st2, .va (intsD ws), .va (.int p), .va (.int k), .va (.int how)]) :=
      dLst_ok (dCons_ok (dBin_ok sl1 (sl2 st2) (add_tup (by omega))) (dCons_ok (dBin_ok rfl (dTup_ok (dCons_ok rfl rfl) (by simp)) (add_tup (by simp; omega))) (dCons_ok (dCall1 rfl rfl) rfl))) (by simp)
    have ho : how = 4 ∨ how = 5 ∨ how = 6 := by omega
    rcases ho with rfl | rfl | rfl
    · refine ⟨.tup (c1 ++ c2), st2, ?_, own_tup (by simp; omega) ?_, g2⟩
      · rw [sRet_ok (dBin_ok li (dBin_ok rfl rfl rfl) rfl)]
        rfl
      · intro y hy
        rcases List.mem_append.mp hy with hy | hy
        · exact m1 y hy
        · exact m2 y hy
    · refine ⟨.tup (ws.map D.int ++ [.int p]), st2, ?_, own_tup (by simp; omega) ?_, g2⟩
      · rw [sRet_ok (dBin_ok li (dBin_ok rfl rfl rfl) rfl)]
        rfl
      · intro y hy
        rcases List.mem_append.mp hy with hy | hy
        · exact wn y hy
        · rw [List.mem_singleton.mp hy]; exact oe_int (by omega)
    · refine ⟨.lst (ws.map D.int), st2, ?_, own_of (fun e => by cases e) (fun ds e => by cases e), g2⟩
      rw [sRet_ok (dBin_ok li (dBin_ok rfl rfl rfl) rfl)]
      rfl
end LW
end Dn

/-! P10f -/
set_option Elab.async false
set_option linter.all false
set_option maxRecDepth 100000
set_option maxHeartbeats 2000000
namespace Dn
namespace LW
open PySem
/-! ### k10: the papers: what is drawn -/
theorem sSet_to {i : Nat} {m : Ev} {env e' e2 : En} {d : D} (h : m env = .ok (d, e')) (k : e'.set (i + 1) (.va d) = e2) : sSet (i + 1) m env = .ok (.nx, e2) := by rw [sSet_ok h, k]
abbrev S0 : Sv := sSet 1 (dCallO m__law_pick 0 (dCons (dLst (dCons (dC (.int 2)) (dCons (dC (.int 3)) (dCons (dC (.int 10)) (dNil))))) (dNil)))
abbrev S1 : Sv := sSet 2 (dLc (dRng (dCons (dVar 1) (dNil))) (gSet 4) (dYes) (dBin dAdd (dC (.int 1)) (dCallO m__law_draw 0 (dCons (dC (.int 4)) (dNil)))) [4])
abbrev S2 : Sv := sSetO 3 (dLst (dNil))
abbrev S3 : Sv := sFor (dRng (dCons (dBin dSub (dVar 1) (dC (.int 1))) (dNil))) (gSet 4) (bSeq (sSetO 14 (dBin dMulL (dLst (dCons (dC (.int 0)) (dNil))) (dVar 1)))
  (bSeq (sAsg (dTup (dCons (dBin dSub (dC (.int 0)) (dBin dIx (dVar 2) (dBin dAdd (dVar 4) (dC (.int 1))))) (dCons (dBin dIx (dVar 2) (dVar 4)) (dNil)))) (gTupD (lenOf 2 (gsCons (gSubT 14 (dVar 4)) (gsCons (gSubT 14 (dBin dAdd (dVar 4) (dC (.int 1)))) (gsNil))))))
  (sDrop (dMeth fApp 3 (dCons (dCall bTuple (dCons (dVarO 14) (dNil))) (dNil))))))
abbrev S4 : Sv := sAsg (dTup (dCons (dCall bTuple (dCons (dVarO 3) (dNil))) (dCons (dCall bTuple (dCons (dVar 2) (dNil))) (dNil)))) (gTupD (lenOf 2 (gsCons (gSet 3) (gsCons (gSet 15) (gsNil)))))
abbrev S5 : Sv := sSet 5 (dCall bTuple (dCons (dLc (dRng (dCons (dVar 1) (dNil))) (gSet 4) (dYes) (dCallO m__law_draw 0 (dCons (dC (.int 9)) (dNil))) [4]) (dNil)))
abbrev S6 : Sv := sSet 6 (dCall bTuple (dCons (dLc (dItems (dVar 3)) (gSet 21) (dYes) (dCallO m__law_draw 0 (dCons (dC (.int 4)) (dNil))) [21]) (dNil)))
abbrev S7 : Sv := sSet 7 (dLc (dRng (dCons (dVar 1) (dNil))) (gSet 4) (dYes) (dBin dAdd (dBin dIx (dVar 5) (dVar 4)) (dCall m__law_sum (dCons (dVar 6) (dCons (dLc (dItems (dVar 3)) (gSet 21) (dYes) (dBin dIx (dVar 21) (dVar 4)) [21]) (dNil))))) [4])
abbrev S8 : Sv := sSet 8 (dBin dSub (dC (.int 0)) (dCall bMin (dCons (dBin dAdd (dLst (dCons (dC (.int 0)) (dNil))) (dVar 7)) (dNil))))
abbrev S9 : Sv := sAsg (dTup (dCons (dCall bTuple (dCons (dLc (dItems (dVar 5)) (gSet 11) (dYes) (dBin dAdd (dVar 11) (dVar 8)) [11]) (dNil))) (dCons (dCall bTuple (dCons (dLc (dItems (dVar 7)) (gSet 11) (dYes) (dBin dAdd (dVar 11) (dVar 8)) [11]) (dNil))) (dNil)))) (gTupD (lenOf 2 (gsCons (gSet 5) (gsCons (gSet 7) (gsNil)))))
abbrev S10 : Sv := sSet 9 (dBin dAdd (dSlice (dVar 5) (dONone) (dOSome (dNeg (dC (.int 1))))) (dTup (dCons (dBin dAdd (dBin dIx (dVar 5) (dNeg (dC (.int 1)))) (dC (.int 1))) (dNil))))
abbrev S11 : Sv := sSet 10 (dLst (dCons (dVar 15) (dCons (dVar 15) (dCons (dCall bTuple (dCons (dLc (dItems (dVar 15)) (gSet 11) (dYes) (dBin dSub (dC (.int 0)) (dVar 11)) [11]) (dNil))) (dCons (dCall bTuple (dCons (dLc (dItems (dVar 15)) (gSet 11) (dYes) (dBin dMul (dVar 11) (dBin dPow (dC (.int 10)) (dC (.int 12)))) [11]) (dNil))) (dCons (dBin dAdd (dSlice (dVar 15) (dONone) (dOSome (dNeg (dC (.int 1))))) (dTup (dCons (dBin dAdd (dBin dIx (dVar 15) (dNeg (dC (.int 1)))) (dC (.int 1))) (dNil)))) (dCons (dBin dMul (dTup (dCons (dC (.int 0)) (dNil))) (dVar 1)) (dNil))))))))
abbrev S12 : Sv := sFor (dItems (dBin dAdd (dVar 10) (dLst (dCons (dSlice (dVar 15) (dONone) (dOSome (dNeg (dC (.int 1))))) (dCons (dCallO m__law_bent 0 (dCons (dVar 15) (dNil))) (dCons (dC .non) (dNil))))))) (gSet 11) (bSeq (sFor (dItems (dLst (dCons (dVar 9) (dCons (dVar 7) (dNil))))) (gSet 16) (sIf (dTb (dBin dNe (dCall m__law_heard (dCons (dC (.fn 1)) (dCons (dLst (dCons (dVar 3) (dCons (dVar 5) (dCons (dVar 16) (dCons (dVar 11) (dNil)))))) (dNil)))) (dCall m__law_apart_due (dCons (dVar 3) (dCons (dVar 5) (dCons (dVar 16) (dCons (dVar 11) (dNil)))))))) (sNever) (bNil)))
  (bSeq (sSet 17 (dCallO m__law_pick 0 (dCons (dLst (dCons (dBin dSub (dVar 1) (dC (.int 1))) (dCons (dCallO m__law_draw 0 (dCons (dVar 1) (dNil))) (dNil)))) (dNil))))
  (bSeq (sSet 18 (dBin dFdiv (dCall m__law_sum (dCons (dVar 15) (dCons (dVar 5) (dNil)))) (dBin dIx (dVar 15) (dVar 17))))
  (sFor (dItems (dLst (dCons (dVar 18) (dCons (dBin dSub (dVar 18) (dC (.int 1))) (dCons (dBin dAdd (dVar 18) (dC (.int 1))) (dCons (dNeg (dC (.int 1))) (dCons (dC .non) (dCons (dC (.bl true)) (dNil))))))))) (gSet 19) (sIf (dTb (dBin dNe (dCall m__law_heard (dCons (dC (.fn 2)) (dCons (dLst (dCons (dVar 3) (dCons (dVar 5) (dCons (dVar 17) (dCons (dVar 19) (dCons (dVar 11) (dNil))))))) (dNil)))) (dCall m__law_bound_due (dCons (dVar 3) (dCons (dVar 5) (dCons (dVar 17) (dCons (dVar 19) (dCons (dVar 11) (dNil))))))))) (sNever) (bNil))))))
abbrev S13 : Sv := sSet 12 (dCall bTuple (dCons (dLc (dItems (dVar 6)) (gSet 11) (dYes) (dBin dMul (dC (.int 2)) (dVar 11)) [11]) (dNil)))
abbrev S14 : Sv := sSet 13 (dLst (dCons (dTup (dCons (dVar 6) (dCons (dC (.int 1)) (dNil)))) (dCons (dTup (dCons (dVar 12) (dCons (dC (.int 2)) (dNil)))) (dCons (dTup (dCons (dVar 6) (dCons (dC (.int 2)) (dNil)))) (dCons (dTup (dCons (dVar 6) (dCons (dC (.int 0)) (dNil)))) (dCons (dTup (dCons (dVar 12) (dCons (dNeg (dC (.int 2))) (dNil)))) (dCons (dTup (dCons (dBin dAdd (dSlice (dVar 6) (dONone) (dOSome (dNeg (dC (.int 1))))) (dTup (dCons (dBin dAdd (dBin dIx (dVar 6) (dNeg (dC (.int 1)))) (dC (.int 1))) (dNil)))) (dCons (dC (.int 1)) (dNil)))) (dCons (dTup (dCons (dSlice (dVar 6) (dONone) (dOSome (dNeg (dC (.int 1))))) (dCons (dC (.int 1)) (dNil)))) (dNil)))))))))
abbrev S15 : Sv := sFor (dItems (dBin dAdd (dVar 13) (dLst (dCons (dTup (dCons (dCallO m__law_bent 0 (dCons (dVar 6) (dNil))) (dCons (dC (.int 1)) (dNil)))) (dCons (dTup (dCons (dC .non) (dCons (dC (.int 1)) (dNil)))) (dCons (dTup (dCons (dVar 6) (dCons (dC (.bl true)) (dNil)))) (dCons (dTup (dCons (dVar 6) (dCons (dC .non) (dNil)))) (dNil)))))))) (gTupD (lenOf 2 (gsCons (gSet 11) (gsCons (gSet 20) (gsNil))))) (sIf (dTb (dBin dNe (dCall m__law_heard (dCons (dC (.fn 0)) (dCons (dLst (dCons (dVar 3) (dCons (dVar 5) (dCons (dVar 7) (dCons (dVar 11) (dCons (dVar 20) (dNil))))))) (dNil)))) (dCall m__law_counts_due (dCons (dVar 3) (dCons (dVar 5) (dCons (dVar 7) (dCons (dVar 11) (dCons (dVar 20) (dNil))))))))) (sNever) (bNil))
abbrev S16 : Sv := sRet (dC (.bl true))
theorem s0_ok {st : D} (g : Good st) : ∃ (n : Nat) (st' : D), S0 [.ow st, .un, .un, .un, .un, .un, .un, .un, .un, .un, .un, .un, .un, .un, .un, .un, .un, .un, .un, .un, .un, .un] = .ok (.nx, [.ow st', .va (.int n), .un, .un, .un, .un, .un, .un, .un, .un, .un, .un, .un, .un, .un, .un, .un, .un, .un, .un, .un, .un]) ∧ 2 ≤ n ∧ n ≤ 10 ∧ Good st' := by
  obtain ⟨d, st', q, hd, g'⟩ := pick_ev (R := [.un, .un, .un, .un, .un, .un, .un, .un, .un, .un, .un, .un, .un, .un, .un, .un, .un, .un, .un, .un, .un]) (m := dLst (dCons (dC (.int 2)) (dCons (dC (.int 3)) (dCons (dC (.int 10)) (dNil))))) (xs := [.int 2, .int 3, .int 10]) g (dLst_ok (dCons_ok rfl (dCons_ok rfl (dCons_ok rfl rfl))) (by decide)) (by simp) (by simp)
  have hn : ∃ n : Nat, d = .int n ∧ 2 ≤ n ∧ n ≤ 10 := by
    ((simp only [List.mem_cons, List.not_mem_nil, or_false] at hd))
    rcases hd with rfl | rfl | rfl
    · exact ⟨2, rfl, by decide, by decide⟩
    · exact ⟨3, rfl, by decide, by decide⟩
    · exact ⟨10, rfl, by decide, by decide⟩
  obtain ⟨n, rfl, h1, h2⟩ := hn
  exact ⟨n, st', sSet_to (i := 0) q rfl, h1, h2, g'⟩
theorem rng1 {n : Nat} (h : n ≤ 10) {st : D} {R : List Sl} : dRng (dCons (dVar 1) (dNil)) (.ow st :: .va (.int n) :: R) = .ok (rngD 0 1 n, .ow st :: .va (.int n) :: R) :=
  dRng_ok (n := n) (dCons_ok rfl rfl) (smallI_of_le (by omega) (by omega))
theorem rng_len (n : Nat) : (rngD 0 1 n).length = n := by unfold rngD; rw [List.length_map, List.length_range]
theorem s1_ok {st : D} {n : Nat} (g : Good st) (h1 : 2 ≤ n) (h2 : n ≤ 10) : ∃ (ss : List Int) (st' : D), S1 [.ow st, .va (.int n), .un, .un, .un, .un, .un, .un, .un, .un, .un, .un, .un, .un, .un, .un, .un, .un, .un, .un, .un, .un] = .ok (.nx, [.ow st', .va (.int n), .va (intsL ss), .un, .un, .un, .un, .un, .un, .un, .un, .un, .un, .un, .un, .un, .un, .un, .un, .un, .un, .un]) ∧ ss.length = n ∧ (∀ s, s ∈ ss → 1 ≤ s ∧ s ≤ 4) ∧ Good st' := by
  obtain ⟨ss, st', q, q2, q3, g'⟩ := drawn_ints (st := st) (st0 := st) (R := [.va (.int n), .un, .un, .un, .un, .un, .un, .un, .un, .un, .un, .un, .un, .un, .un, .un, .un, .un, .un, .un, .un]) (v := 3) (mi := dRng (dCons (dVar 1) (dNil))) (te := dBin dAdd (dC (.int 1)) (dCallO m__law_draw 0 (dCons (dC (.int 4)) (dNil)))) (ds := rngD 0 1 n) (P := fun s => 1 ≤ s ∧ s ≤ 4) rfl rfl (rng1 h2) g (fun x hx st g => by
    obtain ⟨k, st', t1, t2, t3, t4⟩ := draw_ev (st := st) (R := List.set [.va (.int n), .un, .un, .un, .un, .un, .un, .un, .un, .un, .un, .un, .un, .un, .un, .un, .un, .un, .un, .un, .un] 3 (.va x)) (m := dC (.int 4)) (n := 4) g rfl (by omega) (by omega)
    exact ⟨1 + k, st', dBin_ok rfl t1 rfl, ⟨by omega, by omega⟩, t4⟩) (by rw [rng_len]; omega)
  exact ⟨ss, st', sSet_to (i := 1) q rfl, by rw [q2, rng_len], q3, g'⟩
theorem forL_nxi {mt : Gv} {mb : Sv} (I : Nat → En → Prop) : ∀ (ds : List D) (j : Nat) (env : En), (∀ (i : Nat) (d : D), ds[i]? = some d → ∀ e, I (j + i) e → ∃ e1 e2, mt d e = .ok e1 ∧ mb e1 = .ok (.nx, e2) ∧ I (j + i + 1) e2) → I j env → ∃ e', forL mt mb ds env = .ok (.nx, e') ∧ I (j + ds.length) e'
  | [], j, env, _, h => ⟨env, rfl, h⟩
  | d :: r, j, env, hs, h => by
    obtain ⟨e1, e2, q1, q2, q3⟩ := hs 0 d rfl env h
    obtain ⟨e', q4, q5⟩ := forL_nxi I r (j + 1) e2 (fun i d' hd e he => by
      have := hs (i + 1) d' (by simpa using hd) e (by rw [← Nat.add_assoc, Nat.add_right_comm]; exact he)
      rw [← Nat.add_assoc, Nat.add_right_comm j i 1] at this
      exact this) q3
    refine ⟨e', ?_, by rw [List.length_cons, ← Nat.add_assoc, Nat.add_right_comm]; exact q5⟩
    unfold forL
    rw [q1, ns_ok, bnd_ok, q2, bnd_ok]
    exact q4
theorem rng_get {n i : Nat} {d : D} (h : (rngD 0 1 n)[i]? = some d) : i < n ∧ d = .int i := by
  rw [rng_eq, List.getElem?_map] at h
  by_cases hi : i < n
  · rw [List.getElem?_range hi] at h
    exact ⟨hi, (Option.some.inj h).symm⟩
  · rw [List.getElem?_eq_none (by simp; omega)] at h
    cases h
def rowK (n : Nat) (a b : Int) (k : Nat) : List Int := ((List.replicate n 0).set k a).set (k + 1) b
theorem rowK_len (n : Nat) (a b : Int) (k : Nat) : (rowK n a b k).length = n := by unfold rowK; simp
theorem rowK_mem {n : Nat} {a b x : Int} {k : Nat} (h : x ∈ rowK n a b k) : x = 0 ∨ x = a ∨ x = b := by
  unfold rowK at h
  rcases List.mem_or_eq_of_mem_set h with h | h
  · rcases List.mem_or_eq_of_mem_set h with h | h
    · exact .inl (List.eq_of_mem_replicate h)
    · exact .inr (.inl h)
  · exact .inr (.inr h)
theorem ixN_nat {n k : Nat} (h : k < n) : L2.ixN n (k : Int) = some k := by
  unfold L2.ixN
  rw [if_pos (by omega), if_pos (by omega), Int.toNat_natCast]
theorem mulL_rep (x : D) {n : Nat} (h : n ≤ 1000) : dMulL (.lst [x]) (.int n) = .ok (.lst (List.replicate n x)) := by
  have e : repD n [x] = List.replicate n x := by
    unfold repD
    rw [Int.toNat_natCast]
    clear h
    induction n with
    | zero => rfl
    | succ n ih => rw [List.replicate_succ, List.flatten_cons, ih]; rfl
  have h1 : (n : Int) ≤ 16777216 := by omega
  have h2 : (-16777216 : Int) ≤ n := by omega
  have h3 : ([x] : List D).length * (n : Int).toNat ≤ maxSeq := by rw [Int.toNat_natCast]; exact le_maxSeq (by simpa using h)
  simp only [dMulL, e, h1, h2, h3, decide_true, Bool.and_self, if_true]
theorem two_subs {env : En} {mi1 mi2 : Ev} {i : Nat} {ds : List D} {a b : D} {k l : Nat} (h0 : env[i]? = some (.ow (.lst ds))) (h1 : mi1 env = .ok (.int k, env)) (hk : k < ds.length) (h2 : mi2 (env.set i (.ow (.lst (ds.set k a)))) = .ok (.int l, env.set i (.ow (.lst (ds.set k a))))) (hl : l < ds.length) :
    gTupD (lenOf 2 (gsCons (gSubT i mi1) (gsCons (gSubT i mi2) (gsNil)))) (.tup [a, b]) env = .ok (env.set i (.ow (.lst ((ds.set k a).set l b)))) := by
  have hi := (List.getElem?_eq_some_iff.mp h0).1
  have g0 : (env.set i (.ow (.lst (ds.set k a))))[i]? = some (.ow (.lst (ds.set k a))) := by rw [List.getElem?_set, if_pos rfl, if_pos hi]
  have a1 : gSubT i mi1 a env = .ok (env.set i (.ow (.lst (ds.set k a)))) := by
    unfold gSubT
    rw [h0]
    simp only []
    rw [h1, ns_ok, bnd_ok]
    simp only [h0]
    rw [ixN_nat hk]
  have a2 : gSubT i mi2 b (env.set i (.ow (.lst (ds.set k a)))) = .ok (env.set i (.ow (.lst ((ds.set k a).set l b)))) := by
    unfold gSubT
    rw [g0]
    simp only []
    rw [h2, ns_ok, bnd_ok]
    simp only [g0]
    rw [ixN_nat (show l < (ds.set k a).length by rw [List.length_set]; exact hl)]
    simp only [List.set_set]
  show lenOf 2 (gsCons (gSubT i mi1) (gsCons (gSubT i mi2) (gsNil))) [a, b] env = _
  unfold lenOf
  rw [if_pos (show [a, b].length = 2 from rfl)]
  show bnd (gSubT i mi1 a env) _ = _
  rw [a1, bnd_ok]
  show bnd (gSubT i mi2 b _) _ = _
  rw [a2, bnd_ok]
  rfl
theorem s3_ok {st : D} {n : Nat} {ss : List Int} (h1 : 2 ≤ n) (h2 : n ≤ 10) (hl : ss.length = n) (hs : ∀ s, s ∈ ss → 1 ≤ s ∧ s ≤ 4) :
    ∃ (rs : List (List Int)) (d4 : D) (y14 : Sl), S3 [.ow st, .va (.int n), .va (intsL ss), .ow (.lst []), .un, .un, .un, .un, .un, .un, .un, .un, .un, .un, .un, .un, .un, .un, .un, .un, .un, .un] = .ok (.nx, [.ow st, .va (.int n), .va (intsL ss), .ow (.lst (rs.map intsD)), .va d4, .un, .un, .un, .un, .un, .un, .un, .un, .un, y14, .un, .un, .un, .un, .un, .un, .un]) ∧ Chg n rs ∧ (∀ r, r ∈ rs → SmallB 4 r) ∧ rs.length ≤ 9 := by
  have rg : dRng (dCons (dBin dSub (dVar 1) (dC (.int 1))) (dNil)) [.ow st, .va (.int n), .va (intsL ss), .ow (.lst []), .un, .un, .un, .un, .un, .un, .un, .un, .un, .un, .un, .un, .un, .un, .un, .un, .un, .un] = .ok (rngD 0 1 (n - 1), [.ow st, .va (.int n), .va (intsL ss), .ow (.lst []), .un, .un, .un, .un, .un, .un, .un, .un, .un, .un, .un, .un, .un, .un, .un, .un, .un, .un]) := by
    have := dRng_ok (env := [.ow st, .va (.int n), .va (intsL ss), .ow (.lst []), .un, .un, .un, .un, .un, .un, .un, .un, .un, .un, .un, .un, .un, .un, .un, .un, .un, .un]) (env' := [.ow st, .va (.int n), .va (intsL ss), .ow (.lst []), .un, .un, .un, .un, .un, .un, .un, .un, .un, .un, .un, .un, .un, .un, .un, .un, .un, .un]) (n := ((n - 1 : Nat) : Int)) (ms := dCons (dBin dSub (dVar 1) (dC (.int 1))) (dNil)) (dCons_ok (dBin_ok rfl rfl (show dSub (.int n) (.int 1) = .ok (.int ((n - 1 : Nat) : Int)) by
      show Except.ok (D.int ((n : Int) - 1)) = _
      rw [Int.ofNat_sub (by omega)]; rfl)) rfl) (smallI_of_le (by omega) (by omega))
    rw [Int.toNat_natCast] at this
    exact this
  obtain ⟨e', q1, rs, y4, y14, q2, q3, q4, q5⟩ := forL_nxi (mt := gSet 4) (mb := (bSeq (sSetO 14 (dBin dMulL (dLst (dCons (dC (.int 0)) (dNil))) (dVar 1)))
  (bSeq (sAsg (dTup (dCons (dBin dSub (dC (.int 0)) (dBin dIx (dVar 2) (dBin dAdd (dVar 4) (dC (.int 1))))) (dCons (dBin dIx (dVar 2) (dVar 4)) (dNil)))) (gTupD (lenOf 2 (gsCons (gSubT 14 (dVar 4)) (gsCons (gSubT 14 (dBin dAdd (dVar 4) (dC (.int 1)))) (gsNil))))))
  (sDrop (dMeth fApp 3 (dCons (dCall bTuple (dCons (dVarO 14) (dNil))) (dNil))))))) (fun j e => ∃ (rs : List (List Int)) (y4 y14 : Sl), e = [.ow st, .va (.int n), .va (intsL ss), .ow (.lst (rs.map intsD)), y4, .un, .un, .un, .un, .un, .un, .un, .un, .un, y14, .un, .un, .un, .un, .un, .un, .un] ∧ rs.length = j ∧ (0 < j → ∃ d, y4 = .va d) ∧ ∀ r, r ∈ rs → r.length = n ∧ ∀ x, x ∈ r → -4 ≤ x ∧ x ≤ 4)
    (rngD 0 1 (n - 1)) 0 [.ow st, .va (.int n), .va (intsL ss), .ow (.lst []), .un, .un, .un, .un, .un, .un, .un, .un, .un, .un, .un, .un, .un, .un, .un, .un, .un, .un] (by
      rintro i d hd e ⟨rs, y4, y14, rfl, e1, _, e3⟩
      obtain ⟨hi, rfl⟩ := rng_get hd
      have ga := List.getElem?_eq_getElem (l := ss) (i := i) (by omega)
      have gb := List.getElem?_eq_getElem (l := ss) (i := i + 1) (by omega)
      have ia := ix_intsL ga
      have ib := ix_intsL gb
      have ha := hs _ (List.getElem_mem (l := ss) (n := i) (by omega))
      have hb := hs _ (List.getElem_mem (l := ss) (n := i + 1) (by omega))
      generalize ss[i] = a at ia ha
      generalize ss[i + 1] = b at ib hb
      refine ⟨[.ow st, .va (.int n), .va (intsL ss), .ow (.lst (rs.map intsD)), .va (.int i), .un, .un, .un, .un, .un, .un, .un, .un, .un, y14, .un, .un, .un, .un, .un, .un, .un], [.ow st, .va (.int n), .va (intsL ss), .ow (.lst ((rs ++ [rowK n (0 - b) a i]).map intsD)), .va (.int i), .un, .un, .un, .un, .un, .un, .un, .un, .un, .ow (.lst ((rowK n (0 - b) a i).map D.int)), .un, .un, .un, .un, .un, .un, .un], rfl, ?_, rs ++ [rowK n (0 - b) a i], .va (.int i), _, rfl, by rw [List.length_append, e1]; rfl, fun _ => ⟨_, rfl⟩, ?_⟩
      · have t1 : sSetO 14 (dBin dMulL (dLst (dCons (dC (.int 0)) (dNil))) (dVar 1)) [.ow st, .va (.int n), .va (intsL ss), .ow (.lst (rs.map intsD)), .va (.int i), .un, .un, .un, .un, .un, .un, .un, .un, .un, y14, .un, .un, .un, .un, .un, .un, .un] = .ok (.nx, [.ow st, .va (.int n), .va (intsL ss), .ow (.lst (rs.map intsD)), .va (.int i), .un, .un, .un, .un, .un, .un, .un, .un, .un, .ow (.lst (List.replicate n (.int 0))), .un, .un, .un, .un, .un, .un, .un]) := by
          unfold sSetO
          rw [dBin_ok (dLst_ok (dCons_ok rfl rfl) (by decide)) rfl (mulL_rep (.int 0) (by omega))]
          rfl
        rw [stp t1]
        have t2 : (gTupD (lenOf 2 (gsCons (gSubT 14 (dVar 4)) (gsCons (gSubT 14 (dBin dAdd (dVar 4) (dC (.int 1)))) (gsNil))))) (.tup [.int (0 - b), .int a]) [.ow st, .va (.int n), .va (intsL ss), .ow (.lst (rs.map intsD)), .va (.int i), .un, .un, .un, .un, .un, .un, .un, .un, .un, .ow (.lst (List.replicate n (.int 0))), .un, .un, .un, .un, .un, .un, .un] = .ok [.ow st, .va (.int n), .va (intsL ss), .ow (.lst (rs.map intsD)), .va (.int i), .un, .un, .un, .un, .un, .un, .un, .un, .un, .ow (.lst ((rowK n (0 - b) a i).map D.int)), .un, .un, .un, .un, .un, .un, .un] := by
          have em : (rowK n (0 - b) a i).map D.int = ((List.replicate n (D.int 0)).set i (.int (0 - b))).set (i + 1) (.int a) := by
            unfold rowK
            rw [List.map_set, List.map_set, List.map_replicate]
          rw [em]
          exact two_subs (ds := List.replicate n (.int 0)) (k := i) (l := i + 1) rfl rfl (by rw [List.length_replicate]; omega) (dBin_ok rfl rfl rfl) (by rw [List.length_replicate]; omega)
        have t3 : sAsg (dTup (dCons (dBin dSub (dC (.int 0)) (dBin dIx (dVar 2) (dBin dAdd (dVar 4) (dC (.int 1))))) (dCons (dBin dIx (dVar 2) (dVar 4)) (dNil)))) (gTupD (lenOf 2 (gsCons (gSubT 14 (dVar 4)) (gsCons (gSubT 14 (dBin dAdd (dVar 4) (dC (.int 1)))) (gsNil))))) [.ow st, .va (.int n), .va (intsL ss), .ow (.lst (rs.map intsD)), .va (.int i), .un, .un, .un, .un, .un, .un, .un, .un, .un, .ow (.lst (List.replicate n (.int 0))), .un, .un, .un, .un, .un, .un, .un] = .ok (.nx, [.ow st, .va (.int n), .va (intsL ss), .ow (.lst (rs.map intsD)), .va (.int i), .un, .un, .un, .un, .un, .un, .un, .un, .un, .ow (.lst ((rowK n (0 - b) a i).map D.int)), .un, .un, .un, .un, .un, .un, .un]) := by
          unfold sAsg
          rw [dTup_ok (dCons_ok (dBin_ok rfl (dBin_ok rfl (dBin_ok rfl rfl (show dAdd (.int i) (.int 1) = .ok (.int ((i + 1 : Nat) : Int)) from rfl)) ib) (show dSub (.int 0) (.int b) = .ok (.int (0 - b)) from rfl)) (dCons_ok (dBin_ok rfl rfl ia) rfl)) (by simp), bnd_ok]
          simp only []
          rw [t2, ns_ok, bnd_ok]
        rw [stp t3]
        have t4 : dMeth fApp 3 (dCons (dCall bTuple (dCons (dVarO 14) (dNil))) (dNil)) [.ow st, .va (.int n), .va (intsL ss), .ow (.lst (rs.map intsD)), .va (.int i), .un, .un, .un, .un, .un, .un, .un, .un, .un, .ow (.lst ((rowK n (0 - b) a i).map D.int)), .un, .un, .un, .un, .un, .un, .un] = .ok (.non, [.ow st, .va (.int n), .va (intsL ss), .ow (.lst ((rs ++ [rowK n (0 - b) a i]).map intsD)), .va (.int i), .un, .un, .un, .un, .un, .un, .un, .un, .un, .ow (.lst ((rowK n (0 - b) a i).map D.int)), .un, .un, .un, .un, .un, .un, .un]) := by
          have hf : fApp (rs.map intsD) [intsD (rowK n (0 - b) a i)] = .ok (.non, (rs ++ [rowK n (0 - b) a i]).map intsD) := by
            have : (rs.map intsD).length < maxSeq := by rw [List.length_map]; exact Nat.lt_of_lt_of_le (m := 1000) (by omega) (le_maxSeq (Nat.le_refl _))
            simp only [fApp, this, if_true, List.map_append, List.map_cons, List.map_nil]
          unfold dMeth
          rw [show ([.ow st, .va (.int n), .va (intsL ss), .ow (.lst (rs.map intsD)), .va (.int i), .un, .un, .un, .un, .un, .un, .un, .un, .un, .ow (.lst ((rowK n (0 - b) a i).map D.int)), .un, .un, .un, .un, .un, .un, .un] : En)[3]? = some (.ow (.lst (rs.map intsD))) from rfl]
          simp only []
          rw [dCons_ok (dCall1 rfl (show bTuple [.lst ((rowK n (0 - b) a i).map D.int)] = .ok (intsD (rowK n (0 - b) a i)) from rfl)) rfl, bnd_ok]
          simp only []
          rw [show ([.ow st, .va (.int n), .va (intsL ss), .ow (.lst (rs.map intsD)), .va (.int i), .un, .un, .un, .un, .un, .un, .un, .un, .un, .ow (.lst ((rowK n (0 - b) a i).map D.int)), .un, .un, .un, .un, .un, .un, .un] : En)[3]? = some (.ow (.lst (rs.map intsD))) from rfl]
          simp only []
          rw [hf]
          rfl
        rw [sDrop_ok t4]
      · intro r hr
        rcases List.mem_append.mp hr with hr | hr
        · exact e3 r hr
        · rw [List.mem_singleton.mp hr]
          refine ⟨rowK_len _ _ _ _, fun x hx => ?_⟩
          rcases rowK_mem hx with rfl | rfl | rfl <;> omega) ⟨[], .un, .un, rfl, rfl, (fun z => by omega), (fun _ z => by cases z)⟩
  obtain ⟨d4, rfl⟩ := q4 (by rw [rng_len]; omega)
  rw [rng_len] at q3
  subst q2
  refine ⟨rs, d4, y14, ?_, ⟨by omega, by omega, by omega, by omega, fun c hc => ⟨(q5 c hc).1, fun x hx => by have := (q5 c hc).2 x hx; omega⟩⟩, fun r hr x hx => ?_, by omega⟩
  · unfold S3 sFor
    rw [rg, bnd_ok]
    exact q1
  · have := (q5 r hr).2 x hx
    show x.natAbs < 16
    omega
end LW
end Dn

/-! P10g -/
set_option Elab.async false
set_option linter.all false
set_option maxRecDepth 100000
set_option maxHeartbeats 2000000
namespace Dn
namespace LW
open PySem
theorem sAsg_ok {m : Ev} {mt : Gv} {env e1 e2 : En} {d : D} (h : m env = .ok (d, e1)) (k : mt d e1 = .ok e2) : sAsg m mt env = .ok (.nx, e2) := by
  unfold sAsg
  rw [h, bnd_ok]
  simp only []
  rw [k, ns_ok, bnd_ok]
/-- a comprehension of integers -/
theorem map_lc {mi : Iv} {te : Ev} {v : Nat} {env : En} {s : Sl} {ws : List Int} {f : Int → Int} (hmi : mi env = .ok (ws.map D.int, env)) (hs : env[v + 1]? = some s) (how : isOw env (v + 1) = false) (hte : ∀ i, i ∈ ws → te ((env.set (v + 1) .un).set (v + 1) (.va (.int i))) = .ok (.int (f i), (env.set (v + 1) .un).set (v + 1) (.va (.int i)))) (hl : ws.length ≤ 1000) :
    dLc mi (gSet (v + 1)) (dYes) te [v + 1] env = .ok (.lst ((ws.map f).map D.int), env) := by
  rw [show (ws.map f).map D.int = (ws.map D.int).map (fun d => match d with | .int i => .int (f i) | _ => .non) by rw [List.map_map, List.map_map]; rfl]
  refine dLc_ok2 hmi how hs (lcL_map _ fun d hd => ?_) (by rw [List.length_map, List.length_map]; exact hl)
  obtain ⟨i, hi, rfl⟩ := List.mem_map.mp hd
  refine ⟨_, _, rfl, hte i hi, ?_⟩
  show List.set ((env.set (v + 1) .un).set (v + 1) (.va (.int i))) (v + 1) .un = env.set (v + 1) .un
  rw [List.set_set, List.set_set]
theorem ends_last {ss : List Int} (h : ss ≠ []) : ∃ i l, ss = i ++ [l] := ⟨ss.dropLast, ss.getLast h, (List.dropLast_concat_getLast h).symm⟩
/-- x[:-1] + (x[-1] + 1,) -/
theorem last_ok {env : En} {j : Nat} {i : List Int} {l : Int} (hj : env[j]? = some (.va (intsD (i ++ [l])))) (hl : i.length ≤ 100) :
    dBin dAdd (dSlice (dVar j) (dONone) (dOSome (dNeg (dC (.int 1))))) (dTup (dCons (dBin dAdd (dBin dIx (dVar j) (dNeg (dC (.int 1)))) (dC (.int 1))) (dNil))) env = .ok (intsD (i ++ [l + 1]), env) := by
  have v : dVar j env = .ok (intsD (i ++ [l]), env) := by unfold dVar; rw [hj]
  have s1 : dSlice (dVar j) (dONone) (dOSome (dNeg (dC (.int 1)))) env = .ok (.tup (i.map D.int), env) := by
    rw [slice_ok (ds := (i ++ [l]).map D.int) (lo := none) (hi := some (-1)) v rfl rfl, cut_init, List.map_append, List.map_cons, List.map_nil, List.dropLast_concat]
  have s2 : dIx (intsD (i ++ [l])) (.int (-1)) = .ok (.int l) := by
    have h1 : (1 : Int) ≤ (i.length : Int) + 1 := by omega
    have h2 : (-1 + ((i.length : Int) + 1)).toNat = i.length := by omega
    unfold intsD
    simp [dIx, L2.atI, L2.ixN, h1, h2]
  have e : (i ++ [l + 1]).map D.int = i.map D.int ++ [.int (l + 1)] := by rw [List.map_append]; rfl
  have a : dAdd (.tup (i.map D.int)) (.tup [.int (l + 1)]) = .ok (intsD (i ++ [l + 1])) := by
    rw [add_tup (by rw [List.length_map]; simp; omega)]
    unfold intsD
    rw [e]
  exact dBin_ok s1 (dTup_ok (dCons_ok (dBin_ok (dBin_ok v rfl s2) rfl rfl) rfl) (by simp)) a
theorem init_ok {env : En} {j : Nat} {i : List Int} {l : Int} (hj : env[j]? = some (.va (intsD (i ++ [l])))) : dSlice (dVar j) (dONone) (dOSome (dNeg (dC (.int 1)))) env = .ok (intsD i, env) := by
  have v : dVar j env = .ok (intsD (i ++ [l]), env) := by unfold dVar; rw [hj]
  rw [slice_ok (ds := (i ++ [l]).map D.int) (lo := none) (hi := some (-1)) v rfl rfl, cut_init, List.map_append, List.map_cons, List.map_nil, List.dropLast_concat]
  rfl
theorem p12 : dPow (.int 10) (.int 12) = .ok (.int 1000000000000) := rfl
theorem mulT_rep (x : D) {n : Nat} (h : 2 ≤ n) (h2 : n ≤ 1000) : dMul (.tup [x]) (.int n) = .ok (.tup (List.replicate n x)) := by
  have e : repD n [x] = List.replicate n x := by
    unfold repD
    rw [Int.toNat_natCast]
    clear h h2
    induction n with
    | zero => rfl
    | succ n ih => rw [List.replicate_succ, List.flatten_cons, ih]; rfl
  have h1 : (2 : Int) ≤ n := by omega
  have h3 : (n : Int) ≤ 1000 := by omega
  simp [dMul, e, h1, h3]
theorem s4_ok {st d4 : D} {y14 : Sl} {n : Nat} {ss : List Int} {rs : List (List Int)} : S4 [.ow st, .va (.int n), .va (intsL ss), .ow (.lst (rs.map intsD)), .va d4, .un, .un, .un, .un, .un, .un, .un, .un, .un, y14, .un, .un, .un, .un, .un, .un, .un] = .ok (.nx, [.ow st, .va (.int n), .va (intsL ss), .va (rowsD rs), .va d4, .un, .un, .un, .un, .un, .un, .un, .un, .un, y14, .va (intsD ss), .un, .un, .un, .un, .un, .un]) :=
  sAsg_ok (dTup_ok (dCons_ok (dCall1 rfl rfl) (dCons_ok (dCall1 rfl rfl) rfl)) (by simp)) rfl
theorem s5_ok {st d4 : D} {y14 : Sl} {n : Nat} {ss : List Int} {rs : List (List Int)} (g : Good st) (h2 : n ≤ 10) : ∃ (on : List Int) (st' : D), S5 [.ow st, .va (.int n), .va (intsL ss), .va (rowsD rs), .va d4, .un, .un, .un, .un, .un, .un, .un, .un, .un, y14, .va (intsD ss), .un, .un, .un, .un, .un, .un] = .ok (.nx, [.ow st', .va (.int n), .va (intsL ss), .va (rowsD rs), .va d4, .va (intsD on), .un, .un, .un, .un, .un, .un, .un, .un, y14, .va (intsD ss), .un, .un, .un, .un, .un, .un]) ∧ on.length = n ∧ (∀ s, s ∈ on → 0 ≤ s ∧ s < 9) ∧ Good st' := by
  obtain ⟨on, st', q, q2, q3, g'⟩ := drawn_ints (st := st) (st0 := st) (R := [.va (.int n), .va (intsL ss), .va (rowsD rs), .va d4, .un, .un, .un, .un, .un, .un, .un, .un, .un, y14, .va (intsD ss), .un, .un, .un, .un, .un, .un]) (v := 3) (s := .va d4) (mi := dRng (dCons (dVar 1) (dNil))) (te := dCallO m__law_draw 0 (dCons (dC (.int 9)) (dNil))) (ds := rngD 0 1 n) (P := fun s => 0 ≤ s ∧ s < 9) rfl rfl (rng1 h2) g (fun x hx st g => by
    obtain ⟨k, st', t1, t2, t3, t4⟩ := draw_ev (st := st) (R := List.set [.va (.int n), .va (intsL ss), .va (rowsD rs), .va d4, .un, .un, .un, .un, .un, .un, .un, .un, .un, y14, .va (intsD ss), .un, .un, .un, .un, .un, .un] 3 (.va x)) (m := dC (.int 9)) (n := 9) g rfl (by omega) (by omega)
    exact ⟨k, st', t1, ⟨t2, t3⟩, t4⟩) (by rw [rng_len]; omega)
  exact ⟨on, st', sSet_to (i := 4) (dCall1 q rfl) rfl, by rw [q2, rng_len], q3, g'⟩
theorem s6_ok {st d4 : D} {y14 : Sl} {n : Nat} {ss on : List Int} {rs : List (List Int)} (g : Good st) (h2 : rs.length ≤ 9) : ∃ (ct : List Int) (st' : D), S6 [.ow st, .va (.int n), .va (intsL ss), .va (rowsD rs), .va d4, .va (intsD on), .un, .un, .un, .un, .un, .un, .un, .un, y14, .va (intsD ss), .un, .un, .un, .un, .un, .un] = .ok (.nx, [.ow st', .va (.int n), .va (intsL ss), .va (rowsD rs), .va d4, .va (intsD on), .va (intsD ct), .un, .un, .un, .un, .un, .un, .un, y14, .va (intsD ss), .un, .un, .un, .un, .un, .un]) ∧ ct.length = rs.length ∧ (∀ s, s ∈ ct → 0 ≤ s ∧ s < 4) ∧ Good st' := by
  obtain ⟨ct, st', q, q2, q3, g'⟩ := drawn_ints (st := st) (st0 := st) (R := [.va (.int n), .va (intsL ss), .va (rowsD rs), .va d4, .va (intsD on), .un, .un, .un, .un, .un, .un, .un, .un, y14, .va (intsD ss), .un, .un, .un, .un, .un, .un]) (v := 20) (s := .un) (mi := dItems (dVar 3)) (te := dCallO m__law_draw 0 (dCons (dC (.int 4)) (dNil))) (ds := rs.map intsD) (P := fun s => 0 ≤ s ∧ s < 4) rfl rfl (dItems_tup rfl) g (fun x hx st g => by
    obtain ⟨k, st', t1, t2, t3, t4⟩ := draw_ev (st := st) (R := List.set [.va (.int n), .va (intsL ss), .va (rowsD rs), .va d4, .va (intsD on), .un, .un, .un, .un, .un, .un, .un, .un, y14, .va (intsD ss), .un, .un, .un, .un, .un, .un] 20 (.va x)) (m := dC (.int 4)) (n := 4) g rfl (by omega) (by omega)
    exact ⟨k, st', t1, ⟨t2, t3⟩, t4⟩) (by rw [List.length_map]; omega)
  exact ⟨ct, st', sSet_to (i := 5) (dCall1 q rfl) rfl, by rw [q2, List.length_map], q3, g'⟩
def ledL (n : Nat) (on ct : List Int) (rs : List (List Int)) : List Int := (List.range n).map fun k => (on[k]?).getD 0 + dot ct (col rs k)
theorem s7_ok {st d4 : D} {y14 : Sl} {n : Nat} {ss on ct : List Int} {rs : List (List Int)} (hc : Chg n rs) (hon : on.length = n) (hct : ct.length = rs.length) (sct : SmallB 120 ct) : S7 [.ow st, .va (.int n), .va (intsL ss), .va (rowsD rs), .va d4, .va (intsD on), .va (intsD ct), .un, .un, .un, .un, .un, .un, .un, y14, .va (intsD ss), .un, .un, .un, .un, .un, .un] = .ok (.nx, [.ow st, .va (.int n), .va (intsL ss), .va (rowsD rs), .va d4, .va (intsD on), .va (intsD ct), .va (intsL (ledL n on ct rs)), .un, .un, .un, .un, .un, .un, y14, .va (intsD ss), .un, .un, .un, .un, .un, .un]) := by
  have hn := hc.n2
  have key : dLc (dRng (dCons (dVar 1) (dNil))) (gSet 4) (dYes) (dBin dAdd (dBin dIx (dVar 5) (dVar 4)) (dCall m__law_sum (dCons (dVar 6) (dCons (dLc (dItems (dVar 3)) (gSet 21) (dYes) (dBin dIx (dVar 21) (dVar 4)) [21]) (dNil))))) [4] [.ow st, .va (.int n), .va (intsL ss), .va (rowsD rs), .va d4, .va (intsD on), .va (intsD ct), .un, .un, .un, .un, .un, .un, .un, y14, .va (intsD ss), .un, .un, .un, .un, .un, .un] = .ok (intsL (ledL n on ct rs), [.ow st, .va (.int n), .va (intsL ss), .va (rowsD rs), .va d4, .va (intsD on), .va (intsD ct), .un, .un, .un, .un, .un, .un, .un, y14, .va (intsD ss), .un, .un, .un, .un, .un, .un]) := by
    have e : (ledL n on ct rs).map D.int = (rngD 0 1 n).map (fun d => match d with | .int k => .int ((on[k.toNat]?).getD 0 + dot ct (col rs k.toNat)) | _ => .non) := by
      unfold ledL
      rw [rng_eq, List.map_map, List.map_map]
      rfl
    unfold intsL
    rw [e]
    refine dLc_ok2 (s := .va d4) (rng1 (by omega)) rfl rfl (lcL_map _ fun d hd => ?_) (by rw [List.length_map, rng_len]; omega)
    obtain ⟨k, hk, rfl⟩ := mem_rng hd
    have io := ix_seq (seq_ints on) (k := k) (by omega)
    have lc : dLc (dItems (dVar 3)) (gSet 21) (dYes) (dBin dIx (dVar 21) (dVar 4)) [21] [.ow st, .va (.int n), .va (intsL ss), .va (rowsD rs), .va (.int k), .va (intsD on), .va (intsD ct), .un, .un, .un, .un, .un, .un, .un, y14, .va (intsD ss), .un, .un, .un, .un, .un, .un] = .ok (.lst ((col rs k).map D.int), [.ow st, .va (.int n), .va (intsL ss), .va (rowsD rs), .va (.int k), .va (intsD on), .va (intsD ct), .un, .un, .un, .un, .un, .un, .un, y14, .va (intsD ss), .un, .un, .un, .un, .un, .un]) := by
      rw [← col_map hc hk]
      refine dLc_ok2 (s := .un) (dItems_tup rfl) rfl rfl (lcL_map (f := getC k) (rs.map intsD) fun d hd => ?_) (by rw [List.length_map, List.length_map]; have := hc.l2; omega)
      obtain ⟨c, hcm, rfl⟩ := List.mem_map.mp hd
      have hcl : k < c.length := by rw [(hc.row c hcm).1]; exact hk
      rw [getC_ints hcl]
      exact ⟨[.ow st, .va (.int n), .va (intsL ss), .va (rowsD rs), .va (.int k), .va (intsD on), .va (intsD ct), .un, .un, .un, .un, .un, .un, .un, y14, .va (intsD ss), .un, .un, .un, .un, .un, .va (intsD c)], [.ow st, .va (.int n), .va (intsL ss), .va (rowsD rs), .va (.int k), .va (intsD on), .va (intsD ct), .un, .un, .un, .un, .un, .un, .un, y14, .va (intsD ss), .un, .un, .un, .un, .un, .va (intsD c)], rfl, dBin_ok rfl rfl (ix_seq (seq_ints c) hcl), rfl⟩
    have we : m__law_sum [intsD ct, .lst ((col rs k).map D.int)] = .ok (.int (dot ct (col rs k))) := sum_ok (seq_ints ct) rfl sct (col_small hc hk) (by decide) (by rw [col_len]; exact hct) (by rw [col_len]; have := hc.l2; omega)
    exact ⟨[.ow st, .va (.int n), .va (intsL ss), .va (rowsD rs), .va (.int k), .va (intsD on), .va (intsD ct), .un, .un, .un, .un, .un, .un, .un, y14, .va (intsD ss), .un, .un, .un, .un, .un, .un], [.ow st, .va (.int n), .va (intsL ss), .va (rowsD rs), .va (.int k), .va (intsD on), .va (intsD ct), .un, .un, .un, .un, .un, .un, .un, y14, .va (intsD ss), .un, .un, .un, .un, .un, .un], rfl, dBin_ok (dBin_ok rfl rfl io) (dCall2 rfl lc we) rfl, rfl⟩
  exact sSet_to (i := 6) key rfl
theorem s8_ok {st d4 : D} {y14 : Sl} {n : Nat} {ss on ct ld : List Int} {rs : List (List Int)} {B : Int} (hB : 0 ≤ B) (hl : ld.length ≤ 100) (hb : ∀ x, x ∈ ld → -B ≤ x) : ∃ low : Int, S8 [.ow st, .va (.int n), .va (intsL ss), .va (rowsD rs), .va d4, .va (intsD on), .va (intsD ct), .va (intsL ld), .un, .un, .un, .un, .un, .un, y14, .va (intsD ss), .un, .un, .un, .un, .un, .un] = .ok (.nx, [.ow st, .va (.int n), .va (intsL ss), .va (rowsD rs), .va d4, .va (intsD on), .va (intsD ct), .va (intsL ld), .va (.int low), .un, .un, .un, .un, .un, y14, .va (intsD ss), .un, .un, .un, .un, .un, .un]) ∧ 0 ≤ low ∧ low ≤ B ∧ ∀ x, x ∈ ld → 0 ≤ x + low := by
  obtain ⟨m, hm⟩ := leastOf_ne (ss := 0 :: ld) (by simp)
  obtain ⟨m1, m2⟩ := leastOf_le hm
  refine ⟨0 - m, ?_, by have := m2 0 List.mem_cons_self; omega, ?_, fun x hx => by have := m2 x (List.mem_cons_of_mem _ hx); omega⟩
  · have bm : bMin [.lst (D.int 0 :: ld.map D.int)] = .ok (.int m) := by
      have e : intsOf (D.int 0 :: ld.map D.int) = some (0 :: ld) := intsOf_map (0 :: ld)
      simp only [bMin, e, Option.bind_some, hm]
    exact sSet_to (i := 7) (dBin_ok rfl (dCall1 (dBin_ok (dLst_ok (dCons_ok rfl rfl) (by simp)) rfl (add_lst (by simp; omega))) bm) rfl) rfl
  · rcases List.mem_cons.mp m1 with e | e
    · omega
    · have := hb m e; omega
theorem s9_ok {st d4 : D} {y14 : Sl} {n : Nat} {ss on ct ld : List Int} {rs : List (List Int)} {low : Int} (h1 : on.length ≤ 1000) (h2 : ld.length ≤ 1000) : S9 [.ow st, .va (.int n), .va (intsL ss), .va (rowsD rs), .va d4, .va (intsD on), .va (intsD ct), .va (intsL ld), .va (.int low), .un, .un, .un, .un, .un, y14, .va (intsD ss), .un, .un, .un, .un, .un, .un] = .ok (.nx, [.ow st, .va (.int n), .va (intsL ss), .va (rowsD rs), .va d4, .va (intsD (on.map fun x => x + low)), .va (intsD ct), .va (intsD (ld.map fun x => x + low)), .va (.int low), .un, .un, .un, .un, .un, y14, .va (intsD ss), .un, .un, .un, .un, .un, .un]) :=
  sAsg_ok (dTup_ok (dCons_ok (dCall1 (map_lc (v := 10) (env := [.ow st, .va (.int n), .va (intsL ss), .va (rowsD rs), .va d4, .va (intsD on), .va (intsD ct), .va (intsL ld), .va (.int low), .un, .un, .un, .un, .un, y14, .va (intsD ss), .un, .un, .un, .un, .un, .un]) (s := .un) (f := fun x => x + low) (dItems_tup rfl) rfl rfl (fun i hi => dBin_ok rfl rfl rfl) h1) rfl) (dCons_ok (dCall1 (map_lc (v := 10) (env := [.ow st, .va (.int n), .va (intsL ss), .va (rowsD rs), .va d4, .va (intsD on), .va (intsD ct), .va (intsL ld), .va (.int low), .un, .un, .un, .un, .un, y14, .va (intsD ss), .un, .un, .un, .un, .un, .un]) (s := .un) (f := fun x => x + low) (dItems_lst rfl) rfl rfl (fun i hi => dBin_ok rfl rfl rfl) h2) rfl) rfl)) (by simp)) rfl
theorem s10_ok {st d4 : D} {y14 : Sl} {n : Nat} {ss oi ct ld : List Int} {ol : Int} {rs : List (List Int)} {low : Int} (h : oi.length ≤ 100) : S10 [.ow st, .va (.int n), .va (intsL ss), .va (rowsD rs), .va d4, .va (intsD (oi ++ [ol])), .va (intsD ct), .va (intsD ld), .va (.int low), .un, .un, .un, .un, .un, y14, .va (intsD ss), .un, .un, .un, .un, .un, .un] = .ok (.nx, [.ow st, .va (.int n), .va (intsL ss), .va (rowsD rs), .va d4, .va (intsD (oi ++ [ol])), .va (intsD ct), .va (intsD ld), .va (.int low), .va (intsD (oi ++ [ol + 1])), .un, .un, .un, .un, y14, .va (intsD ss), .un, .un, .un, .un, .un, .un]) :=
  sSet_to (i := 8) (last_ok rfl h) rfl
theorem s11_ok {st d4 : D} {y14 : Sl} {n : Nat} {ss on ot si ct ld : List Int} {sl : Int} {rs : List (List Int)} {low : Int} (h : si.length ≤ 100) (h2 : 2 ≤ n) (h3 : n ≤ 10) (hs : ∀ s, s ∈ si ++ [sl] → 1 ≤ s ∧ s ≤ 4) :
    S11 [.ow st, .va (.int n), .va (intsL ss), .va (rowsD rs), .va d4, .va (intsD on), .va (intsD ct), .va (intsD ld), .va (.int low), .va (intsD ot), .un, .un, .un, .un, y14, .va (intsD (si ++ [sl])), .un, .un, .un, .un, .un, .un] = .ok (.nx, [.ow st, .va (.int n), .va (intsL ss), .va (rowsD rs), .va d4, .va (intsD on), .va (intsD ct), .va (intsD ld), .va (.int low), .va (intsD ot), .va (.lst [intsD (si ++ [sl]), intsD (si ++ [sl]), intsD ((si ++ [sl]).map fun x => 0 - x), intsD ((si ++ [sl]).map fun x => x * 1000000000000), intsD (si ++ [sl + 1]), intsD (List.replicate n 0)]), .un, .un, .un, y14, .va (intsD (si ++ [sl])), .un, .un, .un, .un, .un, .un]) := by
  have hl : (si ++ [sl]).length ≤ 1000 := by simp; omega
  have t1 := map_lc (mi := dItems (dVar 15)) (te := dBin dSub (dC (.int 0)) (dVar 11)) (v := 10) (env := [.ow st, .va (.int n), .va (intsL ss), .va (rowsD rs), .va d4, .va (intsD on), .va (intsD ct), .va (intsD ld), .va (.int low), .va (intsD ot), .un, .un, .un, .un, y14, .va (intsD (si ++ [sl])), .un, .un, .un, .un, .un, .un]) (s := .un) (ws := si ++ [sl]) (f := fun x => 0 - x) (dItems_tup rfl) rfl rfl (fun i hi => dBin_ok rfl rfl rfl) hl
  have t2 := map_lc (mi := dItems (dVar 15)) (te := dBin dMul (dVar 11) (dBin dPow (dC (.int 10)) (dC (.int 12)))) (v := 10) (env := [.ow st, .va (.int n), .va (intsL ss), .va (rowsD rs), .va d4, .va (intsD on), .va (intsD ct), .va (intsD ld), .va (.int low), .va (intsD ot), .un, .un, .un, .un, y14, .va (intsD (si ++ [sl])), .un, .un, .un, .un, .un, .un]) (s := .un) (ws := si ++ [sl]) (f := fun x => x * 1000000000000) (dItems_tup rfl) rfl rfl (fun i hi => dBin_ok rfl (dBin_ok rfl rfl p12) (dMul_int (mulOk_of (m := 3) (n := 40) (by have := hs i hi; omega) (by decide) (by decide)))) hl
  have t3 := last_ok (env := [.ow st, .va (.int n), .va (intsL ss), .va (rowsD rs), .va d4, .va (intsD on), .va (intsD ct), .va (intsD ld), .va (.int low), .va (intsD ot), .un, .un, .un, .un, y14, .va (intsD (si ++ [sl])), .un, .un, .un, .un, .un, .un]) (j := 15) (i := si) (l := sl) rfl h
  have t4 : dBin dMul (dTup (dCons (dC (.int 0)) (dNil))) (dVar 1) [.ow st, .va (.int n), .va (intsL ss), .va (rowsD rs), .va d4, .va (intsD on), .va (intsD ct), .va (intsD ld), .va (.int low), .va (intsD ot), .un, .un, .un, .un, y14, .va (intsD (si ++ [sl])), .un, .un, .un, .un, .un, .un] = .ok (intsD (List.replicate n 0), [.ow st, .va (.int n), .va (intsL ss), .va (rowsD rs), .va d4, .va (intsD on), .va (intsD ct), .va (intsD ld), .va (.int low), .va (intsD ot), .un, .un, .un, .un, y14, .va (intsD (si ++ [sl])), .un, .un, .un, .un, .un, .un]) := by
    refine dBin_ok (dTup_ok (dCons_ok rfl rfl) (by simp)) rfl ?_
    rw [mulT_rep _ h2 (by omega)]
    unfold intsD
    rw [List.map_replicate]
  exact sSet_to (i := 9) (dLst_ok (dCons_ok rfl (dCons_ok rfl (dCons_ok (dCall1 t1 rfl) (dCons_ok (dCall1 t2 rfl) (dCons_ok t3 (dCons_ok t4 rfl)))))) (by simp)) rfl
end LW
end Dn

/-! P10h -/
set_option Elab.async false
set_option linter.all false
set_option maxRecDepth 100000
set_option maxHeartbeats 2000000
namespace Dn
namespace LW
open PySem
/-! ### k10: the papers: what is asked of them -/
structure Pap (n : Nat) (rs : List (List Int)) (on ld ot ct rg : List Int) : Prop where
  hc : Chg n rs
  n2 : 2 ≤ n
  hl : rs.length ≤ 9
  mo : Mrk n on
  ml : Mrk n ld
  mt : Mrk n ot
  rl : rg.length = n
  rr : ∀ s, s ∈ rg → 1 ≤ s ∧ s ≤ 4
  cl : ct.length = rs.length
  cr : ∀ s, s ∈ ct → 0 ≤ s ∧ s < 4
abbrev IF1 : Sv := (sIf (dTb (dBin dNe (dCall m__law_heard (dCons (dC (.fn 1)) (dCons (dLst (dCons (dVar 3) (dCons (dVar 5) (dCons (dVar 16) (dCons (dVar 11) (dNil)))))) (dNil)))) (dCall m__law_apart_due (dCons (dVar 3) (dCons (dVar 5) (dCons (dVar 16) (dCons (dVar 11) (dNil)))))))) (sNever) (bNil))
abbrev IF2 : Sv := (sIf (dTb (dBin dNe (dCall m__law_heard (dCons (dC (.fn 2)) (dCons (dLst (dCons (dVar 3) (dCons (dVar 5) (dCons (dVar 17) (dCons (dVar 19) (dCons (dVar 11) (dNil))))))) (dNil)))) (dCall m__law_bound_due (dCons (dVar 3) (dCons (dVar 5) (dCons (dVar 17) (dCons (dVar 19) (dCons (dVar 11) (dNil))))))))) (sNever) (bNil))
abbrev IF3 : Sv := (sIf (dTb (dBin dNe (dCall m__law_heard (dCons (dC (.fn 0)) (dCons (dLst (dCons (dVar 3) (dCons (dVar 5) (dCons (dVar 7) (dCons (dVar 11) (dCons (dVar 20) (dNil))))))) (dNil)))) (dCall m__law_counts_due (dCons (dVar 3) (dCons (dVar 5) (dCons (dVar 7) (dCons (dVar 11) (dCons (dVar 20) (dNil))))))))) (sNever) (bNil))
abbrev BD1 : Sv := (bSeq (sFor (dItems (dLst (dCons (dVar 9) (dCons (dVar 7) (dNil))))) (gSet 16) (sIf (dTb (dBin dNe (dCall m__law_heard (dCons (dC (.fn 1)) (dCons (dLst (dCons (dVar 3) (dCons (dVar 5) (dCons (dVar 16) (dCons (dVar 11) (dNil)))))) (dNil)))) (dCall m__law_apart_due (dCons (dVar 3) (dCons (dVar 5) (dCons (dVar 16) (dCons (dVar 11) (dNil)))))))) (sNever) (bNil)))
  (bSeq (sSet 17 (dCallO m__law_pick 0 (dCons (dLst (dCons (dBin dSub (dVar 1) (dC (.int 1))) (dCons (dCallO m__law_draw 0 (dCons (dVar 1) (dNil))) (dNil)))) (dNil))))
  (bSeq (sSet 18 (dBin dFdiv (dCall m__law_sum (dCons (dVar 15) (dCons (dVar 5) (dNil)))) (dBin dIx (dVar 15) (dVar 17))))
  (sFor (dItems (dLst (dCons (dVar 18) (dCons (dBin dSub (dVar 18) (dC (.int 1))) (dCons (dBin dAdd (dVar 18) (dC (.int 1))) (dCons (dNeg (dC (.int 1))) (dCons (dC .non) (dCons (dC (.bl true)) (dNil))))))))) (gSet 19) (sIf (dTb (dBin dNe (dCall m__law_heard (dCons (dC (.fn 2)) (dCons (dLst (dCons (dVar 3) (dCons (dVar 5) (dCons (dVar 17) (dCons (dVar 19) (dCons (dVar 11) (dNil))))))) (dNil)))) (dCall m__law_bound_due (dCons (dVar 3) (dCons (dVar 5) (dCons (dVar 17) (dCons (dVar 19) (dCons (dVar 11) (dNil))))))))) (sNever) (bNil))))))
theorem isOw_no {env : En} {j : Nat} {y : Sl} (h : env[j]? = some y) (hy : ∀ d, y ≠ .ow d) : isOw env j = false := by
  unfold isOw
  rw [h]
  cases y with
  | ow d => exact absurd rfl (hy d)
  | un => rfl
  | va d => rfl
theorem if1_ok {st d4 : D} {y14 yb : Sl} {n : Nat} {ss rg on ct ld ot : List Int} {rs : List (List Int)} {low : Int} {g : List Int} {o : D} {y17 y18 y19 : Sl} (p : Pap n rs on ld ot ct rg) (ho : Own o) (hg : Mrk n g) : IF1 [.ow st, .va (.int n), .va (intsL ss), .va (rowsD rs), .va d4, .va (intsD on), .va (intsD ct), .va (intsD ld), .va (.int low), .va (intsD ot), yb, .va o, .un, .un, y14, .va (intsD rg), .va (intsD g), y17, y18, y19, .un, .un] = .ok (.nx, [.ow st, .va (.int n), .va (intsL ss), .va (rowsD rs), .va d4, .va (intsD on), .va (intsD ct), .va (intsD ld), .va (.int low), .va (intsD ot), yb, .va o, .un, .un, y14, .va (intsD rg), .va (intsD g), y17, y18, y19, .un, .un]) := by
  have t := dTb_ok (dBin_ok (m1 := dCall m__law_heard (dCons (dC (.fn 1)) (dCons (dLst (dCons (dVar 3) (dCons (dVar 5) (dCons (dVar 16) (dCons (dVar 11) (dNil)))))) (dNil)))) (m2 := dCall m__law_apart_due (dCons (dVar 3) (dCons (dVar 5) (dCons (dVar 16) (dCons (dVar 11) (dNil)))))) (env := [.ow st, .va (.int n), .va (intsL ss), .va (rowsD rs), .va d4, .va (intsD on), .va (intsD ct), .va (intsD ld), .va (.int low), .va (intsD ot), yb, .va o, .un, .un, y14, .va (intsD rg), .va (intsD g), y17, y18, y19, .un, .un])
    (dCall2 rfl (dLst_ok (dCons_ok rfl (dCons_ok rfl (dCons_ok rfl (dCons_ok rfl rfl)))) (by simp)) (apart_heard p.hc p.mo hg ho)) (dCallN (dCons_ok rfl (dCons_ok rfl (dCons_ok rfl (dCons_ok rfl rfl)))) (apart_due p.hc p.mo hg ho)) apart_ne)
  exact (sIf_f t).trans rfl
theorem if2_ok {st d4 : D} {y14 yb : Sl} {n : Nat} {ss rg on ct ld ot : List Int} {rs : List (List Int)} {low : Int} {b o : D} {p0 : Nat} {y16 y18 : Sl} (p : Pap n rs on ld ot ct rg) (ho : Own o) (hb : AskI b) (hp : p0 < n) : IF2 [.ow st, .va (.int n), .va (intsL ss), .va (rowsD rs), .va d4, .va (intsD on), .va (intsD ct), .va (intsD ld), .va (.int low), .va (intsD ot), yb, .va o, .un, .un, y14, .va (intsD rg), y16, .va (.int p0), y18, .va b, .un, .un] = .ok (.nx, [.ow st, .va (.int n), .va (intsL ss), .va (rowsD rs), .va d4, .va (intsD on), .va (intsD ct), .va (intsD ld), .va (.int low), .va (intsD ot), yb, .va o, .un, .un, y14, .va (intsD rg), y16, .va (.int p0), y18, .va b, .un, .un]) := by
  have t := dTb_ok (dBin_ok (m1 := dCall m__law_heard (dCons (dC (.fn 2)) (dCons (dLst (dCons (dVar 3) (dCons (dVar 5) (dCons (dVar 17) (dCons (dVar 19) (dCons (dVar 11) (dNil))))))) (dNil)))) (m2 := dCall m__law_bound_due (dCons (dVar 3) (dCons (dVar 5) (dCons (dVar 17) (dCons (dVar 19) (dCons (dVar 11) (dNil))))))) (env := [.ow st, .va (.int n), .va (intsL ss), .va (rowsD rs), .va d4, .va (intsD on), .va (intsD ct), .va (intsD ld), .va (.int low), .va (intsD ot), yb, .va o, .un, .un, y14, .va (intsD rg), y16, .va (.int p0), y18, .va b, .un, .un])
    (dCall2 rfl (dLst_ok (dCons_ok rfl (dCons_ok rfl (dCons_ok rfl (dCons_ok rfl (dCons_ok rfl rfl))))) (by simp)) (bound_heard p.hc p.mo hp hb ho)) (dCallN (dCons_ok rfl (dCons_ok rfl (dCons_ok rfl (dCons_ok rfl (dCons_ok rfl rfl))))) (bound_due p.hc p.mo hp hb ho)) bound_ne)
  exact (sIf_f t).trans rfl
theorem if3_ok {st d4 : D} {y14 yb : Sl} {n : Nat} {ss rg on ct ld ot : List Int} {rs : List (List Int)} {low : Int} {a b : D} {y12 y13 y16 y17 y18 y19 : Sl} (p : Pap n rs on ld ot ct rg) (ho : Own a) (hb : AskI b) : IF3 [.ow st, .va (.int n), .va (intsL ss), .va (rowsD rs), .va d4, .va (intsD on), .va (intsD ct), .va (intsD ld), .va (.int low), .va (intsD ot), yb, .va a, y12, y13, y14, .va (intsD rg), y16, y17, y18, y19, .va b, .un] = .ok (.nx, [.ow st, .va (.int n), .va (intsL ss), .va (rowsD rs), .va d4, .va (intsD on), .va (intsD ct), .va (intsD ld), .va (.int low), .va (intsD ot), yb, .va a, y12, y13, y14, .va (intsD rg), y16, y17, y18, y19, .va b, .un]) := by
  have t := dTb_ok (dBin_ok (m1 := dCall m__law_heard (dCons (dC (.fn 0)) (dCons (dLst (dCons (dVar 3) (dCons (dVar 5) (dCons (dVar 7) (dCons (dVar 11) (dCons (dVar 20) (dNil))))))) (dNil)))) (m2 := dCall m__law_counts_due (dCons (dVar 3) (dCons (dVar 5) (dCons (dVar 7) (dCons (dVar 11) (dCons (dVar 20) (dNil))))))) (env := [.ow st, .va (.int n), .va (intsL ss), .va (rowsD rs), .va d4, .va (intsD on), .va (intsD ct), .va (intsD ld), .va (.int low), .va (intsD ot), yb, .va a, y12, y13, y14, .va (intsD rg), y16, y17, y18, y19, .va b, .un])
    (dCall2 rfl (dLst_ok (dCons_ok rfl (dCons_ok rfl (dCons_ok rfl (dCons_ok rfl (dCons_ok rfl rfl))))) (by simp)) (counts_heard p.hc p.mo p.ml ho hb)) (dCallN (dCons_ok rfl (dCons_ok rfl (dCons_ok rfl (dCons_ok rfl (dCons_ok rfl rfl))))) (counts_due p.hc p.mo p.ml ho hb)) counts_ne)
  exact (sIf_f t).trans rfl
theorem ask_int {i : Int} (h : i.natAbs < 2 ^ 120) : AskI (.int i) := ⟨(fun e => by cases e), fun j e => by cases e; exact h⟩
theorem ask_non : AskI .non := ⟨(fun e => by cases e), fun j e => by cases e⟩
theorem ask_bl (b : Bool) : AskI (.bl b) := ⟨(fun e => by cases e), fun j e => by cases e⟩
theorem Pap.sr {n : Nat} {rs : List (List Int)} {on ld ot ct rg : List Int} (p : Pap n rs on ld ot ct rg) : SmallB 3 rg := fun s hs => by have := p.rr s hs; show s.natAbs < 8; omega
theorem SmallB.mono {m k : Nat} {ws : List Int} (h : SmallB m ws) (hk : m ≤ k) : SmallB k ws := fun s hs => Nat.lt_of_lt_of_le (h s hs) (Nat.pow_le_pow_right (by decide) hk)
theorem bd1_ok {st d4 : D} {y14 yb : Sl} {n : Nat} {ss rg on ct ld ot : List Int} {rs : List (List Int)} {low : Int} {o : D} {y16 y17 y18 y19 : Sl} (p : Pap n rs on ld ot ct rg) (ho : Own o) (g : Good st) :
    ∃ (st' : D) (z16 z17 z18 z19 : Sl), BD1 [.ow st, .va (.int n), .va (intsL ss), .va (rowsD rs), .va d4, .va (intsD on), .va (intsD ct), .va (intsD ld), .va (.int low), .va (intsD ot), yb, .va o, .un, .un, y14, .va (intsD rg), y16, y17, y18, y19, .un, .un] = .ok (.nx, [.ow st', .va (.int n), .va (intsL ss), .va (rowsD rs), .va d4, .va (intsD on), .va (intsD ct), .va (intsD ld), .va (.int low), .va (intsD ot), yb, .va o, .un, .un, y14, .va (intsD rg), z16, z17, z18, z19, .un, .un]) ∧ Good st' := by
  have hn2 := p.hc.n2
  obtain ⟨e1, q1, z16, rfl⟩ := forL_nx (mt := gSet 16) (mb := IF1) (fun e => ∃ z16 : Sl, e = [.ow st, .va (.int n), .va (intsL ss), .va (rowsD rs), .va d4, .va (intsD on), .va (intsD ct), .va (intsD ld), .va (.int low), .va (intsD ot), yb, .va o, .un, .un, y14, .va (intsD rg), z16, y17, y18, y19, .un, .un]) [intsD ot, intsD ld] [.ow st, .va (.int n), .va (intsL ss), .va (rowsD rs), .va d4, .va (intsD on), .va (intsD ct), .va (intsD ld), .va (.int low), .va (intsD ot), yb, .va o, .un, .un, y14, .va (intsD rg), y16, y17, y18, y19, .un, .un] (by
    rintro d hd e ⟨z, rfl⟩
    simp only [List.mem_cons, List.not_mem_nil, or_false] at hd
    rcases hd with rfl | rfl
    · exact ⟨[.ow st, .va (.int n), .va (intsL ss), .va (rowsD rs), .va d4, .va (intsD on), .va (intsD ct), .va (intsD ld), .va (.int low), .va (intsD ot), yb, .va o, .un, .un, y14, .va (intsD rg), .va (intsD ot), y17, y18, y19, .un, .un], _, rfl, if1_ok p ho p.mt, _, rfl⟩
    · exact ⟨[.ow st, .va (.int n), .va (intsL ss), .va (rowsD rs), .va d4, .va (intsD on), .va (intsD ct), .va (intsD ld), .va (.int low), .va (intsD ot), yb, .va o, .un, .un, y14, .va (intsD rg), .va (intsD ld), y17, y18, y19, .un, .un], _, rfl, if1_ok p ho p.ml, _, rfl⟩) ⟨_, rfl⟩
  have it1 : dItems (dLst (dCons (dVar 9) (dCons (dVar 7) (dNil)))) [.ow st, .va (.int n), .va (intsL ss), .va (rowsD rs), .va d4, .va (intsD on), .va (intsD ct), .va (intsD ld), .va (.int low), .va (intsD ot), yb, .va o, .un, .un, y14, .va (intsD rg), y16, y17, y18, y19, .un, .un] = .ok ([intsD ot, intsD ld], [.ow st, .va (.int n), .va (intsL ss), .va (rowsD rs), .va d4, .va (intsD on), .va (intsD ct), .va (intsD ld), .va (.int low), .va (intsD ot), yb, .va o, .un, .un, y14, .va (intsD rg), y16, y17, y18, y19, .un, .un]) := dItems_lst (dLst_ok (dCons_ok rfl (dCons_ok rfl rfl)) (by simp))
  have f1 : sFor (dItems (dLst (dCons (dVar 9) (dCons (dVar 7) (dNil))))) (gSet 16) IF1 [.ow st, .va (.int n), .va (intsL ss), .va (rowsD rs), .va d4, .va (intsD on), .va (intsD ct), .va (intsD ld), .va (.int low), .va (intsD ot), yb, .va o, .un, .un, y14, .va (intsD rg), y16, y17, y18, y19, .un, .un] = .ok (.nx, [.ow st, .va (.int n), .va (intsL ss), .va (rowsD rs), .va d4, .va (intsD on), .va (intsD ct), .va (intsD ld), .va (.int low), .va (intsD ot), yb, .va o, .un, .un, y14, .va (intsD rg), z16, y17, y18, y19, .un, .un]) := by
    unfold sFor
    rw [it1, bnd_ok]
    exact q1
  obtain ⟨kk, st1, d1, k0, k1, g1⟩ := draw_ev (st := st) (R := [.va (.int n), .va (intsL ss), .va (rowsD rs), .va d4, .va (intsD on), .va (intsD ct), .va (intsD ld), .va (.int low), .va (intsD ot), yb, .va o, .un, .un, y14, .va (intsD rg), z16, y17, y18, y19, .un, .un]) (m := dVar 1) (n := n) g rfl (by have := p.n2; omega) (by omega)
  obtain ⟨pl, st2, d2, hpl, g2⟩ := pick_ev (st := st) (st1 := st1) (R := [.va (.int n), .va (intsL ss), .va (rowsD rs), .va d4, .va (intsD on), .va (intsD ct), .va (intsD ld), .va (.int low), .va (intsD ot), yb, .va o, .un, .un, y14, .va (intsD rg), z16, y17, y18, y19, .un, .un]) (m := dLst (dCons (dBin dSub (dVar 1) (dC (.int 1))) (dCons (dCallO m__law_draw 0 (dCons (dVar 1) (dNil))) (dNil)))) (xs := [.int ((n : Int) - 1), .int kk]) g1 (dLst_ok (dCons_ok (dBin_ok rfl rfl rfl) (dCons_ok d1 rfl)) (by simp)) (by simp) (by simp)
  have hp : ∃ p0 : Nat, pl = .int p0 ∧ p0 < n := by
    have := p.n2
    ((simp only [List.mem_cons, List.not_mem_nil, or_false] at hpl))
    rcases hpl with rfl | rfl
    · exact ⟨n - 1, congrArg D.int (by omega), by omega⟩
    · exact ⟨kk.toNat, congrArg D.int (by omega), by omega⟩
  obtain ⟨p0, rfl, hp0⟩ := hp
  have s2 : sSet 17 (dCallO m__law_pick 0 (dCons (dLst (dCons (dBin dSub (dVar 1) (dC (.int 1))) (dCons (dCallO m__law_draw 0 (dCons (dVar 1) (dNil))) (dNil)))) (dNil))) [.ow st, .va (.int n), .va (intsL ss), .va (rowsD rs), .va d4, .va (intsD on), .va (intsD ct), .va (intsD ld), .va (.int low), .va (intsD ot), yb, .va o, .un, .un, y14, .va (intsD rg), z16, y17, y18, y19, .un, .un] = .ok (.nx, [.ow st2, .va (.int n), .va (intsL ss), .va (rowsD rs), .va d4, .va (intsD on), .va (intsD ct), .va (intsD ld), .va (.int low), .va (intsD ot), yb, .va o, .un, .un, y14, .va (intsD rg), z16, .va (.int p0), y18, y19, .un, .un]) := sSet_to (i := 16) d2 rfl
  have ws : m__law_sum [intsD rg, intsD on] = .ok (.int (dot rg on)) := sum_ok (seq_ints rg) (seq_ints on) p.sr p.mo.small (by decide) (by rw [p.rl, p.mo.len]) (by rw [p.mo.len]; omega)
  have hrl : p0 < rg.length := by rw [p.rl]; exact hp0
  have ir : dIx (intsD rg) (.int p0) = .ok (.int ((rg[p0]?).getD 0)) := ix_seq (seq_ints rg) hrl
  have hr : 1 ≤ (rg[p0]?).getD 0 ∧ (rg[p0]?).getD 0 ≤ 4 := by rw [List.getElem?_eq_getElem hrl]; exact p.rr _ (List.getElem_mem _)
  generalize (rg[p0]?).getD 0 = r0 at ir hr
  have hdiv : divOk (dot rg on) r0 = true := divOk_of (n := 3) (by omega) (by omega) (by decide)
  have s3 : sSet 18 (dBin dFdiv (dCall m__law_sum (dCons (dVar 15) (dCons (dVar 5) (dNil)))) (dBin dIx (dVar 15) (dVar 17))) [.ow st2, .va (.int n), .va (intsL ss), .va (rowsD rs), .va d4, .va (intsD on), .va (intsD ct), .va (intsD ld), .va (.int low), .va (intsD ot), yb, .va o, .un, .un, y14, .va (intsD rg), z16, .va (.int p0), y18, y19, .un, .un] = .ok (.nx, [.ow st2, .va (.int n), .va (intsL ss), .va (rowsD rs), .va d4, .va (intsD on), .va (intsD ct), .va (intsD ld), .va (.int low), .va (intsD ot), yb, .va o, .un, .un, y14, .va (intsD rg), z16, .va (.int p0), .va (.int (dot rg on / r0)), y19, .un, .un]) :=
    sSet_to (i := 17) (dBin_ok (dCall2 rfl rfl ws) (dBin_ok rfl rfl ir) (show dFdiv (.int (dot rg on)) (.int r0) = .ok (.int (dot rg on / r0)) by simp [dIntOp, hdiv])) rfl
  have bd := dot_bound p.sr p.mo.small
  have bq : (dot rg on / r0).natAbs < 2 ^ 100 := by
    have a1 := Int.natAbs_ediv_le_natAbs (dot rg on) r0
    have a2 : rg.length * 2 ^ (3 + 60) < 2 ^ 100 := by
      have : rg.length ≤ 10 := by rw [p.rl]; exact hn2
      have e : (2 : Nat) ^ (3 + 60) = 9223372036854775808 := by decide
      have e2 : (2 : Nat) ^ 100 = 1267650600228229401496703205376 := by decide
      rw [e, e2]; omega
    omega
  generalize dot rg on / r0 = mo at s3 bq
  have E2b : (2 : Nat) ^ 100 = 1267650600228229401496703205376 := by decide
  have E2c : (2 : Nat) ^ 120 = 1329227995784915872903807060280344576 := by decide
  obtain ⟨e2, q2, z19, rfl⟩ := forL_nx (mt := gSet 19) (mb := IF2) (fun e => ∃ z19 : Sl, e = [.ow st2, .va (.int n), .va (intsL ss), .va (rowsD rs), .va d4, .va (intsD on), .va (intsD ct), .va (intsD ld), .va (.int low), .va (intsD ot), yb, .va o, .un, .un, y14, .va (intsD rg), z16, .va (.int p0), .va (.int mo), z19, .un, .un]) [.int mo, .int (mo - 1), .int (mo + 1), .int (-1), .non, .bl true] [.ow st2, .va (.int n), .va (intsL ss), .va (rowsD rs), .va d4, .va (intsD on), .va (intsD ct), .va (intsD ld), .va (.int low), .va (intsD ot), yb, .va o, .un, .un, y14, .va (intsD rg), z16, .va (.int p0), .va (.int mo), y19, .un, .un] (by
    rintro d hd e ⟨z, rfl⟩
    have ha : AskI d := by
      simp only [List.mem_cons, List.not_mem_nil, or_false] at hd
      rcases hd with rfl | rfl | rfl | rfl | rfl | rfl
      · exact ask_int (by omega)
      · exact ask_int (by omega)
      · exact ask_int (by omega)
      · exact ask_int (by decide)
      · exact ask_non
      · exact ask_bl _
    exact ⟨_, _, rfl, if2_ok p ho ha hp0, _, rfl⟩) ⟨_, rfl⟩
  have it2 : dItems (dLst (dCons (dVar 18) (dCons (dBin dSub (dVar 18) (dC (.int 1))) (dCons (dBin dAdd (dVar 18) (dC (.int 1))) (dCons (dNeg (dC (.int 1))) (dCons (dC .non) (dCons (dC (.bl true)) (dNil)))))))) [.ow st2, .va (.int n), .va (intsL ss), .va (rowsD rs), .va d4, .va (intsD on), .va (intsD ct), .va (intsD ld), .va (.int low), .va (intsD ot), yb, .va o, .un, .un, y14, .va (intsD rg), z16, .va (.int p0), .va (.int mo), y19, .un, .un] = .ok ([.int mo, .int (mo - 1), .int (mo + 1), .int (-1), .non, .bl true], [.ow st2, .va (.int n), .va (intsL ss), .va (rowsD rs), .va d4, .va (intsD on), .va (intsD ct), .va (intsD ld), .va (.int low), .va (intsD ot), yb, .va o, .un, .un, y14, .va (intsD rg), z16, .va (.int p0), .va (.int mo), y19, .un, .un]) :=
    dItems_lst (dLst_ok (dCons_ok rfl (dCons_ok (dBin_ok rfl rfl rfl) (dCons_ok (dBin_ok rfl rfl rfl) (dCons_ok rfl (dCons_ok rfl (dCons_ok rfl rfl)))))) (by simp))
  refine ⟨st2, z16, .va (.int p0), .va (.int mo), z19, ?_, g2⟩
  unfold BD1
  rw [stp f1, stp s2, stp s3]
  unfold sFor
  rw [it2, bnd_ok]
  exact q2
end LW
end Dn

/-! P10i -/
set_option Elab.async false
set_option linter.all false
set_option maxRecDepth 100000
set_option maxHeartbeats 2000000
namespace Dn
namespace LW
open PySem
theorem lt120 {i : Int} (h : i.natAbs < 2 ^ 60) : i.natAbs < 2 ^ 120 := Nat.lt_trans h (by decide)
theorem own_i {ws : List Int} (h : ws.length ≤ 100) (h2 : ∀ s, s ∈ ws → -1000000000000000 ≤ s ∧ s ≤ 1000000000000000) : Own (intsD ws) := own_ints h fun s hs => by
  have := h2 s hs
  have e : (2 : Nat) ^ 120 = 1329227995784915872903807060280344576 := by decide
  omega
theorem bad_own {n : Nat} {si on ct ld ot : List Int} {sl : Int} {rs : List (List Int)} (p : Pap n rs on ld ot ct (si ++ [sl])) : ∀ d, d ∈ ([intsD (si ++ [sl]), intsD (si ++ [sl]), intsD ((si ++ [sl]).map fun x => 0 - x), intsD ((si ++ [sl]).map fun x => x * 1000000000000), intsD (si ++ [sl + 1]), intsD (List.replicate n 0)] : List D) → Own d := by
  intro d hd
  have hl : (si ++ [sl]).length ≤ 10 := by rw [p.rl]; exact p.hc.n2
  have hl2 : si.length + 1 ≤ 10 := by simpa using hl
  have hr := p.rr
  simp only [List.mem_cons, List.not_mem_nil, or_false] at hd
  have r1 : Own (intsD (si ++ [sl])) := own_i (by omega) fun s hs => by have := hr s hs; omega
  rcases hd with rfl | rfl | rfl | rfl | rfl | rfl
  · exact r1
  · exact r1
  · refine own_i (by rw [List.length_map]; omega) fun s hs => ?_
    obtain ⟨x, hx, rfl⟩ := List.mem_map.mp hs
    have := hr x hx; omega
  · refine own_i (by rw [List.length_map]; omega) fun s hs => ?_
    obtain ⟨x, hx, rfl⟩ := List.mem_map.mp hs
    have := hr x hx; omega
  · refine own_i (by simp; omega) fun s hs => ?_
    rcases List.mem_append.mp hs with h | h
    · have := hr s (List.mem_append_left _ h); omega
    · have := hr sl (List.mem_append_right _ (List.mem_singleton.mpr rfl))
      rw [List.mem_singleton.mp h]; omega
  · refine own_i (by rw [List.length_replicate]; have := p.hc.n2; omega) fun s hs => ?_
    rw [List.eq_of_mem_replicate hs]; omega
theorem s12_ok {st d4 : D} {y14 : Sl} {n : Nat} {ss si on ct ld ot : List Int} {sl low : Int} {rs : List (List Int)} (p : Pap n rs on ld ot ct (si ++ [sl])) (g : Good st) :
    ∃ (st' : D) (y11 y16 y17 y18 y19 : Sl), S12 [.ow st, .va (.int n), .va (intsL ss), .va (rowsD rs), .va d4, .va (intsD on), .va (intsD ct), .va (intsD ld), .va (.int low), .va (intsD ot), .va (.lst [intsD (si ++ [sl]), intsD (si ++ [sl]), intsD ((si ++ [sl]).map fun x => 0 - x), intsD ((si ++ [sl]).map fun x => x * 1000000000000), intsD (si ++ [sl + 1]), intsD (List.replicate n 0)]), .un, .un, .un, y14, .va (intsD (si ++ [sl])), .un, .un, .un, .un, .un, .un] = .ok (.nx, [.ow st', .va (.int n), .va (intsL ss), .va (rowsD rs), .va d4, .va (intsD on), .va (intsD ct), .va (intsD ld), .va (.int low), .va (intsD ot), .va (.lst [intsD (si ++ [sl]), intsD (si ++ [sl]), intsD ((si ++ [sl]).map fun x => 0 - x), intsD ((si ++ [sl]).map fun x => x * 1000000000000), intsD (si ++ [sl + 1]), intsD (List.replicate n 0)]), y11, .un, .un, y14, .va (intsD (si ++ [sl])), y16, y17, y18, y19, .un, .un]) ∧ (∀ d, y11 ≠ .ow d) ∧ Good st' := by
  have hl : (si ++ [sl]).length ≤ 10 := by rw [p.rl]; exact p.hc.n2
  have hl2 : si.length + 1 ≤ 10 := by simpa using hl
  obtain ⟨bd, st1, eb, ob, g1⟩ := bent_ok (ws := si ++ [sl]) g (by simp) (by omega) (p.sr.mono (by decide))
  have it : dItems (dBin dAdd (dVar 10) (dLst (dCons (dSlice (dVar 15) (dONone) (dOSome (dNeg (dC (.int 1))))) (dCons (dCallO m__law_bent 0 (dCons (dVar 15) (dNil))) (dCons (dC .non) (dNil)))))) [.ow st, .va (.int n), .va (intsL ss), .va (rowsD rs), .va d4, .va (intsD on), .va (intsD ct), .va (intsD ld), .va (.int low), .va (intsD ot), .va (.lst [intsD (si ++ [sl]), intsD (si ++ [sl]), intsD ((si ++ [sl]).map fun x => 0 - x), intsD ((si ++ [sl]).map fun x => x * 1000000000000), intsD (si ++ [sl + 1]), intsD (List.replicate n 0)]), .un, .un, .un, y14, .va (intsD (si ++ [sl])), .un, .un, .un, .un, .un, .un] = .ok ([intsD (si ++ [sl]), intsD (si ++ [sl]), intsD ((si ++ [sl]).map fun x => 0 - x), intsD ((si ++ [sl]).map fun x => x * 1000000000000), intsD (si ++ [sl + 1]), intsD (List.replicate n 0)] ++ [intsD si, bd, .non], [.ow st1, .va (.int n), .va (intsL ss), .va (rowsD rs), .va d4, .va (intsD on), .va (intsD ct), .va (intsD ld), .va (.int low), .va (intsD ot), .va (.lst [intsD (si ++ [sl]), intsD (si ++ [sl]), intsD ((si ++ [sl]).map fun x => 0 - x), intsD ((si ++ [sl]).map fun x => x * 1000000000000), intsD (si ++ [sl + 1]), intsD (List.replicate n 0)]), .un, .un, .un, y14, .va (intsD (si ++ [sl])), .un, .un, .un, .un, .un, .un]) :=
    dItems_lst (dBin_ok rfl (dLst_ok (dCons_ok (init_ok rfl) (dCons_ok (dCallO0 (dCons_ok rfl rfl) eb) (dCons_ok rfl rfl))) (by simp)) (add_lst (by simp)))
  obtain ⟨e', q1, st2, y11, y16, y17, y18, y19, rfl, hy, g2⟩ := forL_nx (mt := gSet 11) (mb := BD1) (fun e => ∃ (st : D) (y11 y16 y17 y18 y19 : Sl), e = [.ow st, .va (.int n), .va (intsL ss), .va (rowsD rs), .va d4, .va (intsD on), .va (intsD ct), .va (intsD ld), .va (.int low), .va (intsD ot), .va (.lst [intsD (si ++ [sl]), intsD (si ++ [sl]), intsD ((si ++ [sl]).map fun x => 0 - x), intsD ((si ++ [sl]).map fun x => x * 1000000000000), intsD (si ++ [sl + 1]), intsD (List.replicate n 0)]), y11, .un, .un, y14, .va (intsD (si ++ [sl])), y16, y17, y18, y19, .un, .un] ∧ (∀ d, y11 ≠ .ow d) ∧ Good st) ([intsD (si ++ [sl]), intsD (si ++ [sl]), intsD ((si ++ [sl]).map fun x => 0 - x), intsD ((si ++ [sl]).map fun x => x * 1000000000000), intsD (si ++ [sl + 1]), intsD (List.replicate n 0)] ++ [intsD si, bd, .non]) [.ow st1, .va (.int n), .va (intsL ss), .va (rowsD rs), .va d4, .va (intsD on), .va (intsD ct), .va (intsD ld), .va (.int low), .va (intsD ot), .va (.lst [intsD (si ++ [sl]), intsD (si ++ [sl]), intsD ((si ++ [sl]).map fun x => 0 - x), intsD ((si ++ [sl]).map fun x => x * 1000000000000), intsD (si ++ [sl + 1]), intsD (List.replicate n 0)]), .un, .un, .un, y14, .va (intsD (si ++ [sl])), .un, .un, .un, .un, .un, .un] (by
    rintro d hd e ⟨st, y11, y16, y17, y18, y19, rfl, _, g⟩
    have ho : Own d := by
      rcases List.mem_append.mp hd with h | h
      · exact bad_own p d h
      · simp only [List.mem_cons, List.not_mem_nil, or_false] at h
        rcases h with rfl | rfl | rfl
        · exact own_i (by omega) fun s hs => by have := p.rr s (List.mem_append_left _ hs); omega
        · exact ob
        · exact own_of (fun e => by cases e) (fun ds e => by cases e)
    obtain ⟨st', z16, z17, z18, z19, q, g'⟩ := bd1_ok (yb := .va (.lst [intsD (si ++ [sl]), intsD (si ++ [sl]), intsD ((si ++ [sl]).map fun x => 0 - x), intsD ((si ++ [sl]).map fun x => x * 1000000000000), intsD (si ++ [sl + 1]), intsD (List.replicate n 0)])) (ss := ss) (d4 := d4) (y14 := y14) (low := low) (y16 := y16) (y17 := y17) (y18 := y18) (y19 := y19) p ho g
    exact ⟨[.ow st, .va (.int n), .va (intsL ss), .va (rowsD rs), .va d4, .va (intsD on), .va (intsD ct), .va (intsD ld), .va (.int low), .va (intsD ot), .va (.lst [intsD (si ++ [sl]), intsD (si ++ [sl]), intsD ((si ++ [sl]).map fun x => 0 - x), intsD ((si ++ [sl]).map fun x => x * 1000000000000), intsD (si ++ [sl + 1]), intsD (List.replicate n 0)]), .va d, .un, .un, y14, .va (intsD (si ++ [sl])), y16, y17, y18, y19, .un, .un], _, rfl, q, st', .va d, z16, z17, z18, z19, rfl, (fun d e => by cases e), g'⟩) ⟨st1, .un, .un, .un, .un, .un, rfl, (fun d e => by cases e), g1⟩
  refine ⟨st2, y11, y16, y17, y18, y19, ?_, hy, g2⟩
  unfold S12 sFor
  rw [it, bnd_ok]
  exact q1
theorem s13_ok {st d4 : D} {y14 : Sl} {n : Nat} {ss si on ct ld ot : List Int} {sl low : Int} {rs : List (List Int)} {y11 y16 y17 y18 y19 : Sl} (p : Pap n rs on ld ot ct (si ++ [sl])) (hy : ∀ d, y11 ≠ .ow d) : S13 [.ow st, .va (.int n), .va (intsL ss), .va (rowsD rs), .va d4, .va (intsD on), .va (intsD ct), .va (intsD ld), .va (.int low), .va (intsD ot), .va (.lst [intsD (si ++ [sl]), intsD (si ++ [sl]), intsD ((si ++ [sl]).map fun x => 0 - x), intsD ((si ++ [sl]).map fun x => x * 1000000000000), intsD (si ++ [sl + 1]), intsD (List.replicate n 0)]), y11, .un, .un, y14, .va (intsD (si ++ [sl])), y16, y17, y18, y19, .un, .un] = .ok (.nx, [.ow st, .va (.int n), .va (intsL ss), .va (rowsD rs), .va d4, .va (intsD on), .va (intsD ct), .va (intsD ld), .va (.int low), .va (intsD ot), .va (.lst [intsD (si ++ [sl]), intsD (si ++ [sl]), intsD ((si ++ [sl]).map fun x => 0 - x), intsD ((si ++ [sl]).map fun x => x * 1000000000000), intsD (si ++ [sl + 1]), intsD (List.replicate n 0)]), y11, .va (intsD (ct.map fun x => 2 * x)), .un, y14, .va (intsD (si ++ [sl])), y16, y17, y18, y19, .un, .un]) := by
  have t := map_lc (mi := dItems (dVar 6)) (te := dBin dMul (dC (.int 2)) (dVar 11)) (v := 10) (env := [.ow st, .va (.int n), .va (intsL ss), .va (rowsD rs), .va d4, .va (intsD on), .va (intsD ct), .va (intsD ld), .va (.int low), .va (intsD ot), .va (.lst [intsD (si ++ [sl]), intsD (si ++ [sl]), intsD ((si ++ [sl]).map fun x => 0 - x), intsD ((si ++ [sl]).map fun x => x * 1000000000000), intsD (si ++ [sl + 1]), intsD (List.replicate n 0)]), y11, .un, .un, y14, .va (intsD (si ++ [sl])), y16, y17, y18, y19, .un, .un]) (s := y11) (ws := ct) (f := fun x => 2 * x) (dItems_tup rfl) rfl (isOw_no rfl hy) (fun i hi => dBin_ok rfl rfl (dMul_int (mulOk_of (m := 3) (n := 3) (by decide) (by have := p.cr i hi; omega) (by decide)))) (by rw [p.cl]; have := p.hl; omega)
  exact sSet_to (i := 11) (dCall1 t rfl) rfl
theorem s14_ok {st d4 : D} {y14 : Sl} {n : Nat} {ss si on ci ld ot : List Int} {sl cl low : Int} {rs : List (List Int)} {y11 y16 y17 y18 y19 : Sl} (h : ci.length ≤ 100) : S14 [.ow st, .va (.int n), .va (intsL ss), .va (rowsD rs), .va d4, .va (intsD on), .va (intsD (ci ++ [cl])), .va (intsD ld), .va (.int low), .va (intsD ot), .va (.lst [intsD (si ++ [sl]), intsD (si ++ [sl]), intsD ((si ++ [sl]).map fun x => 0 - x), intsD ((si ++ [sl]).map fun x => x * 1000000000000), intsD (si ++ [sl + 1]), intsD (List.replicate n 0)]), y11, .va (intsD ((ci ++ [cl]).map fun x => 2 * x)), .un, y14, .va (intsD (si ++ [sl])), y16, y17, y18, y19, .un, .un] = .ok (.nx, [.ow st, .va (.int n), .va (intsL ss), .va (rowsD rs), .va d4, .va (intsD on), .va (intsD (ci ++ [cl])), .va (intsD ld), .va (.int low), .va (intsD ot), .va (.lst [intsD (si ++ [sl]), intsD (si ++ [sl]), intsD ((si ++ [sl]).map fun x => 0 - x), intsD ((si ++ [sl]).map fun x => x * 1000000000000), intsD (si ++ [sl + 1]), intsD (List.replicate n 0)]), y11, .va (intsD ((ci ++ [cl]).map fun x => 2 * x)), .va (.lst [.tup [intsD (ci ++ [cl]), .int 1], .tup [intsD ((ci ++ [cl]).map fun x => 2 * x), .int 2], .tup [intsD (ci ++ [cl]), .int 2], .tup [intsD (ci ++ [cl]), .int 0], .tup [intsD ((ci ++ [cl]).map fun x => 2 * x), .int (-2)], .tup [intsD (ci ++ [cl + 1]), .int 1], .tup [intsD ci, .int 1]]), y14, .va (intsD (si ++ [sl])), y16, y17, y18, y19, .un, .un]) := by
  have t1 := last_ok (env := [.ow st, .va (.int n), .va (intsL ss), .va (rowsD rs), .va d4, .va (intsD on), .va (intsD (ci ++ [cl])), .va (intsD ld), .va (.int low), .va (intsD ot), .va (.lst [intsD (si ++ [sl]), intsD (si ++ [sl]), intsD ((si ++ [sl]).map fun x => 0 - x), intsD ((si ++ [sl]).map fun x => x * 1000000000000), intsD (si ++ [sl + 1]), intsD (List.replicate n 0)]), y11, .va (intsD ((ci ++ [cl]).map fun x => 2 * x)), .un, y14, .va (intsD (si ++ [sl])), y16, y17, y18, y19, .un, .un]) (j := 6) (i := ci) (l := cl) rfl h
  have t2 := init_ok (env := [.ow st, .va (.int n), .va (intsL ss), .va (rowsD rs), .va d4, .va (intsD on), .va (intsD (ci ++ [cl])), .va (intsD ld), .va (.int low), .va (intsD ot), .va (.lst [intsD (si ++ [sl]), intsD (si ++ [sl]), intsD ((si ++ [sl]).map fun x => 0 - x), intsD ((si ++ [sl]).map fun x => x * 1000000000000), intsD (si ++ [sl + 1]), intsD (List.replicate n 0)]), y11, .va (intsD ((ci ++ [cl]).map fun x => 2 * x)), .un, y14, .va (intsD (si ++ [sl])), y16, y17, y18, y19, .un, .un]) (j := 6) (i := ci) (l := cl) rfl
  have pr : ∀ (m1 m2 : Ev) (a b : D), m1 [.ow st, .va (.int n), .va (intsL ss), .va (rowsD rs), .va d4, .va (intsD on), .va (intsD (ci ++ [cl])), .va (intsD ld), .va (.int low), .va (intsD ot), .va (.lst [intsD (si ++ [sl]), intsD (si ++ [sl]), intsD ((si ++ [sl]).map fun x => 0 - x), intsD ((si ++ [sl]).map fun x => x * 1000000000000), intsD (si ++ [sl + 1]), intsD (List.replicate n 0)]), y11, .va (intsD ((ci ++ [cl]).map fun x => 2 * x)), .un, y14, .va (intsD (si ++ [sl])), y16, y17, y18, y19, .un, .un] = .ok (a, [.ow st, .va (.int n), .va (intsL ss), .va (rowsD rs), .va d4, .va (intsD on), .va (intsD (ci ++ [cl])), .va (intsD ld), .va (.int low), .va (intsD ot), .va (.lst [intsD (si ++ [sl]), intsD (si ++ [sl]), intsD ((si ++ [sl]).map fun x => 0 - x), intsD ((si ++ [sl]).map fun x => x * 1000000000000), intsD (si ++ [sl + 1]), intsD (List.replicate n 0)]), y11, .va (intsD ((ci ++ [cl]).map fun x => 2 * x)), .un, y14, .va (intsD (si ++ [sl])), y16, y17, y18, y19, .un, .un]) → m2 [.ow st, .va (.int n), .va (intsL ss), .va (rowsD rs), .va d4, .va (intsD on), .va (intsD (ci ++ [cl])), .va (intsD ld), .va (.int low), .va (intsD ot), .va (.lst [intsD (si ++ [sl]), intsD (si ++ [sl]), intsD ((si ++ [sl]).map fun x => 0 - x), intsD ((si ++ [sl]).map fun x => x * 1000000000000), intsD (si ++ [sl + 1]), intsD (List.replicate n 0)]), y11, .va (intsD ((ci ++ [cl]).map fun x => 2 * x)), .un, y14, .va (intsD (si ++ [sl])), y16, y17, y18, y19, .un, .un] = .ok (b, [.ow st, .va (.int n), .va (intsL ss), .va (rowsD rs), .va d4, .va (intsD on), .va (intsD (ci ++ [cl])), .va (intsD ld), .va (.int low), .va (intsD ot), .va (.lst [intsD (si ++ [sl]), intsD (si ++ [sl]), intsD ((si ++ [sl]).map fun x => 0 - x), intsD ((si ++ [sl]).map fun x => x * 1000000000000), intsD (si ++ [sl + 1]), intsD (List.replicate n 0)]), y11, .va (intsD ((ci ++ [cl]).map fun x => 2 * x)), .un, y14, .va (intsD (si ++ [sl])), y16, y17, y18, y19, .un, .un]) → dTup (dCons m1 (dCons m2 (dNil))) [.ow st, .va (.int n), .va (intsL ss), .va (rowsD rs), .va d4, .va (intsD on), .va (intsD (ci ++ [cl])), .va (intsD ld), .va (.int low), .va (intsD ot), .va (.lst [intsD (si ++ [sl]), intsD (si ++ [sl]), intsD ((si ++ [sl]).map fun x => 0 - x), intsD ((si ++ [sl]).map fun x => x * 1000000000000), intsD (si ++ [sl + 1]), intsD (List.replicate n 0)]), y11, .va (intsD ((ci ++ [cl]).map fun x => 2 * x)), .un, y14, .va (intsD (si ++ [sl])), y16, y17, y18, y19, .un, .un] = .ok (.tup [a, b], [.ow st, .va (.int n), .va (intsL ss), .va (rowsD rs), .va d4, .va (intsD on), .va (intsD (ci ++ [cl])), .va (intsD ld), .va (.int low), .va (intsD ot), .va (.lst [intsD (si ++ [sl]), intsD (si ++ [sl]), intsD ((si ++ [sl]).map fun x => 0 - x), intsD ((si ++ [sl]).map fun x => x * 1000000000000), intsD (si ++ [sl + 1]), intsD (List.replicate n 0)]), y11, .va (intsD ((ci ++ [cl]).map fun x => 2 * x)), .un, y14, .va (intsD (si ++ [sl])), y16, y17, y18, y19, .un, .un]) := fun m1 m2 a b q1 q2 => dTup_ok (dCons_ok q1 (dCons_ok q2 rfl)) (by simp)
  exact sSet_to (i := 12) (dLst_ok (dCons_ok (pr _ _ _ _ rfl rfl) (dCons_ok (pr _ _ _ _ rfl rfl) (dCons_ok (pr _ _ _ _ rfl rfl) (dCons_ok (pr _ _ _ _ rfl rfl) (dCons_ok (pr _ _ _ _ rfl rfl) (dCons_ok (pr _ _ _ _ t1 rfl) (dCons_ok (pr _ _ _ _ t2 rfl) rfl))))))) (by simp)) rfl
def PrO (d : D) : Prop := ∃ a b, d = .tup [a, b] ∧ Own a ∧ AskI b
theorem s15_ok {st d4 : D} {y14 : Sl} {n : Nat} {ss si on ci ld ot : List Int} {sl cl low : Int} {rs : List (List Int)} {y11 y16 y17 y18 y19 : Sl} (p : Pap n rs on ld ot (ci ++ [cl]) (si ++ [sl])) (g : Good st) : ∃ (st' : D) (z11 z20 : Sl), S15 [.ow st, .va (.int n), .va (intsL ss), .va (rowsD rs), .va d4, .va (intsD on), .va (intsD (ci ++ [cl])), .va (intsD ld), .va (.int low), .va (intsD ot), .va (.lst [intsD (si ++ [sl]), intsD (si ++ [sl]), intsD ((si ++ [sl]).map fun x => 0 - x), intsD ((si ++ [sl]).map fun x => x * 1000000000000), intsD (si ++ [sl + 1]), intsD (List.replicate n 0)]), y11, .va (intsD ((ci ++ [cl]).map fun x => 2 * x)), .va (.lst [.tup [intsD (ci ++ [cl]), .int 1], .tup [intsD ((ci ++ [cl]).map fun x => 2 * x), .int 2], .tup [intsD (ci ++ [cl]), .int 2], .tup [intsD (ci ++ [cl]), .int 0], .tup [intsD ((ci ++ [cl]).map fun x => 2 * x), .int (-2)], .tup [intsD (ci ++ [cl + 1]), .int 1], .tup [intsD ci, .int 1]]), y14, .va (intsD (si ++ [sl])), y16, y17, y18, y19, .un, .un] = .ok (.nx, [.ow st', .va (.int n), .va (intsL ss), .va (rowsD rs), .va d4, .va (intsD on), .va (intsD (ci ++ [cl])), .va (intsD ld), .va (.int low), .va (intsD ot), .va (.lst [intsD (si ++ [sl]), intsD (si ++ [sl]), intsD ((si ++ [sl]).map fun x => 0 - x), intsD ((si ++ [sl]).map fun x => x * 1000000000000), intsD (si ++ [sl + 1]), intsD (List.replicate n 0)]), z11, .va (intsD ((ci ++ [cl]).map fun x => 2 * x)), .va (.lst [.tup [intsD (ci ++ [cl]), .int 1], .tup [intsD ((ci ++ [cl]).map fun x => 2 * x), .int 2], .tup [intsD (ci ++ [cl]), .int 2], .tup [intsD (ci ++ [cl]), .int 0], .tup [intsD ((ci ++ [cl]).map fun x => 2 * x), .int (-2)], .tup [intsD (ci ++ [cl + 1]), .int 1], .tup [intsD ci, .int 1]]), y14, .va (intsD (si ++ [sl])), y16, y17, y18, y19, z20, .un]) ∧ Good st' := by
  have hcl : (ci ++ [cl]).length ≤ 9 := by rw [p.cl]; exact p.hl
  have hcl2 : ci.length + 1 ≤ 9 := by simpa using hcl
  have sc : SmallB 100 (ci ++ [cl]) := fun s hs => by
    have := p.cr s hs
    have e : (2 : Nat) ^ 100 = 1267650600228229401496703205376 := by decide
    omega
  obtain ⟨bd, st1, eb, ob, g1⟩ := bent_ok (ws := (ci ++ [cl])) g (by simp) (by omega) sc
  have pr : ∀ (st : D) (m1 m2 : Ev) (a b : D) (st' : D), m1 [.ow st, .va (.int n), .va (intsL ss), .va (rowsD rs), .va d4, .va (intsD on), .va (intsD (ci ++ [cl])), .va (intsD ld), .va (.int low), .va (intsD ot), .va (.lst [intsD (si ++ [sl]), intsD (si ++ [sl]), intsD ((si ++ [sl]).map fun x => 0 - x), intsD ((si ++ [sl]).map fun x => x * 1000000000000), intsD (si ++ [sl + 1]), intsD (List.replicate n 0)]), y11, .va (intsD ((ci ++ [cl]).map fun x => 2 * x)), .va (.lst [.tup [intsD (ci ++ [cl]), .int 1], .tup [intsD ((ci ++ [cl]).map fun x => 2 * x), .int 2], .tup [intsD (ci ++ [cl]), .int 2], .tup [intsD (ci ++ [cl]), .int 0], .tup [intsD ((ci ++ [cl]).map fun x => 2 * x), .int (-2)], .tup [intsD (ci ++ [cl + 1]), .int 1], .tup [intsD ci, .int 1]]), y14, .va (intsD (si ++ [sl])), y16, y17, y18, y19, .un, .un] = .ok (a, [.ow st', .va (.int n), .va (intsL ss), .va (rowsD rs), .va d4, .va (intsD on), .va (intsD (ci ++ [cl])), .va (intsD ld), .va (.int low), .va (intsD ot), .va (.lst [intsD (si ++ [sl]), intsD (si ++ [sl]), intsD ((si ++ [sl]).map fun x => 0 - x), intsD ((si ++ [sl]).map fun x => x * 1000000000000), intsD (si ++ [sl + 1]), intsD (List.replicate n 0)]), y11, .va (intsD ((ci ++ [cl]).map fun x => 2 * x)), .va (.lst [.tup [intsD (ci ++ [cl]), .int 1], .tup [intsD ((ci ++ [cl]).map fun x => 2 * x), .int 2], .tup [intsD (ci ++ [cl]), .int 2], .tup [intsD (ci ++ [cl]), .int 0], .tup [intsD ((ci ++ [cl]).map fun x => 2 * x), .int (-2)], .tup [intsD (ci ++ [cl + 1]), .int 1], .tup [intsD ci, .int 1]]), y14, .va (intsD (si ++ [sl])), y16, y17, y18, y19, .un, .un]) → m2 [.ow st', .va (.int n), .va (intsL ss), .va (rowsD rs), .va d4, .va (intsD on), .va (intsD (ci ++ [cl])), .va (intsD ld), .va (.int low), .va (intsD ot), .va (.lst [intsD (si ++ [sl]), intsD (si ++ [sl]), intsD ((si ++ [sl]).map fun x => 0 - x), intsD ((si ++ [sl]).map fun x => x * 1000000000000), intsD (si ++ [sl + 1]), intsD (List.replicate n 0)]), y11, .va (intsD ((ci ++ [cl]).map fun x => 2 * x)), .va (.lst [.tup [intsD (ci ++ [cl]), .int 1], .tup [intsD ((ci ++ [cl]).map fun x => 2 * x), .int 2], .tup [intsD (ci ++ [cl]), .int 2], .tup [intsD (ci ++ [cl]), .int 0], .tup [intsD ((ci ++ [cl]).map fun x => 2 * x), .int (-2)], .tup [intsD (ci ++ [cl + 1]), .int 1], .tup [intsD ci, .int 1]]), y14, .va (intsD (si ++ [sl])), y16, y17, y18, y19, .un, .un] = .ok (b, [.ow st', .va (.int n), .va (intsL ss), .va (rowsD rs), .va d4, .va (intsD on), .va (intsD (ci ++ [cl])), .va (intsD ld), .va (.int low), .va (intsD ot), .va (.lst [intsD (si ++ [sl]), intsD (si ++ [sl]), intsD ((si ++ [sl]).map fun x => 0 - x), intsD ((si ++ [sl]).map fun x => x * 1000000000000), intsD (si ++ [sl + 1]), intsD (List.replicate n 0)]), y11, .va (intsD ((ci ++ [cl]).map fun x => 2 * x)), .va (.lst [.tup [intsD (ci ++ [cl]), .int 1], .tup [intsD ((ci ++ [cl]).map fun x => 2 * x), .int 2], .tup [intsD (ci ++ [cl]), .int 2], .tup [intsD (ci ++ [cl]), .int 0], .tup [intsD ((ci ++ [cl]).map fun x => 2 * x), .int (-2)], .tup [intsD (ci ++ [cl + 1]), .int 1], .tup [intsD ci, .int 1]]), y14, .va (intsD (si ++ [sl])), y16, y17, y18, y19, .un, .un]) → dTup (dCons m1 (dCons m2 (dNil))) [.ow st, .va (.int n), .va (intsL ss), .va (rowsD rs), .va d4, .va (intsD on), .va (intsD (ci ++ [cl])), .va (intsD ld), .va (.int low), .va (intsD ot), .va (.lst [intsD (si ++ [sl]), intsD (si ++ [sl]), intsD ((si ++ [sl]).map fun x => 0 - x), intsD ((si ++ [sl]).map fun x => x * 1000000000000), intsD (si ++ [sl + 1]), intsD (List.replicate n 0)]), y11, .va (intsD ((ci ++ [cl]).map fun x => 2 * x)), .va (.lst [.tup [intsD (ci ++ [cl]), .int 1], .tup [intsD ((ci ++ [cl]).map fun x => 2 * x), .int 2], .tup [intsD (ci ++ [cl]), .int 2], .tup [intsD (ci ++ [cl]), .int 0], .tup [intsD ((ci ++ [cl]).map fun x => 2 * x), .int (-2)], .tup [intsD (ci ++ [cl + 1]), .int 1], .tup [intsD ci, .int 1]]), y14, .va (intsD (si ++ [sl])), y16, y17, y18, y19, .un, .un] = .ok (.tup [a, b], [.ow st', .va (.int n), .va (intsL ss), .va (rowsD rs), .va d4, .va (intsD on), .va (intsD (ci ++ [cl])), .va (intsD ld), .va (.int low), .va (intsD ot), .va (.lst [intsD (si ++ [sl]), intsD (si ++ [sl]), intsD ((si ++ [sl]).map fun x => 0 - x), intsD ((si ++ [sl]).map fun x => x * 1000000000000), intsD (si ++ [sl + 1]), intsD (List.replicate n 0)]), y11, .va (intsD ((ci ++ [cl]).map fun x => 2 * x)), .va (.lst [.tup [intsD (ci ++ [cl]), .int 1], .tup [intsD ((ci ++ [cl]).map fun x => 2 * x), .int 2], .tup [intsD (ci ++ [cl]), .int 2], .tup [intsD (ci ++ [cl]), .int 0], .tup [intsD ((ci ++ [cl]).map fun x => 2 * x), .int (-2)], .tup [intsD (ci ++ [cl + 1]), .int 1], .tup [intsD ci, .int 1]]), y14, .va (intsD (si ++ [sl])), y16, y17, y18, y19, .un, .un]) := fun st m1 m2 a b st' q1 q2 => dTup_ok (dCons_ok q1 (dCons_ok q2 rfl)) (by simp)
  have it : dItems (dBin dAdd (dVar 13) (dLst (dCons (dTup (dCons (dCallO m__law_bent 0 (dCons (dVar 6) (dNil))) (dCons (dC (.int 1)) (dNil)))) (dCons (dTup (dCons (dC .non) (dCons (dC (.int 1)) (dNil)))) (dCons (dTup (dCons (dVar 6) (dCons (dC (.bl true)) (dNil)))) (dCons (dTup (dCons (dVar 6) (dCons (dC .non) (dNil)))) (dNil))))))) [.ow st, .va (.int n), .va (intsL ss), .va (rowsD rs), .va d4, .va (intsD on), .va (intsD (ci ++ [cl])), .va (intsD ld), .va (.int low), .va (intsD ot), .va (.lst [intsD (si ++ [sl]), intsD (si ++ [sl]), intsD ((si ++ [sl]).map fun x => 0 - x), intsD ((si ++ [sl]).map fun x => x * 1000000000000), intsD (si ++ [sl + 1]), intsD (List.replicate n 0)]), y11, .va (intsD ((ci ++ [cl]).map fun x => 2 * x)), .va (.lst [.tup [intsD (ci ++ [cl]), .int 1], .tup [intsD ((ci ++ [cl]).map fun x => 2 * x), .int 2], .tup [intsD (ci ++ [cl]), .int 2], .tup [intsD (ci ++ [cl]), .int 0], .tup [intsD ((ci ++ [cl]).map fun x => 2 * x), .int (-2)], .tup [intsD (ci ++ [cl + 1]), .int 1], .tup [intsD ci, .int 1]]), y14, .va (intsD (si ++ [sl])), y16, y17, y18, y19, .un, .un] = .ok ([.tup [intsD (ci ++ [cl]), .int 1], .tup [intsD ((ci ++ [cl]).map fun x => 2 * x), .int 2], .tup [intsD (ci ++ [cl]), .int 2], .tup [intsD (ci ++ [cl]), .int 0], .tup [intsD ((ci ++ [cl]).map fun x => 2 * x), .int (-2)], .tup [intsD (ci ++ [cl + 1]), .int 1], .tup [intsD ci, .int 1]] ++ [.tup [bd, .int 1], .tup [.non, .int 1], .tup [intsD (ci ++ [cl]), .bl true], .tup [intsD (ci ++ [cl]), .non]], [.ow st1, .va (.int n), .va (intsL ss), .va (rowsD rs), .va d4, .va (intsD on), .va (intsD (ci ++ [cl])), .va (intsD ld), .va (.int low), .va (intsD ot), .va (.lst [intsD (si ++ [sl]), intsD (si ++ [sl]), intsD ((si ++ [sl]).map fun x => 0 - x), intsD ((si ++ [sl]).map fun x => x * 1000000000000), intsD (si ++ [sl + 1]), intsD (List.replicate n 0)]), y11, .va (intsD ((ci ++ [cl]).map fun x => 2 * x)), .va (.lst [.tup [intsD (ci ++ [cl]), .int 1], .tup [intsD ((ci ++ [cl]).map fun x => 2 * x), .int 2], .tup [intsD (ci ++ [cl]), .int 2], .tup [intsD (ci ++ [cl]), .int 0], .tup [intsD ((ci ++ [cl]).map fun x => 2 * x), .int (-2)], .tup [intsD (ci ++ [cl + 1]), .int 1], .tup [intsD ci, .int 1]]), y14, .va (intsD (si ++ [sl])), y16, y17, y18, y19, .un, .un]) :=
    dItems_lst (dBin_ok rfl (dLst_ok (dCons_ok (pr st _ _ _ _ st1 (dCallO0 (dCons_ok rfl rfl) eb) rfl) (dCons_ok (pr st1 _ _ _ _ st1 rfl rfl) (dCons_ok (pr st1 _ _ _ _ st1 rfl rfl) (dCons_ok (pr st1 _ _ _ _ st1 rfl rfl) rfl)))) (by simp)) (add_lst (by simp)))
  have oc : Own (intsD (ci ++ [cl])) := own_i (by omega) fun s hs => by have := p.cr s hs; omega
  have od : Own (intsD ((ci ++ [cl]).map fun x => 2 * x)) := own_i (by rw [List.length_map]; omega) fun s hs => by
    obtain ⟨x, hx, rfl⟩ := List.mem_map.mp hs
    have := p.cr x hx; omega
  have ol : Own (intsD (ci ++ [cl + 1])) := own_i (by simp; omega) fun s hs => by
    rcases List.mem_append.mp hs with h | h
    · have := p.cr s (List.mem_append_left _ h); omega
    · have := p.cr cl (List.mem_append_right _ (List.mem_singleton.mpr rfl))
      rw [List.mem_singleton.mp h]; omega
  have oi : Own (intsD ci) := own_i (by omega) fun s hs => by have := p.cr s (List.mem_append_left _ hs); omega
  have all : ∀ d, d ∈ ([.tup [intsD (ci ++ [cl]), .int 1], .tup [intsD ((ci ++ [cl]).map fun x => 2 * x), .int 2], .tup [intsD (ci ++ [cl]), .int 2], .tup [intsD (ci ++ [cl]), .int 0], .tup [intsD ((ci ++ [cl]).map fun x => 2 * x), .int (-2)], .tup [intsD (ci ++ [cl + 1]), .int 1], .tup [intsD ci, .int 1]] ++ [.tup [bd, .int 1], .tup [.non, .int 1], .tup [intsD (ci ++ [cl]), .bl true], .tup [intsD (ci ++ [cl]), .non]] : List D) → PrO d := by
    intro d hd
    simp only [List.mem_append, List.mem_cons, List.not_mem_nil, or_false] at hd
    rcases hd with (rfl | rfl | rfl | rfl | rfl | rfl | rfl) | rfl | rfl | rfl | rfl
    · exact ⟨_, _, rfl, oc, ask_int (by decide)⟩
    · exact ⟨_, _, rfl, od, ask_int (by decide)⟩
    · exact ⟨_, _, rfl, oc, ask_int (by decide)⟩
    · exact ⟨_, _, rfl, oc, ask_int (by decide)⟩
    · exact ⟨_, _, rfl, od, ask_int (by decide)⟩
    · exact ⟨_, _, rfl, ol, ask_int (by decide)⟩
    · exact ⟨_, _, rfl, oi, ask_int (by decide)⟩
    · exact ⟨_, _, rfl, ob, ask_int (by decide)⟩
    · exact ⟨_, _, rfl, own_of (fun e => by cases e) (fun ds e => by cases e), ask_int (by decide)⟩
    · exact ⟨_, _, rfl, oc, ask_bl _⟩
    · exact ⟨_, _, rfl, oc, ask_non⟩
  obtain ⟨e', q1, z11, z20, rfl⟩ := forL_nx (mt := gTupD (lenOf 2 (gsCons (gSet 11) (gsCons (gSet 20) (gsNil))))) (mb := IF3) (fun e => ∃ z11 z20 : Sl, e = [.ow st1, .va (.int n), .va (intsL ss), .va (rowsD rs), .va d4, .va (intsD on), .va (intsD (ci ++ [cl])), .va (intsD ld), .va (.int low), .va (intsD ot), .va (.lst [intsD (si ++ [sl]), intsD (si ++ [sl]), intsD ((si ++ [sl]).map fun x => 0 - x), intsD ((si ++ [sl]).map fun x => x * 1000000000000), intsD (si ++ [sl + 1]), intsD (List.replicate n 0)]), z11, .va (intsD ((ci ++ [cl]).map fun x => 2 * x)), .va (.lst [.tup [intsD (ci ++ [cl]), .int 1], .tup [intsD ((ci ++ [cl]).map fun x => 2 * x), .int 2], .tup [intsD (ci ++ [cl]), .int 2], .tup [intsD (ci ++ [cl]), .int 0], .tup [intsD ((ci ++ [cl]).map fun x => 2 * x), .int (-2)], .tup [intsD (ci ++ [cl + 1]), .int 1], .tup [intsD ci, .int 1]]), y14, .va (intsD (si ++ [sl])), y16, y17, y18, y19, z20, .un]) _ [.ow st1, .va (.int n), .va (intsL ss), .va (rowsD rs), .va d4, .va (intsD on), .va (intsD (ci ++ [cl])), .va (intsD ld), .va (.int low), .va (intsD ot), .va (.lst [intsD (si ++ [sl]), intsD (si ++ [sl]), intsD ((si ++ [sl]).map fun x => 0 - x), intsD ((si ++ [sl]).map fun x => x * 1000000000000), intsD (si ++ [sl + 1]), intsD (List.replicate n 0)]), y11, .va (intsD ((ci ++ [cl]).map fun x => 2 * x)), .va (.lst [.tup [intsD (ci ++ [cl]), .int 1], .tup [intsD ((ci ++ [cl]).map fun x => 2 * x), .int 2], .tup [intsD (ci ++ [cl]), .int 2], .tup [intsD (ci ++ [cl]), .int 0], .tup [intsD ((ci ++ [cl]).map fun x => 2 * x), .int (-2)], .tup [intsD (ci ++ [cl + 1]), .int 1], .tup [intsD ci, .int 1]]), y14, .va (intsD (si ++ [sl])), y16, y17, y18, y19, .un, .un] (by
    rintro d hd e ⟨z11, z20, rfl⟩
    obtain ⟨a, b, rfl, ha, hb⟩ := all d hd
    exact ⟨[.ow st1, .va (.int n), .va (intsL ss), .va (rowsD rs), .va d4, .va (intsD on), .va (intsD (ci ++ [cl])), .va (intsD ld), .va (.int low), .va (intsD ot), .va (.lst [intsD (si ++ [sl]), intsD (si ++ [sl]), intsD ((si ++ [sl]).map fun x => 0 - x), intsD ((si ++ [sl]).map fun x => x * 1000000000000), intsD (si ++ [sl + 1]), intsD (List.replicate n 0)]), .va a, .va (intsD ((ci ++ [cl]).map fun x => 2 * x)), .va (.lst [.tup [intsD (ci ++ [cl]), .int 1], .tup [intsD ((ci ++ [cl]).map fun x => 2 * x), .int 2], .tup [intsD (ci ++ [cl]), .int 2], .tup [intsD (ci ++ [cl]), .int 0], .tup [intsD ((ci ++ [cl]).map fun x => 2 * x), .int (-2)], .tup [intsD (ci ++ [cl + 1]), .int 1], .tup [intsD ci, .int 1]]), y14, .va (intsD (si ++ [sl])), y16, y17, y18, y19, .va b, .un], _, rfl, if3_ok p ha hb, _, _, rfl⟩) ⟨_, _, rfl⟩
  refine ⟨st1, z11, z20, ?_, g1⟩
  unfold S15 sFor
  rw [it, bnd_ok]
  exact q1
theorem col_small4 {n : Nat} {cs : List (List Int)} (h : Chg n cs) (h4 : ∀ r, r ∈ cs → SmallB 4 r) {k : Nat} (hk : k < n) : SmallB 4 (col cs k) := fun x hx => by
  obtain ⟨c, hc, rfl⟩ := List.mem_map.mp hx
  have hl := (h.row c hc).1
  rw [List.getElem?_eq_getElem (by omega)]
  exact h4 c hc _ (List.getElem_mem _)
theorem papers_ok {st : D} (g : Good st) : ∃ st', m__law_papers_hold st [] = .ok (.bl true, st') ∧ Good st' := by
  obtain ⟨n, st1, s0, n2, n3, g1⟩ := s0_ok g
  obtain ⟨ss, st2, s1, sl1, sr, g2⟩ := s1_ok (n := n) g1 n2 n3
  obtain ⟨rs, d4, y14, s3, hc, r4, rl⟩ := s3_ok (st := st2) n2 n3 sl1 sr
  obtain ⟨on, st3, s5, ol1, orr, g3⟩ := s5_ok (d4 := d4) (y14 := y14) (n := n) (ss := ss) (rs := rs) g2 n3
  obtain ⟨ct, st4, s6, cl1, cr, g4⟩ := s6_ok (d4 := d4) (y14 := y14) (n := n) (ss := ss) (rs := rs) (on := on) g3 rl
  have sct : SmallB 2 ct := fun s hs => by have := cr s hs; show s.natAbs < 4; omega
  have s7 := s7_ok (st := st4) (d4 := d4) (y14 := y14) (ss := ss) hc ol1 cl1 (sct.mono (by decide))
  have lb : ∀ x, x ∈ ledL n on ct rs → -576 ≤ x ∧ x ≤ 600 := by
    intro x hx
    obtain ⟨k, hk, rfl⟩ := List.mem_map.mp hx
    have hk := List.mem_range.mp hk
    have b := dot_bound sct (col_small4 hc r4 hk)
    have o := orr ((on[k]?).getD 0) (by rw [List.getElem?_eq_getElem (by omega)]; exact List.getElem_mem _)
    have e : (2 : Nat) ^ (2 + 4) = 64 := by decide
    rw [e] at b
    have : ct.length ≤ 9 := by omega
    omega
  have ll : (ledL n on ct rs).length = n := by unfold ledL; rw [List.length_map, List.length_range]
  obtain ⟨low, s8, w0, w1, w2⟩ := s8_ok (st := st4) (d4 := d4) (y14 := y14) (n := n) (ss := ss) (on := on) (ct := ct) (rs := rs) (ld := ledL n on ct rs) (B := 576) (by decide) (by omega) (fun x hx => (lb x hx).1)
  have s9 := s9_ok (st := st4) (d4 := d4) (y14 := y14) (n := n) (ss := ss) (on := on) (ct := ct) (rs := rs) (ld := ledL n on ct rs) (low := low) (by omega) (by omega)
  have mo : Mrk n (on.map fun x => x + low) := ⟨by rw [List.length_map]; exact ol1, fun x hx => by
    obtain ⟨y, hy, rfl⟩ := List.mem_map.mp hx
    have := orr y hy; omega⟩
  have ml : Mrk n ((ledL n on ct rs).map fun x => x + low) := ⟨by rw [List.length_map]; exact ll, fun x hx => by
    obtain ⟨y, hy, rfl⟩ := List.mem_map.mp hx
    have := lb y hy; have := w2 y hy; omega⟩
  have mob : ∀ x, x ∈ (on.map fun x => x + low) → x ≤ 1000 := fun x hx => by
    obtain ⟨y, hy, rfl⟩ := List.mem_map.mp hx
    have := orr y hy; omega
  generalize (on.map fun x => x + low) = on1 at s9 mo mob
  generalize ((ledL n on ct rs).map fun x => x + low) = ld1 at s9 ml
  obtain ⟨oi, ol, rfl⟩ := ends_last (ss := on1) (by intro z; have := mo.len; rw [z] at this; simp at this; omega)
  have oil : oi.length + 1 = n := by have := mo.len; simpa using this
  have s10 := s10_ok (st := st4) (d4 := d4) (y14 := y14) (n := n) (ss := ss) (ct := ct) (rs := rs) (ld := ld1) (low := low) (oi := oi) (ol := ol) (by omega)
  have mt : Mrk n (oi ++ [ol + 1]) := ⟨by simp; omega, fun x hx => by
    rcases List.mem_append.mp hx with h | h
    · exact mo.rng x (List.mem_append_left _ h)
    · have a := mo.rng ol (List.mem_append_right _ (List.mem_singleton.mpr rfl))
      have b := mob ol (List.mem_append_right _ (List.mem_singleton.mpr rfl))
      rw [List.mem_singleton.mp h]; omega⟩
  obtain ⟨si, sl, rfl⟩ := ends_last (ss := ss) (by intro z; rw [z] at sl1; simp at sl1; omega)
  have sil : si.length + 1 = n := by simpa using sl1
  obtain ⟨ci, cl, rfl⟩ := ends_last (ss := ct) (by intro z; rw [z] at cl1; simp at cl1; have := hc.l1; omega)
  have cil : ci.length + 1 = rs.length := by simpa using cl1
  have p : Pap n rs (oi ++ [ol]) ld1 (oi ++ [ol + 1]) (ci ++ [cl]) (si ++ [sl]) := ⟨hc, n2, rl, mo, ml, mt, sl1, sr, cl1, cr⟩
  have s11 := s11_ok (st := st4) (d4 := d4) (y14 := y14) (n := n) (ss := si ++ [sl]) (on := oi ++ [ol]) (ot := oi ++ [ol + 1]) (ct := ci ++ [cl]) (rs := rs) (ld := ld1) (low := low) (by omega) n2 n3 sr
  obtain ⟨st5, y11, y16, y17, y18, y19, s12, hy, g5⟩ := s12_ok (d4 := d4) (y14 := y14) (ss := si ++ [sl]) (low := low) p g4
  have s13 := s13_ok (st := st5) (d4 := d4) (y14 := y14) (ss := si ++ [sl]) (low := low) (y16 := y16) (y17 := y17) (y18 := y18) (y19 := y19) p hy
  have s14 := s14_ok (st := st5) (d4 := d4) (y14 := y14) (n := n) (ss := si ++ [sl]) (si := si) (sl := sl) (on := oi ++ [ol]) (ot := oi ++ [ol + 1]) (ci := ci) (cl := cl) (rs := rs) (ld := ld1) (low := low) (y11 := y11) (y16 := y16) (y17 := y17) (y18 := y18) (y19 := y19) (by omega)
  obtain ⟨st6, z11, z20, s15, g6⟩ := s15_ok (d4 := d4) (y14 := y14) (ss := si ++ [sl]) (low := low) (y11 := y11) (y16 := y16) (y17 := y17) (y18 := y18) (y19 := y19) p g5
  refine ⟨st6, ?_, g6⟩
  unfold m__law_papers_hold b__law_papers_hold
  rw [show enterO 22 st [] = [.ow st, .un, .un, .un, .un, .un, .un, .un, .un, .un, .un, .un, .un, .un, .un, .un, .un, .un, .un, .un, .un, .un] from rfl]
  rw [stp s0, stp s1]
  rw [stp (e' := [.ow st2, .va (.int n), .va (intsL (si ++ [sl])), .ow (.lst []), .un, .un, .un, .un, .un, .un, .un, .un, .un, .un, .un, .un, .un, .un, .un, .un, .un, .un]) rfl]
  rw [stp s3, stp s4_ok, stp s5, stp s6, stp s7, stp s8, stp s9, stp s10, stp s11, stp s12, stp s13, stp s14, stp s15]
  rfl
end LW
end Dn

/-! P10j -/
set_option Elab.async false
set_option linter.all false
set_option maxRecDepth 100000
set_option maxHeartbeats 2000000
namespace Dn
namespace LW
open PySem
/-! ### k10: less -/
abbrev T0 : Sv := sSet 1 (dCall bTuple (dCons (dLc (dRng (dCons (dBin dAdd (dC (.int 1)) (dCallO m__law_draw 0 (dCons (dC (.int 2)) (dNil)))) (dNil))) (gSet 3) (dYes) (dCall bTuple (dCons (dLc (dRng (dCons (dC (.int 3)) (dNil))) (gSet 6) (dYes) (dBin dSub (dCallO m__law_draw 0 (dCons (dC (.int 4)) (dNil))) (dC (.int 2))) [6]) (dNil))) [3]) (dNil)))
abbrev T1 : Sv := sSet 2 (dCall bTuple (dCons (dLc (dRng (dCons (dC (.int 3)) (dNil))) (gSet 6) (dYes) (dCallO m__law_draw 0 (dCons (dC (.int 6)) (dNil))) [6]) (dNil)))
abbrev T2 : Sv := sFor (dRng (dCons (dC (.int 6)) (dNil))) (gSet 3) (bSeq (sPar 5 6 (dCons (dCall bTuple (dCons (dLc (dRng (dCons (dC (.int 3)) (dNil))) (gSet 3) (dYes) (dCallO m__law_draw 0 (dCons (dC (.int 4)) (dNil))) [3]) (dNil))) (dCons (dCallO m__law_draw 0 (dCons (dC (.int 3)) (dNil))) (dNil))))
  (bSeq (sSet 4 (dCallO m__law_draw 0 (dCons (dC (.int 20)) (dNil))))
  (sIf (dTb (dBin dNe (dCall m__law_heard (dCons (dC (.fn 2)) (dCons (dLst (dCons (dVar 1) (dCons (dVar 2) (dCons (dVar 6) (dCons (dVar 4) (dCons (dVar 5) (dNil))))))) (dNil)))) (dCall m__law_bound_due (dCons (dVar 1) (dCons (dVar 2) (dCons (dVar 6) (dCons (dVar 4) (dCons (dVar 5) (dNil))))))))) (sNever) (bNil))))
abbrev T3 : Sv := sRet (dC (.bl true))
abbrev TB : Sv := (bSeq (sPar 5 6 (dCons (dCall bTuple (dCons (dLc (dRng (dCons (dC (.int 3)) (dNil))) (gSet 3) (dYes) (dCallO m__law_draw 0 (dCons (dC (.int 4)) (dNil))) [3]) (dNil))) (dCons (dCallO m__law_draw 0 (dCons (dC (.int 3)) (dNil))) (dNil))))
  (bSeq (sSet 4 (dCallO m__law_draw 0 (dCons (dC (.int 20)) (dNil))))
  (sIf (dTb (dBin dNe (dCall m__law_heard (dCons (dC (.fn 2)) (dCons (dLst (dCons (dVar 1) (dCons (dVar 2) (dCons (dVar 6) (dCons (dVar 4) (dCons (dVar 5) (dNil))))))) (dNil)))) (dCall m__law_bound_due (dCons (dVar 1) (dCons (dVar 2) (dCons (dVar 6) (dCons (dVar 4) (dCons (dVar 5) (dNil))))))))) (sNever) (bNil))))
abbrev TI : Sv := (sIf (dTb (dBin dNe (dCall m__law_heard (dCons (dC (.fn 2)) (dCons (dLst (dCons (dVar 1) (dCons (dVar 2) (dCons (dVar 6) (dCons (dVar 4) (dCons (dVar 5) (dNil))))))) (dNil)))) (dCall m__law_bound_due (dCons (dVar 1) (dCons (dVar 2) (dCons (dVar 6) (dCons (dVar 4) (dCons (dVar 5) (dNil))))))))) (sNever) (bNil))
theorem rngc {n : Nat} (h : n ≤ 1000) {env : En} : dRng (dCons (dC (.int n)) (dNil)) env = .ok (rngD 0 1 n, env) := dRng_ok (n := n) (dCons_ok rfl rfl) (smallI_of_le (by omega) (by omega))
theorem t0_ok {st : D} (g : Good st) : ∃ (cs : List (List Int)) (st' : D), T0 [.ow st, .un, .un, .un, .un, .un, .un] = .ok (.nx, [.ow st', .va (rowsD cs), .un, .un, .un, .un, .un]) ∧ Chg 3 cs ∧ Good st' := by
  obtain ⟨k, st0, d1, k0, k1, g0⟩ := draw_ev (st := st) (R := [.un, .un, .un, .un, .un, .un]) (m := dC (.int 2)) (n := 2) g rfl (by omega) (by omega)
  have hN : ∃ N : Nat, (1 : Int) + k = N ∧ 1 ≤ N ∧ N ≤ 2 := ⟨(1 + k).toNat, by omega, by omega, by omega⟩
  obtain ⟨N, eN, N1, N2⟩ := hN
  have hmi : dRng (dCons (dBin dAdd (dC (.int 1)) (dCallO m__law_draw 0 (dCons (dC (.int 2)) (dNil)))) (dNil)) [.ow st, .un, .un, .un, .un, .un, .un] = .ok (rngD 0 1 N, [.ow st0, .un, .un, .un, .un, .un, .un]) :=
    dRng_ok (n := N) (dCons_ok (dBin_ok rfl d1 (show dAdd (.int 1) (.int k) = .ok (.int N) by rw [← eN]; rfl)) rfl) (smallI_of_le (by omega) (by omega))
  obtain ⟨rs, st', q, q2, q3, g'⟩ := drawn_lc (st := st) (st0 := st0) (R := [.un, .un, .un, .un, .un, .un]) (v := 2) (s := .un) (te := dCall bTuple (dCons (dLc (dRng (dCons (dC (.int 3)) (dNil))) (gSet 6) (dYes) (dBin dSub (dCallO m__law_draw 0 (dCons (dC (.int 4)) (dNil))) (dC (.int 2))) [6]) (dNil)))
    (P := fun d => ∃ c : List Int, d = intsD c ∧ c.length = 3 ∧ ∀ x, x ∈ c → -4 ≤ x ∧ x ≤ 4) rfl rfl hmi g0 (fun x hx st g => by
      obtain ⟨ss, st', t1, t2, t3, g'⟩ := drawn_ints (st := st) (st0 := st) (R := List.set [.un, .un, .un, .un, .un, .un] 2 (.va x)) (v := 5) (s := .un) (mi := dRng (dCons (dC (.int 3)) (dNil))) (te := dBin dSub (dCallO m__law_draw 0 (dCons (dC (.int 4)) (dNil))) (dC (.int 2))) (ds := rngD 0 1 3) (P := fun x => -4 ≤ x ∧ x ≤ 4) rfl rfl (rngc (by decide)) g (fun y hy st g => by
        obtain ⟨k, st', u1, u2, u3, u4⟩ := draw_ev (st := st) (R := List.set (List.set [.un, .un, .un, .un, .un, .un] 2 (.va x)) 5 (.va y)) (m := dC (.int 4)) (n := 4) g rfl (by omega) (by omega)
        exact ⟨k - 2, st', dBin_ok u1 rfl rfl, ⟨by omega, by omega⟩, u4⟩) (by rw [rng_len]; decide)
      exact ⟨intsD ss, st', dCall1 t1 rfl, ⟨ss, rfl, by rw [t2, rng_len], t3⟩, g'⟩) (by rw [rng_len]; omega)
  have hcs : ∃ cs : List (List Int), rs = cs.map intsD ∧ ∀ c, c ∈ cs → c.length = 3 ∧ ∀ x, x ∈ c → -4 ≤ x ∧ x ≤ 4 := by
    clear q q2
    induction rs with
    | nil => exact ⟨[], rfl, (fun _ z => by cases z)⟩
    | cons r rs ih =>
      obtain ⟨cs, e, h⟩ := ih fun x hx => q3 x (List.mem_cons_of_mem _ hx)
      obtain ⟨c, rfl, h2⟩ := q3 r List.mem_cons_self
      refine ⟨c :: cs, by rw [e]; rfl, fun y hy => ?_⟩
      rcases List.mem_cons.mp hy with rfl | hy
      · exact h2
      · exact h y hy
  obtain ⟨cs, rfl, hcs⟩ := hcs
  rw [List.length_map, rng_len] at q2
  exact ⟨cs, st', sSet_to (i := 0) (dCall1 q rfl) rfl, ⟨by omega, by omega, by decide, by decide, fun c hc => ⟨(hcs c hc).1, fun x hx => by have := (hcs c hc).2 x hx; omega⟩⟩, g'⟩
theorem t1_ok {st : D} {cs : List (List Int)} (g : Good st) : ∃ (m : List Int) (st' : D), T1 [.ow st, .va (rowsD cs), .un, .un, .un, .un, .un] = .ok (.nx, [.ow st', .va (rowsD cs), .va (intsD m), .un, .un, .un, .un]) ∧ Mrk 3 m ∧ Good st' := by
  obtain ⟨m, st', q, q2, q3, g'⟩ := drawn_ints (st := st) (st0 := st) (R := [.va (rowsD cs), .un, .un, .un, .un, .un]) (v := 5) (s := .un) (mi := dRng (dCons (dC (.int 3)) (dNil))) (te := dCallO m__law_draw 0 (dCons (dC (.int 6)) (dNil))) (ds := rngD 0 1 3) (P := fun s => 0 ≤ s ∧ s < 6) rfl rfl (rngc (by decide)) g (fun x hx st g => by
    obtain ⟨k, st', t1, t2, t3, t4⟩ := draw_ev (st := st) (R := List.set [.va (rowsD cs), .un, .un, .un, .un, .un] 5 (.va x)) (m := dC (.int 6)) (n := 6) g rfl (by omega) (by omega)
    exact ⟨k, st', t1, ⟨t2, t3⟩, t4⟩) (by rw [rng_len]; decide)
  exact ⟨m, st', sSet_to (i := 1) (dCall1 q rfl) rfl, ⟨by rw [q2, rng_len], fun x hx => by have := q3 x hx; omega⟩, g'⟩
theorem ti_ok {st b o : D} {cs : List (List Int)} {m : List Int} {p0 : Nat} {y3 : Sl} (hc : Chg 3 cs) (hm : Mrk 3 m) (ho : Own o) (hb : AskI b) (hp : p0 < 3) : TI [.ow st, .va (rowsD cs), .va (intsD m), y3, .va b, .va o, .va (.int p0)] = .ok (.nx, [.ow st, .va (rowsD cs), .va (intsD m), y3, .va b, .va o, .va (.int p0)]) := by
  have t := dTb_ok (dBin_ok (m1 := dCall m__law_heard (dCons (dC (.fn 2)) (dCons (dLst (dCons (dVar 1) (dCons (dVar 2) (dCons (dVar 6) (dCons (dVar 4) (dCons (dVar 5) (dNil))))))) (dNil)))) (m2 := dCall m__law_bound_due (dCons (dVar 1) (dCons (dVar 2) (dCons (dVar 6) (dCons (dVar 4) (dCons (dVar 5) (dNil))))))) (env := [.ow st, .va (rowsD cs), .va (intsD m), y3, .va b, .va o, .va (.int p0)])
    (dCall2 rfl (dLst_ok (dCons_ok rfl (dCons_ok rfl (dCons_ok rfl (dCons_ok rfl (dCons_ok rfl rfl))))) (by simp)) (bound_heard hc hm hp hb ho)) (dCallN (dCons_ok rfl (dCons_ok rfl (dCons_ok rfl (dCons_ok rfl (dCons_ok rfl rfl))))) (bound_due hc hm hp hb ho)) bound_ne)
  exact (sIf_f t).trans rfl
theorem tb_ok {st : D} {cs : List (List Int)} {m : List Int} {d3 : D} {y4 y5 y6 : Sl} (hc : Chg 3 cs) (hm : Mrk 3 m) (g : Good st) : ∃ (st' : D) (z4 z5 z6 : Sl), TB [.ow st, .va (rowsD cs), .va (intsD m), .va d3, y4, y5, y6] = .ok (.nx, [.ow st', .va (rowsD cs), .va (intsD m), .va d3, z4, z5, z6]) ∧ Good st' := by
  obtain ⟨ws, st1, q, q2, q3, g1⟩ := drawn_ints (st := st) (st0 := st) (R := [.va (rowsD cs), .va (intsD m), .va d3, y4, y5, y6]) (v := 2) (s := .va d3) (mi := dRng (dCons (dC (.int 3)) (dNil))) (te := dCallO m__law_draw 0 (dCons (dC (.int 4)) (dNil))) (ds := rngD 0 1 3) (P := fun s => 0 ≤ s ∧ s < 4) rfl rfl (rngc (by decide)) g (fun x hx st g => by
    obtain ⟨k, st', t1, t2, t3, t4⟩ := draw_ev (st := st) (R := List.set [.va (rowsD cs), .va (intsD m), .va d3, y4, y5, y6] 2 (.va x)) (m := dC (.int 4)) (n := 4) g rfl (by omega) (by omega)
    exact ⟨k, st', t1, ⟨t2, t3⟩, t4⟩) (by rw [rng_len]; decide)
  obtain ⟨p, st2, d2, p0, p1, g2⟩ := draw_ev (st := st1) (R := [.va (rowsD cs), .va (intsD m), .va d3, y4, y5, y6]) (m := dC (.int 3)) (n := 3) g1 rfl (by omega) (by omega)
  obtain ⟨pn, rfl⟩ : ∃ pn : Nat, p = pn := ⟨p.toNat, by omega⟩
  have a1 : sPar 5 6 (dCons (dCall bTuple (dCons (dLc (dRng (dCons (dC (.int 3)) (dNil))) (gSet 3) (dYes) (dCallO m__law_draw 0 (dCons (dC (.int 4)) (dNil))) [3]) (dNil))) (dCons (dCallO m__law_draw 0 (dCons (dC (.int 3)) (dNil))) (dNil))) [.ow st, .va (rowsD cs), .va (intsD m), .va d3, y4, y5, y6] = .ok (.nx, [.ow st2, .va (rowsD cs), .va (intsD m), .va d3, y4, .va (intsD ws), .va (.int pn)]) := by
    unfold sPar
    rw [dCons_ok (dCall1 q (show bTuple [.lst (ws.map D.int)] = .ok (intsD ws) from rfl)) (dCons_ok d2 rfl)]
    rfl
  obtain ⟨b, st3, d3', b0, b1, g3⟩ := draw_ev (st := st2) (R := [.va (rowsD cs), .va (intsD m), .va d3, y4, .va (intsD ws), .va (.int pn)]) (m := dC (.int 20)) (n := 20) g2 rfl (by omega) (by omega)
  have a2 : sSet 4 (dCallO m__law_draw 0 (dCons (dC (.int 20)) (dNil))) [.ow st2, .va (rowsD cs), .va (intsD m), .va d3, y4, .va (intsD ws), .va (.int pn)] = .ok (.nx, [.ow st3, .va (rowsD cs), .va (intsD m), .va d3, .va (.int b), .va (intsD ws), .va (.int pn)]) := sSet_to (i := 3) d3' rfl
  refine ⟨st3, .va (.int b), .va (intsD ws), .va (.int pn), ?_, g3⟩
  unfold TB
  rw [stp a1, stp a2]
  exact ti_ok hc hm (own_i (by rw [q2, rng_len]; decide) fun s hs => by have := q3 s hs; omega) (ask_int (by omega)) (by omega)
theorem less_ok {st : D} (g : Good st) : ∃ st', m__law_less_hold st [] = .ok (.bl true, st') ∧ Good st' := by
  obtain ⟨cs, st1, t0, hc, g1⟩ := t0_ok g
  obtain ⟨m, st2, t1, hm, g2⟩ := t1_ok (cs := cs) g1
  obtain ⟨e', q1, st3, y3, y4, y5, y6, rfl, g3⟩ := forL_nx (mt := gSet 3) (mb := TB) (fun e => ∃ (st : D) (y3 y4 y5 y6 : Sl), e = [.ow st, .va (rowsD cs), .va (intsD m), y3, y4, y5, y6] ∧ Good st) (rngD 0 1 6) [.ow st2, .va (rowsD cs), .va (intsD m), .un, .un, .un, .un] (by
    rintro d hd e ⟨st, y3, y4, y5, y6, rfl, g⟩
    obtain ⟨st', z4, z5, z6, q, g'⟩ := tb_ok (d3 := d) (y4 := y4) (y5 := y5) (y6 := y6) hc hm g
    exact ⟨[.ow st, .va (rowsD cs), .va (intsD m), .va d, y4, y5, y6], _, rfl, q, st', _, z4, z5, z6, rfl, g'⟩) ⟨st2, _, _, _, _, rfl, g2⟩
  refine ⟨st3, ?_, g3⟩
  unfold m__law_less_hold b__law_less_hold
  rw [show enterO 7 st [] = [.ow st, .un, .un, .un, .un, .un, .un] from rfl, stp t0, stp t1]
  have t2 : T2 [.ow st2, .va (rowsD cs), .va (intsD m), .un, .un, .un, .un] = .ok (.nx, [.ow st3, .va (rowsD cs), .va (intsD m), y3, y4, y5, y6]) := by
    unfold T2 sFor
    rw [show dRng (dCons (dC (.int 6)) (dNil)) [.ow st2, .va (rowsD cs), .va (intsD m), .un, .un, .un, .un] = .ok (rngD 0 1 6, [.ow st2, .va (rowsD cs), .va (intsD m), .un, .un, .un, .un]) from rngc (n := 6) (by decide), bnd_ok]
    exact q1
  rw [stp t2]
  rfl
end LW
end Dn

/-! P10k -/
set_option Elab.async false
set_option linter.all false
set_option maxRecDepth 100000
set_option maxHeartbeats 2000000
namespace Dn
namespace LW
open PySem
/-! ### k10: the tail -/
theorem sDrop_err {m : Ev} {env : En} {x : Exn} (h : m env = .error x) : sDrop m env = .error x := by unfold sDrop; rw [h]; rfl
theorem dCall_err {f : List D → M D} {ms : Av} {env e1 : En} {as : List D} {x : Exn} (h1 : ms env = .ok (as, e1)) (hf : f as = .error x) : dCall f ms env = .error x := by unfold dCall; rw [h1, bnd_ok, hf]; rfl
abbrev wrongL : List D := [.non, .tup [], .tup [.tup []], .tup [.tup [.int 1, .int 2], .tup [.int 1]], .tup (List.replicate 13 (.tup [.int 1])), .tup [.tup (List.replicate 11 (.int 0))], .tup [.tup [.int 1000000000001]], .tup [.tup [.bl true]], .tup [.str "1"], .int 5, .lst [.tup [.int 1]]]
theorem chg_no {d : D} (h : d ∈ wrongL) : m_check_changes [d] = .error (.raise 0 (.str "changes")) := by
  ((simp only [List.mem_cons, List.not_mem_nil, or_false] at h))
  rcases h with rfl | rfl | rfl | rfl | rfl | rfl | rfl | rfl | rfl | rfl | rfl <;>
  ((simp [enter, bSeq, bNil, sIf, dTOr, dTNot, dTr, dTb, dIsi, dVar, D.ty, isTy, truth, dBin, dNe_int, dEq_int, dCall, dCons, dNil, bLen, dC, dIx, L2.atI, L2.ixN, sRaise, fin, sDrop, between_int, dLc, dItems, noOw, isOw, wipeE, lcL, gSet, put, dYes, bAll, bools, resE, dLt, dGt, dCmpI, maxSeq, dMul, repD, m_check_changes, b_check_changes, dChain, dLe, sFor, forL, dNeg, bw_bl]))
theorem w_chg : wordOf 0 (.str "changes") = .ok (.str "flow changes") := rfl
theorem w_wgt : wordOf 1 (.str "weights") = .ok (.str "argument weights") := rfl
theorem w_mrk : wordOf 1 (.str "mark") = .ok (.str "argument mark") := rfl
theorem w_oth : wordOf 1 (.str "other") = .ok (.str "argument other") := rfl
theorem w_plc : wordOf 1 (.str "place") = .ok (.str "argument place") := rfl
abbrev FC : D := .str "flow changes"
theorem heard_chg {d : D} (h : d ∈ wrongL) : m__law_heard [.fn 6, .lst [d]] = .ok FC ∧ m__law_heard [.fn 7, .lst [d]] = .ok FC ∧ m__law_heard [.fn 4, .lst [d, .non]] = .ok FC ∧ m__law_heard [.fn 5, .lst [d, .non]] = .ok FC ∧ m__law_heard [.fn 3, .lst [d, .non, .non]] = .ok FC
    ∧ m__law_heard [.fn 1, .lst [d, .non, .non, .non]] = .ok FC ∧ m__law_heard [.fn 0, .lst [d, .non, .non, .non, .non]] = .ok FC ∧ m__law_heard [.fn 2, .lst [d, .non, .non, .non, .non]] = .ok FC := by
  have e := chg_no h
  refine ⟨h1e rfl ?_ w_chg, h1e rfl ?_ w_chg, h2e rfl ?_ w_chg, h2e rfl ?_ w_chg, h3e rfl ?_ w_chg, h4e rfl ?_ w_chg, h5e rfl ?_ w_chg, h5e rfl ?_ w_chg⟩
  · unfold m_kept_weights b_kept_weights; rw [bSeq_err (sDrop_err (dCall_err (dCons_ok rfl rfl) e))]; rfl
  · unfold m_least_keeps b_least_keeps; rw [bSeq_err (sDrop_err (dCall_err (dCons_ok rfl rfl) e))]; rfl
  · unfold m_judge_kept b_judge_kept; rw [bSeq_err (sDrop_err (dCall_err (dCons_ok rfl rfl) e))]; rfl
  · unfold m_bounds_by b_bounds_by; rw [bSeq_err (sDrop_err (dCall_err (dCons_ok rfl rfl) e))]; rfl
  · unfold m_judge_between b_judge_between; rw [bSeq_err (sDrop_err (dCall_err (dCons_ok rfl rfl) e))]; rfl
  · unfold m_accept_apart b_accept_apart; rw [bSeq_err (sDrop_err (dCall_err (dCons_ok rfl rfl) e))]; rfl
  · unfold m_accept_counts b_accept_counts; rw [bSeq_err (sDrop_err (dCall_err (dCons_ok rfl rfl) e))]; rfl
  · unfold m_accept_bound b_accept_bound; rw [bSeq_err (sDrop_err (dCall_err (dCons_ok rfl rfl) e))]; rfl
abbrev chgL : List (List Int) := [[-1, 1], [1, -1]]
theorem chgL_ok : Chg 2 chgL := ⟨by decide, by decide, by decide, by decide, fun c hc => by
  simp only [List.mem_cons, List.not_mem_nil, or_false] at hc
  rcases hc with rfl | rfl
  · refine ⟨rfl, fun x hx => ?_⟩
    simp only [List.mem_cons, List.not_mem_nil, or_false] at hx
    rcases hx with rfl | rfl <;> omega
  · refine ⟨rfl, fun x hx => ?_⟩
    simp only [List.mem_cons, List.not_mem_nil, or_false] at hx
    rcases hx with rfl | rfl <;> omega⟩
abbrev CH : D := .tup [.tup [.int (-1), .int 1], .tup [.int 1, .int (-1)]]
theorem ch_eq : CH = rowsD chgL := rfl
theorem ch_ok : m_check_changes [CH] = .ok .non := by rw [ch_eq]; exact check_changes_ok chgL_ok
abbrev wgtL : List D := [.non, .tup [.int 1], .tup [.int 1, .int 1, .int 1], .tup [.int 1, .bl true], .tup [.int 1, .non], .int 5, .lst [.int 1, .int 1], .tup [.str "1", .int 1]]
theorem oe_str (x : Str) : OE (.str x) := ⟨(fun e => by cases e), fun j e => by cases e⟩
theorem wgt_own {d : D} (h : d ∈ wgtL) : Own d ∧ isInts 2 d = none := by
  have i1 : OE (.int 1) := oe_int (by decide)
  ((simp only [List.mem_cons, List.not_mem_nil, or_false] at h))
  rcases h with rfl | rfl | rfl | rfl | rfl | rfl | rfl | rfl
  · exact ⟨own_of (fun e => by cases e) (fun ds e => by cases e), rfl⟩
  · refine ⟨own_tup (by decide) fun x hx => ?_, rfl⟩
    ((simp only [List.mem_cons, List.not_mem_nil, or_false] at hx))
    rcases hx with rfl; exact i1
  · refine ⟨own_tup (by decide) fun x hx => ?_, rfl⟩
    ((simp only [List.mem_cons, List.not_mem_nil, or_false] at hx))
    rcases hx with rfl | rfl | rfl <;> exact i1
  · refine ⟨own_tup (by decide) fun x hx => ?_, rfl⟩
    ((simp only [List.mem_cons, List.not_mem_nil, or_false] at hx))
    rcases hx with rfl | rfl
    · exact i1
    · exact oe_bl _
  · refine ⟨own_tup (by decide) fun x hx => ?_, rfl⟩
    ((simp only [List.mem_cons, List.not_mem_nil, or_false] at hx))
    rcases hx with rfl | rfl
    · exact i1
    · exact oe_non
  · exact ⟨own_of (fun e => by cases e) (fun ds e => by cases e), rfl⟩
  · exact ⟨own_of (fun e => by cases e) (fun ds e => by cases e), rfl⟩
  · refine ⟨own_tup (by decide) fun x hx => ?_, rfl⟩
    ((simp only [List.mem_cons, List.not_mem_nil, or_false] at hx))
    rcases hx with rfl | rfl
    · exact oe_str _
    · exact i1
theorem heard_wgt {d : D} (h : d ∈ wgtL) : m__law_heard [.fn 4, .lst [CH, d]] = .ok (.str "argument weights") := by
  obtain ⟨ho, hn⟩ := wgt_own h
  have ii := is_integers_ok ho 2
  rw [hn] at ii
  refine h2e (k := 1) (p := .str "weights") rfl ?_ w_wgt
  have cw : m_check_weights [CH, d] = .error (.raise 1 (.str "weights")) := by
    unfold m_check_weights b_check_weights
    rw [show enter 2 [CH, d] = [.va CH, .va d] from rfl, sIf_t (dTNot_ok (dTr_bl (dCall2 rfl (dCall1 (dBin_ok rfl rfl rfl) rfl) ii))), sRaise_ok (d := .str "weights") rfl]
    rfl
  unfold m_judge_kept b_judge_kept
  rw [show enter 4 [CH, d] = [.va CH, .va d, .un, .un] from rfl, stp (sDrop_ok (dCall1 rfl ch_ok)), bSeq_err (sDrop_err (dCall_err (dCons_ok rfl (dCons_ok rfl rfl)) cw))]
  rfl
abbrev mrkL : List D := [.non, .tup [.int 1], .tup [.int 1, .int 2, .int 3], .tup [.int 1, .int (-1)], .tup [.int 1, .int 1000000000001], .tup [.bl true, .int 1], .tup [.str "1", .int 1], .int 5, .lst [.int 1, .int 1]]
theorem mrk_no {d : D} (h : d ∈ mrkL) : m_check_mark [CH, d] = .error (.raise 1 (.str "mark")) := by
  ((simp only [List.mem_cons, List.not_mem_nil, or_false] at h))
  rcases h with rfl | rfl | rfl | rfl | rfl | rfl | rfl | rfl | rfl <;>
  ((simp [enter, bSeq, bNil, sIf, dTOr, dTNot, dTr, dTb, dIsi, dVar, D.ty, isTy, truth, dBin, dNe_int, dEq_int, dCall, dCons, dNil, bLen, dC, dIx, L2.atI, L2.ixN, sRaise, fin, sDrop, between_int, dLc, dItems, noOw, isOw, wipeE, lcL, gSet, put, dYes, bAll, bools, resE, dLt, dGt, dCmpI, maxSeq, dMul, repD, m_check_mark, b_check_mark, bw_bl, bw_str]))
theorem snd_no {d : D} (h : d ∈ mrkL) : m_check_second [CH, d] = .error (.raise 1 (.str "other")) := by
  have e := mrk_no h
  unfold m_check_second b_check_second
  rw [show enter 2 [CH, d] = [.va CH, .va d] from rfl]
  have q : sDrop (dCall m_check_mark (dCons (dVar 0) (dCons (dVar 1) (dNil)))) [.va CH, .va d] = .error (.raise 1 (.str "mark")) := sDrop_err (dCall_err (dCons_ok rfl (dCons_ok rfl rfl)) e)
  unfold sReraise
  rw [q]
  rfl
theorem heard_mrk {d : D} (h : d ∈ mrkL) : m__law_heard [.fn 5, .lst [CH, d]] = .ok (.str "argument mark") ∧ m__law_heard [.fn 3, .lst [CH, d, d]] = .ok (.str "argument mark") ∧ m__law_heard [.fn 1, .lst [CH, d, d, .non]] = .ok (.str "argument mark")
    ∧ m__law_heard [.fn 0, .lst [CH, d, d, .non, .non]] = .ok (.str "argument mark") ∧ m__law_heard [.fn 2, .lst [CH, d, .non, .non, .non]] = .ok (.str "argument mark") := by
  have e := mrk_no h
  refine ⟨h2e rfl ?_ w_mrk, h3e rfl ?_ w_mrk, h4e rfl ?_ w_mrk, h5e rfl ?_ w_mrk, h5e rfl ?_ w_mrk⟩
  · unfold m_bounds_by b_bounds_by; rw [stp (sDrop_ok (dCall1 rfl ch_ok)), bSeq_err (sDrop_err (dCall_err (dCons_ok rfl (dCons_ok rfl rfl)) e))]; rfl
  · unfold m_judge_between b_judge_between; rw [stp (sDrop_ok (dCall1 rfl ch_ok)), bSeq_err (sDrop_err (dCall_err (dCons_ok rfl (dCons_ok rfl rfl)) e))]; rfl
  · unfold m_accept_apart b_accept_apart; rw [stp (sDrop_ok (dCall1 rfl ch_ok)), bSeq_err (sDrop_err (dCall_err (dCons_ok rfl (dCons_ok rfl rfl)) e))]; rfl
  · unfold m_accept_counts b_accept_counts; rw [stp (sDrop_ok (dCall1 rfl ch_ok)), bSeq_err (sDrop_err (dCall_err (dCons_ok rfl (dCons_ok rfl rfl)) e))]; rfl
  · unfold m_accept_bound b_accept_bound; rw [stp (sDrop_ok (dCall1 rfl ch_ok)), bSeq_err (sDrop_err (dCall_err (dCons_ok rfl (dCons_ok rfl rfl)) e))]; rfl
abbrev M11 : D := .tup [.int 1, .int 1]
theorem mrk_of {m : List Int} (h : m.length = 2) (h2 : ∀ x, x ∈ m → x = 0 ∨ x = 1) : Mrk 2 m := ⟨h, fun x hx => by have := h2 x hx; omega⟩
theorem mrk11 : Mrk 2 [1, 1] := mrk_of rfl fun x hx => by
  simp only [List.mem_cons, List.not_mem_nil, or_false] at hx; omega
theorem mrk10 : Mrk 2 [1, 0] := mrk_of rfl fun x hx => by
  simp only [List.mem_cons, List.not_mem_nil, or_false] at hx; omega
theorem m11_eq : M11 = intsD [1, 1] := rfl
theorem m11_ok : m_check_mark [CH, M11] = .ok .non := by rw [ch_eq, m11_eq]; exact check_mark_ok chgL_ok mrk11
theorem heard_oth {d : D} (h : d ∈ mrkL) : m__law_heard [.fn 3, .lst [CH, M11, d]] = .ok (.str "argument other") ∧ m__law_heard [.fn 1, .lst [CH, M11, d, .non]] = .ok (.str "argument other")
    ∧ m__law_heard [.fn 0, .lst [CH, M11, d, .non, .non]] = .ok (.str "argument other") := by
  have e := snd_no h
  refine ⟨h3e rfl ?_ w_oth, h4e rfl ?_ w_oth, h5e rfl ?_ w_oth⟩
  · unfold m_judge_between b_judge_between; rw [stp (sDrop_ok (dCall1 rfl ch_ok)), stp (sDrop_ok (dCall2 rfl rfl m11_ok)), bSeq_err (sDrop_err (dCall_err (dCons_ok rfl (dCons_ok rfl rfl)) e))]; rfl
  · unfold m_accept_apart b_accept_apart; rw [stp (sDrop_ok (dCall1 rfl ch_ok)), stp (sDrop_ok (dCall2 rfl rfl m11_ok)), bSeq_err (sDrop_err (dCall_err (dCons_ok rfl (dCons_ok rfl rfl)) e))]; rfl
  · unfold m_accept_counts b_accept_counts; rw [stp (sDrop_ok (dCall1 rfl ch_ok)), stp (sDrop_ok (dCall2 rfl rfl m11_ok)), bSeq_err (sDrop_err (dCall_err (dCons_ok rfl (dCons_ok rfl rfl)) e))]; rfl
abbrev plcL : List D := [.non, .int (-1), .int 2, .bl true, .str "0", .tup [.int 0]]
theorem heard_plc {d : D} (h : d ∈ plcL) : m__law_heard [.fn 2, .lst [CH, M11, d, .non, .non]] = .ok (.str "argument place") := by
  refine h5e (k := 1) (p := .str "place") rfl ?_ w_plc
  unfold m_accept_bound b_accept_bound
  rw [stp (sDrop_ok (dCall1 rfl ch_ok)), stp (sDrop_ok (dCall2 rfl rfl m11_ok))]
  rw [bSeq_err (x := .raise 1 (.str "place")) ?_]
  · rfl
  · ((simp only [List.mem_cons, List.not_mem_nil, or_false] at h))
    rcases h with rfl | rfl | rfl | rfl | rfl | rfl
    · rw [sIf_t (dTOr_t (dTNot_ok (dTr_bl (dCall1 rfl (is_integer_ok .non (fun e => by cases e))))))]; rfl
    · rw [sIf_t (by rw [dTOr_f (dTNot_ok (dTr_bl (dCall1 rfl (is_integer_int _)))), dTNot_ok (dTb_ok (dChain_int (i := 0) (j := -1) (k := 2) rfl rfl (dCall1 rfl rfl)))]; rfl)]; rfl
    · rw [sIf_t (by rw [dTOr_f (dTNot_ok (dTr_bl (dCall1 rfl (is_integer_int _)))), dTNot_ok (dTb_ok (dChain_int (i := 0) (j := 2) (k := 2) rfl rfl (dCall1 rfl rfl)))]; rfl)]; rfl
    · rw [sIf_t (dTOr_t (dTNot_ok (dTr_bl (dCall1 rfl (is_integer_ok (.bl true) (fun e => by cases e))))))]; rfl
    · rw [sIf_t (dTOr_t (dTNot_ok (dTr_bl (dCall1 rfl (is_integer_ok (.str "0") (fun e => by cases e))))))]; rfl
    · rw [sIf_t (dTOr_t (dTNot_ok (dTr_bl (dCall1 rfl (is_integer_ok (.tup [.int 0]) (fun e => by cases e))))))]; rfl
abbrev BIG : Int := 1000000000000000000000000000000
theorem sb2 {a b : Int} {n : Nat} (h : a.natAbs < 2 ^ n) (h2 : b.natAbs < 2 ^ n) : SmallB n [a, b] := fun s hs => by
  simp only [List.mem_cons, List.not_mem_nil, or_false] at hs
  rcases hs with rfl | rfl
  · exact h
  · exact h2
theorem heard_kept : m__law_heard [.fn 4, .lst [CH, intsD [BIG, BIG]]] = .ok (.lst [.tup [.str "kept"]]) := by
  refine h2o rfl ?_
  have sb : SmallB 120 [BIG, BIG] := sb2 (by decide) (by decide)
  have ho : Own (intsD [BIG, BIG]) := own_ints (by decide) sb
  have ii := is_integers_ok ho 2
  rw [show isInts 2 (intsD [BIG, BIG]) = some [BIG, BIG] from rfl] at ii
  have cw : m_check_weights [CH, intsD [BIG, BIG]] = .ok .non := by
    unfold m_check_weights b_check_weights
    rw [show enter 2 [CH, intsD [BIG, BIG]] = [.va CH, .va (intsD [BIG, BIG])] from rfl, sIf_f (dTNot_ok (dTr_bl (dCall2 rfl (dCall1 (dBin_ok rfl rfl rfl) rfl) ii)))]
    rfl
  have w1 : m_weighed [intsD [BIG, BIG], intsD [-1, 1]] = .ok (.int 0) := (weighed_ok (m := 120) (n := 60) (seq_ints [BIG, BIG]) (seq_ints [-1, 1]) sb (sb2 (by decide) (by decide)) (by decide) (by decide)).trans (by rw [show dot _ _ = (0 : Int) from by simp only [dot]; omega])
  have w2 : m_weighed [intsD [BIG, BIG], intsD [1, -1]] = .ok (.int 0) := (weighed_ok (m := 120) (n := 60) (seq_ints [BIG, BIG]) (seq_ints [1, -1]) sb (sb2 (by decide) (by decide)) (by decide) (by decide)).trans (by rw [show dot _ _ = (0 : Int) from by simp only [dot]; omega])
  unfold m_judge_kept b_judge_kept
  rw [show enter 4 [CH, intsD [BIG, BIG]] = [.va CH, .va (intsD [BIG, BIG]), .un, .un] from rfl, stp (sDrop_ok (dCall1 rfl ch_ok)), stp (sDrop_ok (dCall2 rfl rfl cw))]
  have b1 : ∀ (i : Int) (y2 : Sl) (c : D), m_weighed [intsD [BIG, BIG], c] = .ok (.int 0) → sIf (dTb (dBin dNe (dCall m_weighed (dCons (dVar 1) (dCons (dVar 3) (dNil)))) (dC (.int 0)))) (sNever) (bNil) [.va CH, .va (intsD [BIG, BIG]), y2, .va c] = .ok (.nx, [.va CH, .va (intsD [BIG, BIG]), y2, .va c]) := fun i y2 c hc =>
    (sIf_f (dTb_ok (dBin_ok (dCall2 rfl rfl hc) rfl (dNe_int _ _)))).trans rfl
  have lp : sFor (dEnum (dVar 0)) (gTupD (lenOf 2 (gsCons (gSet 2) (gsCons (gSet 3) (gsNil))))) (sIf (dTb (dBin dNe (dCall m_weighed (dCons (dVar 1) (dCons (dVar 3) (dNil)))) (dC (.int 0)))) (sNever) (bNil)) [.va CH, .va (intsD [BIG, BIG]), .un, .un] = .ok (.nx, [.va CH, .va (intsD [BIG, BIG]), .va (.int 1), .va (intsD [1, -1])]) := by
    unfold sFor
    rw [show dEnum (dVar 0) [.va CH, .va (intsD [BIG, BIG]), .un, .un] = .ok ([.tup [.int 0, intsD [-1, 1]], .tup [.int 1, intsD [1, -1]]], [.va CH, .va (intsD [BIG, BIG]), .un, .un]) from rfl, bnd_ok]
    simp only []
    rw [forL, show gTupD (lenOf 2 (gsCons (gSet 2) (gsCons (gSet 3) (gsNil)))) (.tup [.int 0, intsD [-1, 1]]) [.va CH, .va (intsD [BIG, BIG]), .un, .un] = .ok [.va CH, .va (intsD [BIG, BIG]), .va (.int 0), .va (intsD [-1, 1])] from rfl, ns_ok, bnd_ok, b1 0 _ _ w1, bnd_ok]
    simp only []
    rw [forL, show gTupD (lenOf 2 (gsCons (gSet 2) (gsCons (gSet 3) (gsNil)))) (.tup [.int 1, intsD [1, -1]]) [.va CH, .va (intsD [BIG, BIG]), .va (.int 0), .va (intsD [-1, 1])] = .ok [.va CH, .va (intsD [BIG, BIG]), .va (.int 1), .va (intsD [1, -1])] from rfl, ns_ok, bnd_ok, b1 0 _ _ w2, bnd_ok]
    rfl
  rw [stp lp]
  rfl
theorem heard_last : m__law_heard [.fn 1, .lst [CH, M11, .tup [.int 1, .int 0], intsD [0 - BIG, 0 - BIG]]] = .ok (.lst [.non]) := by
  have sb : SmallB 120 [0 - BIG, 0 - BIG] := sb2 (by decide) (by decide)
  have ho : Own (intsD [0 - BIG, 0 - BIG]) := own_ints (by decide) sb
  have e := apart_heard (own := intsD [0 - BIG, 0 - BIG]) chgL_ok mrk11 mrk10 ho
  have v : vApart chgL 2 [1, 1] [1, 0] (intsD [0 - BIG, 0 - BIG]) = none := by
    unfold vApart
    rw [show isInts 2 (intsD [0 - BIG, 0 - BIG]) = some [0 - BIG, 0 - BIG] from rfl]
    have a1 : BIG + -BIG = 0 := by omega
    have a2 : -BIG + BIG = 0 := by omega
    have a3 : ¬ (-BIG + -BIG = -BIG) := by decide
    simp [dot, a1, a2, a3]
  rw [v] at e
  rw [ch_eq, m11_eq, show D.tup [.int 1, .int 0] = intsD [1, 0] from rfl]
  exact e
end LW
end Dn

/-! P10l -/
set_option Elab.async false
set_option linter.all false
set_option maxRecDepth 100000
set_option maxHeartbeats 2000000
namespace Dn
namespace LW
open PySem
/-! ### k10: the law -/
abbrev V0 : Sv := sSetO 1 (dCall m__law_start (dCons (dVar 0) (dNil)))
abbrev V1 : Sv := sFor (dRng (dCons (dC (.int 3)) (dNil))) (gSet 2) (sIf (dTOr (dTNot (dTr (dCallO m__law_papers_hold 1 (dNil)))) (dTNot (dTr (dCallO m__law_less_hold 1 (dNil))))) (sNever) (bNil))
abbrev V2 : Sv := sFor (dItems (dLst (dCons (dC .non) (dCons (dTup (dNil)) (dCons (dTup (dCons (dTup (dNil)) (dNil))) (dCons (dTup (dCons (dTup (dCons (dC (.int 1)) (dCons (dC (.int 2)) (dNil)))) (dCons (dTup (dCons (dC (.int 1)) (dNil))) (dNil)))) (dCons (dBin dMul (dTup (dCons (dTup (dCons (dC (.int 1)) (dNil))) (dNil))) (dC (.int 13))) (dCons (dTup (dCons (dBin dMul (dTup (dCons (dC (.int 0)) (dNil))) (dC (.int 11))) (dNil))) (dCons (dTup (dCons (dTup (dCons (dBin dAdd (dBin dPow (dC (.int 10)) (dC (.int 12))) (dC (.int 1))) (dNil))) (dNil))) (dCons (dTup (dCons (dTup (dCons (dC (.bl true)) (dNil))) (dNil))) (dCons (dTup (dCons (dC (.str "1")) (dNil))) (dCons (dC (.int 5)) (dCons (dLst (dCons (dTup (dCons (dC (.int 1)) (dNil))) (dNil))) (dNil)))))))))))))) (gSet 3) (bSeq (sSet 7 (dBin dAdd (dLc (dItems (dLst (dCons (dC (.fn 6)) (dCons (dC (.fn 7)) (dNil))))) (gSet 9) (dYes) (dCall m__law_heard (dCons (dVar 9) (dCons (dLst (dCons (dVar 3) (dNil))) (dNil)))) [9]) (dLc (dItems (dLst (dCons (dC (.fn 4)) (dCons (dC (.fn 5)) (dNil))))) (gSet 9) (dYes) (dCall m__law_heard (dCons (dVar 9) (dCons (dLst (dCons (dVar 3) (dCons (dC .non) (dNil)))) (dNil)))) [9])))
  (bSeq (sSet 7 (dBin dAdd (dVar 7) (dLst (dCons (dCall m__law_heard (dCons (dC (.fn 3)) (dCons (dLst (dCons (dVar 3) (dCons (dC .non) (dCons (dC .non) (dNil))))) (dNil)))) (dCons (dCall m__law_heard (dCons (dC (.fn 1)) (dCons (dLst (dCons (dVar 3) (dCons (dC .non) (dCons (dC .non) (dCons (dC .non) (dNil)))))) (dNil)))) (dNil))))))
  (sIf (dTb (dBin dNe (dBin dAdd (dVar 7) (dLc (dItems (dLst (dCons (dC (.fn 0)) (dCons (dC (.fn 2)) (dNil))))) (gSet 9) (dYes) (dCall m__law_heard (dCons (dVar 9) (dCons (dLst (dCons (dVar 3) (dCons (dC .non) (dCons (dC .non) (dCons (dC .non) (dCons (dC .non) (dNil))))))) (dNil)))) [9])) (dBin dMul (dLst (dCons (dC (.str "flow changes")) (dNil))) (dC (.int 8))))) (sNever) (bNil))))
abbrev V3 : Sv := sSet 4 (dTup (dCons (dTup (dCons (dBin dSub (dC (.int 0)) (dC (.int 1))) (dCons (dC (.int 1)) (dNil)))) (dCons (dTup (dCons (dC (.int 1)) (dCons (dBin dSub (dC (.int 0)) (dC (.int 1))) (dNil)))) (dNil))))
abbrev V4 : Sv := sSet 5 (dCallO m__law_pick 1 (dCons (dLst (dCons (dC .non) (dCons (dTup (dCons (dC (.int 1)) (dNil))) (dCons (dTup (dCons (dC (.int 1)) (dCons (dC (.int 1)) (dCons (dC (.int 1)) (dNil))))) (dCons (dTup (dCons (dC (.int 1)) (dCons (dC (.bl true)) (dNil)))) (dCons (dTup (dCons (dC (.int 1)) (dCons (dC .non) (dNil)))) (dCons (dC (.int 5)) (dCons (dLst (dCons (dC (.int 1)) (dCons (dC (.int 1)) (dNil)))) (dCons (dTup (dCons (dC (.str "1")) (dCons (dC (.int 1)) (dNil)))) (dNil)))))))))) (dNil)))
abbrev V5 : Sv := sSet 6 (dCallO m__law_pick 1 (dCons (dLst (dCons (dC .non) (dCons (dTup (dCons (dC (.int 1)) (dNil))) (dCons (dTup (dCons (dC (.int 1)) (dCons (dC (.int 2)) (dCons (dC (.int 3)) (dNil))))) (dCons (dTup (dCons (dC (.int 1)) (dCons (dNeg (dC (.int 1))) (dNil)))) (dCons (dTup (dCons (dC (.int 1)) (dCons (dBin dAdd (dBin dPow (dC (.int 10)) (dC (.int 12))) (dC (.int 1))) (dNil)))) (dCons (dTup (dCons (dC (.bl true)) (dCons (dC (.int 1)) (dNil)))) (dCons (dTup (dCons (dC (.str "1")) (dCons (dC (.int 1)) (dNil)))) (dCons (dC (.int 5)) (dCons (dLst (dCons (dC (.int 1)) (dCons (dC (.int 1)) (dNil)))) (dNil))))))))))) (dNil)))
abbrev V6 : Sv := sIf (dTOr (dTb (dBin dNe (dCall m__law_heard (dCons (dC (.fn 4)) (dCons (dLst (dCons (dVar 4) (dCons (dVar 5) (dNil)))) (dNil)))) (dC (.str "argument weights")))) (dTb (dBin dNe (dCall m__law_heard (dCons (dC (.fn 5)) (dCons (dLst (dCons (dVar 4) (dCons (dVar 6) (dNil)))) (dNil)))) (dC (.str "argument mark"))))) (sNever) (bNil)
abbrev V7 : Sv := sSetO 7 (dLst (dCons (dCall m__law_heard (dCons (dC (.fn 3)) (dCons (dLst (dCons (dVar 4) (dCons (dVar 6) (dCons (dVar 6) (dNil))))) (dNil)))) (dCons (dCall m__law_heard (dCons (dC (.fn 1)) (dCons (dLst (dCons (dVar 4) (dCons (dVar 6) (dCons (dVar 6) (dCons (dC .non) (dNil)))))) (dNil)))) (dNil))))
abbrev V8 : Sv := sDrop (dMeth fApp 7 (dCons (dCall m__law_heard (dCons (dC (.fn 0)) (dCons (dLst (dCons (dVar 4) (dCons (dVar 6) (dCons (dVar 6) (dCons (dC .non) (dCons (dC .non) (dNil))))))) (dNil)))) (dNil)))
abbrev V9 : Sv := sIf (dTOr (dTb (dBin dNe (dVarO 7) (dBin dMul (dLst (dCons (dC (.str "argument mark")) (dNil))) (dC (.int 3))))) (dTb (dBin dNe (dCall m__law_heard (dCons (dC (.fn 2)) (dCons (dLst (dCons (dVar 4) (dCons (dVar 6) (dCons (dC .non) (dCons (dC .non) (dCons (dC .non) (dNil))))))) (dNil)))) (dC (.str "argument mark"))))) (sNever) (bNil)
abbrev V10 : Sv := sSetO 7 (dLst (dCons (dCall m__law_heard (dCons (dC (.fn 3)) (dCons (dLst (dCons (dVar 4) (dCons (dTup (dCons (dC (.int 1)) (dCons (dC (.int 1)) (dNil)))) (dCons (dVar 6) (dNil))))) (dNil)))) (dCons (dCall m__law_heard (dCons (dC (.fn 1)) (dCons (dLst (dCons (dVar 4) (dCons (dTup (dCons (dC (.int 1)) (dCons (dC (.int 1)) (dNil)))) (dCons (dVar 6) (dCons (dC .non) (dNil)))))) (dNil)))) (dNil))))
abbrev V11 : Sv := sDrop (dMeth fApp 7 (dCons (dCall m__law_heard (dCons (dC (.fn 0)) (dCons (dLst (dCons (dVar 4) (dCons (dTup (dCons (dC (.int 1)) (dCons (dC (.int 1)) (dNil)))) (dCons (dVar 6) (dCons (dC .non) (dCons (dC .non) (dNil))))))) (dNil)))) (dNil)))
abbrev V12 : Sv := sIf (dTb (dBin dNe (dVarO 7) (dBin dMul (dLst (dCons (dC (.str "argument other")) (dNil))) (dC (.int 3))))) (sNever) (bNil)
abbrev V13 : Sv := sSet 8 (dCallO m__law_pick 1 (dCons (dLst (dCons (dC .non) (dCons (dNeg (dC (.int 1))) (dCons (dC (.int 2)) (dCons (dC (.bl true)) (dCons (dC (.str "0")) (dCons (dTup (dCons (dC (.int 0)) (dNil))) (dNil)))))))) (dNil)))
abbrev V14 : Sv := sIf (dTb (dBin dNe (dCall m__law_heard (dCons (dC (.fn 2)) (dCons (dLst (dCons (dVar 4) (dCons (dTup (dCons (dC (.int 1)) (dCons (dC (.int 1)) (dNil)))) (dCons (dVar 8) (dCons (dC .non) (dCons (dC .non) (dNil))))))) (dNil)))) (dC (.str "argument place")))) (sNever) (bNil)
abbrev V15 : Sv := sRet (dAndV (dBin dEq (dCall m__law_heard (dCons (dC (.fn 4)) (dCons (dLst (dCons (dVar 4) (dCons (dTup (dCons (dBin dPow (dC (.int 10)) (dC (.int 30))) (dCons (dBin dPow (dC (.int 10)) (dC (.int 30))) (dNil)))) (dNil)))) (dNil)))) (dLst (dCons (dTup (dCons (dC (.str "kept")) (dNil))) (dNil)))) (dBin dEq (dCall m__law_heard (dCons (dC (.fn 1)) (dCons (dLst (dCons (dVar 4) (dCons (dTup (dCons (dC (.int 1)) (dCons (dC (.int 1)) (dNil)))) (dCons (dTup (dCons (dC (.int 1)) (dCons (dC (.int 0)) (dNil)))) (dCons (dTup (dCons (dBin dSub (dC (.int 0)) (dBin dPow (dC (.int 10)) (dC (.int 30)))) (dCons (dBin dSub (dC (.int 0)) (dBin dPow (dC (.int 10)) (dC (.int 30)))) (dNil)))) (dNil)))))) (dNil)))) (dLst (dCons (dC .non) (dNil)))))
abbrev VB1 : Sv := (sIf (dTOr (dTNot (dTr (dCallO m__law_papers_hold 1 (dNil)))) (dTNot (dTr (dCallO m__law_less_hold 1 (dNil))))) (sNever) (bNil))
abbrev VB2 : Sv := (bSeq (sSet 7 (dBin dAdd (dLc (dItems (dLst (dCons (dC (.fn 6)) (dCons (dC (.fn 7)) (dNil))))) (gSet 9) (dYes) (dCall m__law_heard (dCons (dVar 9) (dCons (dLst (dCons (dVar 3) (dNil))) (dNil)))) [9]) (dLc (dItems (dLst (dCons (dC (.fn 4)) (dCons (dC (.fn 5)) (dNil))))) (gSet 9) (dYes) (dCall m__law_heard (dCons (dVar 9) (dCons (dLst (dCons (dVar 3) (dCons (dC .non) (dNil)))) (dNil)))) [9])))
  (bSeq (sSet 7 (dBin dAdd (dVar 7) (dLst (dCons (dCall m__law_heard (dCons (dC (.fn 3)) (dCons (dLst (dCons (dVar 3) (dCons (dC .non) (dCons (dC .non) (dNil))))) (dNil)))) (dCons (dCall m__law_heard (dCons (dC (.fn 1)) (dCons (dLst (dCons (dVar 3) (dCons (dC .non) (dCons (dC .non) (dCons (dC .non) (dNil)))))) (dNil)))) (dNil))))))
  (sIf (dTb (dBin dNe (dBin dAdd (dVar 7) (dLc (dItems (dLst (dCons (dC (.fn 0)) (dCons (dC (.fn 2)) (dNil))))) (gSet 9) (dYes) (dCall m__law_heard (dCons (dVar 9) (dCons (dLst (dCons (dVar 3) (dCons (dC .non) (dCons (dC .non) (dCons (dC .non) (dCons (dC .non) (dNil))))))) (dNil)))) [9])) (dBin dMul (dLst (dCons (dC (.str "flow changes")) (dNil))) (dC (.int 8))))) (sNever) (bNil))))
abbrev VIT : Iv := (dItems (dLst (dCons (dC .non) (dCons (dTup (dNil)) (dCons (dTup (dCons (dTup (dNil)) (dNil))) (dCons (dTup (dCons (dTup (dCons (dC (.int 1)) (dCons (dC (.int 2)) (dNil)))) (dCons (dTup (dCons (dC (.int 1)) (dNil))) (dNil)))) (dCons (dBin dMul (dTup (dCons (dTup (dCons (dC (.int 1)) (dNil))) (dNil))) (dC (.int 13))) (dCons (dTup (dCons (dBin dMul (dTup (dCons (dC (.int 0)) (dNil))) (dC (.int 11))) (dNil))) (dCons (dTup (dCons (dTup (dCons (dBin dAdd (dBin dPow (dC (.int 10)) (dC (.int 12))) (dC (.int 1))) (dNil))) (dNil))) (dCons (dTup (dCons (dTup (dCons (dC (.bl true)) (dNil))) (dNil))) (dCons (dTup (dCons (dC (.str "1")) (dNil))) (dCons (dC (.int 5)) (dCons (dLst (dCons (dTup (dCons (dC (.int 1)) (dNil))) (dNil))) (dNil))))))))))))))
theorem pick1 {sc st : D} {R : List Sl} {m : Ev} {xs : List D} (g : Good st) (hm : m (.va sc :: .ow st :: R) = .ok (.lst xs, .va sc :: .ow st :: R)) (h0 : xs ≠ []) (h1 : xs.length < 1000000) : ∃ d st', dCallO m__law_pick 1 (dCons m (dNil)) (.va sc :: .ow st :: R) = .ok (d, .va sc :: .ow st' :: R) ∧ d ∈ xs ∧ Good st' := by
  obtain ⟨⟨d, st'⟩, e, hd, g'⟩ := wm_out (pick_ok g h0 h1)
  exact ⟨d, st', dCallO_ok (i := 1) (s0 := st) (e1 := .va sc :: .ow st :: R) rfl (dCons_ok hm rfl) rfl e, hd, g'⟩
theorem call1 {f : D → List D → M (D × D)} {sc st st' d : D} {R : List Sl} (h : f st [] = .ok (d, st')) : dCallO f 1 (dNil) (.va sc :: .ow st :: R) = .ok (d, .va sc :: .ow st' :: R) :=
  dCallO_ok (i := 1) (s0 := st) (e1 := .va sc :: .ow st :: R) rfl rfl rfl h
theorem vb1_ok {sc st d2 : D} (g : Good st) : ∃ st', VB1 [.va sc, .ow st, .va d2, .un, .un, .un, .un, .un, .un, .un] = .ok (.nx, [.va sc, .ow st', .va d2, .un, .un, .un, .un, .un, .un, .un]) ∧ Good st' := by
  obtain ⟨st1, e1, g1⟩ := papers_ok g
  obtain ⟨st2, e2, g2⟩ := less_ok g1
  refine ⟨st2, (sIf_f (t := dTOr (dTNot (dTr (dCallO m__law_papers_hold 1 (dNil)))) (dTNot (dTr (dCallO m__law_less_hold 1 (dNil))))) (e' := [.va sc, .ow st2, .va d2, .un, .un, .un, .un, .un, .un, .un]) ?_).trans rfl, g2⟩
  rw [dTOr_f (dTNot_ok (dTr_bl (call1 e1)))]
  exact dTNot_ok (dTr_bl (call1 e2))
theorem v1_ok {sc st : D} (g : Good st) : ∃ (st' : D) (y2 : Sl), V1 [.va sc, .ow st, .un, .un, .un, .un, .un, .un, .un, .un] = .ok (.nx, [.va sc, .ow st', y2, .un, .un, .un, .un, .un, .un, .un]) ∧ Good st' := by
  obtain ⟨e', q1, st1, y2, rfl, g1⟩ := forL_nx (mt := gSet 2) (mb := VB1) (fun e => ∃ (st : D) (y2 : Sl), e = [.va sc, .ow st, y2, .un, .un, .un, .un, .un, .un, .un] ∧ Good st) (rngD 0 1 3) [.va sc, .ow st, .un, .un, .un, .un, .un, .un, .un, .un] (by
    rintro d hd e ⟨st, y2, rfl, g⟩
    obtain ⟨st', q, g'⟩ := vb1_ok (sc := sc) (d2 := d) g
    exact ⟨[.va sc, .ow st, .va d, .un, .un, .un, .un, .un, .un, .un], _, rfl, q, st', _, rfl, g'⟩) ⟨st, _, rfl, g⟩
  refine ⟨st1, y2, ?_, g1⟩
  unfold V1 sFor
  rw [show dRng (dCons (dC (.int 3)) (dNil)) [.va sc, .ow st, .un, .un, .un, .un, .un, .un, .un, .un] = .ok (rngD 0 1 3, [.va sc, .ow st, .un, .un, .un, .un, .un, .un, .un, .un]) from rngc (n := 3) (by decide), bnd_ok]
  exact q1
theorem lst2 {env : En} {a b : D} : dItems (dLst (dCons (dC a) (dCons (dC b) (dNil)))) env = .ok ([a, b], env) := dItems_lst (dLst_ok (dCons_ok rfl (dCons_ok rfl rfl)) (by simp))
theorem two_lc {mt te : Ev} {env : En} {v : Nat} {a b x y : D} {s : Sl} (how : isOw env v = false) (hs : env[v]? = some s) (h1 : te ((env.set v .un).set v (.va a)) = .ok (x, (env.set v .un).set v (.va a))) (h2 : te ((env.set v .un).set v (.va b)) = .ok (y, (env.set v .un).set v (.va b))) (hv : ∀ d e, gSet v d e = .ok (e.set v (.va d))) :
    dLc (dItems (dLst (dCons (dC a) (dCons (dC b) (dNil))))) (gSet v) (dYes) te [v] env = .ok (.lst [x, y], env) := by
  refine dLc_ok2 lst2 how hs ?_ (by simp)
  have w : ∀ d, wipeE (((env.set v .un).set v (.va d))) [v] = env.set v .un := fun d => by
    show List.set ((env.set v .un).set v (.va d)) v .un = env.set v .un
    rw [List.set_set, List.set_set]
  rw [lcL, hv, bnd_ok]
  simp only [dYes, bnd_ok, if_true, h1]
  rw [w, lcL, hv, bnd_ok]
  simp only [dYes, bnd_ok, if_true, h2]
  rw [w, lcL, bnd_ok, bnd_ok]
theorem vb2_ok {sc st d : D} {y2 y7 : Sl} (h : d ∈ wrongL) : VB2 [.va sc, .ow st, y2, .va d, .un, .un, .un, y7, .un, .un] = .ok (.nx, [.va sc, .ow st, y2, .va d, .un, .un, .un, .va (.lst [FC, FC, FC, FC, FC, FC]), .un, .un]) := by
  obtain ⟨h6, h7, h4, h5, h3, h1, h0, h2⟩ := heard_chg h
  have sg : ∀ d e, gSet 9 d e = .ok (e.set 9 (.va d)) := fun _ _ => rfl
  have l1 := two_lc (mt := dC .non) (te := dCall m__law_heard (dCons (dVar 9) (dCons (dLst (dCons (dVar 3) (dNil))) (dNil)))) (env := [.va sc, .ow st, y2, .va d, .un, .un, .un, y7, .un, .un]) (v := 9) (a := .fn 6) (b := .fn 7) rfl rfl (dCall2 rfl (dLst_ok (dCons_ok rfl rfl) (by simp)) h6) (dCall2 rfl (dLst_ok (dCons_ok rfl rfl) (by simp)) h7) sg
  have l2 := two_lc (mt := dC .non) (te := dCall m__law_heard (dCons (dVar 9) (dCons (dLst (dCons (dVar 3) (dCons (dC .non) (dNil)))) (dNil)))) (env := [.va sc, .ow st, y2, .va d, .un, .un, .un, y7, .un, .un]) (v := 9) (a := .fn 4) (b := .fn 5) rfl rfl (dCall2 rfl (dLst_ok (dCons_ok rfl (dCons_ok rfl rfl)) (by simp)) h4) (dCall2 rfl (dLst_ok (dCons_ok rfl (dCons_ok rfl rfl)) (by simp)) h5) sg
  have l3 := two_lc (mt := dC .non) (te := dCall m__law_heard (dCons (dVar 9) (dCons (dLst (dCons (dVar 3) (dCons (dC .non) (dCons (dC .non) (dCons (dC .non) (dCons (dC .non) (dNil))))))) (dNil)))) (env := [.va sc, .ow st, y2, .va d, .un, .un, .un, .va (.lst [FC, FC, FC, FC, FC, FC]), .un, .un]) (v := 9) (a := .fn 0) (b := .fn 2) rfl rfl (dCall2 rfl (dLst_ok (dCons_ok rfl (dCons_ok rfl (dCons_ok rfl (dCons_ok rfl (dCons_ok rfl rfl))))) (by simp)) h0) (dCall2 rfl (dLst_ok (dCons_ok rfl (dCons_ok rfl (dCons_ok rfl (dCons_ok rfl (dCons_ok rfl rfl))))) (by simp)) h2) sg
  unfold VB2
  rw [stp (sSet_to (i := 6) (e2 := [.va sc, .ow st, y2, .va d, .un, .un, .un, .va (.lst [FC, FC, FC, FC]), .un, .un]) (dBin_ok l1 l2 (add_lst (by simp))) rfl)]
  rw [stp (sSet_to (i := 6) (e2 := [.va sc, .ow st, y2, .va d, .un, .un, .un, .va (.lst [FC, FC, FC, FC, FC, FC]), .un, .un]) (dBin_ok rfl (dLst_ok (dCons_ok (dCall2 rfl (dLst_ok (dCons_ok rfl (dCons_ok rfl (dCons_ok rfl rfl))) (by simp)) h3) (dCons_ok (dCall2 rfl (dLst_ok (dCons_ok rfl (dCons_ok rfl (dCons_ok rfl (dCons_ok rfl rfl)))) (by simp)) h1) rfl)) (by simp)) (add_lst (by simp))) rfl)]
  refine (sIf_f (dTb_ok (dBin_ok (dBin_ok rfl l3 (add_lst (by simp))) (dBin_ok (dLst_ok (dCons_ok rfl rfl) (by simp)) rfl (mul_rep FC 8 (by decide))) ?_))).trans rfl
  exact ne_rep (x := "flow changes") (by decide +kernel) 8
theorem vit_ok {sc st : D} {y2 : Sl} : VIT [.va sc, .ow st, y2, .un, .un, .un, .un, .un, .un, .un] = .ok (wrongL, [.va sc, .ow st, y2, .un, .un, .un, .un, .un, .un, .un]) := by
  have m1 : dMul (.tup [.tup [.int 1]]) (.int 13) = .ok (.tup (List.replicate 13 (.tup [.int 1]))) := mulT_rep (n := 13) _ (by decide) (by decide)
  have m2 : dMul (.tup [.int 0]) (.int 11) = .ok (.tup (List.replicate 11 (.int 0))) := mulT_rep (n := 11) _ (by decide) (by decide)
  have t1 : ∀ (m : Ev) (a : D), m [.va sc, .ow st, y2, .un, .un, .un, .un, .un, .un, .un] = .ok (a, [.va sc, .ow st, y2, .un, .un, .un, .un, .un, .un, .un]) → dTup (dCons m (dNil)) [.va sc, .ow st, y2, .un, .un, .un, .un, .un, .un, .un] = .ok (.tup [a], [.va sc, .ow st, y2, .un, .un, .un, .un, .un, .un, .un]) := fun m a h => dTup_ok (dCons_ok h rfl) (by simp)
  have t2 : ∀ (m n : Ev) (a b : D), m [.va sc, .ow st, y2, .un, .un, .un, .un, .un, .un, .un] = .ok (a, [.va sc, .ow st, y2, .un, .un, .un, .un, .un, .un, .un]) → n [.va sc, .ow st, y2, .un, .un, .un, .un, .un, .un, .un] = .ok (b, [.va sc, .ow st, y2, .un, .un, .un, .un, .un, .un, .un]) → dTup (dCons m (dCons n (dNil))) [.va sc, .ow st, y2, .un, .un, .un, .un, .un, .un, .un] = .ok (.tup [a, b], [.va sc, .ow st, y2, .un, .un, .un, .un, .un, .un, .un]) := fun m n a b h h2 => dTup_ok (dCons_ok h (dCons_ok h2 rfl)) (by simp)
  have t0 : dTup (dNil) [.va sc, .ow st, y2, .un, .un, .un, .un, .un, .un, .un] = .ok (.tup [], [.va sc, .ow st, y2, .un, .un, .un, .un, .un, .un, .un]) := dTup_ok rfl (by simp)
  exact dItems_lst (dLst_ok (dCons_ok rfl (dCons_ok t0 (dCons_ok (t1 _ _ t0) (dCons_ok (t2 _ _ _ _ (t2 _ _ _ _ rfl rfl) (t1 _ _ rfl)) (dCons_ok (dBin_ok (t1 _ _ (t1 _ _ rfl)) rfl m1) (dCons_ok (t1 _ _ (dBin_ok (t1 _ _ rfl) rfl m2)) (dCons_ok (t1 _ _ (t1 _ _ (dBin_ok (dBin_ok rfl rfl p12) rfl rfl))) (dCons_ok (t1 _ _ (t1 _ _ rfl)) (dCons_ok (t1 _ _ rfl) (dCons_ok rfl (dCons_ok (dLst_ok (dCons_ok (t1 _ _ rfl) rfl) (by simp)) rfl))))))))))) (by simp))
theorem v2_ok {sc st : D} {y2 : Sl} : ∃ (y3 y7 : Sl), V2 [.va sc, .ow st, y2, .un, .un, .un, .un, .un, .un, .un] = .ok (.nx, [.va sc, .ow st, y2, y3, .un, .un, .un, y7, .un, .un]) := by
  obtain ⟨e', q1, y3, y7, rfl⟩ := forL_nx (mt := gSet 3) (mb := VB2) (fun e => ∃ (y3 y7 : Sl), e = [.va sc, .ow st, y2, y3, .un, .un, .un, y7, .un, .un]) wrongL [.va sc, .ow st, y2, .un, .un, .un, .un, .un, .un, .un] (by
    rintro d hd e ⟨y3, y7, rfl⟩
    exact ⟨[.va sc, .ow st, y2, .va d, .un, .un, .un, y7, .un, .un], _, rfl, vb2_ok hd, _, _, rfl⟩) ⟨_, _, rfl⟩
  refine ⟨y3, y7, ?_⟩
  unfold V2 sFor
  rw [show (dItems _ : Iv) _ = _ from vit_ok (sc := sc) (st := st) (y2 := y2), bnd_ok]
  exact q1
theorem v3_ok {sc st : D} {y2 y3 y7 : Sl} : V3 [.va sc, .ow st, y2, y3, .un, .un, .un, y7, .un, .un] = .ok (.nx, [.va sc, .ow st, y2, y3, .va CH, .un, .un, y7, .un, .un]) := by
  have t2 : ∀ (m n : Ev) (a b : D), m [.va sc, .ow st, y2, y3, .un, .un, .un, y7, .un, .un] = .ok (a, [.va sc, .ow st, y2, y3, .un, .un, .un, y7, .un, .un]) → n [.va sc, .ow st, y2, y3, .un, .un, .un, y7, .un, .un] = .ok (b, [.va sc, .ow st, y2, y3, .un, .un, .un, y7, .un, .un]) → dTup (dCons m (dCons n (dNil))) [.va sc, .ow st, y2, y3, .un, .un, .un, y7, .un, .un] = .ok (.tup [a, b], [.va sc, .ow st, y2, y3, .un, .un, .un, y7, .un, .un]) := fun m n a b h h2 => dTup_ok (dCons_ok h (dCons_ok h2 rfl)) (by simp)
  exact sSet_to (i := 3) (t2 _ _ _ _ (t2 _ _ _ _ (dBin_ok rfl rfl (show dSub (.int 0) (.int 1) = .ok (.int (-1)) from rfl)) rfl) (t2 _ _ _ _ rfl (dBin_ok rfl rfl (show dSub (.int 0) (.int 1) = .ok (.int (-1)) from rfl)))) rfl
theorem v4_ok {sc st : D} {y2 y3 y7 : Sl} (g : Good st) : ∃ (st' w : D), V4 [.va sc, .ow st, y2, y3, .va CH, .un, .un, y7, .un, .un] = .ok (.nx, [.va sc, .ow st', y2, y3, .va CH, .va w, .un, y7, .un, .un]) ∧ w ∈ wgtL ∧ Good st' := by
  have t1 : ∀ (u1 : Ev) (a : D), u1 [.va sc, .ow st, y2, y3, .va CH, .un, .un, y7, .un, .un] = .ok (a, [.va sc, .ow st, y2, y3, .va CH, .un, .un, y7, .un, .un]) → dTup (dCons u1 (dNil)) [.va sc, .ow st, y2, y3, .va CH, .un, .un, y7, .un, .un] = .ok (.tup [a], [.va sc, .ow st, y2, y3, .va CH, .un, .un, y7, .un, .un]) := fun u1 a h => dTup_ok (dCons_ok h rfl) (by simp)
  have t2 : ∀ (u1 u2 : Ev) (a b : D), u1 [.va sc, .ow st, y2, y3, .va CH, .un, .un, y7, .un, .un] = .ok (a, [.va sc, .ow st, y2, y3, .va CH, .un, .un, y7, .un, .un]) → u2 [.va sc, .ow st, y2, y3, .va CH, .un, .un, y7, .un, .un] = .ok (b, [.va sc, .ow st, y2, y3, .va CH, .un, .un, y7, .un, .un]) → dTup (dCons u1 (dCons u2 (dNil))) [.va sc, .ow st, y2, y3, .va CH, .un, .un, y7, .un, .un] = .ok (.tup [a, b], [.va sc, .ow st, y2, y3, .va CH, .un, .un, y7, .un, .un]) := fun u1 u2 a b h h2 => dTup_ok (dCons_ok h (dCons_ok h2 rfl)) (by simp)
  have t3 : ∀ (u1 u2 u3 : Ev) (a b c : D), u1 [.va sc, .ow st, y2, y3, .va CH, .un, .un, y7, .un, .un] = .ok (a, [.va sc, .ow st, y2, y3, .va CH, .un, .un, y7, .un, .un]) → u2 [.va sc, .ow st, y2, y3, .va CH, .un, .un, y7, .un, .un] = .ok (b, [.va sc, .ow st, y2, y3, .va CH, .un, .un, y7, .un, .un]) → u3 [.va sc, .ow st, y2, y3, .va CH, .un, .un, y7, .un, .un] = .ok (c, [.va sc, .ow st, y2, y3, .va CH, .un, .un, y7, .un, .un]) → dTup (dCons u1 (dCons u2 (dCons u3 (dNil)))) [.va sc, .ow st, y2, y3, .va CH, .un, .un, y7, .un, .un] = .ok (.tup [a, b, c], [.va sc, .ow st, y2, y3, .va CH, .un, .un, y7, .un, .un]) := fun u1 u2 u3 a b c h h2 h3 => dTup_ok (dCons_ok h (dCons_ok h2 (dCons_ok h3 rfl))) (by simp)
  obtain ⟨w, st', q, hw, g'⟩ := pick1 (m := (dLst (dCons (dC .non) (dCons (dTup (dCons (dC (.int 1)) (dNil))) (dCons (dTup (dCons (dC (.int 1)) (dCons (dC (.int 1)) (dCons (dC (.int 1)) (dNil))))) (dCons (dTup (dCons (dC (.int 1)) (dCons (dC (.bl true)) (dNil)))) (dCons (dTup (dCons (dC (.int 1)) (dCons (dC .non) (dNil)))) (dCons (dC (.int 5)) (dCons (dLst (dCons (dC (.int 1)) (dCons (dC (.int 1)) (dNil)))) (dCons (dTup (dCons (dC (.str "1")) (dCons (dC (.int 1)) (dNil)))) (dNil))))))))))) (xs := wgtL) (R := [.va sc, .ow st, y2, y3, .va CH, .un, .un, y7, .un, .un].drop 2) g (dLst_ok (dCons_ok rfl (dCons_ok (t1 _ _ rfl) (dCons_ok (t3 _ _ _ _ _ _ rfl rfl rfl) (dCons_ok (t2 _ _ _ _ rfl rfl) (dCons_ok (t2 _ _ _ _ rfl rfl) (dCons_ok rfl (dCons_ok (dLst_ok (dCons_ok rfl (dCons_ok rfl rfl)) (by simp)) (dCons_ok (t2 _ _ _ _ rfl rfl) rfl)))))))) (by simp)) (by simp) (by simp)
  exact ⟨st', w, sSet_to (i := 4) q rfl, hw, g'⟩
theorem v5_ok {sc st w : D} {y2 y3 y7 : Sl} (g : Good st) : ∃ (st' m : D), V5 [.va sc, .ow st, y2, y3, .va CH, .va w, .un, y7, .un, .un] = .ok (.nx, [.va sc, .ow st', y2, y3, .va CH, .va w, .va m, y7, .un, .un]) ∧ m ∈ mrkL ∧ Good st' := by
  have t1 : ∀ (u1 : Ev) (a : D), u1 [.va sc, .ow st, y2, y3, .va CH, .va w, .un, y7, .un, .un] = .ok (a, [.va sc, .ow st, y2, y3, .va CH, .va w, .un, y7, .un, .un]) → dTup (dCons u1 (dNil)) [.va sc, .ow st, y2, y3, .va CH, .va w, .un, y7, .un, .un] = .ok (.tup [a], [.va sc, .ow st, y2, y3, .va CH, .va w, .un, y7, .un, .un]) := fun u1 a h => dTup_ok (dCons_ok h rfl) (by simp)
  have t2 : ∀ (u1 u2 : Ev) (a b : D), u1 [.va sc, .ow st, y2, y3, .va CH, .va w, .un, y7, .un, .un] = .ok (a, [.va sc, .ow st, y2, y3, .va CH, .va w, .un, y7, .un, .un]) → u2 [.va sc, .ow st, y2, y3, .va CH, .va w, .un, y7, .un, .un] = .ok (b, [.va sc, .ow st, y2, y3, .va CH, .va w, .un, y7, .un, .un]) → dTup (dCons u1 (dCons u2 (dNil))) [.va sc, .ow st, y2, y3, .va CH, .va w, .un, y7, .un, .un] = .ok (.tup [a, b], [.va sc, .ow st, y2, y3, .va CH, .va w, .un, y7, .un, .un]) := fun u1 u2 a b h h2 => dTup_ok (dCons_ok h (dCons_ok h2 rfl)) (by simp)
  have t3 : ∀ (u1 u2 u3 : Ev) (a b c : D), u1 [.va sc, .ow st, y2, y3, .va CH, .va w, .un, y7, .un, .un] = .ok (a, [.va sc, .ow st, y2, y3, .va CH, .va w, .un, y7, .un, .un]) → u2 [.va sc, .ow st, y2, y3, .va CH, .va w, .un, y7, .un, .un] = .ok (b, [.va sc, .ow st, y2, y3, .va CH, .va w, .un, y7, .un, .un]) → u3 [.va sc, .ow st, y2, y3, .va CH, .va w, .un, y7, .un, .un] = .ok (c, [.va sc, .ow st, y2, y3, .va CH, .va w, .un, y7, .un, .un]) → dTup (dCons u1 (dCons u2 (dCons u3 (dNil)))) [.va sc, .ow st, y2, y3, .va CH, .va w, .un, y7, .un, .un] = .ok (.tup [a, b, c], [.va sc, .ow st, y2, y3, .va CH, .va w, .un, y7, .un, .un]) := fun u1 u2 u3 a b c h h2 h3 => dTup_ok (dCons_ok h (dCons_ok h2 (dCons_ok h3 rfl))) (by simp)
  obtain ⟨m, st', q, hm, g'⟩ := pick1 (m := (dLst (dCons (dC .non) (dCons (dTup (dCons (dC (.int 1)) (dNil))) (dCons (dTup (dCons (dC (.int 1)) (dCons (dC (.int 2)) (dCons (dC (.int 3)) (dNil))))) (dCons (dTup (dCons (dC (.int 1)) (dCons (dNeg (dC (.int 1))) (dNil)))) (dCons (dTup (dCons (dC (.int 1)) (dCons (dBin dAdd (dBin dPow (dC (.int 10)) (dC (.int 12))) (dC (.int 1))) (dNil)))) (dCons (dTup (dCons (dC (.bl true)) (dCons (dC (.int 1)) (dNil)))) (dCons (dTup (dCons (dC (.str "1")) (dCons (dC (.int 1)) (dNil)))) (dCons (dC (.int 5)) (dCons (dLst (dCons (dC (.int 1)) (dCons (dC (.int 1)) (dNil)))) (dNil)))))))))))) (xs := mrkL) (R := [.va sc, .ow st, y2, y3, .va CH, .va w, .un, y7, .un, .un].drop 2) g (dLst_ok (dCons_ok rfl (dCons_ok (t1 _ _ rfl) (dCons_ok (t3 _ _ _ _ _ _ rfl rfl rfl) (dCons_ok (t2 _ _ _ _ rfl rfl) (dCons_ok (t2 _ _ _ _ rfl (dBin_ok (dBin_ok rfl rfl p12) rfl rfl)) (dCons_ok (t2 _ _ _ _ rfl rfl) (dCons_ok (t2 _ _ _ _ rfl rfl) (dCons_ok rfl (dCons_ok (dLst_ok (dCons_ok rfl (dCons_ok rfl rfl)) (by simp)) rfl))))))))) (by simp)) (by simp) (by simp)
  exact ⟨st', m, sSet_to (i := 5) q rfl, hm, g'⟩
theorem v6_ok {sc st w m : D} {y2 y3 y7 : Sl} (hw : w ∈ wgtL) (hm : m ∈ mrkL) : V6 [.va sc, .ow st, y2, y3, .va CH, .va w, .va m, y7, .un, .un] = .ok (.nx, [.va sc, .ow st, y2, y3, .va CH, .va w, .va m, y7, .un, .un]) := by
  refine (sIf_f (e' := [.va sc, .ow st, y2, y3, .va CH, .va w, .va m, y7, .un, .un]) ?_).trans rfl
  rw [dTOr_f (dTb_ok (dBin_ok (dCall2 rfl (dLst_ok (dCons_ok rfl (dCons_ok rfl rfl)) (by simp)) (heard_wgt hw)) rfl (ne_lit (by decide +kernel))))]
  exact dTb_ok (dBin_ok (dCall2 rfl (dLst_ok (dCons_ok rfl (dCons_ok rfl rfl)) (by simp)) (heard_mrk hm).1) rfl (ne_lit (by decide +kernel)))
theorem sSetO_to {i : Nat} {m : Ev} {env e' e2 : En} {d : D} (h : m env = .ok (d, e')) (k : e'.set (i + 1) (.ow d) = e2) : sSetO (i + 1) m env = .ok (.nx, e2) := by
  unfold sSetO
  rw [h, bnd_ok]
  show bnd (put (i + 1) (.ow d) e') _ = _
  rw [put_succ, bnd_ok, k]
theorem meth_app {env : En} {i : Nat} {ms : Av} {ds : List D} {a : D} (h0 : env[i]? = some (.ow (.lst ds))) (h : ms env = .ok ([a], env)) (hl : ds.length < 1000) : sDrop (dMeth fApp i ms) env = .ok (.nx, env.set i (.ow (.lst (ds ++ [a])))) := by
  refine sDrop_ok (d := .non) ?_
  unfold dMeth
  rw [h0]
  simp only []
  rw [h, bnd_ok]
  simp only [h0]
  have : ds.length < maxSeq := Nat.lt_of_lt_of_le hl (le_maxSeq (Nat.le_refl _))
  simp only [fApp, this, if_true, bnd_ok]
theorem v7_ok {sc st w m : D} {y2 y3 y7 : Sl} (hm : m ∈ mrkL) : V7 [.va sc, .ow st, y2, y3, .va CH, .va w, .va m, y7, .un, .un] = .ok (.nx, [.va sc, .ow st, y2, y3, .va CH, .va w, .va m, .ow (.lst [(.str "argument mark"), (.str "argument mark")]), .un, .un]) :=
  sSetO_to (i := 6) (dLst_ok (dCons_ok (dCall2 rfl (dLst_ok (dCons_ok rfl (dCons_ok rfl (dCons_ok rfl rfl))) (by simp)) (heard_mrk hm).2.1) (dCons_ok (dCall2 rfl (dLst_ok (dCons_ok rfl (dCons_ok rfl (dCons_ok rfl (dCons_ok rfl rfl)))) (by simp)) (heard_mrk hm).2.2.1) rfl)) (by simp)) rfl
theorem v8_ok {sc st w m : D} {y2 y3 : Sl} (hm : m ∈ mrkL) : V8 [.va sc, .ow st, y2, y3, .va CH, .va w, .va m, .ow (.lst [(.str "argument mark"), (.str "argument mark")]), .un, .un] = .ok (.nx, [.va sc, .ow st, y2, y3, .va CH, .va w, .va m, .ow (.lst [(.str "argument mark"), (.str "argument mark"), (.str "argument mark")]), .un, .un]) :=
  (meth_app rfl (dCons_ok (dCall2 rfl (dLst_ok (dCons_ok rfl (dCons_ok rfl (dCons_ok rfl (dCons_ok rfl (dCons_ok rfl rfl))))) (by simp)) (heard_mrk hm).2.2.2.1) rfl) (by simp)).trans rfl
theorem v9_ok {sc st w m : D} {y2 y3 : Sl} (hm : m ∈ mrkL) : V9 [.va sc, .ow st, y2, y3, .va CH, .va w, .va m, .ow (.lst [(.str "argument mark"), (.str "argument mark"), (.str "argument mark")]), .un, .un] = .ok (.nx, [.va sc, .ow st, y2, y3, .va CH, .va w, .va m, .ow (.lst [(.str "argument mark"), (.str "argument mark"), (.str "argument mark")]), .un, .un]) := by
  refine (sIf_f (e' := [.va sc, .ow st, y2, y3, .va CH, .va w, .va m, .ow (.lst [(.str "argument mark"), (.str "argument mark"), (.str "argument mark")]), .un, .un]) ?_).trans rfl
  rw [dTOr_f (dTb_ok (dBin_ok rfl (dBin_ok (dLst_ok (dCons_ok rfl rfl) (by simp)) rfl (mul_rep (.str "argument mark") 3 (by decide))) (ne_rep (x := "argument mark") (by decide +kernel) 3)))]
  exact dTb_ok (dBin_ok (dCall2 rfl (dLst_ok (dCons_ok rfl (dCons_ok rfl (dCons_ok rfl (dCons_ok rfl (dCons_ok rfl rfl))))) (by simp)) (heard_mrk hm).2.2.2.2) rfl (ne_lit (by decide +kernel)))
theorem v10_ok {sc st w m : D} {y2 y3 : Sl} (hm : m ∈ mrkL) : V10 [.va sc, .ow st, y2, y3, .va CH, .va w, .va m, .ow (.lst [(.str "argument mark"), (.str "argument mark"), (.str "argument mark")]), .un, .un] = .ok (.nx, [.va sc, .ow st, y2, y3, .va CH, .va w, .va m, .ow (.lst [(.str "argument other"), (.str "argument other")]), .un, .un]) := by
  have t2 : dTup (dCons (dC (.int 1)) (dCons (dC (.int 1)) (dNil))) [.va sc, .ow st, y2, y3, .va CH, .va w, .va m, .ow (.lst [(.str "argument mark"), (.str "argument mark"), (.str "argument mark")]), .un, .un] = .ok (M11, [.va sc, .ow st, y2, y3, .va CH, .va w, .va m, .ow (.lst [(.str "argument mark"), (.str "argument mark"), (.str "argument mark")]), .un, .un]) := dTup_ok (dCons_ok rfl (dCons_ok rfl rfl)) (by simp)
  exact sSetO_to (i := 6) (dLst_ok (dCons_ok (dCall2 rfl (dLst_ok (dCons_ok rfl (dCons_ok t2 (dCons_ok rfl rfl))) (by simp)) (heard_oth hm).1) (dCons_ok (dCall2 rfl (dLst_ok (dCons_ok rfl (dCons_ok t2 (dCons_ok rfl (dCons_ok rfl rfl)))) (by simp)) (heard_oth hm).2.1) rfl)) (by simp)) rfl
theorem v11_ok {sc st w m : D} {y2 y3 : Sl} (hm : m ∈ mrkL) : V11 [.va sc, .ow st, y2, y3, .va CH, .va w, .va m, .ow (.lst [(.str "argument other"), (.str "argument other")]), .un, .un] = .ok (.nx, [.va sc, .ow st, y2, y3, .va CH, .va w, .va m, .ow (.lst [(.str "argument other"), (.str "argument other"), (.str "argument other")]), .un, .un]) := by
  have t2 : dTup (dCons (dC (.int 1)) (dCons (dC (.int 1)) (dNil))) [.va sc, .ow st, y2, y3, .va CH, .va w, .va m, .ow (.lst [(.str "argument other"), (.str "argument other")]), .un, .un] = .ok (M11, [.va sc, .ow st, y2, y3, .va CH, .va w, .va m, .ow (.lst [(.str "argument other"), (.str "argument other")]), .un, .un]) := dTup_ok (dCons_ok rfl (dCons_ok rfl rfl)) (by simp)
  exact (meth_app rfl (dCons_ok (dCall2 rfl (dLst_ok (dCons_ok rfl (dCons_ok t2 (dCons_ok rfl (dCons_ok rfl (dCons_ok rfl rfl))))) (by simp)) (heard_oth hm).2.2) rfl) (by simp)).trans rfl
theorem v12_ok {sc st w m : D} {y2 y3 : Sl} : V12 [.va sc, .ow st, y2, y3, .va CH, .va w, .va m, .ow (.lst [(.str "argument other"), (.str "argument other"), (.str "argument other")]), .un, .un] = .ok (.nx, [.va sc, .ow st, y2, y3, .va CH, .va w, .va m, .ow (.lst [(.str "argument other"), (.str "argument other"), (.str "argument other")]), .un, .un]) :=
  (sIf_f (dTb_ok (dBin_ok rfl (dBin_ok (dLst_ok (dCons_ok rfl rfl) (by simp)) rfl (mul_rep (.str "argument other") 3 (by decide))) (ne_rep (x := "argument other") (by decide +kernel) 3)))).trans rfl
theorem v13_ok {sc st w m : D} {y2 y3 : Sl} (g : Good st) : ∃ (st' pl : D), V13 [.va sc, .ow st, y2, y3, .va CH, .va w, .va m, .ow (.lst [(.str "argument other"), (.str "argument other"), (.str "argument other")]), .un, .un] = .ok (.nx, [.va sc, .ow st', y2, y3, .va CH, .va w, .va m, .ow (.lst [(.str "argument other"), (.str "argument other"), (.str "argument other")]), .va pl, .un]) ∧ pl ∈ plcL ∧ Good st' := by
  have t1 : ∀ (u1 : Ev) (a : D), u1 [.va sc, .ow st, y2, y3, .va CH, .va w, .va m, .ow (.lst [(.str "argument other"), (.str "argument other"), (.str "argument other")]), .un, .un] = .ok (a, [.va sc, .ow st, y2, y3, .va CH, .va w, .va m, .ow (.lst [(.str "argument other"), (.str "argument other"), (.str "argument other")]), .un, .un]) → dTup (dCons u1 (dNil)) [.va sc, .ow st, y2, y3, .va CH, .va w, .va m, .ow (.lst [(.str "argument other"), (.str "argument other"), (.str "argument other")]), .un, .un] = .ok (.tup [a], [.va sc, .ow st, y2, y3, .va CH, .va w, .va m, .ow (.lst [(.str "argument other"), (.str "argument other"), (.str "argument other")]), .un, .un]) := fun u1 a h => dTup_ok (dCons_ok h rfl) (by simp)
  have t2 : ∀ (u1 u2 : Ev) (a b : D), u1 [.va sc, .ow st, y2, y3, .va CH, .va w, .va m, .ow (.lst [(.str "argument other"), (.str "argument other"), (.str "argument other")]), .un, .un] = .ok (a, [.va sc, .ow st, y2, y3, .va CH, .va w, .va m, .ow (.lst [(.str "argument other"), (.str "argument other"), (.str "argument other")]), .un, .un]) → u2 [.va sc, .ow st, y2, y3, .va CH, .va w, .va m, .ow (.lst [(.str "argument other"), (.str "argument other"), (.str "argument other")]), .un, .un] = .ok (b, [.va sc, .ow st, y2, y3, .va CH, .va w, .va m, .ow (.lst [(.str "argument other"), (.str "argument other"), (.str "argument other")]), .un, .un]) → dTup (dCons u1 (dCons u2 (dNil))) [.va sc, .ow st, y2, y3, .va CH, .va w, .va m, .ow (.lst [(.str "argument other"), (.str "argument other"), (.str "argument other")]), .un, .un] = .ok (.tup [a, b], [.va sc, .ow st, y2, y3, .va CH, .va w, .va m, .ow (.lst [(.str "argument other"), (.str "argument other"), (.str "argument other")]), .un, .un]) := fun u1 u2 a b h h2 => dTup_ok (dCons_ok h (dCons_ok h2 rfl)) (by simp)
  have t3 : ∀ (u1 u2 u3 : Ev) (a b c : D), u1 [.va sc, .ow st, y2, y3, .va CH, .va w, .va m, .ow (.lst [(.str "argument other"), (.str "argument other"), (.str "argument other")]), .un, .un] = .ok (a, [.va sc, .ow st, y2, y3, .va CH, .va w, .va m, .ow (.lst [(.str "argument other"), (.str "argument other"), (.str "argument other")]), .un, .un]) → u2 [.va sc, .ow st, y2, y3, .va CH, .va w, .va m, .ow (.lst [(.str "argument other"), (.str "argument other"), (.str "argument other")]), .un, .un] = .ok (b, [.va sc, .ow st, y2, y3, .va CH, .va w, .va m, .ow (.lst [(.str "argument other"), (.str "argument other"), (.str "argument other")]), .un, .un]) → u3 [.va sc, .ow st, y2, y3, .va CH, .va w, .va m, .ow (.lst [(.str "argument other"), (.str "argument other"), (.str "argument other")]), .un, .un] = .ok (c, [.va sc, .ow st, y2, y3, .va CH, .va w, .va m, .ow (.lst [(.str "argument other"), (.str "argument other"), (.str "argument other")]), .un, .un]) → dTup (dCons u1 (dCons u2 (dCons u3 (dNil)))) [.va sc, .ow st, y2, y3, .va CH, .va w, .va m, .ow (.lst [(.str "argument other"), (.str "argument other"), (.str "argument other")]), .un, .un] = .ok (.tup [a, b, c], [.va sc, .ow st, y2, y3, .va CH, .va w, .va m, .ow (.lst [(.str "argument other"), (.str "argument other"), (.str "argument other")]), .un, .un]) := fun u1 u2 u3 a b c h h2 h3 => dTup_ok (dCons_ok h (dCons_ok h2 (dCons_ok h3 rfl))) (by simp)
  obtain ⟨pl, st', q, hp, g'⟩ := pick1 (m := (dLst (dCons (dC .non) (dCons (dNeg (dC (.int 1))) (dCons (dC (.int 2)) (dCons (dC (.bl true)) (dCons (dC (.str "0")) (dCons (dTup (dCons (dC (.int 0)) (dNil))) (dNil))))))))) (xs := plcL) (R := [.va sc, .ow st, y2, y3, .va CH, .va w, .va m, .ow (.lst [(.str "argument other"), (.str "argument other"), (.str "argument other")]), .un, .un].drop 2) g (dLst_ok (dCons_ok rfl (dCons_ok rfl (dCons_ok rfl (dCons_ok rfl (dCons_ok rfl (dCons_ok (t1 _ _ rfl) rfl)))))) (by simp)) (by simp) (by simp)
  exact ⟨st', pl, sSet_to (i := 7) q rfl, hp, g'⟩
theorem v14_ok {sc st w m pl : D} {y2 y3 : Sl} (hp : pl ∈ plcL) : V14 [.va sc, .ow st, y2, y3, .va CH, .va w, .va m, .ow (.lst [(.str "argument other"), (.str "argument other"), (.str "argument other")]), .va pl, .un] = .ok (.nx, [.va sc, .ow st, y2, y3, .va CH, .va w, .va m, .ow (.lst [(.str "argument other"), (.str "argument other"), (.str "argument other")]), .va pl, .un]) := by
  have t2 : dTup (dCons (dC (.int 1)) (dCons (dC (.int 1)) (dNil))) [.va sc, .ow st, y2, y3, .va CH, .va w, .va m, .ow (.lst [(.str "argument other"), (.str "argument other"), (.str "argument other")]), .va pl, .un] = .ok (M11, [.va sc, .ow st, y2, y3, .va CH, .va w, .va m, .ow (.lst [(.str "argument other"), (.str "argument other"), (.str "argument other")]), .va pl, .un]) := dTup_ok (dCons_ok rfl (dCons_ok rfl rfl)) (by simp)
  exact (sIf_f (dTb_ok (dBin_ok (dCall2 rfl (dLst_ok (dCons_ok rfl (dCons_ok t2 (dCons_ok rfl (dCons_ok rfl (dCons_ok rfl rfl))))) (by simp)) (heard_plc hp)) rfl (ne_lit (by decide +kernel))))).trans rfl
theorem p30 : dPow (.int 10) (.int 30) = .ok (.int BIG) := rfl
theorem v15_ok {sc st w m pl : D} {y2 y3 : Sl} : V15 [.va sc, .ow st, y2, y3, .va CH, .va w, .va m, .ow (.lst [(.str "argument other"), (.str "argument other"), (.str "argument other")]), .va pl, .un] = .ok (.rt (.bl true), [.va sc, .ow st, y2, y3, .va CH, .va w, .va m, .ow (.lst [(.str "argument other"), (.str "argument other"), (.str "argument other")]), .va pl, .un]) := by
  have t1 : ∀ (u1 : Ev) (a : D), u1 [.va sc, .ow st, y2, y3, .va CH, .va w, .va m, .ow (.lst [(.str "argument other"), (.str "argument other"), (.str "argument other")]), .va pl, .un] = .ok (a, [.va sc, .ow st, y2, y3, .va CH, .va w, .va m, .ow (.lst [(.str "argument other"), (.str "argument other"), (.str "argument other")]), .va pl, .un]) → dTup (dCons u1 (dNil)) [.va sc, .ow st, y2, y3, .va CH, .va w, .va m, .ow (.lst [(.str "argument other"), (.str "argument other"), (.str "argument other")]), .va pl, .un] = .ok (.tup [a], [.va sc, .ow st, y2, y3, .va CH, .va w, .va m, .ow (.lst [(.str "argument other"), (.str "argument other"), (.str "argument other")]), .va pl, .un]) := fun u1 a h => dTup_ok (dCons_ok h rfl) (by simp)
  have t2 : ∀ (u1 u2 : Ev) (a b : D), u1 [.va sc, .ow st, y2, y3, .va CH, .va w, .va m, .ow (.lst [(.str "argument other"), (.str "argument other"), (.str "argument other")]), .va pl, .un] = .ok (a, [.va sc, .ow st, y2, y3, .va CH, .va w, .va m, .ow (.lst [(.str "argument other"), (.str "argument other"), (.str "argument other")]), .va pl, .un]) → u2 [.va sc, .ow st, y2, y3, .va CH, .va w, .va m, .ow (.lst [(.str "argument other"), (.str "argument other"), (.str "argument other")]), .va pl, .un] = .ok (b, [.va sc, .ow st, y2, y3, .va CH, .va w, .va m, .ow (.lst [(.str "argument other"), (.str "argument other"), (.str "argument other")]), .va pl, .un]) → dTup (dCons u1 (dCons u2 (dNil))) [.va sc, .ow st, y2, y3, .va CH, .va w, .va m, .ow (.lst [(.str "argument other"), (.str "argument other"), (.str "argument other")]), .va pl, .un] = .ok (.tup [a, b], [.va sc, .ow st, y2, y3, .va CH, .va w, .va m, .ow (.lst [(.str "argument other"), (.str "argument other"), (.str "argument other")]), .va pl, .un]) := fun u1 u2 a b h h2 => dTup_ok (dCons_ok h (dCons_ok h2 rfl)) (by simp)
  have t3 : ∀ (u1 u2 u3 : Ev) (a b c : D), u1 [.va sc, .ow st, y2, y3, .va CH, .va w, .va m, .ow (.lst [(.str "argument other"), (.str "argument other"), (.str "argument other")]), .va pl, .un] = .ok (a, [.va sc, .ow st, y2, y3, .va CH, .va w, .va m, .ow (.lst [(.str "argument other"), (.str "argument other"), (.str "argument other")]), .va pl, .un]) → u2 [.va sc, .ow st, y2, y3, .va CH, .va w, .va m, .ow (.lst [(.str "argument other"), (.str "argument other"), (.str "argument other")]), .va pl, .un] = .ok (b, [.va sc, .ow st, y2, y3, .va CH, .va w, .va m, .ow (.lst [(.str "argument other"), (.str "argument other"), (.str "argument other")]), .va pl, .un]) → u3 [.va sc, .ow st, y2, y3, .va CH, .va w, .va m, .ow (.lst [(.str "argument other"), (.str "argument other"), (.str "argument other")]), .va pl, .un] = .ok (c, [.va sc, .ow st, y2, y3, .va CH, .va w, .va m, .ow (.lst [(.str "argument other"), (.str "argument other"), (.str "argument other")]), .va pl, .un]) → dTup (dCons u1 (dCons u2 (dCons u3 (dNil)))) [.va sc, .ow st, y2, y3, .va CH, .va w, .va m, .ow (.lst [(.str "argument other"), (.str "argument other"), (.str "argument other")]), .va pl, .un] = .ok (.tup [a, b, c], [.va sc, .ow st, y2, y3, .va CH, .va w, .va m, .ow (.lst [(.str "argument other"), (.str "argument other"), (.str "argument other")]), .va pl, .un]) := fun u1 u2 u3 a b c h h2 h3 => dTup_ok (dCons_ok h (dCons_ok h2 (dCons_ok h3 rfl))) (by simp)
  have a1 : dBin dEq (dCall m__law_heard (dCons (dC (.fn 4)) (dCons (dLst (dCons (dVar 4) (dCons (dTup (dCons (dBin dPow (dC (.int 10)) (dC (.int 30))) (dCons (dBin dPow (dC (.int 10)) (dC (.int 30))) (dNil)))) (dNil)))) (dNil)))) (dLst (dCons (dTup (dCons (dC (.str "kept")) (dNil))) (dNil))) [.va sc, .ow st, y2, y3, .va CH, .va w, .va m, .ow (.lst [(.str "argument other"), (.str "argument other"), (.str "argument other")]), .va pl, .un] = .ok (.bl true, [.va sc, .ow st, y2, y3, .va CH, .va w, .va m, .ow (.lst [(.str "argument other"), (.str "argument other"), (.str "argument other")]), .va pl, .un]) := by
    refine dBin_ok (dCall2 rfl (dLst_ok (dCons_ok rfl (dCons_ok (t2 _ _ _ _ (dBin_ok rfl rfl p30) (dBin_ok rfl rfl p30)) rfl)) (by simp)) heard_kept) (dLst_ok (dCons_ok (t1 _ _ rfl) rfl) (by simp)) ?_
    obtain ⟨_, l1, d1, e1⟩ := okS (x := "kept") (by decide +kernel)
    refine eq_self ?_ ?_
    · unfold D.ok; rw [D.lay, D.lays, D.lay, D.lays, D.lays, D.lays, D.dep, D.deps, D.dep, D.deps, D.deps, D.deps, l1, d1]; rfl
    · rw [D.eqv, D.eqvs, D.eqv, D.eqvs, D.eqvs, D.eqvs, e1]; rfl
  have a2 : dBin dEq (dCall m__law_heard (dCons (dC (.fn 1)) (dCons (dLst (dCons (dVar 4) (dCons (dTup (dCons (dC (.int 1)) (dCons (dC (.int 1)) (dNil)))) (dCons (dTup (dCons (dC (.int 1)) (dCons (dC (.int 0)) (dNil)))) (dCons (dTup (dCons (dBin dSub (dC (.int 0)) (dBin dPow (dC (.int 10)) (dC (.int 30)))) (dCons (dBin dSub (dC (.int 0)) (dBin dPow (dC (.int 10)) (dC (.int 30)))) (dNil)))) (dNil)))))) (dNil)))) (dLst (dCons (dC .non) (dNil))) [.va sc, .ow st, y2, y3, .va CH, .va w, .va m, .ow (.lst [(.str "argument other"), (.str "argument other"), (.str "argument other")]), .va pl, .un] = .ok (.bl true, [.va sc, .ow st, y2, y3, .va CH, .va w, .va m, .ow (.lst [(.str "argument other"), (.str "argument other"), (.str "argument other")]), .va pl, .un]) := by
    refine dBin_ok (dCall2 rfl (dLst_ok (dCons_ok rfl (dCons_ok (t2 _ _ _ _ rfl rfl) (dCons_ok (t2 _ _ _ _ rfl rfl) (dCons_ok (t2 _ _ _ _ (dBin_ok rfl (dBin_ok rfl rfl p30) (show dSub (.int 0) (.int BIG) = .ok (.int (0 - BIG)) from rfl)) (dBin_ok rfl (dBin_ok rfl rfl p30) (show dSub (.int 0) (.int BIG) = .ok (.int (0 - BIG)) from rfl))) rfl)))) (by simp)) heard_last) (dLst_ok (dCons_ok rfl rfl) (by simp)) ?_
    exact eq_self (by simp [D.ok, D.lay, D.lays, D.dep, D.deps]) (by simp [D.eqv, D.eqvs])
  refine sRet_ok ?_
  unfold dAndV
  rw [a1, bnd_ok]
  exact a2
theorem law_true (ns : List Int) : m_law [.scr ns] = .ok (.bl true) := by
  obtain ⟨s0, e0, g0⟩ := start_ok ns
  obtain ⟨st1, y2, v1, g1⟩ := v1_ok (sc := .scr ns) g0
  obtain ⟨y3, y7, v2⟩ := v2_ok (sc := .scr ns) (st := st1) (y2 := y2)
  obtain ⟨st2, w, v4, hw, g2⟩ := v4_ok (sc := .scr ns) (y2 := y2) (y3 := y3) (y7 := y7) g1
  obtain ⟨st3, m, v5, hm, g3⟩ := v5_ok (sc := .scr ns) (w := w) (y2 := y2) (y3 := y3) (y7 := y7) g2
  obtain ⟨st4, pl, v13, hp, g4⟩ := v13_ok (sc := .scr ns) (w := w) (m := m) (y2 := y2) (y3 := y3) g3
  unfold m_law b_law
  rw [show enter 10 [.scr ns] = [.va (.scr ns), .un, .un, .un, .un, .un, .un, .un, .un, .un] from rfl]
  rw [stp (sSetO_to (i := 0) (e2 := [.va (.scr ns), .ow s0, .un, .un, .un, .un, .un, .un, .un, .un]) (dCall1 rfl e0) rfl)]
  rw [stp v1, stp v2, stp v3_ok, stp v4, stp v5, stp (v6_ok hw hm), stp (v7_ok hm), stp (v8_ok hm), stp (v9_ok hm), stp (v10_ok hm), stp (v11_ok hm), stp v12_ok, stp v13, stp (v14_ok hp)]
  rw [show sRet _ _ = _ from v15_ok (sc := .scr ns) (st := st4) (w := w) (m := m) (pl := pl) (y2 := y2) (y3 := y3)]
  rfl
end LW
end Dn

/-! H10 -/
set_option Elab.async false
set_option linter.all false
set_option maxRecDepth 100000
set_option maxHeartbeats 4000000
namespace Dn
namespace LW
open PySem PySem.Spec L2
open PyProof.Rows hiding St
def iA0 : Arguments := Sup.iA ⟨6, 17, 6, 21⟩ ⟨6, 23, 6, 29⟩
def iB0 : List Stmt := Sup.iB "the work is refused" 0 ⟨7, 8, 7, 13⟩ ⟨7, 8, 7, 15⟩ ⟨7, 8, 7, 24⟩ ⟨7, 25, 7, 46⟩ ⟨7, 8, 7, 47⟩ ⟨7, 8, 7, 47⟩ ⟨8, 8, 8, 12⟩ ⟨8, 8, 8, 19⟩ ⟨8, 22, 8, 28⟩ ⟨8, 8, 8, 28⟩
def iA1 : Arguments := Sup.iA ⟨11, 17, 11, 21⟩ ⟨11, 23, 11, 29⟩
def iB1 : List Stmt := Sup.iB "an argument is refused" 0 ⟨12, 8, 12, 13⟩ ⟨12, 8, 12, 15⟩ ⟨12, 8, 12, 24⟩ ⟨12, 25, 12, 49⟩ ⟨12, 8, 12, 50⟩ ⟨12, 8, 12, 50⟩ ⟨13, 8, 13, 12⟩ ⟨13, 8, 13, 19⟩ ⟨13, 22, 13, 28⟩ ⟨13, 8, 13, 28⟩
def iA2 : Arguments := Sup.iA ⟨16, 17, 16, 21⟩ ⟨16, 23, 16, 29⟩
def iB2 : List Stmt := Sup.iB "the paper is refused" 0 ⟨17, 8, 17, 13⟩ ⟨17, 8, 17, 15⟩ ⟨17, 8, 17, 24⟩ ⟨17, 25, 17, 47⟩ ⟨17, 8, 17, 48⟩ ⟨17, 8, 17, 48⟩ ⟨18, 8, 18, 12⟩ ⟨18, 8, 18, 19⟩ ⟨18, 22, 18, 28⟩ ⟨18, 8, 18, 28⟩
def iA3 : Arguments := Sup.iA ⟨21, 17, 21, 21⟩ ⟨21, 23, 21, 29⟩
def iB3 : List Stmt := Sup.iB "too many" 0 ⟨22, 8, 22, 13⟩ ⟨22, 8, 22, 15⟩ ⟨22, 8, 22, 24⟩ ⟨22, 25, 22, 35⟩ ⟨22, 8, 22, 36⟩ ⟨22, 8, 22, 36⟩ ⟨23, 8, 23, 12⟩ ⟨23, 8, 23, 19⟩ ⟨23, 22, 23, 28⟩ ⟨23, 8, 23, 28⟩
def four {α : Type} (a b c d : α) (i : Nat) : α := match i with
  | 0 => a
  | 1 => b
  | 2 => c
  | _ => d
theorem four_all {φ : Nat → Prop} (h0 : φ 0) (h1 : φ 1) (h2 : φ 2) (h3 : φ 3) : ∀ i, i < 4 → φ i := fun i h => match i, h with
  | 0, _ => h0
  | 1, _ => h1
  | 2, _ => h2
  | 3, _ => h3
theorem tf_mk {K : PySem.W.Frag} {h : Heap} {mg : Str → Option Value} {p__law_start : Addr} {oc__law_start kV__law_start dc__law_start pm__law_start cd__law_start ct__law_start : Value} {od__law_start an__law_start : Option Addr} {sl__law_start : Array (Option Value)}
  {p__law_draw : Addr} {oc__law_draw kV__law_draw dc__law_draw pm__law_draw cd__law_draw ct__law_draw : Value} {od__law_draw an__law_draw : Option Addr} {sl__law_draw : Array (Option Value)}
  {p__law_pick : Addr} {oc__law_pick kV__law_pick dc__law_pick pm__law_pick cd__law_pick ct__law_pick : Value} {od__law_pick an__law_pick : Option Addr} {sl__law_pick : Array (Option Value)}
  {p__law_sum : Addr} {oc__law_sum kV__law_sum dc__law_sum pm__law_sum cd__law_sum ct__law_sum : Value} {od__law_sum an__law_sum : Option Addr} {sl__law_sum : Array (Option Value)}
  {p__law_bent : Addr} {oc__law_bent kV__law_bent dc__law_bent pm__law_bent cd__law_bent ct__law_bent : Value} {od__law_bent an__law_bent : Option Addr} {sl__law_bent : Array (Option Value)}
  {p_is_integer : Addr} {oc_is_integer kV_is_integer dc_is_integer pm_is_integer cd_is_integer ct_is_integer : Value} {od_is_integer an_is_integer : Option Addr} {sl_is_integer : Array (Option Value)}
  {p_is_between : Addr} {oc_is_between kV_is_between dc_is_between pm_is_between cd_is_between ct_is_between : Value} {od_is_between an_is_between : Option Addr} {sl_is_between : Array (Option Value)}
  {p_check_changes : Addr} {oc_check_changes kV_check_changes dc_check_changes pm_check_changes cd_check_changes ct_check_changes : Value} {od_check_changes an_check_changes : Option Addr} {sl_check_changes : Array (Option Value)}
  {p_check_mark : Addr} {oc_check_mark kV_check_mark dc_check_mark pm_check_mark cd_check_mark ct_check_mark : Value} {od_check_mark an_check_mark : Option Addr} {sl_check_mark : Array (Option Value)}
  {p_check_second : Addr} {oc_check_second kV_check_second dc_check_second pm_check_second cd_check_second ct_check_second : Value} {od_check_second an_check_second : Option Addr} {sl_check_second : Array (Option Value)}
  {p_is_integers : Addr} {oc_is_integers kV_is_integers dc_is_integers pm_is_integers cd_is_integers ct_is_integers : Value} {od_is_integers an_is_integers : Option Addr} {sl_is_integers : Array (Option Value)}
  {p_weighed : Addr} {oc_weighed kV_weighed dc_weighed pm_weighed cd_weighed ct_weighed : Value} {od_weighed an_weighed : Option Addr} {sl_weighed : Array (Option Value)}
  {p_accept_counts : Addr} {oc_accept_counts kV_accept_counts dc_accept_counts pm_accept_counts cd_accept_counts ct_accept_counts : Value} {od_accept_counts an_accept_counts : Option Addr} {sl_accept_counts : Array (Option Value)}
  {p_accept_apart : Addr} {oc_accept_apart kV_accept_apart dc_accept_apart pm_accept_apart cd_accept_apart ct_accept_apart : Value} {od_accept_apart an_accept_apart : Option Addr} {sl_accept_apart : Array (Option Value)}
  {p_is_weights : Addr} {oc_is_weights kV_is_weights dc_is_weights pm_is_weights cd_is_weights ct_is_weights : Value} {od_is_weights an_is_weights : Option Addr} {sl_is_weights : Array (Option Value)}
  {p_accept_bound : Addr} {oc_accept_bound kV_accept_bound dc_accept_bound pm_accept_bound cd_accept_bound ct_accept_bound : Value} {od_accept_bound an_accept_bound : Option Addr} {sl_accept_bound : Array (Option Value)}
  {p_judge_between : Addr} {oc_judge_between kV_judge_between dc_judge_between pm_judge_between cd_judge_between ct_judge_between : Value} {od_judge_between an_judge_between : Option Addr} {sl_judge_between : Array (Option Value)}
  {p_check_weights : Addr} {oc_check_weights kV_check_weights dc_check_weights pm_check_weights cd_check_weights ct_check_weights : Value} {od_check_weights an_check_weights : Option Addr} {sl_check_weights : Array (Option Value)}
  {p_judge_kept : Addr} {oc_judge_kept kV_judge_kept dc_judge_kept pm_judge_kept cd_judge_kept ct_judge_kept : Value} {od_judge_kept an_judge_kept : Option Addr} {sl_judge_kept : Array (Option Value)}
  {p_bounds_by : Addr} {oc_bounds_by kV_bounds_by dc_bounds_by pm_bounds_by cd_bounds_by ct_bounds_by : Value} {od_bounds_by an_bounds_by : Option Addr} {sl_bounds_by : Array (Option Value)}
  {p_kept_weights : Addr} {oc_kept_weights kV_kept_weights dc_kept_weights pm_kept_weights cd_kept_weights ct_kept_weights : Value} {od_kept_weights an_kept_weights : Option Addr} {sl_kept_weights : Array (Option Value)}
  {p_least_keeps : Addr} {oc_least_keeps kV_least_keeps dc_least_keeps pm_least_keeps cd_least_keeps ct_least_keeps : Value} {od_least_keeps an_least_keeps : Option Addr} {sl_least_keeps : Array (Option Value)}
  {p__law_called : Addr} {oc__law_called kV__law_called dc__law_called pm__law_called cd__law_called ct__law_called : Value} {od__law_called an__law_called : Option Addr} {sl__law_called : Array (Option Value)}
  {p__law_word : Addr} {oc__law_word kV__law_word dc__law_word pm__law_word cd__law_word ct__law_word : Value} {od__law_word an__law_word : Option Addr} {sl__law_word : Array (Option Value)}
  {p__law_heard : Addr} {oc__law_heard kV__law_heard dc__law_heard pm__law_heard cd__law_heard ct__law_heard : Value} {od__law_heard an__law_heard : Option Addr} {sl__law_heard : Array (Option Value)}
  {p__law_whole : Addr} {oc__law_whole kV__law_whole dc__law_whole pm__law_whole cd__law_whole ct__law_whole : Value} {od__law_whole an__law_whole : Option Addr} {sl__law_whole : Array (Option Value)}
  {p__law_row : Addr} {oc__law_row kV__law_row dc__law_row pm__law_row cd__law_row ct__law_row : Value} {od__law_row an__law_row : Option Addr} {sl__law_row : Array (Option Value)}
  {p__law_apart_due : Addr} {oc__law_apart_due kV__law_apart_due dc__law_apart_due pm__law_apart_due cd__law_apart_due ct__law_apart_due : Value} {od__law_apart_due an__law_apart_due : Option Addr} {sl__law_apart_due : Array (Option Value)}
  {p__law_bound_due : Addr} {oc__law_bound_due kV__law_bound_due dc__law_bound_due pm__law_bound_due cd__law_bound_due ct__law_bound_due : Value} {od__law_bound_due an__law_bound_due : Option Addr} {sl__law_bound_due : Array (Option Value)}
  {p__law_counts_due : Addr} {oc__law_counts_due kV__law_counts_due dc__law_counts_due pm__law_counts_due cd__law_counts_due ct__law_counts_due : Value} {od__law_counts_due an__law_counts_due : Option Addr} {sl__law_counts_due : Array (Option Value)}
  {p__law_papers_hold : Addr} {oc__law_papers_hold kV__law_papers_hold dc__law_papers_hold pm__law_papers_hold cd__law_papers_hold ct__law_papers_hold : Value} {od__law_papers_hold an__law_papers_hold : Option Addr} {sl__law_papers_hold : Array (Option Value)}
  {p__law_less_hold : Addr} {oc__law_less_hold kV__law_less_hold dc__law_less_hold pm__law_less_hold cd__law_less_hold ct__law_less_hold : Value} {od__law_less_hold an__law_less_hold : Option Addr} {sl__law_less_hold : Array (Option Value)}
  {p_law : Addr} {oc_law kV_law dc_law pm_law cd_law ct_law : Value} {od_law an_law : Option Addr} {sl_law : Array (Option Value)}
  {t_MAX_MOVES : Tok}
  {t_MAX_PLACES : Tok}
  {t_MAX_SIZE : Tok}
  {AW : Addr}
  {C0 I0 N0 cc0 cda0 : Addr} {nm0 qn0 : Str} {bs0 sub0 : List Value} {sn0 : List Str} {ab0 : Bool} {col0 : Option Bool} {dd0 od0 an0 cdd0 cld0 : Option Addr} {x00 x10 x20 x30 x50 : Option Value} {oc0 dc0 pm0 ct0 ccl0 cl0 : Value} {osl0 ccs0 csl0 : Array (Option Value)} {vs0 : Array Value} {tf0 : Tok}
  {C1 I1 N1 cc1 cda1 : Addr} {nm1 qn1 : Str} {bs1 sub1 : List Value} {sn1 : List Str} {ab1 : Bool} {col1 : Option Bool} {dd1 od1 an1 cdd1 cld1 : Option Addr} {x01 x11 x21 x31 x51 : Option Value} {oc1 dc1 pm1 ct1 ccl1 cl1 : Value} {osl1 ccs1 csl1 : Array (Option Value)} {vs1 : Array Value} {tf1 : Tok}
  {C2 I2 N2 cc2 cda2 : Addr} {nm2 qn2 : Str} {bs2 sub2 : List Value} {sn2 : List Str} {ab2 : Bool} {col2 : Option Bool} {dd2 od2 an2 cdd2 cld2 : Option Addr} {x02 x12 x22 x32 x52 : Option Value} {oc2 dc2 pm2 ct2 ccl2 cl2 : Value} {osl2 ccs2 csl2 : Array (Option Value)} {vs2 : Array Value} {tf2 : Tok}
  {C3 I3 N3 cc3 cda3 : Addr} {nm3 qn3 : Str} {bs3 sub3 : List Value} {sn3 : List Str} {ab3 : Bool} {col3 : Option Bool} {dd3 od3 an3 cdd3 cld3 : Option Addr} {x03 x13 x23 x33 x53 : Option Value} {oc3 dc3 pm3 ct3 ccl3 cl3 : Value} {osl3 ccs3 csl3 : Array (Option Value)} {vs3 : Array Value} {tf3 : Tok}
  (X : K.In h) (G : h.Ns mainGlobals mg)
  (a__law_start : PySem.W.nsIn K mainGlobals "_law_start" = some (some (.ref p__law_start)))
  (l__law_start : K.lookup p__law_start = some ⟨oc__law_start, od__law_start, .func (PySem.W.fnOf "_law_start" "_law_start" (defArgs (top 36)) (defBody (top 36)) (defScope (top 36)) .none kV__law_start dc__law_start pm__law_start an__law_start cd__law_start ct__law_start), sl__law_start⟩)
  (c__law_start : PySem.W.codeIn K cd__law_start "_law_start" = true)
  (k__law_start : PySem.W.keepIn K (.ref p__law_start) = true)
  (a__law_draw : PySem.W.nsIn K mainGlobals "_law_draw" = some (some (.ref p__law_draw)))
  (l__law_draw : K.lookup p__law_draw = some ⟨oc__law_draw, od__law_draw, .func (PySem.W.fnOf "_law_draw" "_law_draw" (defArgs (top 37)) (defBody (top 37)) (defScope (top 37)) .none kV__law_draw dc__law_draw pm__law_draw an__law_draw cd__law_draw ct__law_draw), sl__law_draw⟩)
  (c__law_draw : PySem.W.codeIn K cd__law_draw "_law_draw" = true)
  (k__law_draw : PySem.W.keepIn K (.ref p__law_draw) = true)
  (a__law_pick : PySem.W.nsIn K mainGlobals "_law_pick" = some (some (.ref p__law_pick)))
  (l__law_pick : K.lookup p__law_pick = some ⟨oc__law_pick, od__law_pick, .func (PySem.W.fnOf "_law_pick" "_law_pick" (defArgs (top 38)) (defBody (top 38)) (defScope (top 38)) .none kV__law_pick dc__law_pick pm__law_pick an__law_pick cd__law_pick ct__law_pick), sl__law_pick⟩)
  (c__law_pick : PySem.W.codeIn K cd__law_pick "_law_pick" = true)
  (k__law_pick : PySem.W.keepIn K (.ref p__law_pick) = true)
  (a__law_sum : PySem.W.nsIn K mainGlobals "_law_sum" = some (some (.ref p__law_sum)))
  (l__law_sum : K.lookup p__law_sum = some ⟨oc__law_sum, od__law_sum, .func (PySem.W.fnOf "_law_sum" "_law_sum" (defArgs (top 45)) (defBody (top 45)) (defScope (top 45)) .none kV__law_sum dc__law_sum pm__law_sum an__law_sum cd__law_sum ct__law_sum), sl__law_sum⟩)
  (c__law_sum : PySem.W.codeIn K cd__law_sum "_law_sum" = true)
  (k__law_sum : PySem.W.keepIn K (.ref p__law_sum) = true)
  (a__law_bent : PySem.W.nsIn K mainGlobals "_law_bent" = some (some (.ref p__law_bent)))
  (l__law_bent : K.lookup p__law_bent = some ⟨oc__law_bent, od__law_bent, .func (PySem.W.fnOf "_law_bent" "_law_bent" (defArgs (top 43)) (defBody (top 43)) (defScope (top 43)) .none kV__law_bent dc__law_bent pm__law_bent an__law_bent cd__law_bent ct__law_bent), sl__law_bent⟩)
  (c__law_bent : PySem.W.codeIn K cd__law_bent "_law_bent" = true)
  (k__law_bent : PySem.W.keepIn K (.ref p__law_bent) = true)
  (a_is_integer : PySem.W.nsIn K mainGlobals "is_integer" = some (some (.ref p_is_integer)))
  (l_is_integer : K.lookup p_is_integer = some ⟨oc_is_integer, od_is_integer, .func (PySem.W.fnOf "is_integer" "is_integer" (defArgs (top 10)) (defBody (top 10)) (defScope (top 10)) .none kV_is_integer dc_is_integer pm_is_integer an_is_integer cd_is_integer ct_is_integer), sl_is_integer⟩)
  (c_is_integer : PySem.W.codeIn K cd_is_integer "is_integer" = true)
  (k_is_integer : PySem.W.keepIn K (.ref p_is_integer) = true)
  (a_is_between : PySem.W.nsIn K mainGlobals "is_between" = some (some (.ref p_is_between)))
  (l_is_between : K.lookup p_is_between = some ⟨oc_is_between, od_is_between, .func (PySem.W.fnOf "is_between" "is_between" (defArgs (top 11)) (defBody (top 11)) (defScope (top 11)) .none kV_is_between dc_is_between pm_is_between an_is_between cd_is_between ct_is_between), sl_is_between⟩)
  (c_is_between : PySem.W.codeIn K cd_is_between "is_between" = true)
  (k_is_between : PySem.W.keepIn K (.ref p_is_between) = true)
  (a_check_changes : PySem.W.nsIn K mainGlobals "check_changes" = some (some (.ref p_check_changes)))
  (l_check_changes : K.lookup p_check_changes = some ⟨oc_check_changes, od_check_changes, .func (PySem.W.fnOf "check_changes" "check_changes" (defArgs (top 13)) (defBody (top 13)) (defScope (top 13)) .none kV_check_changes dc_check_changes pm_check_changes an_check_changes cd_check_changes ct_check_changes), sl_check_changes⟩)
  (c_check_changes : PySem.W.codeIn K cd_check_changes "check_changes" = true)
  (k_check_changes : PySem.W.keepIn K (.ref p_check_changes) = true)
  (a_check_mark : PySem.W.nsIn K mainGlobals "check_mark" = some (some (.ref p_check_mark)))
  (l_check_mark : K.lookup p_check_mark = some ⟨oc_check_mark, od_check_mark, .func (PySem.W.fnOf "check_mark" "check_mark" (defArgs (top 18)) (defBody (top 18)) (defScope (top 18)) .none kV_check_mark dc_check_mark pm_check_mark an_check_mark cd_check_mark ct_check_mark), sl_check_mark⟩)
  (c_check_mark : PySem.W.codeIn K cd_check_mark "check_mark" = true)
  (k_check_mark : PySem.W.keepIn K (.ref p_check_mark) = true)
  (a_check_second : PySem.W.nsIn K mainGlobals "check_second" = some (some (.ref p_check_second)))
  (l_check_second : K.lookup p_check_second = some ⟨oc_check_second, od_check_second, .func (PySem.W.fnOf "check_second" "check_second" (defArgs (top 28)) (defBody (top 28)) (defScope (top 28)) .none kV_check_second dc_check_second pm_check_second an_check_second cd_check_second ct_check_second), sl_check_second⟩)
  (c_check_second : PySem.W.codeIn K cd_check_second "check_second" = true)
  (k_check_second : PySem.W.keepIn K (.ref p_check_second) = true)
  (a_is_integers : PySem.W.nsIn K mainGlobals "is_integers" = some (some (.ref p_is_integers)))
  (l_is_integers : K.lookup p_is_integers = some ⟨oc_is_integers, od_is_integers, .func (PySem.W.fnOf "is_integers" "is_integers" (defArgs (top 24)) (defBody (top 24)) (defScope (top 24)) .none kV_is_integers dc_is_integers pm_is_integers an_is_integers cd_is_integers ct_is_integers), sl_is_integers⟩)
  (c_is_integers : PySem.W.codeIn K cd_is_integers "is_integers" = true)
  (k_is_integers : PySem.W.keepIn K (.ref p_is_integers) = true)
  (a_weighed : PySem.W.nsIn K mainGlobals "weighed" = some (some (.ref p_weighed)))
  (l_weighed : K.lookup p_weighed = some ⟨oc_weighed, od_weighed, .func (PySem.W.fnOf "weighed" "weighed" (defArgs (top 16)) (defBody (top 16)) (defScope (top 16)) .none kV_weighed dc_weighed pm_weighed an_weighed cd_weighed ct_weighed), sl_weighed⟩)
  (c_weighed : PySem.W.codeIn K cd_weighed "weighed" = true)
  (k_weighed : PySem.W.keepIn K (.ref p_weighed) = true)
  (a_accept_counts : PySem.W.nsIn K mainGlobals "accept_counts" = some (some (.ref p_accept_counts)))
  (l_accept_counts : K.lookup p_accept_counts = some ⟨oc_accept_counts, od_accept_counts, .func (PySem.W.fnOf "accept_counts" "accept_counts" (defArgs (top 30)) (defBody (top 30)) (defScope (top 30)) .none kV_accept_counts dc_accept_counts pm_accept_counts an_accept_counts cd_accept_counts ct_accept_counts), sl_accept_counts⟩)
  (c_accept_counts : PySem.W.codeIn K cd_accept_counts "accept_counts" = true)
  (k_accept_counts : PySem.W.keepIn K (.ref p_accept_counts) = true)
  (a_accept_apart : PySem.W.nsIn K mainGlobals "accept_apart" = some (some (.ref p_accept_apart)))
  (l_accept_apart : K.lookup p_accept_apart = some ⟨oc_accept_apart, od_accept_apart, .func (PySem.W.fnOf "accept_apart" "accept_apart" (defArgs (top 29)) (defBody (top 29)) (defScope (top 29)) .none kV_accept_apart dc_accept_apart pm_accept_apart an_accept_apart cd_accept_apart ct_accept_apart), sl_accept_apart⟩)
  (c_accept_apart : PySem.W.codeIn K cd_accept_apart "accept_apart" = true)
  (k_accept_apart : PySem.W.keepIn K (.ref p_accept_apart) = true)
  (a_is_weights : PySem.W.nsIn K mainGlobals "is_weights" = some (some (.ref p_is_weights)))
  (l_is_weights : K.lookup p_is_weights = some ⟨oc_is_weights, od_is_weights, .func (PySem.W.fnOf "is_weights" "is_weights" (defArgs (top 17)) (defBody (top 17)) (defScope (top 17)) .none kV_is_weights dc_is_weights pm_is_weights an_is_weights cd_is_weights ct_is_weights), sl_is_weights⟩)
  (c_is_weights : PySem.W.codeIn K cd_is_weights "is_weights" = true)
  (k_is_weights : PySem.W.keepIn K (.ref p_is_weights) = true)
  (a_accept_bound : PySem.W.nsIn K mainGlobals "accept_bound" = some (some (.ref p_accept_bound)))
  (l_accept_bound : K.lookup p_accept_bound = some ⟨oc_accept_bound, od_accept_bound, .func (PySem.W.fnOf "accept_bound" "accept_bound" (defArgs (top 34)) (defBody (top 34)) (defScope (top 34)) .none kV_accept_bound dc_accept_bound pm_accept_bound an_accept_bound cd_accept_bound ct_accept_bound), sl_accept_bound⟩)
  (c_accept_bound : PySem.W.codeIn K cd_accept_bound "accept_bound" = true)
  (k_accept_bound : PySem.W.keepIn K (.ref p_accept_bound) = true)
  (a_judge_between : PySem.W.nsIn K mainGlobals "judge_between" = some (some (.ref p_judge_between)))
  (l_judge_between : K.lookup p_judge_between = some ⟨oc_judge_between, od_judge_between, .func (PySem.W.fnOf "judge_between" "judge_between" (defArgs (top 27)) (defBody (top 27)) (defScope (top 27)) .none kV_judge_between dc_judge_between pm_judge_between an_judge_between cd_judge_between ct_judge_between), sl_judge_between⟩)
  (c_judge_between : PySem.W.codeIn K cd_judge_between "judge_between" = true)
  (k_judge_between : PySem.W.keepIn K (.ref p_judge_between) = true)
  (a_check_weights : PySem.W.nsIn K mainGlobals "check_weights" = some (some (.ref p_check_weights)))
  (l_check_weights : K.lookup p_check_weights = some ⟨oc_check_weights, od_check_weights, .func (PySem.W.fnOf "check_weights" "check_weights" (defArgs (top 25)) (defBody (top 25)) (defScope (top 25)) .none kV_check_weights dc_check_weights pm_check_weights an_check_weights cd_check_weights ct_check_weights), sl_check_weights⟩)
  (c_check_weights : PySem.W.codeIn K cd_check_weights "check_weights" = true)
  (k_check_weights : PySem.W.keepIn K (.ref p_check_weights) = true)
  (a_judge_kept : PySem.W.nsIn K mainGlobals "judge_kept" = some (some (.ref p_judge_kept)))
  (l_judge_kept : K.lookup p_judge_kept = some ⟨oc_judge_kept, od_judge_kept, .func (PySem.W.fnOf "judge_kept" "judge_kept" (defArgs (top 26)) (defBody (top 26)) (defScope (top 26)) .none kV_judge_kept dc_judge_kept pm_judge_kept an_judge_kept cd_judge_kept ct_judge_kept), sl_judge_kept⟩)
  (c_judge_kept : PySem.W.codeIn K cd_judge_kept "judge_kept" = true)
  (k_judge_kept : PySem.W.keepIn K (.ref p_judge_kept) = true)
  (a_bounds_by : PySem.W.nsIn K mainGlobals "bounds_by" = some (some (.ref p_bounds_by)))
  (l_bounds_by : K.lookup p_bounds_by = some ⟨oc_bounds_by, od_bounds_by, .func (PySem.W.fnOf "bounds_by" "bounds_by" (defArgs (top 33)) (defBody (top 33)) (defScope (top 33)) .none kV_bounds_by dc_bounds_by pm_bounds_by an_bounds_by cd_bounds_by ct_bounds_by), sl_bounds_by⟩)
  (c_bounds_by : PySem.W.codeIn K cd_bounds_by "bounds_by" = true)
  (k_bounds_by : PySem.W.keepIn K (.ref p_bounds_by) = true)
  (a_kept_weights : PySem.W.nsIn K mainGlobals "kept_weights" = some (some (.ref p_kept_weights)))
  (l_kept_weights : K.lookup p_kept_weights = some ⟨oc_kept_weights, od_kept_weights, .func (PySem.W.fnOf "kept_weights" "kept_weights" (defArgs (top 23)) (defBody (top 23)) (defScope (top 23)) .none kV_kept_weights dc_kept_weights pm_kept_weights an_kept_weights cd_kept_weights ct_kept_weights), sl_kept_weights⟩)
  (c_kept_weights : PySem.W.codeIn K cd_kept_weights "kept_weights" = true)
  (k_kept_weights : PySem.W.keepIn K (.ref p_kept_weights) = true)
  (a_least_keeps : PySem.W.nsIn K mainGlobals "least_keeps" = some (some (.ref p_least_keeps)))
  (l_least_keeps : K.lookup p_least_keeps = some ⟨oc_least_keeps, od_least_keeps, .func (PySem.W.fnOf "least_keeps" "least_keeps" (defArgs (top 32)) (defBody (top 32)) (defScope (top 32)) .none kV_least_keeps dc_least_keeps pm_least_keeps an_least_keeps cd_least_keeps ct_least_keeps), sl_least_keeps⟩)
  (c_least_keeps : PySem.W.codeIn K cd_least_keeps "least_keeps" = true)
  (k_least_keeps : PySem.W.keepIn K (.ref p_least_keeps) = true)
  (a__law_called : PySem.W.nsIn K mainGlobals "_law_called" = some (some (.ref p__law_called)))
  (l__law_called : K.lookup p__law_called = some ⟨oc__law_called, od__law_called, .func (PySem.W.fnOf "_law_called" "_law_called" (defArgs (top 40)) (defBody (top 40)) (defScope (top 40)) .none kV__law_called dc__law_called pm__law_called an__law_called cd__law_called ct__law_called), sl__law_called⟩)
  (c__law_called : PySem.W.codeIn K cd__law_called "_law_called" = true)
  (k__law_called : PySem.W.keepIn K (.ref p__law_called) = true)
  (a__law_word : PySem.W.nsIn K mainGlobals "_law_word" = some (some (.ref p__law_word)))
  (l__law_word : K.lookup p__law_word = some ⟨oc__law_word, od__law_word, .func (PySem.W.fnOf "_law_word" "_law_word" (defArgs (top 39)) (defBody (top 39)) (defScope (top 39)) .none kV__law_word dc__law_word pm__law_word an__law_word cd__law_word ct__law_word), sl__law_word⟩)
  (c__law_word : PySem.W.codeIn K cd__law_word "_law_word" = true)
  (k__law_word : PySem.W.keepIn K (.ref p__law_word) = true)
  (a__law_heard : PySem.W.nsIn K mainGlobals "_law_heard" = some (some (.ref p__law_heard)))
  (l__law_heard : K.lookup p__law_heard = some ⟨oc__law_heard, od__law_heard, .func (PySem.W.fnOf "_law_heard" "_law_heard" (defArgs (top 41)) (defBody (top 41)) (defScope (top 41)) .none kV__law_heard dc__law_heard pm__law_heard an__law_heard cd__law_heard ct__law_heard), sl__law_heard⟩)
  (c__law_heard : PySem.W.codeIn K cd__law_heard "_law_heard" = true)
  (k__law_heard : PySem.W.keepIn K (.ref p__law_heard) = true)
  (a__law_whole : PySem.W.nsIn K mainGlobals "_law_whole" = some (some (.ref p__law_whole)))
  (l__law_whole : K.lookup p__law_whole = some ⟨oc__law_whole, od__law_whole, .func (PySem.W.fnOf "_law_whole" "_law_whole" (defArgs (top 42)) (defBody (top 42)) (defScope (top 42)) .none kV__law_whole dc__law_whole pm__law_whole an__law_whole cd__law_whole ct__law_whole), sl__law_whole⟩)
  (c__law_whole : PySem.W.codeIn K cd__law_whole "_law_whole" = true)
  (k__law_whole : PySem.W.keepIn K (.ref p__law_whole) = true)
  (a__law_row : PySem.W.nsIn K mainGlobals "_law_row" = some (some (.ref p__law_row)))
  (l__law_row : K.lookup p__law_row = some ⟨oc__law_row, od__law_row, .func (PySem.W.fnOf "_law_row" "_law_row" (defArgs (top 44)) (defBody (top 44)) (defScope (top 44)) .none kV__law_row dc__law_row pm__law_row an__law_row cd__law_row ct__law_row), sl__law_row⟩)
  (c__law_row : PySem.W.codeIn K cd__law_row "_law_row" = true)
  (k__law_row : PySem.W.keepIn K (.ref p__law_row) = true)
  (a__law_apart_due : PySem.W.nsIn K mainGlobals "_law_apart_due" = some (some (.ref p__law_apart_due)))
  (l__law_apart_due : K.lookup p__law_apart_due = some ⟨oc__law_apart_due, od__law_apart_due, .func (PySem.W.fnOf "_law_apart_due" "_law_apart_due" (defArgs (top 46)) (defBody (top 46)) (defScope (top 46)) .none kV__law_apart_due dc__law_apart_due pm__law_apart_due an__law_apart_due cd__law_apart_due ct__law_apart_due), sl__law_apart_due⟩)
  (c__law_apart_due : PySem.W.codeIn K cd__law_apart_due "_law_apart_due" = true)
  (k__law_apart_due : PySem.W.keepIn K (.ref p__law_apart_due) = true)
  (a__law_bound_due : PySem.W.nsIn K mainGlobals "_law_bound_due" = some (some (.ref p__law_bound_due)))
  (l__law_bound_due : K.lookup p__law_bound_due = some ⟨oc__law_bound_due, od__law_bound_due, .func (PySem.W.fnOf "_law_bound_due" "_law_bound_due" (defArgs (top 48)) (defBody (top 48)) (defScope (top 48)) .none kV__law_bound_due dc__law_bound_due pm__law_bound_due an__law_bound_due cd__law_bound_due ct__law_bound_due), sl__law_bound_due⟩)
  (c__law_bound_due : PySem.W.codeIn K cd__law_bound_due "_law_bound_due" = true)
  (k__law_bound_due : PySem.W.keepIn K (.ref p__law_bound_due) = true)
  (a__law_counts_due : PySem.W.nsIn K mainGlobals "_law_counts_due" = some (some (.ref p__law_counts_due)))
  (l__law_counts_due : K.lookup p__law_counts_due = some ⟨oc__law_counts_due, od__law_counts_due, .func (PySem.W.fnOf "_law_counts_due" "_law_counts_due" (defArgs (top 47)) (defBody (top 47)) (defScope (top 47)) .none kV__law_counts_due dc__law_counts_due pm__law_counts_due an__law_counts_due cd__law_counts_due ct__law_counts_due), sl__law_counts_due⟩)
  (c__law_counts_due : PySem.W.codeIn K cd__law_counts_due "_law_counts_due" = true)
  (k__law_counts_due : PySem.W.keepIn K (.ref p__law_counts_due) = true)
  (a__law_papers_hold : PySem.W.nsIn K mainGlobals "_law_papers_hold" = some (some (.ref p__law_papers_hold)))
  (l__law_papers_hold : K.lookup p__law_papers_hold = some ⟨oc__law_papers_hold, od__law_papers_hold, .func (PySem.W.fnOf "_law_papers_hold" "_law_papers_hold" (defArgs (top 49)) (defBody (top 49)) (defScope (top 49)) .none kV__law_papers_hold dc__law_papers_hold pm__law_papers_hold an__law_papers_hold cd__law_papers_hold ct__law_papers_hold), sl__law_papers_hold⟩)
  (c__law_papers_hold : PySem.W.codeIn K cd__law_papers_hold "_law_papers_hold" = true)
  (k__law_papers_hold : PySem.W.keepIn K (.ref p__law_papers_hold) = true)
  (a__law_less_hold : PySem.W.nsIn K mainGlobals "_law_less_hold" = some (some (.ref p__law_less_hold)))
  (l__law_less_hold : K.lookup p__law_less_hold = some ⟨oc__law_less_hold, od__law_less_hold, .func (PySem.W.fnOf "_law_less_hold" "_law_less_hold" (defArgs (top 50)) (defBody (top 50)) (defScope (top 50)) .none kV__law_less_hold dc__law_less_hold pm__law_less_hold an__law_less_hold cd__law_less_hold ct__law_less_hold), sl__law_less_hold⟩)
  (c__law_less_hold : PySem.W.codeIn K cd__law_less_hold "_law_less_hold" = true)
  (k__law_less_hold : PySem.W.keepIn K (.ref p__law_less_hold) = true)
  (a_law : PySem.W.nsIn K mainGlobals "law" = some (some (.ref p_law)))
  (l_law : K.lookup p_law = some ⟨oc_law, od_law, .func (PySem.W.fnOf "law" "law" (defArgs (top 51)) (defBody (top 51)) (defScope (top 51)) .none kV_law dc_law pm_law an_law cd_law ct_law), sl_law⟩)
  (c_law : PySem.W.codeIn K cd_law "law" = true)
  (k_law : PySem.W.keepIn K (.ref p_law) = true)
  (n_MAX_MOVES : PySem.W.nsIn K mainGlobals "MAX_MOVES" = some (some (.int 12 t_MAX_MOVES)))
  (n_MAX_PLACES : PySem.W.nsIn K mainGlobals "MAX_PLACES" = some (some (.int 10 t_MAX_PLACES)))
  (n_MAX_SIZE : PySem.W.nsIn K mainGlobals "MAX_SIZE" = some (some (.int 1000000000000 t_MAX_SIZE)))
  (b_ValueError : PySem.W.nsIn K mainGlobals "ValueError" = some none)
  (b_abs : PySem.W.nsIn K mainGlobals "abs" = some none)
  (b_all : PySem.W.nsIn K mainGlobals "all" = some none)
  (b_bool : PySem.W.nsIn K mainGlobals "bool" = some none)
  (b_enumerate : PySem.W.nsIn K mainGlobals "enumerate" = some none)
  (b_int : PySem.W.nsIn K mainGlobals "int" = some none)
  (b_isinstance : PySem.W.nsIn K mainGlobals "isinstance" = some none)
  (b_len : PySem.W.nsIn K mainGlobals "len" = some none)
  (b_list : PySem.W.nsIn K mainGlobals "list" = some none)
  (b_min : PySem.W.nsIn K mainGlobals "min" = some none)
  (b_range : PySem.W.nsIn K mainGlobals "range" = some none)
  (b_sum : PySem.W.nsIn K mainGlobals "sum" = some none)
  (b_super : PySem.W.nsIn K mainGlobals "super" = some none)
  (b_tuple : PySem.W.nsIn K mainGlobals "tuple" = some none)
  (b_zip : PySem.W.nsIn K mainGlobals "zip" = some none)
  (aW : PySem.W.nsIn K mainGlobals "WorkError" = some (some (.ref AW)))
  (hst : PySem.W.nsIn K cStatics "thirdparty.any" = some none)
  (e_n : PySem.W.specialIn K (.builtin "object.__class__") "__get__" = some (some (.builtin "getset_descriptor.__get__")))
  (e_t : PySem.W.takesIn K (.builtin "object.__class__") = some true)
  (aC0 : PySem.W.nsIn K mainGlobals "FlowError" = some (some (.ref C0)))
  (xL0 : K.lookup C0 = some (excClassObj nm0 qn0 C0 N0 bs0 [.ref AW, .type "ValueError", .type "Exception", .type "BaseException", .type "object"] true sn0 sub0 ab0 col0 dd0 x00 x10 x20 x30 x50 "ValueError.__new__"))
  (sa0 : PySem.W.findIn K (.ref C0) "__setattr__" = some (some (.builtin "object.__setattr__")))
  (nr0 : PySem.W.findIn K (.ref C0) "reason" = some none)
  (iC0 : PySem.W.findIn K (.ref C0) "__init__" = some (some (.ref I0)))
  (tI0 : PySem.W.typeIn K (.ref I0) = some (.type "function"))
  (kC0 : PySem.W.keepIn K (.ref C0) = true)
  (eC0 : PySem.W.subIn K (.ref C0) (.type "BaseException") = some true)
  (tC0 : PySem.W.typeIn K (.ref C0) = some (.type "type"))
  (ms0 : PySem.W.mroIn K C0 (.ref C0) = some true)
  (mv0 : PySem.W.mroIn K C0 (.type "ValueError") = some true)
  (si0 : PySem.W.ks_superIn K C0 C0 "__init__" = some (some (.builtin "ValueError.__init__")))
  (lI0 : K.lookup I0 = some ⟨oc0, od0, .func (PySem.W.ksFn "__init__" "FlowError.__init__" iA0 iB0 Sup.iS .none .none dc0 pm0 an0 (.ref cda0) ct0 cc0), osl0⟩)
  (cI0 : PySem.W.codeIn K (.ref cda0) "FlowError.__init__" = true)
  (lD0 : K.lookup cda0 = some ⟨ccl0, cdd0, .fields vs0, ccs0⟩)
  (fD0 : vs0[2]? = some (.str PP.main.file tf0))
  (lK0 : K.lookup cc0 = some ⟨cl0, cld0, .cell (some (.ref C0)), csl0⟩)
  (ga0 : PySem.W.findIn K (.ref C0) "__getattribute__" = some (some (.builtin "BaseException.__getattribute__")))
  (gt0 : PySem.W.findIn K (.ref C0) "__getattr__" = some none)
  (hd0 : PySem.W.hasDictIn K C0 = true)
  (hc0 : PySem.W.findIn K (.ref C0) "__class__" = some (some (.builtin "object.__class__")))
  (hm0 : PySem.W.mroIn K C0 (.type "object") = some true)
  (iv0 : PySem.W.kitOne K (.ref C0) (.type "ValueError") = some true)
  (hx0 : PySem.W.exmOne K (.ref C0) (.ref AW) = some true)
  (aC1 : PySem.W.nsIn K mainGlobals "ArgumentError" = some (some (.ref C1)))
  (xL1 : K.lookup C1 = some (excClassObj nm1 qn1 C1 N1 bs1 [.ref AW, .type "ValueError", .type "Exception", .type "BaseException", .type "object"] true sn1 sub1 ab1 col1 dd1 x01 x11 x21 x31 x51 "ValueError.__new__"))
  (sa1 : PySem.W.findIn K (.ref C1) "__setattr__" = some (some (.builtin "object.__setattr__")))
  (nr1 : PySem.W.findIn K (.ref C1) "reason" = some none)
  (iC1 : PySem.W.findIn K (.ref C1) "__init__" = some (some (.ref I1)))
  (tI1 : PySem.W.typeIn K (.ref I1) = some (.type "function"))
  (kC1 : PySem.W.keepIn K (.ref C1) = true)
  (eC1 : PySem.W.subIn K (.ref C1) (.type "BaseException") = some true)
  (tC1 : PySem.W.typeIn K (.ref C1) = some (.type "type"))
  (ms1 : PySem.W.mroIn K C1 (.ref C1) = some true)
  (mv1 : PySem.W.mroIn K C1 (.type "ValueError") = some true)
  (si1 : PySem.W.ks_superIn K C1 C1 "__init__" = some (some (.builtin "ValueError.__init__")))
  (lI1 : K.lookup I1 = some ⟨oc1, od1, .func (PySem.W.ksFn "__init__" "ArgumentError.__init__" iA1 iB1 Sup.iS .none .none dc1 pm1 an1 (.ref cda1) ct1 cc1), osl1⟩)
  (cI1 : PySem.W.codeIn K (.ref cda1) "ArgumentError.__init__" = true)
  (lD1 : K.lookup cda1 = some ⟨ccl1, cdd1, .fields vs1, ccs1⟩)
  (fD1 : vs1[2]? = some (.str PP.main.file tf1))
  (lK1 : K.lookup cc1 = some ⟨cl1, cld1, .cell (some (.ref C1)), csl1⟩)
  (ga1 : PySem.W.findIn K (.ref C1) "__getattribute__" = some (some (.builtin "BaseException.__getattribute__")))
  (gt1 : PySem.W.findIn K (.ref C1) "__getattr__" = some none)
  (hd1 : PySem.W.hasDictIn K C1 = true)
  (hc1 : PySem.W.findIn K (.ref C1) "__class__" = some (some (.builtin "object.__class__")))
  (hm1 : PySem.W.mroIn K C1 (.type "object") = some true)
  (iv1 : PySem.W.kitOne K (.ref C1) (.type "ValueError") = some true)
  (hx1 : PySem.W.exmOne K (.ref C1) (.ref AW) = some true)
  (aC2 : PySem.W.nsIn K mainGlobals "PaperError" = some (some (.ref C2)))
  (xL2 : K.lookup C2 = some (excClassObj nm2 qn2 C2 N2 bs2 [.ref AW, .type "ValueError", .type "Exception", .type "BaseException", .type "object"] true sn2 sub2 ab2 col2 dd2 x02 x12 x22 x32 x52 "ValueError.__new__"))
  (sa2 : PySem.W.findIn K (.ref C2) "__setattr__" = some (some (.builtin "object.__setattr__")))
  (nr2 : PySem.W.findIn K (.ref C2) "reason" = some none)
  (iC2 : PySem.W.findIn K (.ref C2) "__init__" = some (some (.ref I2)))
  (tI2 : PySem.W.typeIn K (.ref I2) = some (.type "function"))
  (kC2 : PySem.W.keepIn K (.ref C2) = true)
  (eC2 : PySem.W.subIn K (.ref C2) (.type "BaseException") = some true)
  (tC2 : PySem.W.typeIn K (.ref C2) = some (.type "type"))
  (ms2 : PySem.W.mroIn K C2 (.ref C2) = some true)
  (mv2 : PySem.W.mroIn K C2 (.type "ValueError") = some true)
  (si2 : PySem.W.ks_superIn K C2 C2 "__init__" = some (some (.builtin "ValueError.__init__")))
  (lI2 : K.lookup I2 = some ⟨oc2, od2, .func (PySem.W.ksFn "__init__" "PaperError.__init__" iA2 iB2 Sup.iS .none .none dc2 pm2 an2 (.ref cda2) ct2 cc2), osl2⟩)
  (cI2 : PySem.W.codeIn K (.ref cda2) "PaperError.__init__" = true)
  (lD2 : K.lookup cda2 = some ⟨ccl2, cdd2, .fields vs2, ccs2⟩)
  (fD2 : vs2[2]? = some (.str PP.main.file tf2))
  (lK2 : K.lookup cc2 = some ⟨cl2, cld2, .cell (some (.ref C2)), csl2⟩)
  (ga2 : PySem.W.findIn K (.ref C2) "__getattribute__" = some (some (.builtin "BaseException.__getattribute__")))
  (gt2 : PySem.W.findIn K (.ref C2) "__getattr__" = some none)
  (hd2 : PySem.W.hasDictIn K C2 = true)
  (hc2 : PySem.W.findIn K (.ref C2) "__class__" = some (some (.builtin "object.__class__")))
  (hm2 : PySem.W.mroIn K C2 (.type "object") = some true)
  (iv2 : PySem.W.kitOne K (.ref C2) (.type "ValueError") = some true)
  (hx2 : PySem.W.exmOne K (.ref C2) (.ref AW) = some true)
  (aC3 : PySem.W.nsIn K mainGlobals "TooMany" = some (some (.ref C3)))
  (xL3 : K.lookup C3 = some (excClassObj nm3 qn3 C3 N3 bs3 [.ref AW, .type "ValueError", .type "Exception", .type "BaseException", .type "object"] true sn3 sub3 ab3 col3 dd3 x03 x13 x23 x33 x53 "ValueError.__new__"))
  (sa3 : PySem.W.findIn K (.ref C3) "__setattr__" = some (some (.builtin "object.__setattr__")))
  (nr3 : PySem.W.findIn K (.ref C3) "reason" = some none)
  (iC3 : PySem.W.findIn K (.ref C3) "__init__" = some (some (.ref I3)))
  (tI3 : PySem.W.typeIn K (.ref I3) = some (.type "function"))
  (kC3 : PySem.W.keepIn K (.ref C3) = true)
  (eC3 : PySem.W.subIn K (.ref C3) (.type "BaseException") = some true)
  (tC3 : PySem.W.typeIn K (.ref C3) = some (.type "type"))
  (ms3 : PySem.W.mroIn K C3 (.ref C3) = some true)
  (mv3 : PySem.W.mroIn K C3 (.type "ValueError") = some true)
  (si3 : PySem.W.ks_superIn K C3 C3 "__init__" = some (some (.builtin "ValueError.__init__")))
  (lI3 : K.lookup I3 = some ⟨oc3, od3, .func (PySem.W.ksFn "__init__" "TooMany.__init__" iA3 iB3 Sup.iS .none .none dc3 pm3 an3 (.ref cda3) ct3 cc3), osl3⟩)
  (cI3 : PySem.W.codeIn K (.ref cda3) "TooMany.__init__" = true)
  (lD3 : K.lookup cda3 = some ⟨ccl3, cdd3, .fields vs3, ccs3⟩)
  (fD3 : vs3[2]? = some (.str PP.main.file tf3))
  (lK3 : K.lookup cc3 = some ⟨cl3, cld3, .cell (some (.ref C3)), csl3⟩)
  (ga3 : PySem.W.findIn K (.ref C3) "__getattribute__" = some (some (.builtin "BaseException.__getattribute__")))
  (gt3 : PySem.W.findIn K (.ref C3) "__getattr__" = some none)
  (hd3 : PySem.W.hasDictIn K C3 = true)
  (hc3 : PySem.W.findIn K (.ref C3) "__class__" = some (some (.builtin "object.__class__")))
  (hm3 : PySem.W.mroIn K C3 (.type "object") = some true)
  (iv3 : PySem.W.kitOne K (.ref C3) (.type "ValueError") = some true)
  (hx3 : PySem.W.exmOne K (.ref C3) (.ref AW) = some true)
  (is00 : PySem.W.kitOne K (.ref C0) (.ref C0) = some true)
  (xm00 : PySem.W.exmOne K (.ref C0) (.ref C0) = some true)
  (is01 : PySem.W.kitOne K (.ref C0) (.ref C1) = some false)
  (xm01 : PySem.W.exmOne K (.ref C0) (.ref C1) = some false)
  (is02 : PySem.W.kitOne K (.ref C0) (.ref C2) = some false)
  (xm02 : PySem.W.exmOne K (.ref C0) (.ref C2) = some false)
  (is03 : PySem.W.kitOne K (.ref C0) (.ref C3) = some false)
  (xm03 : PySem.W.exmOne K (.ref C0) (.ref C3) = some false)
  (is10 : PySem.W.kitOne K (.ref C1) (.ref C0) = some false)
  (xm10 : PySem.W.exmOne K (.ref C1) (.ref C0) = some false)
  (is11 : PySem.W.kitOne K (.ref C1) (.ref C1) = some true)
  (xm11 : PySem.W.exmOne K (.ref C1) (.ref C1) = some true)
  (is12 : PySem.W.kitOne K (.ref C1) (.ref C2) = some false)
  (xm12 : PySem.W.exmOne K (.ref C1) (.ref C2) = some false)
  (is13 : PySem.W.kitOne K (.ref C1) (.ref C3) = some false)
  (xm13 : PySem.W.exmOne K (.ref C1) (.ref C3) = some false)
  (is20 : PySem.W.kitOne K (.ref C2) (.ref C0) = some false)
  (xm20 : PySem.W.exmOne K (.ref C2) (.ref C0) = some false)
  (is21 : PySem.W.kitOne K (.ref C2) (.ref C1) = some false)
  (xm21 : PySem.W.exmOne K (.ref C2) (.ref C1) = some false)
  (is22 : PySem.W.kitOne K (.ref C2) (.ref C2) = some true)
  (xm22 : PySem.W.exmOne K (.ref C2) (.ref C2) = some true)
  (is23 : PySem.W.kitOne K (.ref C2) (.ref C3) = some false)
  (xm23 : PySem.W.exmOne K (.ref C2) (.ref C3) = some false)
  (is30 : PySem.W.kitOne K (.ref C3) (.ref C0) = some false)
  (xm30 : PySem.W.exmOne K (.ref C3) (.ref C0) = some false)
  (is31 : PySem.W.kitOne K (.ref C3) (.ref C1) = some false)
  (xm31 : PySem.W.exmOne K (.ref C3) (.ref C1) = some false)
  (is32 : PySem.W.kitOne K (.ref C3) (.ref C2) = some false)
  (xm32 : PySem.W.exmOne K (.ref C3) (.ref C2) = some false)
  (is33 : PySem.W.kitOne K (.ref C3) (.ref C3) = some true)
  (xm33 : PySem.W.exmOne K (.ref C3) (.ref C3) = some true) :
  ∃ (g : Ce) (Ca Ci : Nat → Addr) (AW : Addr), TF K mg g Ca Ci AW := by
  refine ⟨⟨fun i => match i with | 0 => some p_accept_counts | 1 => some p_accept_apart | 2 => some p_accept_bound | 3 => some p_judge_between | 4 => some p_judge_kept | 5 => some p_bounds_by | 6 => some p_kept_weights | 7 => some p_least_keeps | _ => none, fun i => match i with | 0 => some C0 | 1 => some C1 | 2 => some C2 | 3 => some C3 | _ => none, fun _ => "reason"⟩, four C0 C1 C2 C3, four I0 I1 I2 I3, AW, ?_⟩
  have mk : ∀ {x : Str} {v : Value}, PySem.W.nsIn K mainGlobals x = some (some v) → mg x = some v := fun e => PySem.W.mg_of X G e
  have mn : ∀ {x : Str}, PySem.W.nsIn K mainGlobals x = some none → mg x = none := fun e => PySem.W.mg_none_of X G e
  have F__law_start : FunAt K mg "_law_start" (top 36) ["script"] := by
    have F := fun_mk (st := top 36) l__law_start c__law_start k__law_start
    exact ⟨_, _, mk a__law_start, F, k__law_start, F.binds (ps := ["script"]) fun _ _ _ _ _ _ us hl => match us, hl with | [_], _ => rfl⟩
  have F__law_draw : FunAt K mg "_law_draw" (top 37) ["state", "many"] := by
    have F := fun_mk (st := top 37) l__law_draw c__law_draw k__law_draw
    exact ⟨_, _, mk a__law_draw, F, k__law_draw, F.binds (ps := ["state", "many"]) fun _ _ _ _ _ _ us hl => match us, hl with | [_, _], _ => rfl⟩
  have F__law_pick : FunAt K mg "_law_pick" (top 38) ["state", "some"] := by
    have F := fun_mk (st := top 38) l__law_pick c__law_pick k__law_pick
    exact ⟨_, _, mk a__law_pick, F, k__law_pick, F.binds (ps := ["state", "some"]) fun _ _ _ _ _ _ us hl => match us, hl with | [_, _], _ => rfl⟩
  have F__law_sum : FunAt K mg "_law_sum" (top 45) ["weights", "row"] := by
    have F := fun_mk (st := top 45) l__law_sum c__law_sum k__law_sum
    exact ⟨_, _, mk a__law_sum, F, k__law_sum, F.binds (ps := ["weights", "row"]) fun _ _ _ _ _ _ us hl => match us, hl with | [_, _], _ => rfl⟩
  have F__law_bent : FunAt K mg "_law_bent" (top 43) ["state", "value"] := by
    have F := fun_mk (st := top 43) l__law_bent c__law_bent k__law_bent
    exact ⟨_, _, mk a__law_bent, F, k__law_bent, F.binds (ps := ["state", "value"]) fun _ _ _ _ _ _ us hl => match us, hl with | [_, _], _ => rfl⟩
  have F_is_integer : FunAt K mg "is_integer" (top 10) ["value"] := by
    have F := fun_mk (st := top 10) l_is_integer c_is_integer k_is_integer
    exact ⟨_, _, mk a_is_integer, F, k_is_integer, F.binds (ps := ["value"]) fun _ _ _ _ _ _ us hl => match us, hl with | [_], _ => rfl⟩
  have F_is_between : FunAt K mg "is_between" (top 11) ["value", "low", "high"] := by
    have F := fun_mk (st := top 11) l_is_between c_is_between k_is_between
    exact ⟨_, _, mk a_is_between, F, k_is_between, F.binds (ps := ["value", "low", "high"]) fun _ _ _ _ _ _ us hl => match us, hl with | [_, _, _], _ => rfl⟩
  have F_check_changes : FunAt K mg "check_changes" (top 13) ["changes"] := by
    have F := fun_mk (st := top 13) l_check_changes c_check_changes k_check_changes
    exact ⟨_, _, mk a_check_changes, F, k_check_changes, F.binds (ps := ["changes"]) fun _ _ _ _ _ _ us hl => match us, hl with | [_], _ => rfl⟩
  have F_check_mark : FunAt K mg "check_mark" (top 18) ["changes", "mark"] := by
    have F := fun_mk (st := top 18) l_check_mark c_check_mark k_check_mark
    exact ⟨_, _, mk a_check_mark, F, k_check_mark, F.binds (ps := ["changes", "mark"]) fun _ _ _ _ _ _ us hl => match us, hl with | [_, _], _ => rfl⟩
  have F_check_second : FunAt K mg "check_second" (top 28) ["changes", "mark"] := by
    have F := fun_mk (st := top 28) l_check_second c_check_second k_check_second
    exact ⟨_, _, mk a_check_second, F, k_check_second, F.binds (ps := ["changes", "mark"]) fun _ _ _ _ _ _ us hl => match us, hl with | [_, _], _ => rfl⟩
  have F_is_integers : FunAt K mg "is_integers" (top 24) ["value", "many"] := by
    have F := fun_mk (st := top 24) l_is_integers c_is_integers k_is_integers
    exact ⟨_, _, mk a_is_integers, F, k_is_integers, F.binds (ps := ["value", "many"]) fun _ _ _ _ _ _ us hl => match us, hl with | [_, _], _ => rfl⟩
  have F_weighed : FunAt K mg "weighed" (top 16) ["weights", "row"] := by
    have F := fun_mk (st := top 16) l_weighed c_weighed k_weighed
    exact ⟨_, _, mk a_weighed, F, k_weighed, F.binds (ps := ["weights", "row"]) fun _ _ _ _ _ _ us hl => match us, hl with | [_, _], _ => rfl⟩
  have F_accept_counts : FunAt K mg "accept_counts" (top 30) ["changes", "one", "other", "counts", "times"] := by
    have F := fun_mk (st := top 30) l_accept_counts c_accept_counts k_accept_counts
    exact ⟨_, _, mk a_accept_counts, F, k_accept_counts, F.binds (ps := ["changes", "one", "other", "counts", "times"]) fun _ _ _ _ _ _ us hl => match us, hl with | [_, _, _, _, _], _ => rfl⟩
  have F_accept_apart : FunAt K mg "accept_apart" (top 29) ["changes", "one", "other", "weights"] := by
    have F := fun_mk (st := top 29) l_accept_apart c_accept_apart k_accept_apart
    exact ⟨_, _, mk a_accept_apart, F, k_accept_apart, F.binds (ps := ["changes", "one", "other", "weights"]) fun _ _ _ _ _ _ us hl => match us, hl with | [_, _, _, _], _ => rfl⟩
  have F_is_weights : FunAt K mg "is_weights" (top 17) ["value", "many"] := by
    have F := fun_mk (st := top 17) l_is_weights c_is_weights k_is_weights
    exact ⟨_, _, mk a_is_weights, F, k_is_weights, F.binds (ps := ["value", "many"]) fun _ _ _ _ _ _ us hl => match us, hl with | [_, _], _ => rfl⟩
  have F_accept_bound : FunAt K mg "accept_bound" (top 34) ["changes", "mark", "place", "bound", "weights"] := by
    have F := fun_mk (st := top 34) l_accept_bound c_accept_bound k_accept_bound
    exact ⟨_, _, mk a_accept_bound, F, k_accept_bound, F.binds (ps := ["changes", "mark", "place", "bound", "weights"]) fun _ _ _ _ _ _ us hl => match us, hl with | [_, _, _, _, _], _ => rfl⟩
  have F_judge_between : FunAt K mg "judge_between" (top 27) ["changes", "one", "other"] := by
    have F := fun_mk (st := top 27) l_judge_between c_judge_between k_judge_between
    exact ⟨_, _, mk a_judge_between, F, k_judge_between, F.binds (ps := ["changes", "one", "other"]) fun _ _ _ _ _ _ us hl => match us, hl with | [_, _, _], _ => rfl⟩
  have F_check_weights : FunAt K mg "check_weights" (top 25) ["changes", "weights"] := by
    have F := fun_mk (st := top 25) l_check_weights c_check_weights k_check_weights
    exact ⟨_, _, mk a_check_weights, F, k_check_weights, F.binds (ps := ["changes", "weights"]) fun _ _ _ _ _ _ us hl => match us, hl with | [_, _], _ => rfl⟩
  have F_judge_kept : FunAt K mg "judge_kept" (top 26) ["changes", "weights"] := by
    have F := fun_mk (st := top 26) l_judge_kept c_judge_kept k_judge_kept
    exact ⟨_, _, mk a_judge_kept, F, k_judge_kept, F.binds (ps := ["changes", "weights"]) fun _ _ _ _ _ _ us hl => match us, hl with | [_, _], _ => rfl⟩
  have F_bounds_by : FunAt K mg "bounds_by" (top 33) ["changes", "mark"] := by
    have F := fun_mk (st := top 33) l_bounds_by c_bounds_by k_bounds_by
    exact ⟨_, _, mk a_bounds_by, F, k_bounds_by, F.binds (ps := ["changes", "mark"]) fun _ _ _ _ _ _ us hl => match us, hl with | [_, _], _ => rfl⟩
  have F_kept_weights : FunAt K mg "kept_weights" (top 23) ["changes"] := by
    have F := fun_mk (st := top 23) l_kept_weights c_kept_weights k_kept_weights
    exact ⟨_, _, mk a_kept_weights, F, k_kept_weights, F.binds (ps := ["changes"]) fun _ _ _ _ _ _ us hl => match us, hl with | [_], _ => rfl⟩
  have F_least_keeps : FunAt K mg "least_keeps" (top 32) ["changes"] := by
    have F := fun_mk (st := top 32) l_least_keeps c_least_keeps k_least_keeps
    exact ⟨_, _, mk a_least_keeps, F, k_least_keeps, F.binds (ps := ["changes"]) fun _ _ _ _ _ _ us hl => match us, hl with | [_], _ => rfl⟩
  have F__law_called : FunAt K mg "_law_called" (top 40) ["call", "some"] := by
    have F := fun_mk (st := top 40) l__law_called c__law_called k__law_called
    exact ⟨_, _, mk a__law_called, F, k__law_called, F.binds (ps := ["call", "some"]) fun _ _ _ _ _ _ us hl => match us, hl with | [_, _], _ => rfl⟩
  have F__law_word : FunAt K mg "_law_word" (top 39) ["error"] := by
    have F := fun_mk (st := top 39) l__law_word c__law_word k__law_word
    exact ⟨_, _, mk a__law_word, F, k__law_word, F.binds (ps := ["error"]) fun _ _ _ _ _ _ us hl => match us, hl with | [_], _ => rfl⟩
  have F__law_heard : FunAt K mg "_law_heard" (top 41) ["call", "some"] := by
    have F := fun_mk (st := top 41) l__law_heard c__law_heard k__law_heard
    exact ⟨_, _, mk a__law_heard, F, k__law_heard, F.binds (ps := ["call", "some"]) fun _ _ _ _ _ _ us hl => match us, hl with | [_, _], _ => rfl⟩
  have F__law_whole : FunAt K mg "_law_whole" (top 42) ["value"] := by
    have F := fun_mk (st := top 42) l__law_whole c__law_whole k__law_whole
    exact ⟨_, _, mk a__law_whole, F, k__law_whole, F.binds (ps := ["value"]) fun _ _ _ _ _ _ us hl => match us, hl with | [_], _ => rfl⟩
  have F__law_row : FunAt K mg "_law_row" (top 44) ["value", "many"] := by
    have F := fun_mk (st := top 44) l__law_row c__law_row k__law_row
    exact ⟨_, _, mk a__law_row, F, k__law_row, F.binds (ps := ["value", "many"]) fun _ _ _ _ _ _ us hl => match us, hl with | [_, _], _ => rfl⟩
  have F__law_apart_due : FunAt K mg "_law_apart_due" (top 46) ["changes", "one", "other", "weights"] := by
    have F := fun_mk (st := top 46) l__law_apart_due c__law_apart_due k__law_apart_due
    exact ⟨_, _, mk a__law_apart_due, F, k__law_apart_due, F.binds (ps := ["changes", "one", "other", "weights"]) fun _ _ _ _ _ _ us hl => match us, hl with | [_, _, _, _], _ => rfl⟩
  have F__law_bound_due : FunAt K mg "_law_bound_due" (top 48) ["changes", "mark", "place", "bound", "weights"] := by
    have F := fun_mk (st := top 48) l__law_bound_due c__law_bound_due k__law_bound_due
    exact ⟨_, _, mk a__law_bound_due, F, k__law_bound_due, F.binds (ps := ["changes", "mark", "place", "bound", "weights"]) fun _ _ _ _ _ _ us hl => match us, hl with | [_, _, _, _, _], _ => rfl⟩
  have F__law_counts_due : FunAt K mg "_law_counts_due" (top 47) ["changes", "one", "other", "counts", "times"] := by
    have F := fun_mk (st := top 47) l__law_counts_due c__law_counts_due k__law_counts_due
    exact ⟨_, _, mk a__law_counts_due, F, k__law_counts_due, F.binds (ps := ["changes", "one", "other", "counts", "times"]) fun _ _ _ _ _ _ us hl => match us, hl with | [_, _, _, _, _], _ => rfl⟩
  have F__law_papers_hold : FunAt K mg "_law_papers_hold" (top 49) ["state"] := by
    have F := fun_mk (st := top 49) l__law_papers_hold c__law_papers_hold k__law_papers_hold
    exact ⟨_, _, mk a__law_papers_hold, F, k__law_papers_hold, F.binds (ps := ["state"]) fun _ _ _ _ _ _ us hl => match us, hl with | [_], _ => rfl⟩
  have F__law_less_hold : FunAt K mg "_law_less_hold" (top 50) ["state"] := by
    have F := fun_mk (st := top 50) l__law_less_hold c__law_less_hold k__law_less_hold
    exact ⟨_, _, mk a__law_less_hold, F, k__law_less_hold, F.binds (ps := ["state"]) fun _ _ _ _ _ _ us hl => match us, hl with | [_], _ => rfl⟩
  have F_law : FunAt K mg "law" (top 51) ["script"] := by
    have F := fun_mk (st := top 51) l_law c_law k_law
    exact ⟨_, _, mk a_law, F, k_law, F.binds (ps := ["script"]) fun _ _ _ _ _ _ us hl => match us, hl with | [_], _ => rfl⟩
  have T0 : Sup.Txt PP K mg C0 I0 := ⟨⟨nm0, qn0, N0, bs0, _, sn0, sub0, ab0, col0, dd0, x00, x10, x20, x30, x50, xL0, rfl⟩, sa0, nr0, iC0, tI0, kC0, eC0, tC0, ms0, mv0, si0, hst, mn b_super, by decide +kernel, ⟨_, _, _, _, _, _, _, _, _, _, _, _, _, _, _, _, _, _, _, _, _, _, _, _, lI0, cI0, rfl, ⟨_, _, _, _, _, _, lD0, fD0, by decide +kernel⟩, _, _, _, lK0⟩⟩
  have E0 : ExcC K C0 := ⟨ga0, gt0, eC0, hd0, hc0, e_n, e_t, hm0⟩
  have X0 : XfC K C0 := ⟨ga0, gt0, eC0, hd0⟩
  have T1 : Sup.Txt PP K mg C1 I1 := ⟨⟨nm1, qn1, N1, bs1, _, sn1, sub1, ab1, col1, dd1, x01, x11, x21, x31, x51, xL1, rfl⟩, sa1, nr1, iC1, tI1, kC1, eC1, tC1, ms1, mv1, si1, hst, mn b_super, by decide +kernel, ⟨_, _, _, _, _, _, _, _, _, _, _, _, _, _, _, _, _, _, _, _, _, _, _, _, lI1, cI1, rfl, ⟨_, _, _, _, _, _, lD1, fD1, by decide +kernel⟩, _, _, _, lK1⟩⟩
  have E1 : ExcC K C1 := ⟨ga1, gt1, eC1, hd1, hc1, e_n, e_t, hm1⟩
  have X1 : XfC K C1 := ⟨ga1, gt1, eC1, hd1⟩
  have T2 : Sup.Txt PP K mg C2 I2 := ⟨⟨nm2, qn2, N2, bs2, _, sn2, sub2, ab2, col2, dd2, x02, x12, x22, x32, x52, xL2, rfl⟩, sa2, nr2, iC2, tI2, kC2, eC2, tC2, ms2, mv2, si2, hst, mn b_super, by decide +kernel, ⟨_, _, _, _, _, _, _, _, _, _, _, _, _, _, _, _, _, _, _, _, _, _, _, _, lI2, cI2, rfl, ⟨_, _, _, _, _, _, lD2, fD2, by decide +kernel⟩, _, _, _, lK2⟩⟩
  have E2 : ExcC K C2 := ⟨ga2, gt2, eC2, hd2, hc2, e_n, e_t, hm2⟩
  have X2 : XfC K C2 := ⟨ga2, gt2, eC2, hd2⟩
  have T3 : Sup.Txt PP K mg C3 I3 := ⟨⟨nm3, qn3, N3, bs3, _, sn3, sub3, ab3, col3, dd3, x03, x13, x23, x33, x53, xL3, rfl⟩, sa3, nr3, iC3, tI3, kC3, eC3, tC3, ms3, mv3, si3, hst, mn b_super, by decide +kernel, ⟨_, _, _, _, _, _, _, _, _, _, _, _, _, _, _, _, _, _, _, _, _, _, _, _, lI3, cI3, rfl, ⟨_, _, _, _, _, _, lD3, fD3, by decide +kernel⟩, _, _, _, lK3⟩⟩
  have E3 : ExcC K C3 := ⟨ga3, gt3, eC3, hd3, hc3, e_n, e_t, hm3⟩
  have X3 : XfC K C3 := ⟨ga3, gt3, eC3, hd3⟩
  exact ⟨F__law_start,
    F__law_draw,
    F__law_pick,
    F__law_sum,
    F__law_bent,
    F_is_integer,
    F_is_between,
    F_check_changes,
    F_check_mark,
    F_check_second,
    F_is_integers,
    F_weighed,
    F_accept_counts,
    F_accept_apart,
    F_is_weights,
    F_accept_bound,
    F_judge_between,
    F_check_weights,
    F_judge_kept,
    F_bounds_by,
    F_kept_weights,
    F_least_keeps,
    F__law_called,
    F__law_word,
    F__law_heard,
    F__law_whole,
    F__law_row,
    F__law_apart_due,
    F__law_bound_due,
    F__law_counts_due,
    F__law_papers_hold,
    F__law_less_hold,
    F_law,
    ⟨_, mk n_MAX_MOVES⟩,
    ⟨_, mk n_MAX_PLACES⟩,
    ⟨_, mk n_MAX_SIZE⟩,
    mn b_abs,
    mn b_all,
    mn b_bool,
    mn b_enumerate,
    mn b_int,
    mn b_isinstance,
    mn b_len,
    mn b_list,
    mn b_min,
    mn b_range,
    mn b_sum,
    mn b_tuple,
    mn b_zip,
    ⟨_, mk a_accept_counts, rfl⟩,
    ⟨_, mk a_accept_apart, rfl⟩,
    ⟨_, mk a_accept_bound, rfl⟩,
    ⟨_, mk a_judge_between, rfl⟩,
    ⟨_, mk a_judge_kept, rfl⟩,
    ⟨_, mk a_bounds_by, rfl⟩,
    ⟨_, mk a_kept_weights, rfl⟩,
    ⟨_, mk a_least_keeps, rfl⟩,
    ⟨four_all rfl rfl rfl rfl, mk aC0, mk aC1, mk aC2, mk aC3, mn b_isinstance, mn b_ValueError, four_all E0 E1 E2 E3, four_all X0 X1 X2 X3, four_all nr0 nr1 nr2 nr3, fun i j hi hj => (four_all (φ := fun i => ∀ j, j < 4 → PySem.W.kitOne K (.ref (four C0 C1 C2 C3 i)) (.ref (four C0 C1 C2 C3 j)) = some (i == j)) (four_all is00 is01 is02 is03) (four_all is10 is11 is12 is13) (four_all is20 is21 is22 is23) (four_all is30 is31 is32 is33)) i hi j hj, four_all iv0 iv1 iv2 iv3⟩,
    mk aW,
    T0,
    T1,
    T2,
    T3,
    fun _ => rfl,
    four_all hx0 hx1 hx2 hx3,
    fun i j hi hj => (four_all (φ := fun i => ∀ j, j < 4 → PySem.W.exmOne K (.ref (four C0 C1 C2 C3 i)) (.ref (four C0 C1 C2 C3 j)) = some (i == j)) (four_all xm00 xm01 xm02 xm03) (four_all xm10 xm11 xm12 xm13) (four_all xm20 xm21 xm22 xm23) (four_all xm30 xm31 xm32 xm33)) i hi j hj⟩
theorem law_at {w : World} {K : PySem.W.Frag} {mg : Str → Option Value} {fa : Addr} (hl : ∀ ns : List Int, m_law [.scr ns] = .ok (.bl true)) (hfa : mg "law" = some (.ref fa)) (T : ∃ (g : Ce) (Ca Ci : Nat → Addr) (AW : Addr), TF K mg g Ca Ci AW) :
    ∃ fd : FuncData, (∀ (s : Shared) (u : Value), BindsTo s fd ⟨[u], []⟩ [("script", u)]) ∧ ∀ base : Heap, K.In base → base.Ns mainGlobals mg → FnOk PP w K mg base (L2.CX PP w) 9 fa fd ["script"] (spL K) := by
  obtain ⟨g, Ca, Ci, AW, T⟩ := T
  obtain ⟨f, fd, h1, h2, h3, h4⟩ := T.f_law
  rw [hfa] at h1
  cases h1
  refine ⟨fd, ?_, fun base _ _ => ?_⟩
  · obtain ⟨oc, od, kV, doc, pm, an, cdv, ct, osl, rfl, lk, hcd⟩ := h2.ex
    exact fun s u => .of_eq rfl
  · exact law_fn (fn_law (w := w) (base := base) T h2) hl
end LW
end Dn
open PySem PySem.W PyProof.Rows in
set_option maxRecDepth 100000 in
set_option maxHeartbeats 0 in
theorem PySem.Challenge.cw_doneorundone_k10_papers_and_arguments_of_holds : PySem.Challenge.rw_doneorundone_k10_papers_and_arguments_of.Holds := by
  w_on; o_law; k_head; (case hw => w_witness2)
  k_fill
  refine Dn.walkD (l := PySem.Challenge.rw_doneorundone_k10_papers_and_arguments_of) (k := 9) rfl rfl ⟨rfl, by decide, by decide⟩ (fun w h Y => PySem.W.kIn_of Y) ?F
  case F =>
    intro w mg fa h KX G hmg
    refine Dn.LW.law_at Dn.LW.law_true hmg ?_
    refine' Dn.LW.tf_mk KX G ?a__law_start ?l__law_start ?c__law_start ?k__law_start ?a__law_draw ?l__law_draw ?c__law_draw ?k__law_draw ?a__law_pick ?l__law_pick ?c__law_pick ?k__law_pick ?a__law_sum ?l__law_sum ?c__law_sum ?k__law_sum ?a__law_bent ?l__law_bent ?c__law_bent ?k__law_bent ?a_is_integer ?l_is_integer ?c_is_integer ?k_is_integer ?a_is_between ?l_is_between ?c_is_between ?k_is_between ?a_check_changes ?l_check_changes ?c_check_changes ?k_check_changes ?a_check_mark ?l_check_mark ?c_check_mark ?k_check_mark ?a_check_second ?l_check_second ?c_check_second ?k_check_second ?a_is_integers ?l_is_integers ?c_is_integers ?k_is_integers ?a_weighed ?l_weighed ?c_weighed ?k_weighed ?a_accept_counts ?l_accept_counts ?c_accept_counts ?k_accept_counts ?a_accept_apart ?l_accept_apart ?c_accept_apart ?k_accept_apart ?a_is_weights ?l_is_weights ?c_is_weights ?k_is_weights ?a_accept_bound ?l_accept_bound ?c_accept_bound ?k_accept_bound ?a_judge_between ?l_judge_between ?c_judge_between ?k_judge_between ?a_check_weights ?l_check_weights ?c_check_weights ?k_check_weights ?a_judge_kept ?l_judge_kept ?c_judge_kept ?k_judge_kept ?a_bounds_by ?l_bounds_by ?c_bounds_by ?k_bounds_by ?a_kept_weights ?l_kept_weights ?c_kept_weights ?k_kept_weights ?a_least_keeps ?l_least_keeps ?c_least_keeps ?k_least_keeps ?a__law_called ?l__law_called ?c__law_called ?k__law_called ?a__law_word ?l__law_word ?c__law_word ?k__law_word ?a__law_heard ?l__law_heard ?c__law_heard ?k__law_heard ?a__law_whole ?l__law_whole ?c__law_whole ?k__law_whole ?a__law_row ?l__law_row ?c__law_row ?k__law_row ?a__law_apart_due ?l__law_apart_due ?c__law_apart_due ?k__law_apart_due ?a__law_bound_due ?l__law_bound_due ?c__law_bound_due ?k__law_bound_due ?a__law_counts_due ?l__law_counts_due ?c__law_counts_due ?k__law_counts_due ?a__law_papers_hold ?l__law_papers_hold ?c__law_papers_hold ?k__law_papers_hold ?a__law_less_hold ?l__law_less_hold ?c__law_less_hold ?k__law_less_hold ?a_law ?l_law ?c_law ?k_law ?n_MAX_MOVES ?n_MAX_PLACES ?n_MAX_SIZE ?b_ValueError ?b_abs ?b_all ?b_bool ?b_enumerate ?b_int ?b_isinstance ?b_len ?b_list ?b_min ?b_range ?b_sum ?b_super ?b_tuple ?b_zip ?aW ?hst ?e_n ?e_t ?aC0 ?xL0 ?sa0 ?nr0 ?iC0 ?tI0 ?kC0 ?eC0 ?tC0 ?ms0 ?mv0 ?si0 ?lI0 ?cI0 ?lD0 ?fD0 ?lK0 ?ga0 ?gt0 ?hd0 ?hc0 ?hm0 ?iv0 ?hx0 ?aC1 ?xL1 ?sa1 ?nr1 ?iC1 ?tI1 ?kC1 ?eC1 ?tC1 ?ms1 ?mv1 ?si1 ?lI1 ?cI1 ?lD1 ?fD1 ?lK1 ?ga1 ?gt1 ?hd1 ?hc1 ?hm1 ?iv1 ?hx1 ?aC2 ?xL2 ?sa2 ?nr2 ?iC2 ?tI2 ?kC2 ?eC2 ?tC2 ?ms2 ?mv2 ?si2 ?lI2 ?cI2 ?lD2 ?fD2 ?lK2 ?ga2 ?gt2 ?hd2 ?hc2 ?hm2 ?iv2 ?hx2 ?aC3 ?xL3 ?sa3 ?nr3 ?iC3 ?tI3 ?kC3 ?eC3 ?tC3 ?ms3 ?mv3 ?si3 ?lI3 ?cI3 ?lD3 ?fD3 ?lK3 ?ga3 ?gt3 ?hd3 ?hc3 ?hm3 ?iv3 ?hx3 ?is00 ?xm00 ?is01 ?xm01 ?is02 ?xm02 ?is03 ?xm03 ?is10 ?xm10 ?is11 ?xm11 ?is12 ?xm12 ?is13 ?xm13 ?is20 ?xm20 ?is21 ?xm21 ?is22 ?xm22 ?is23 ?xm23 ?is30 ?xm30 ?is31 ?xm31 ?is32 ?xm32 ?is33 ?xm33
    (case a__law_start => first | k_is | rfl)
    (case l__law_start => first | k_is | rfl)
    (case c__law_start => first | k_is | rfl)
    (case k__law_start => first | k_is | rfl)
    (case a__law_draw => first | k_is | rfl)
    (case l__law_draw => first | k_is | rfl)
    (case c__law_draw => first | k_is | rfl)
    (case k__law_draw => first | k_is | rfl)
    (case a__law_pick => first | k_is | rfl)
    (case l__law_pick => first | k_is | rfl)
    (case c__law_pick => first | k_is | rfl)
    (case k__law_pick => first | k_is | rfl)
    (case a__law_sum => first | k_is | rfl)
    (case l__law_sum => first | k_is | rfl)
    (case c__law_sum => first | k_is | rfl)
    (case k__law_sum => first | k_is | rfl)
    (case a__law_bent => first | k_is | rfl)
    (case l__law_bent => first | k_is | rfl)
    (case c__law_bent => first | k_is | rfl)
    (case k__law_bent => first | k_is | rfl)
    (case a_is_integer => first | k_is | rfl)
    (case l_is_integer => first | k_is | rfl)
    (case c_is_integer => first | k_is | rfl)
    (case k_is_integer => first | k_is | rfl)
    (case a_is_between => first | k_is | rfl)
    (case l_is_between => first | k_is | rfl)
    (case c_is_between => first | k_is | rfl)
    (case k_is_between => first | k_is | rfl)
    (case a_check_changes => first | k_is | rfl)
    (case l_check_changes => first | k_is | rfl)
    (case c_check_changes => first | k_is | rfl)
    (case k_check_changes => first | k_is | rfl)
    (case a_check_mark => first | k_is | rfl)
    (case l_check_mark => first | k_is | rfl)
    (case c_check_mark => first | k_is | rfl)
    (case k_check_mark => first | k_is | rfl)
    (case a_check_second => first | k_is | rfl)
    (case l_check_second => first | k_is | rfl)
    (case c_check_second => first | k_is | rfl)
    (case k_check_second => first | k_is | rfl)
    (case a_is_integers => first | k_is | rfl)
    (case l_is_integers => first | k_is | rfl)
    (case c_is_integers => first | k_is | rfl)
    (case k_is_integers => first | k_is | rfl)
    (case a_weighed => first | k_is | rfl)
    (case l_weighed => first | k_is | rfl)
    (case c_weighed => first | k_is | rfl)
    (case k_weighed => first | k_is | rfl)
    (case a_accept_counts => first | k_is | rfl)
    (case l_accept_counts => first | k_is | rfl)
    (case c_accept_counts => first | k_is | rfl)
    (case k_accept_counts => first | k_is | rfl)
    (case a_accept_apart => first | k_is | rfl)
    (case l_accept_apart => first | k_is | rfl)
    (case c_accept_apart => first | k_is | rfl)
    (case k_accept_apart => first | k_is | rfl)
    (case a_is_weights => first | k_is | rfl)
    (case l_is_weights => first | k_is | rfl)
    (case c_is_weights => first | k_is | rfl)
    (case k_is_weights => first | k_is | rfl)
    (case a_accept_bound => first | k_is | rfl)
    (case l_accept_bound => first | k_is | rfl)
    (case c_accept_bound => first | k_is | rfl)
    (case k_accept_bound => first | k_is | rfl)
    (case a_judge_between => first | k_is | rfl)
    (case l_judge_between => first | k_is | rfl)
    (case c_judge_between => first | k_is | rfl)
    (case k_judge_between => first | k_is | rfl)
    (case a_check_weights => first | k_is | rfl)
    (case l_check_weights => first | k_is | rfl)
    (case c_check_weights => first | k_is | rfl)
    (case k_check_weights => first | k_is | rfl)
    (case a_judge_kept => first | k_is | rfl)
    (case l_judge_kept => first | k_is | rfl)
    (case c_judge_kept => first | k_is | rfl)
    (case k_judge_kept => first | k_is | rfl)
    (case a_bounds_by => first | k_is | rfl)
    (case l_bounds_by => first | k_is | rfl)
    (case c_bounds_by => first | k_is | rfl)
    (case k_bounds_by => first | k_is | rfl)
    (case a_kept_weights => first | k_is | rfl)
    (case l_kept_weights => first | k_is | rfl)
    (case c_kept_weights => first | k_is | rfl)
    (case k_kept_weights => first | k_is | rfl)
    (case a_least_keeps => first | k_is | rfl)
    (case l_least_keeps => first | k_is | rfl)
    (case c_least_keeps => first | k_is | rfl)
    (case k_least_keeps => first | k_is | rfl)
    (case a__law_called => first | k_is | rfl)
    (case l__law_called => first | k_is | rfl)
    (case c__law_called => first | k_is | rfl)
    (case k__law_called => first | k_is | rfl)
    (case a__law_word => first | k_is | rfl)
    (case l__law_word => first | k_is | rfl)
    (case c__law_word => first | k_is | rfl)
    (case k__law_word => first | k_is | rfl)
    (case a__law_heard => first | k_is | rfl)
    (case l__law_heard => first | k_is | rfl)
    (case c__law_heard => first | k_is | rfl)
    (case k__law_heard => first | k_is | rfl)
    (case a__law_whole => first | k_is | rfl)
    (case l__law_whole => first | k_is | rfl)
    (case c__law_whole => first | k_is | rfl)
    (case k__law_whole => first | k_is | rfl)
    (case a__law_row => first | k_is | rfl)
    (case l__law_row => first | k_is | rfl)
    (case c__law_row => first | k_is | rfl)
    (case k__law_row => first | k_is | rfl)
    (case a__law_apart_due => first | k_is | rfl)
    (case l__law_apart_due => first | k_is | rfl)
    (case c__law_apart_due => first | k_is | rfl)
    (case k__law_apart_due => first | k_is | rfl)
    (case a__law_bound_due => first | k_is | rfl)
    (case l__law_bound_due => first | k_is | rfl)
    (case c__law_bound_due => first | k_is | rfl)
    (case k__law_bound_due => first | k_is | rfl)
    (case a__law_counts_due => first | k_is | rfl)
    (case l__law_counts_due => first | k_is | rfl)
    (case c__law_counts_due => first | k_is | rfl)
    (case k__law_counts_due => first | k_is | rfl)
    (case a__law_papers_hold => first | k_is | rfl)
    (case l__law_papers_hold => first | k_is | rfl)
    (case c__law_papers_hold => first | k_is | rfl)
    (case k__law_papers_hold => first | k_is | rfl)
    (case a__law_less_hold => first | k_is | rfl)
    (case l__law_less_hold => first | k_is | rfl)
    (case c__law_less_hold => first | k_is | rfl)
    (case k__law_less_hold => first | k_is | rfl)
    (case a_law => first | k_is | rfl)
    (case l_law => first | k_is | rfl)
    (case c_law => first | k_is | rfl)
    (case k_law => first | k_is | rfl)
    (case n_MAX_MOVES => first | k_is | rfl)
    (case n_MAX_PLACES => first | k_is | rfl)
    (case n_MAX_SIZE => first | k_is | rfl)
    (case b_ValueError => first | k_is | rfl)
    (case b_abs => first | k_is | rfl)
    (case b_all => first | k_is | rfl)
    (case b_bool => first | k_is | rfl)
    (case b_enumerate => first | k_is | rfl)
    (case b_int => first | k_is | rfl)
    (case b_isinstance => first | k_is | rfl)
    (case b_len => first | k_is | rfl)
    (case b_list => first | k_is | rfl)
    (case b_min => first | k_is | rfl)
    (case b_range => first | k_is | rfl)
    (case b_sum => first | k_is | rfl)
    (case b_super => first | k_is | rfl)
    (case b_tuple => first | k_is | rfl)
    (case b_zip => first | k_is | rfl)
    (case aW => first | k_is | rfl)
    (case hst => first | k_is | rfl)
    (case e_n => first | k_is | rfl)
    (case e_t => first | k_is | rfl)
    (case aC0 => first | k_is | rfl)
    (case xL0 => first | k_is | rfl)
    (case sa0 => first | k_is | rfl)
    (case nr0 => first | k_is | rfl)
    (case iC0 => first | k_is | rfl)
    (case tI0 => first | k_is | rfl)
    (case kC0 => first | k_is | rfl)
    (case eC0 => first | k_is | rfl)
    (case tC0 => first | k_is | rfl)
    (case ms0 => first | k_is | rfl)
    (case mv0 => first | k_is | rfl)
    (case si0 => first | k_is | rfl)
    (case lI0 => first | k_is | rfl)
    (case cI0 => first | k_is | rfl)
    (case lD0 => first | k_is | rfl)
    (case fD0 => first | k_is | rfl)
    (case lK0 => first | k_is | rfl)
    (case ga0 => first | k_is | rfl)
    (case gt0 => first | k_is | rfl)
    (case hd0 => first | k_is | rfl)
    (case hc0 => first | k_is | rfl)
    (case hm0 => first | k_is | rfl)
    (case iv0 => first | k_is | rfl)
    (case hx0 => first | k_is | rfl)
    (case aC1 => first | k_is | rfl)
    (case xL1 => first | k_is | rfl)
    (case sa1 => first | k_is | rfl)
    (case nr1 => first | k_is | rfl)
    (case iC1 => first | k_is | rfl)
    (case tI1 => first | k_is | rfl)
    (case kC1 => first | k_is | rfl)
    (case eC1 => first | k_is | rfl)
    (case tC1 => first | k_is | rfl)
    (case ms1 => first | k_is | rfl)
    (case mv1 => first | k_is | rfl)
    (case si1 => first | k_is | rfl)
    (case lI1 => first | k_is | rfl)
    (case cI1 => first | k_is | rfl)
    (case lD1 => first | k_is | rfl)
    (case fD1 => first | k_is | rfl)
    (case lK1 => first | k_is | rfl)
    (case ga1 => first | k_is | rfl)
    (case gt1 => first | k_is | rfl)
    (case hd1 => first | k_is | rfl)
    (case hc1 => first | k_is | rfl)
    (case hm1 => first | k_is | rfl)
    (case iv1 => first | k_is | rfl)
    (case hx1 => first | k_is | rfl)
    (case aC2 => first | k_is | rfl)
    (case xL2 => first | k_is | rfl)
    (case sa2 => first | k_is | rfl)
    (case nr2 => first | k_is | rfl)
    (case iC2 => first | k_is | rfl)
    (case tI2 => first | k_is | rfl)
    (case kC2 => first | k_is | rfl)
    (case eC2 => first | k_is | rfl)
    (case tC2 => first | k_is | rfl)
    (case ms2 => first | k_is | rfl)
    (case mv2 => first | k_is | rfl)
    (case si2 => first | k_is | rfl)
    (case lI2 => first | k_is | rfl)
    (case cI2 => first | k_is | rfl)
    (case lD2 => first | k_is | rfl)
    (case fD2 => first | k_is | rfl)
    (case lK2 => first | k_is | rfl)
    (case ga2 => first | k_is | rfl)
    (case gt2 => first | k_is | rfl)
    (case hd2 => first | k_is | rfl)
    (case hc2 => first | k_is | rfl)
    (case hm2 => first | k_is | rfl)
    (case iv2 => first | k_is | rfl)
    (case hx2 => first | k_is | rfl)
    (case aC3 => first | k_is | rfl)
    (case xL3 => first | k_is | rfl)
    (case sa3 => first | k_is | rfl)
    (case nr3 => first | k_is | rfl)
    (case iC3 => first | k_is | rfl)
    (case tI3 => first | k_is | rfl)
    (case kC3 => first | k_is | rfl)
    (case eC3 => first | k_is | rfl)
    (case tC3 => first | k_is | rfl)
    (case ms3 => first | k_is | rfl)
    (case mv3 => first | k_is | rfl)
    (case si3 => first | k_is | rfl)
    (case lI3 => first | k_is | rfl)
    (case cI3 => first | k_is | rfl)
    (case lD3 => first | k_is | rfl)
    (case fD3 => first | k_is | rfl)
    (case lK3 => first | k_is | rfl)
    (case ga3 => first | k_is | rfl)
    (case gt3 => first | k_is | rfl)
    (case hd3 => first | k_is | rfl)
    (case hc3 => first | k_is | rfl)
    (case hm3 => first | k_is | rfl)
    (case iv3 => first | k_is | rfl)
    (case hx3 => first | k_is | rfl)
    (case is00 => first | k_is | rfl)
    (case xm00 => first | k_is | rfl)
    (case is01 => first | k_is | rfl)
    (case xm01 => first | k_is | rfl)
    (case is02 => first | k_is | rfl)
    (case xm02 => first | k_is | rfl)
    (case is03 => first | k_is | rfl)
    (case xm03 => first | k_is | rfl)
    (case is10 => first | k_is | rfl)
    (case xm10 => first | k_is | rfl)
    (case is11 => first | k_is | rfl)
    (case xm11 => first | k_is | rfl)
    (case is12 => first | k_is | rfl)
    (case xm12 => first | k_is | rfl)
    (case is13 => first | k_is | rfl)
    (case xm13 => first | k_is | rfl)
    (case is20 => first | k_is | rfl)
    (case xm20 => first | k_is | rfl)
    (case is21 => first | k_is | rfl)
    (case xm21 => first | k_is | rfl)
    (case is22 => first | k_is | rfl)
    (case xm22 => first | k_is | rfl)
    (case is23 => first | k_is | rfl)
    (case xm23 => first | k_is | rfl)
    (case is30 => first | k_is | rfl)
    (case xm30 => first | k_is | rfl)
    (case is31 => first | k_is | rfl)
    (case xm31 => first | k_is | rfl)
    (case is32 => first | k_is | rfl)
    (case xm32 => first | k_is | rfl)
    (case is33 => first | k_is | rfl)
    (case xm33 => first | k_is | rfl)
