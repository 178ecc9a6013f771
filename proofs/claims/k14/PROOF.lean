import PyProof.Rows.All
import Wide.All
import OpenK.AllK
import Wide.FinOn
import HandS.ForMost
import HandS.ForExc
import HandS.IsInst
import HandS.TupAny
import HandS.TupMul
import HandS.Deep
import HandS.Wide
import HandS.WideBits
import HandS.CallSlots
import HandS.CallLocal
import HandS.ExcCtx
import HandS.SuiteRaise
import HandS.Walk
import HandS.Iter
import HandS.Zip
import HandS.Lambda
import HandS.SetFor
import HandS.Strs
import HandS.SortInts
import KE.GoesEnum
import HandS.Style
import HandS.ExcSuper
import HandS.ExcInit
import HandS.ExcField
import KE.KSuper
import HandS.RaiseFrom
import HandS.HotCalls
import HandS.ExcIs
import HandS.ExcInitHot
import KE.KExcIs
import PySem.Challenge.RW_doneorundone_k14_papers_and_arguments_of
/-! Dn1 -/
set_option Elab.async false
set_option linter.all false
set_option maxRecDepth 100000
set_option maxHeartbeats 1000000
/-! Dn1: data, the monad, how data lie in the heap, the states. -/
namespace Dn
open PySem PySem.Spec L2
open PyProof.Rows hiding St

/-- plain data -/
inductive D where
  | non | bl (b : Bool) | int (i : Int) | str (x : Str)
  | tup (xs : List D) | lst (xs : List D)
  | dct (ks vs : List D)
  | fn (i : Nat)
  | scr (ns : List Int)

inductive Exn where
  | raise (k : Nat) (d : D)
  | stuck

abbrev M := Except Exn
abbrev stuck {α : Type} : M α := .error .stuck

/-- what is fixed in a law: the written part, where the defs stand that are values, the error classes -/
structure Cc where
  K : PySem.W.Frag
  fa : Nat → Option Addr
  ec : Nat → Option Addr
  en : Nat → Str

def dk : Key → D
  | .inl i => .int i
  | .inr x => .str x

mutual
def IsD (c : Cc) (H : Hp) : D → V → Prop
  | .non, v => v = .non
  | .bl b, v => v = .bl b
  | .int i, v => v = .int i
  | .str x, v => v = .str x
  | .tup xs, v => ∃ a vs, v = .ref a ∧ SqT c.K H a vs ∧ IsDs c H xs vs
  | .lst xs, v => ∃ a vs, v = .ref a ∧ H a = some (.lst vs) ∧ IsDs c H xs vs
  | .scr ns, v => ∃ a, v = .ref a ∧ SqL c.K H a (ns.map V.int)
  | .dct ks ws, v => ∃ a, v = .ref a ∧ ((∃ kvs : List (Key × V), Rd H a (.dK kvs) ∧ ks = kvs.map (fun p => dk p.1) ∧ IsDs c H ws (kvs.map (·.2))) ∨
      ∃ kvs : List (List Key × V), Rd H a (.dT kvs) ∧ ks = kvs.map (fun p => .tup (p.1.map dk)) ∧ IsDs c H ws (kvs.map (·.2)))
  | .fn i, v => ∃ a, c.fa i = some a ∧ v = .ref a
def IsDs (c : Cc) (H : Hp) : List D → List V → Prop
  | [], vs => vs = []
  | d :: ds, vs => ∃ v r, vs = v :: r ∧ IsD c H d v ∧ IsDs c H ds r
end

theorem Rd.same {H H' : Hp} {a : Addr} {u : HO} (e : Same H H') (r : Rd H a u) : Rd H' a u := by
  rcases r with r | ⟨o, r⟩
  · exact .inl (e _ _ r)
  · exact .inr ⟨o, e _ _ r⟩
theorem SqT.same {K : PySem.W.Frag} {H H' : Hp} {a : Addr} {xs : List V} (e : Same H H') (r : SqT K H a xs) : SqT K H' a xs := by
  rcases r with r | r
  · exact .inl (Rd.same e r)
  · exact .inr r

mutual
theorem IsD.same {c : Cc} {H H' : Hp} (e : Same H H') : ∀ (d : D) (v : V), IsD c H d v → IsD c H' d v
  | .non, v, h => by unfold IsD at h ⊢; exact h
  | .bl _, v, h => by unfold IsD at h ⊢; exact h
  | .int _, v, h => by unfold IsD at h ⊢; exact h
  | .str _, v, h => by unfold IsD at h ⊢; exact h
  | .tup xs, v, h => by
    unfold IsD at h ⊢
    obtain ⟨a, vs, e1, e2, e3⟩ := h
    exact ⟨a, vs, e1, SqT.same e e2, IsDs.same e xs vs e3⟩
  | .lst xs, v, h => by
    unfold IsD at h ⊢
    obtain ⟨a, vs, e1, e2, e3⟩ := h
    exact ⟨a, vs, e1, e _ _ e2, IsDs.same e xs vs e3⟩
  | .scr ns, v, h => by
    unfold IsD at h ⊢
    obtain ⟨a, e1, e2⟩ := h
    exact ⟨a, e1, e.seq e2⟩
  | .dct ks ws, v, h => by
    unfold IsD at h ⊢
    obtain ⟨a, e1, h⟩ := h
    refine ⟨a, e1, ?_⟩
    rcases h with ⟨kvs, h1, h2, h3⟩ | ⟨kvs, h1, h2, h3⟩
    · exact .inl ⟨kvs, Rd.same e h1, h2, IsDs.same e ws _ h3⟩
    · exact .inr ⟨kvs, Rd.same e h1, h2, IsDs.same e ws _ h3⟩
  | .fn _, v, h => by unfold IsD at h ⊢; exact h
theorem IsDs.same {c : Cc} {H H' : Hp} (e : Same H H') : ∀ (ds : List D) (vs : List V), IsDs c H ds vs → IsDs c H' ds vs
  | [], vs, h => by unfold IsDs at h ⊢; exact h
  | d :: ds, vs, h => by
    unfold IsDs at h ⊢
    obtain ⟨v, r, e1, h1, h2⟩ := h
    exact ⟨v, r, e1, IsD.same e d v h1, IsDs.same e ds r h2⟩
end

section
variable {c : Cc} {H : Hp}
theorem IsDs.len : ∀ {ds : List D} {vs : List V}, IsDs c H ds vs → ds.length = vs.length
  | [], vs, h => by unfold IsDs at h; subst h; rfl
  | d :: ds, vs, h => by
    unfold IsDs at h
    obtain ⟨v, r, rfl, h1, h2⟩ := h
    simp [IsDs.len h2]
theorem IsDs.nil : IsDs c H [] [] := by unfold IsDs; rfl
theorem IsDs.cons {d : D} {v : V} {ds : List D} {vs : List V} (h : IsD c H d v) (t : IsDs c H ds vs) : IsDs c H (d :: ds) (v :: vs) := by
  unfold IsDs; exact ⟨v, vs, rfl, h, t⟩
theorem IsDs.get : ∀ {ds : List D} {vs : List V} {i : Nat} {v : V}, IsDs c H ds vs → vs[i]? = some v → ∃ d, ds[i]? = some d ∧ IsD c H d v
  | [], vs, i, v, h, e => by unfold IsDs at h; subst h; simp at e
  | d :: ds, vs, i, v, h, e => by
    unfold IsDs at h
    obtain ⟨w, r, rfl, h1, h2⟩ := h
    cases i with
    | zero => simp at e; subst e; exact ⟨d, rfl, h1⟩
    | succ i => obtain ⟨d', e1, e2⟩ := IsDs.get (i := i) h2 (by simpa using e); exact ⟨d', by simpa using e1, e2⟩
theorem IsDs.getD : ∀ {ds : List D} {vs : List V} {i : Nat} {d : D}, IsDs c H ds vs → ds[i]? = some d → ∃ v, vs[i]? = some v ∧ IsD c H d v
  | [], vs, i, v, h, e => by simp at e
  | d :: ds, vs, i, d', h, e => by
    unfold IsDs at h
    obtain ⟨w, r, rfl, h1, h2⟩ := h
    cases i with
    | zero => simp at e; subst e; exact ⟨w, rfl, h1⟩
    | succ i => obtain ⟨v', e1, e2⟩ := IsDs.getD (i := i) h2 (by simpa using e); exact ⟨v', by simpa using e1, e2⟩
theorem IsDs.append : ∀ {ds es : List D} {vs ws : List V}, IsDs c H ds vs → IsDs c H es ws → IsDs c H (ds ++ es) (vs ++ ws)
  | [], es, vs, ws, h, h' => by unfold IsDs at h; subst h; exact h'
  | d :: ds, es, vs, ws, h, h' => by
    unfold IsDs at h
    obtain ⟨w, r, rfl, h1, h2⟩ := h
    exact IsDs.cons h1 (IsDs.append h2 h')
theorem IsDs.drop : ∀ {ds : List D} {vs : List V} (n : Nat), IsDs c H ds vs → IsDs c H (ds.drop n) (vs.drop n)
  | ds, vs, 0, h => h
  | [], vs, n + 1, h => by unfold IsDs at h; subst h; exact IsDs.nil
  | d :: ds, vs, n + 1, h => by
    unfold IsDs at h
    obtain ⟨w, r, rfl, h1, h2⟩ := h
    exact IsDs.drop n h2
theorem IsDs.take : ∀ {ds : List D} {vs : List V} (n : Nat), IsDs c H ds vs → IsDs c H (ds.take n) (vs.take n)
  | ds, vs, 0, h => IsDs.nil
  | [], vs, n + 1, h => by unfold IsDs at h; subst h; exact IsDs.nil
  | d :: ds, vs, n + 1, h => by
    unfold IsDs at h
    obtain ⟨w, r, rfl, h1, h2⟩ := h
    exact IsDs.cons h1 (IsDs.take n h2)
theorem IsDs.set : ∀ {ds : List D} {vs : List V} {d : D} {v : V} (n : Nat), IsDs c H ds vs → IsD c H d v → IsDs c H (ds.set n d) (vs.set n v)
  | [], vs, d, v, n, h, _ => by unfold IsDs at h; subst h; exact IsDs.nil
  | d :: ds, vs, d', v, n, h, h' => by
    unfold IsDs at h
    obtain ⟨w, r, rfl, h1, h2⟩ := h
    cases n with
    | zero => exact IsDs.cons h' h2
    | succ n => exact IsDs.cons h1 (IsDs.set n h2 h')
theorem IsDs.reverse : ∀ {ds : List D} {vs : List V}, IsDs c H ds vs → IsDs c H ds.reverse vs.reverse
  | [], vs, h => by unfold IsDs at h; subst h; exact IsDs.nil
  | d :: ds, vs, h => by
    unfold IsDs at h
    obtain ⟨w, r, rfl, h1, h2⟩ := h
    rw [List.reverse_cons, List.reverse_cons]
    exact IsDs.append (IsDs.reverse h2) (IsDs.cons h1 IsDs.nil)
theorem IsDs.dropLast {ds : List D} {vs : List V} (h : IsDs c H ds vs) : IsDs c H ds.dropLast vs.dropLast := by
  rw [List.dropLast_eq_take, List.dropLast_eq_take, h.len]
  exact h.take _
theorem IsDs.eraseIdx : ∀ {ds : List D} {vs : List V} (n : Nat), IsDs c H ds vs → IsDs c H (ds.eraseIdx n) (vs.eraseIdx n)
  | [], vs, n, h => by unfold IsDs at h; subst h; exact IsDs.nil
  | d :: ds, vs, n, h => by
    unfold IsDs at h
    obtain ⟨w, r, rfl, h1, h2⟩ := h
    cases n with
    | zero => exact h2
    | succ n => exact IsDs.cons h1 (IsDs.eraseIdx n h2)
end

/-! ### hiding -/
open Classical in
noncomputable def hide (H : Hp) (P : Addr → Prop) : Hp := fun a => if P a then none else H a
theorem hide_of {H : Hp} {P : Addr → Prop} {a : Addr} (h : ¬ P a) : hide H P a = H a := by unfold hide; rw [if_neg h]
theorem hide_yes {H : Hp} {P : Addr → Prop} {a : Addr} (h : P a) : hide H P a = none := by unfold hide; rw [if_pos h]
theorem hide_some {H : Hp} {P : Addr → Prop} {a : Addr} {o : HO} (h : hide H P a = some o) : ¬ P a ∧ H a = some o := by
  by_cases p : P a
  · rw [hide_yes p] at h; cases h
  · rw [hide_of p] at h; exact ⟨p, h⟩
theorem hide_same {H H' : Hp} {P : Addr → Prop} (e : Same H H') : Same (hide H P) (hide H' P) := fun b o h => by
  obtain ⟨h1, h2⟩ := hide_some h
  rw [hide_of h1]; exact e _ _ h2
theorem hide_sub {H : Hp} {P P' : Addr → Prop} (e : ∀ a, P' a → P a) : Same (hide H P) (hide H P') := fun b o h => by
  obtain ⟨h1, h2⟩ := hide_some h
  rw [hide_of fun p => h1 (e _ p)]; exact h2
theorem hide_full {H : Hp} {P : Addr → Prop} : Same (hide H P) H := fun b o h => (hide_some h).2
theorem same_new {H : Hp} {p : Addr} {o : HO} (n : H p = none) : Same H (upd H p o) := fun b u h => by
  rw [upd_ne (ne_of_none h n)]; exact h

/-! ### the states -/
inductive Sl where
  | un | va (d : D) | ow (d : D)
abbrev En := List Sl

/-- an owned object's content -/
def ObjRep (c : Cc) (G : Hp) : D → HO → Prop
  | .lst ds, o => ∃ vs, o = .lst vs ∧ IsDs c G ds vs
  | .dct ks ws, o => (∃ kvs : List (Key × V), o = .dK kvs ∧ ks = kvs.map (fun p => dk p.1) ∧ IsDs c G ws (kvs.map (·.2))) ∨
      ∃ kvs : List (List Key × V), o = .dT kvs ∧ ks = kvs.map (fun p => .tup (p.1.map dk)) ∧ IsDs c G ws (kvs.map (·.2))
  | _, _ => False
theorem ObjRep.same {c : Cc} {G G' : Hp} (e : Same G G') {d : D} {o : HO} (h : ObjRep c G d o) : ObjRep c G' d o := by
  cases d with
  | lst ds => obtain ⟨vs, e1, h⟩ := h; exact ⟨vs, e1, h.same e⟩
  | dct ks ws =>
    rcases h with ⟨kvs, e1, e2, h⟩ | ⟨kvs, e1, e2, h⟩
    · exact .inl ⟨kvs, e1, e2, h.same e⟩
    · exact .inr ⟨kvs, e1, e2, h.same e⟩
  | _ => exact h

def Owns (env : En) (σ : St) (a : Addr) : Prop := ∃ (i : Nat) (d : D), env[i]? = some (Sl.ow d) ∧ σ[i]? = some (some (V.ref a))
abbrev Hid (xs : Addr → Prop) (env : En) (σ : St) : Addr → Prop := fun a => Owns env σ a ∨ xs a

structure StOk (c : Cc) (xs : Addr → Prop) (env : En) (σ : St) (H : Hp) : Prop where
  len : env.length = σ.length
  xb : ∀ a, xs a → H a ≠ none ∧ ¬ Owns env σ a
  va : ∀ (i : Nat) (d : D), env[i]? = some (Sl.va d) → ∃ v, σ[i]? = some (some v) ∧ IsD c (hide H (Hid xs env σ)) d v
  ow : ∀ (i : Nat) (d : D), env[i]? = some (Sl.ow d) → ∃ a o, σ[i]? = some (some (V.ref a)) ∧ H a = some o ∧ ObjRep c (hide H (Hid xs env σ)) d o
  inj : ∀ (i j : Nat) (d e : D) (a : Addr), env[i]? = some (Sl.ow d) → env[j]? = some (Sl.ow e) → σ[i]? = some (some (V.ref a)) → σ[j]? = some (some (V.ref a)) → i = j

section
variable {c : Cc} {xs : Addr → Prop} {env : En} {σ : St} {H H' : Hp}
/-- nothing changed -/
theorem StOk.same (S : StOk c xs env σ H) (e : Same H H') : StOk c xs env σ H' where
  len := S.len
  xb := fun a h => by
    refine ⟨fun n => ?_, (S.xb a h).2⟩
    cases q : H a with
    | none => exact (S.xb a h).1 q
    | some o => rw [e _ _ q] at n; cases n
  va := fun i d h => let ⟨v, h1, h2⟩ := S.va i d h; ⟨v, h1, h2.same (hide_same e)⟩
  ow := fun i d h => let ⟨a, o, h1, h2, h3⟩ := S.ow i d h; ⟨a, o, h1, e _ _ h2, h3.same (hide_same e)⟩
  inj := S.inj
/-- hidden addresses are taken -/
theorem StOk.hid (S : StOk c xs env σ H) {a : Addr} (h : Hid xs env σ a) : H a ≠ none := by
  rcases h with ⟨i, d, h1, h2⟩ | h
  · obtain ⟨b, o, h3, h4, _⟩ := S.ow i d h1
    rw [h2] at h3; cases h3
    rw [h4]; exact fun z => nomatch z
  · exact (S.xb a h).1
theorem StOk.newHid (S : StOk c xs env σ H) {p : Addr} (n : H p = none) : ¬ Hid xs env σ p := fun h => S.hid h n
end
end Dn

/-! Dn2 -/
set_option Elab.async false
set_option linter.all false
set_option maxRecDepth 100000
set_option maxHeartbeats 1000000
/-! Dn2: readings by data: expressions, tests, arguments, statements. -/
namespace Dn
open PySem PySem.Spec L2
open PyProof.Rows hiding St

/-- as Cc, without the written part -/
structure Ce where
  fa : Nat → Option Addr
  ec : Nat → Option Addr
  en : Nat → Str
abbrev cc (X : Cx) (g : Ce) : Cc := ⟨X.K, g.fa, g.ec, g.en⟩

def bnd {α β : Type} (x : M α) (f : α → M β) : M β :=
  match x with
  | .ok a => f a
  | .error e => .error e
@[simp] theorem bnd_ok {α β : Type} (a : α) (f : α → M β) : bnd (.ok a) f = f a := rfl
@[simp] theorem bnd_err {α β : Type} (e : Exn) (f : α → M β) : bnd (.error e : M α) f = .error e := rfl

/-! ### how a value is held: clean, or by its shell -/
def RepS (c : Cc) (P : Addr → Prop) (H : Hp) : D → V → Prop
  | .lst ds, v => ∃ a vs, v = .ref a ∧ H a = some (.lst vs) ∧ IsDs c (hide H P) ds vs
  | .dct ks ws, v => ∃ a, v = .ref a ∧ ((∃ kvs : List (Key × V), Rd H a (.dK kvs) ∧ ks = kvs.map (fun p => dk p.1) ∧ IsDs c (hide H P) ws (kvs.map (·.2))) ∨
      ∃ kvs : List (List Key × V), Rd H a (.dT kvs) ∧ ks = kvs.map (fun p => .tup (p.1.map dk)) ∧ IsDs c (hide H P) ws (kvs.map (·.2)))
  | d, v => IsD c (hide H P) d v
def Rep (c : Cc) (sh : Bool) (P : Addr → Prop) (H : Hp) (d : D) (v : V) : Prop := if sh = true then RepS c P H d v else IsD c (hide H P) d v
theorem RepS.of {c : Cc} {P : Addr → Prop} {H : Hp} {d : D} {v : V} (h : IsD c (hide H P) d v) : RepS c P H d v := by
  cases d with
  | lst ds => unfold IsD at h; obtain ⟨a, vs, e1, e2, e3⟩ := h; exact ⟨a, vs, e1, hide_full _ _ e2, e3⟩
  | dct ks ws =>
    unfold IsD at h
    obtain ⟨a, e1, h⟩ := h
    refine ⟨a, e1, ?_⟩
    rcases h with ⟨kvs, h1, h2⟩ | ⟨kvs, h1, h2⟩
    · exact .inl ⟨kvs, Rd.same hide_full h1, h2⟩
    · exact .inr ⟨kvs, Rd.same hide_full h1, h2⟩
  | _ => exact h
theorem RepS.same {c : Cc} {P : Addr → Prop} {H H' : Hp} {d : D} {v : V} (e : Same H H') (h : RepS c P H d v) : RepS c P H' d v := by
  cases d with
  | lst ds => obtain ⟨a, vs, e1, e2, e3⟩ := h; exact ⟨a, vs, e1, e _ _ e2, e3.same (hide_same e)⟩
  | dct ks ws =>
    obtain ⟨a, e1, h⟩ := h
    refine ⟨a, e1, ?_⟩
    rcases h with ⟨kvs, h1, h2, h3⟩ | ⟨kvs, h1, h2, h3⟩
    · exact .inl ⟨kvs, Rd.same e h1, h2, h3.same (hide_same e)⟩
    · exact .inr ⟨kvs, Rd.same e h1, h2, h3.same (hide_same e)⟩
  | _ => exact IsD.same (hide_same e) _ _ h
theorem Rep.shell {c : Cc} {sh : Bool} {P : Addr → Prop} {H : Hp} {d : D} {v : V} (h : Rep c sh P H d v) : RepS c P H d v := by
  unfold Rep at h
  split at h
  · exact h
  · exact RepS.of h
theorem Rep.clean {c : Cc} {P : Addr → Prop} {H : Hp} {d : D} {v : V} (h : Rep c false P H d v) : IsD c (hide H P) d v := h
theorem Rep.of {c : Cc} {sh : Bool} {P : Addr → Prop} {H : Hp} {d : D} {v : V} (h : IsD c (hide H P) d v) : Rep c sh P H d v := by
  unfold Rep
  split
  · exact RepS.of h
  · exact h

def isOw (env : En) (j : Nat) : Bool := match env[j]? with
  | some (.ow _) => true
  | _ => false
theorem isOw_of {env : En} {j : Nat} {d : D} (h : env[j]? = some (Sl.ow d)) : isOw env j = true := by unfold isOw; rw [h]
theorem of_isOw {env : En} {j : Nat} (h : isOw env j = true) : ∃ d, env[j]? = some (Sl.ow d) := by
  unfold isOw at h
  split at h
  · rename_i d q; exact ⟨d, q⟩
  · cases h
theorem owns_shape {env env' : En} {σ : St} (h : ∀ j, isOw env' j = isOw env j) : Owns env' σ = Owns env σ := by
  funext a
  apply propext
  constructor
  · rintro ⟨i, d, h1, h2⟩
    obtain ⟨e, he⟩ := of_isOw ((h i).symm.trans (isOw_of h1))
    exact ⟨i, e, he, h2⟩
  · rintro ⟨i, d, h1, h2⟩
    obtain ⟨e, he⟩ := of_isOw ((h i).trans (isOw_of h1))
    exact ⟨i, e, he, h2⟩
/-- an evaluation's step -/
structure Stp (c : Cc) (xs : Addr → Prop) (pu : Bool) (env env' : En) (σ : St) (H H' : Hp) : Prop where
  st : StOk c xs env' σ H'
  shp : ∀ j, isOw env' j = isOw env j
  sm : Same (hide H (Owns env σ)) (hide H' (Owns env σ))
  pr : pu = true → env' = env ∧ Same H H'
section
variable {c : Cc} {xs : Addr → Prop} {pu pu' : Bool} {env env' env'' : En} {σ : St} {H H' H'' : Hp}
theorem Stp.own (s : Stp c xs pu env env' σ H H') : Owns env' σ = Owns env σ := owns_shape s.shp
theorem Stp.hid (s : Stp c xs pu env env' σ H H') : Hid xs env' σ = Hid xs env σ := by
  funext a; unfold Hid; rw [s.own]
theorem Stp.smH (s : Stp c xs pu env env' σ H H') : Same (hide H (Hid xs env σ)) (hide H' (Hid xs env σ)) := fun b o h => by
  obtain ⟨h1, h2⟩ := hide_some h
  have h3 := s.sm b o (by rw [hide_of fun z => h1 (.inl z)]; exact h2)
  rw [hide_of h1]
  exact (hide_some h3).2
theorem Stp.th (s : Stp c xs pu env env' σ H H') (a : Addr) (h : H a ≠ none) : H' a ≠ none := fun n => by
  by_cases z : Owns env σ a
  · exact s.st.hid (.inl (by rw [s.own]; exact z)) n
  · cases q : H a with
    | none => exact h q
    | some o =>
      have := s.sm a o (by rw [hide_of z]; exact q)
      rw [(hide_some this).2] at n; cases n
theorem Stp.trans (s : Stp c xs pu env env' σ H H') (s' : Stp c xs pu' env' env'' σ H' H'') : Stp c xs (pu && pu') env env'' σ H H'' where
  st := s'.st
  shp := fun j => (s'.shp j).trans (s.shp j)
  sm := s.sm.trans (by have := s'.sm; rw [s.own] at this; exact this)
  pr := fun h => by
    simp only [Bool.and_eq_true] at h
    obtain ⟨e1, k1⟩ := s.pr h.1
    obtain ⟨e2, k2⟩ := s'.pr h.2
    exact ⟨e2.trans e1, k1.trans k2⟩
theorem Stp.refl (S : StOk c xs env σ H) : Stp c xs pu env env σ H H := ⟨S, fun _ => rfl, Same.refl _, fun _ => ⟨rfl, Same.refl _⟩⟩
theorem Stp.grow (s : Stp c xs pu env env' σ H H') (k : Same H' H'') : Stp c xs pu env env' σ H H'' :=
  ⟨s.st.same k, s.shp, s.sm.trans (hide_same k), fun h => ⟨(s.pr h).1, (s.pr h).2.trans k⟩⟩
theorem Stp.weak (s : Stp c xs pu env env' σ H H') (h : pu' = true → pu = true) : Stp c xs pu' env env' σ H H' := ⟨s.st, s.shp, s.sm, fun q => s.pr (h q)⟩
/-- a value held ahead of a step is held behind it -/
theorem Stp.rep (s : Stp c xs pu env env' σ H H') {sh : Bool} {d : D} {v : V} (h : sh = false ∨ pu = true) (r : Rep c sh (Hid xs env σ) H d v) : Rep c sh (Hid xs env σ) H' d v := by
  rcases h with rfl | h
  · exact IsD.same s.smH _ _ r
  · have k := (s.pr h).2
    cases sh with
    | true => exact RepS.same k r
    | false => exact IsD.same (hide_same k) _ _ r
end

def ExcRep (c : Cc) (H : Hp) (k : Nat) (p : D) (cls : Value) (dd : Option Addr) : Prop := ∃ C d v, c.ec k = some C ∧ cls = .ref C ∧ dd = some d ∧ H d = some (.xd [(c.en k, v)]) ∧ IsD c H p v

abbrev Ev := En → M (D × En)
abbrev Tv := En → M (Bool × En)
abbrev Av := En → M (List D × En)

/-- what is wanted of an evaluation's outcome -/
def Want {α β : Type} (c : Cc) (xs : Addr → Prop) (pu : Bool) (env : En) (σ : St) (H : Hp) (R : α → En → β → Hp → Prop) (W : WX) (Q : β → Hp → Prop) : M (α × En) → Prop
  | .ok (d, env') => ∀ v H', Stp c xs pu env env' σ H H' → R d env' v H' → Q v H'
  | .error (.raise k p) => ∀ cls dd H', Same (hide H (Owns env σ)) H' → ExcRep c H' k p cls dd → W cls dd σ H'
  | .error .stuck => False

def tE (c : Cc) (pu sh : Bool) (m : Ev) (W : WX) : TE := fun σ H Q => ∃ xs env, StOk c xs env σ H ∧ Want c xs pu env σ H (fun d _ v H' => Rep c sh (Hid xs env σ) H' d v) W Q (m env)
/-- a new object, by values -/
def RepV (c : Cc) (P : Addr → Prop) (H H' : Hp) (d : D) (v : V) : Prop := ∃ a o, v = .ref a ∧ H a = none ∧ H' a = some o ∧ ObjRep c (hide H' (fun b => P b ∨ b = a)) d o
/-- a new object that nothing else leans on -/
def RepF (c : Cc) (xs : Addr → Prop) (σ : St) (H : Hp) (d : D) (env' : En) (v : V) (H' : Hp) : Prop := ∃ a o, v = .ref a ∧ H a = none ∧ H' a = some o ∧ StOk c (fun b => xs b ∨ b = a) env' σ H' ∧ ObjRep c (hide H' (fun b => Hid xs env' σ b ∨ b = a)) d o
def tF (c : Cc) (pu : Bool) (m : Ev) (W : WX) : TE := fun σ H Q => ∃ xs env, StOk c xs env σ H ∧ Want c xs pu env σ H (RepF c xs σ H) W Q (m env)
theorem StOk.newX {c : Cc} {xs : Addr → Prop} {env : En} {σ : St} {H H' : Hp} {a : Addr} {o : HO} (S : StOk c xs env σ H) (k : Same H H') (n : H a = none) (ho : H' a = some o) : StOk c (fun b => xs b ∨ b = a) env σ H' := by
  have up : Same (hide H (Hid xs env σ)) (hide H' (Hid (fun b => xs b ∨ b = a) env σ)) := fun b u hb => by
    obtain ⟨h1, h2⟩ := hide_some hb
    have ne := ne_of_none h2 n
    rw [hide_of fun z => z.elim (fun z => h1 (.inl z)) fun z => z.elim (fun z => h1 (.inr z)) ne]
    exact k _ _ h2
  have S' := S.same k
  refine ⟨S.len, fun b hb => ?_, fun i d h => ?_, fun i d h => ?_, S.inj⟩
  · rcases hb with hb | rfl
    · exact S'.xb b hb
    · exact ⟨fun z => by rw [ho] at z; (cases z), fun z => S.hid (.inl z) n⟩
  · obtain ⟨v, h1, h2⟩ := S.va i d h
    exact ⟨v, h1, h2.same up⟩
  · obtain ⟨b, u, h1, h2, h3⟩ := S.ow i d h
    exact ⟨b, u, h1, k _ _ h2, h3.same up⟩
def tT (c : Cc) (pu : Bool) (m : Tv) (W : WX) : TT := fun σ H Q => ∃ xs env, StOk c xs env σ H ∧ Want c xs pu env σ H (fun d _ v _ => v = d) W Q (m env)
def Reps (c : Cc) (P : Addr → Prop) (H : Hp) : List Bool → List D → List V → Prop
  | [], [], [] => True
  | s :: ss, d :: ds, v :: vs => Rep c s P H d v ∧ Reps c P H ss ds vs
  | _, _, _ => False
def tA (c : Cc) (pu : Bool) (shs : List Bool) (m : Av) (W : WX) : TA := fun σ H Q => ∃ xs env, StOk c xs env σ H ∧ Want c xs pu env σ H (fun ds _ vs H' => Reps c (Hid xs env σ) H' shs ds vs) W Q (m env)

inductive Fl where
  | nx | bk | ct | rt (d : D) | rf (d : D) | ro (i : Nat)
abbrev Sv := En → M (Fl × En)
/-- what a statement leaves as it was -/
structure Kept (env : En) (σ : St) (H : Hp) (env' : En) (σ' : St) (H' : Hp) : Prop where
  sm : Same (hide H (Owns env σ)) (hide H' (Owns env' σ'))
  th : ∀ a, H a ≠ none → H' a ≠ none
  fx : isOw env 0 = true → isOw env' 0 = true ∧ σ'[0]? = σ[0]?
  ln : σ'.length = σ.length
theorem Kept.trans {env env' env'' : En} {σ σ' σ'' : St} {H H' H'' : Hp} (a : Kept env σ H env' σ' H') (b : Kept env' σ' H' env'' σ'' H'') : Kept env σ H env'' σ'' H'' := ⟨a.sm.trans b.sm, fun x h => b.th x (a.th x h), fun h => ⟨(b.fx (a.fx h).1).1, (b.fx (a.fx h).1).2.trans (a.fx h).2⟩, b.ln.trans a.ln⟩
theorem Kept.refl {env : En} {σ : St} {H : Hp} : Kept env σ H env σ H := ⟨Same.refl _, fun _ h => h, fun h => ⟨h, rfl⟩, rfl⟩
/-- a store in slot i: not in slot 0 while it holds a def's own list -/
def put (i : Nat) (s : Sl) (env : En) : M En := if (i == 0 && isOw env 0) = true then stuck else .ok (env.set i s)
theorem put_ok {i : Nat} {s : Sl} {env env' : En} (h : put i s env = .ok env') : env' = env.set i s ∧ (isOw env 0 = true → i ≠ 0) := by
  unfold put at h
  split at h
  · cases h
  · rename_i q
    cases h
    refine ⟨rfl, fun h z => q ?_⟩
    subst z
    simpa using h
theorem put_cases (i : Nat) (s : Sl) (env : En) : put i s env = stuck ∨ (put i s env = .ok (env.set i s) ∧ (isOw env 0 = true → i ≠ 0)) := by
  cases q : put i s env with
  | error x =>
    left
    unfold put at q
    split at q <;> cases q
    rfl
  | ok e =>
    obtain ⟨h1, h2⟩ := put_ok q
    subst h1
    exact .inr ⟨rfl, h2⟩
@[simp] theorem put_succ {i : Nat} {s : Sl} {env : En} : put (i + 1) s env = .ok (env.set (i + 1) s) := rfl
theorem Same.th {H H' : Hp} (k : Same H H') (a : Addr) (h : H a ≠ none) : H' a ≠ none := fun n => by
  cases q : H a with
  | none => exact h q
  | some o => rw [k a o q] at n; cases n
/-- a new object that is returned -/
def RepR (c : Cc) (xs : Addr → Prop) (env : En) (σ : St) (H : Hp) (env' : En) (σ' : St) (H' : Hp) (d : D) (v : V) : Prop := ∃ a o, v = .ref a ∧ H a = none ∧ H' a = some o ∧ ¬ Hid xs env' σ' a ∧ ObjRep c (hide H' (fun b => Hid xs env' σ' b ∨ b = a)) d o
def WantS (c : Cc) (xs : Addr → Prop) (env : En) (σ : St) (H : Hp) (W : WX) (E : Ends) : M (Fl × En) → Prop
  | .ok (.nx, env') => ∀ σ' H', StOk c xs env' σ' H' → Kept env σ H env' σ' H' → E.nx σ' H'
  | .ok (.bk, env') => ∀ σ' H', StOk c xs env' σ' H' → Kept env σ H env' σ' H' → E.bk σ' H'
  | .ok (.ct, env') => ∀ σ' H', StOk c xs env' σ' H' → Kept env σ H env' σ' H' → E.ct σ' H'
  | .ok (.rt d, env') => ∀ σ' v H', StOk c xs env' σ' H' → Kept env σ H env' σ' H' → IsD c (hide H' (Hid xs env' σ')) d v → E.rt v H'
  | .ok (.rf d, env') => ∀ σ' v H', StOk c xs env' σ' H' → Kept env σ H env' σ' H' → RepR c xs env σ H env' σ' H' d v → E.rt v H'
  | .ok (.ro i, env') => ∀ σ' a H', StOk c xs env' σ' H' → Kept env σ H env' σ' H' → σ'[i]? = some (some (V.ref a)) → (∃ d, env'[i]? = some (Sl.ow d)) → E.rt (.ref a) H'
  | .error (.raise k p) => ∀ cls dd σ' H', σ'.length = σ.length → Same (hide H (Owns env σ)) H' → ExcRep c H' k p cls dd → W cls dd σ' H'
  | .error .stuck => False
def tS (c : Cc) (m : Sv) (W : WX) : TS := fun E σ H => ∃ xs env, StOk c xs env σ H ∧ WantS c xs env σ H W E (m env)

/-! ### changing a reading -/
theorem PE.imp {X : Cx} {e : Expr} {t t' : TE} (h : PE X e t) (k : ∀ σ H Q, t' σ H Q → t σ H Q) : PE X e t' := ⟨fun pins s σ H Q I w => h.run pins s σ H Q I (k _ _ _ w)⟩
theorem PT.imp {X : Cx} {e : Expr} {t t' : TT} (h : PT X e t) (k : ∀ σ H Q, t' σ H Q → t σ H Q) : PT X e t' := ⟨fun pins s σ H Q I w => h.run pins s σ H Q I (k _ _ _ w)⟩
theorem PW.imp {X : Cx} {e : Expr} {t t' : TT} (h : PW X e t) (k : ∀ σ H Q, t' σ H Q → t σ H Q) : PW X e t' := ⟨fun wh pins s σ H Q I w => h.run wh pins s σ H Q I (k _ _ _ w)⟩
theorem PA.imp {X : Cx} {e : List Expr} {t t' : TA} (h : PA X e t) (k : ∀ σ H Q, t' σ H Q → t σ H Q) : PA X e t' := ⟨fun pos pins s σ H Q I w => h.run pos pins s σ H Q I (k _ _ _ w)⟩
theorem PS.imp {X : Cx} {e : Stmt} {t t' : TS} (h : PS X e t) (k : ∀ E σ H, t' E σ H → t E σ H) : PS X e t' := ⟨fun pins s σ H E I w => h.run pins s σ H E I (k _ _ _ w)⟩
theorem PSs.imp {X : Cx} {e : List Stmt} {t t' : TS} (h : PSs X e t) (k : ∀ E σ H, t' E σ H → t E σ H) : PSs X e t' := ⟨fun pins s σ H E I w => h.run pins s σ H E I (k _ _ _ w)⟩

section
variable {X : Cx} {g : Ce}
abbrev DE (X : Cx) (g : Ce) (pu sh : Bool) (e : Expr) (m : Ev) (W : WX) : Prop := PE X e (tE (cc X g) pu sh m W)
abbrev DF (X : Cx) (g : Ce) (pu : Bool) (e : Expr) (m : Ev) (W : WX) : Prop := PE X e (tF (cc X g) pu m W)
abbrev DT (X : Cx) (g : Ce) (pu : Bool) (e : Expr) (m : Tv) (W : WX) : Prop := PT X e (tT (cc X g) pu m W)
abbrev DW (X : Cx) (g : Ce) (pu : Bool) (e : Expr) (m : Tv) (W : WX) : Prop := PW X e (tT (cc X g) pu m W)
abbrev DA (X : Cx) (g : Ce) (pu : Bool) (shs : List Bool) (es : List Expr) (m : Av) (W : WX) : Prop := PA X es (tA (cc X g) pu shs m W)
abbrev DS (X : Cx) (g : Ce) (s : Stmt) (m : Sv) (W : WX) : Prop := PS X s (tS (cc X g) m W)
abbrev DSs (X : Cx) (g : Ce) (s : List Stmt) (m : Sv) (W : WX) : Prop := PSs X s (tS (cc X g) m W)
end

/-! ### combining outcomes -/
section
variable {c : Cc} {xs : Addr → Prop} {pu pu' : Bool} {env env' : En} {σ : St} {H H' : Hp} {W : WX}
/-- from an outcome to the next one -/
theorem Want.bind {α β γ δ : Type} {R : α → En → β → Hp → Prop} {R' : γ → En → δ → Hp → Prop} {Q : β → Hp → Prop} {Q' : δ → Hp → Prop} {m : M (α × En)} {f : α × En → M (γ × En)}
    (h : Want c xs pu' env σ H R' W Q' (bnd m f))
    (k : ∀ d env' v H', m = .ok (d, env') → Stp c xs pu env env' σ H H' → R d env' v H' → Want c xs pu' env σ H R' W Q' (f (d, env')) → Q v H') : Want c xs pu env σ H R W Q m := by
  cases m with
  | error e => cases e with
    | raise k p => exact h
    | stuck => exact h
  | ok p =>
    obtain ⟨d, env'⟩ := p
    exact fun v H' s r => k d env' v H' rfl s r h
/-- started again behind a step -/
theorem Want.after {α β : Type} {R : α → En → β → Hp → Prop} {Q : β → Hp → Prop} {m : M (α × En)} (s : Stp c xs pu env env' σ H H') (h : Want c xs (pu && pu') env σ H R W Q m) : Want c xs pu' env' σ H' R W Q m := by
  cases m with
  | error e => cases e with
    | raise k p => exact fun cls dd H'' q r => h cls dd H'' (s.sm.trans (by rw [s.own] at q; exact q)) r
    | stuck => exact h
  | ok p =>
    obtain ⟨d, env''⟩ := p
    exact fun v H'' s' r => h v H'' (s.trans s') r
theorem Want.imp {α β : Type} {R R' : α → En → β → Hp → Prop} {Q Q' : β → Hp → Prop} {m : M (α × En)} (h : Want c xs pu env σ H R W Q m)
    (k : ∀ d env' v H', m = .ok (d, env') → Stp c xs pu' env env' σ H H' → R' d env' v H' → (Stp c xs pu env env' σ H H' → R d env' v H' → Q v H') → Q' v H') : Want c xs pu' env σ H R' W Q' m := by
  cases m with
  | error e => cases e with
    | raise k p => exact h
    | stuck => exact h
  | ok p =>
    obtain ⟨d, env''⟩ := p
    exact fun v H'' s' r => k d env'' v H'' rfl s' r fun s r => h v H'' s r
end
end Dn

/-! Dn3 -/
set_option Elab.async false
set_option linter.all false
set_option maxRecDepth 100000
set_option maxHeartbeats 1000000
/-! Dn3: combinators: names, constants, operators, tests. -/
namespace Dn
open PySem PySem.Spec L2
open PyProof.Rows hiding St

section
variable {X : Cx} {g : Ce} {W : WX} {pu pu1 pu2 pu3 sh sh1 sh2 sh3 : Bool} {m m1 m2 m3 : Ev} {a b e : Expr} {pos : Pos}

/-! ### weakening -/
theorem DE.shell (h : DE X g pu false e m W) : DE X g pu true e m W := PE.imp h fun σ H Q ⟨xs, env, S, w⟩ =>
  ⟨xs, env, S, w.imp fun d env' v H' e s r k => k s (RepS.of r)⟩
theorem DE.impure (h : DE X g true sh e m W) : DE X g false sh e m W := PE.imp h fun σ H Q ⟨xs, env, S, w⟩ =>
  ⟨xs, env, S, w.imp fun d env' v H' e s r k => k (s.weak fun z => nomatch z) r⟩
theorem DF.impure (h : DF X g true e m W) : DF X g false e m W := PE.imp h fun σ H Q ⟨xs, env, S, w⟩ =>
  ⟨xs, env, S, w.imp fun d env' v H' e s r k => k (s.weak fun z => nomatch z) r⟩
theorem DT.impure {m : Tv} (h : DT X g true e m W) : DT X g false e m W := PT.imp h fun σ H Q ⟨xs, env, S, w⟩ =>
  ⟨xs, env, S, w.imp fun d env' v H' e s r k => k (s.weak fun z => nomatch z) r⟩
theorem DW.impure {m : Tv} (h : DW X g true e m W) : DW X g false e m W := PW.imp h fun σ H Q ⟨xs, env, S, w⟩ =>
  ⟨xs, env, S, w.imp fun d env' v H' e s r k => k (s.weak fun z => nomatch z) r⟩
theorem DA.impure {shs : List Bool} {es : List Expr} {m : Av} (h : DA X g true shs es m W) : DA X g false shs es m W := PA.imp h fun σ H Q ⟨xs, env, S, w⟩ =>
  ⟨xs, env, S, w.imp fun d env' v H' e s r k => k (s.weak fun z => nomatch z) r⟩
/-- a new object as a value -/
theorem ObjRep.isD {c : Cc} {P : Addr → Prop} {H : Hp} {d : D} {a : Addr} {o : HO} (h : ObjRep c (hide H (fun b => P b ∨ b = a)) d o) (ho : H a = some o) (hp : ¬ P a) : IsD c (hide H P) d (.ref a) := by
  have k : Same (hide H (fun b => P b ∨ b = a)) (hide H P) := hide_sub fun _ z => .inl z
  have ho' : hide H P a = some o := by rw [hide_of hp]; exact ho
  cases d with
  | lst ds => obtain ⟨vs, e1, h⟩ := h; subst e1; unfold IsD; exact ⟨a, vs, rfl, ho', h.same k⟩
  | dct ks ws =>
    unfold IsD
    refine ⟨a, rfl, ?_⟩
    rcases h with ⟨kvs, e1, e2, h⟩ | ⟨kvs, e1, e2, h⟩
    · subst e1; exact .inl ⟨kvs, Rd.of ho', e2, h.same k⟩
    · subst e1; exact .inr ⟨kvs, Rd.of ho', e2, h.same k⟩
  | _ => exact h.elim
theorem DF.val (h : DF X g pu e m W) : DE X g pu false e m W := PE.imp h fun σ H Q ⟨xs, env, S, w⟩ =>
  ⟨xs, env, S, w.imp fun d env' v H' e s r k => k s (by
    obtain ⟨a, o, rfl, n, h1, _, h2⟩ := r
    rw [s.hid] at h2
    exact h2.isD h1 (S.newHid n))⟩

/-! ### names and constants -/
def dVar (i : Nat) : Ev := fun env => match env[i]? with
  | some (.va d) => .ok (d, env)
  | _ => stuck
def dVarO (i : Nat) : Ev := fun env => match env[i]? with
  | some (.va d) => .ok (d, env)
  | some (.ow d) => .ok (d, env)
  | _ => stuck
theorem e_var (i : Nat) {x : Str} (h : PE X (.Name x pos) (tVar i)) : DE X g true false (.Name x pos) (dVar i) W := PE.imp h fun σ H Q ⟨xs, env, S, w⟩ => by
  unfold dVar at w
  split at w
  · rename_i d hd
    obtain ⟨v, h1, h2⟩ := S.va i d hd
    exact ⟨v, h1, w v H (.refl S) h2⟩
  · exact w.elim
theorem e_varO (i : Nat) {x : Str} (h : PE X (.Name x pos) (tVar i)) : DE X g true true (.Name x pos) (dVarO i) W := PE.imp h fun σ H Q ⟨xs, env, S, w⟩ => by
  unfold dVarO at w
  split at w
  · rename_i d hd
    obtain ⟨v, h1, h2⟩ := S.va i d hd
    exact ⟨v, h1, w v H (.refl S) (RepS.of h2)⟩
  · rename_i d hd
    obtain ⟨a, o, h1, h2, h3⟩ := S.ow i d hd
    refine ⟨.ref a, h1, w _ H (.refl S) ?_⟩
    cases d with
    | lst ds => obtain ⟨vs, e1, h3⟩ := h3; subst e1; exact ⟨a, vs, rfl, h2, h3⟩
    | dct ks ws =>
      refine ⟨a, rfl, ?_⟩
      rcases h3 with ⟨kvs, e1, e2, h3⟩ | ⟨kvs, e1, e2, h3⟩
      · subst e1; exact .inl ⟨kvs, Rd.of h2, e2, h3⟩
      · subst e1; exact .inr ⟨kvs, Rd.of h2, e2, h3⟩
    | _ => exact h3.elim
  · exact w.elim

def dC (d : D) : Ev := fun env => .ok (d, env)
theorem e_const {d : D} {v : V} (h : PE X e (tC v)) (k : ∀ c H, IsD c H d v) : DE X g true false e (dC d) W := PE.imp h fun σ H Q ⟨xs, env, S, w⟩ => w v H (.refl S) (k _ _)
theorem e_int {i : Int} {j pos} : DE X g true false (.Constant (.int i) j pos) (dC (.int i)) W := e_const pe_int fun _ _ => by unfold IsD; rfl
theorem e_bl {i : Bool} {j pos} : DE X g true false (.Constant (.bool i) j pos) (dC (.bl i)) W := e_const pe_bl fun _ _ => by unfold IsD; rfl
theorem e_non {j pos} : DE X g true false (.Constant .none j pos) (dC .non) W := e_const pe_non fun _ _ => by unfold IsD; rfl
theorem e_str {x : Str} {j pos} : DE X g true false (.Constant (.str x) j pos) (dC (.str x)) W := e_const pe_str fun _ _ => by unfold IsD; rfl

/-! ### two-place operators by values -/
/-- what an operation of the machine says of data; the operands by their shells -/
def VB (c : Cc) (r : R2) (f : D → D → M D) : Prop := ∀ (P : Addr → Prop) (H : Hp) (x y : V) (d1 d2 d : D) (Q : VK), (∀ a, P a → H a ≠ none) → RepS c P H d1 x → RepS c P H d2 y →
  f d1 d2 = .ok d → (∀ v H', Same H H' → IsD c (hide H' P) d v → Q v H') → r x y H Q
/-- f raises nothing of the program's own -/
def NoR (f : M D) : Prop := ∀ k p, f ≠ .error (.raise k p)
def dBin (f : D → D → M D) (m1 m2 : Ev) : Ev := fun env => bnd (m1 env) fun p => bnd (m2 p.2) fun q => bnd (f p.1 q.1) fun d => .ok (d, q.2)
def NoR2 (f : D → D → M D) : Prop := ∀ d1 d2 k p, f d1 d2 ≠ .error (.raise k p)
theorem t_bin {r : R2} {f : D → D → M D} (hv : VB (cc X g) r f) (nr : NoR2 f) (hc : sh1 = false ∨ pu2 = true) {σ : St} {H : Hp} {Q : VK} (h : tE (cc X g) (pu1 && pu2) false (dBin f m1 m2) W σ H Q) :
    tOp r (tE (cc X g) pu1 sh1 m1 W) (tE (cc X g) pu2 sh2 m2 W) σ H Q := by
  obtain ⟨xs, env, S, w⟩ := h
  refine ⟨xs, env, S, w.bind fun d1 env1 x H1 e1 s1 r1 w1 => ?_⟩
  refine ⟨xs, env1, s1.st, Want.bind (pu' := pu2) (w1.after s1) fun d2 env2 y H2 e2 s2 r2 w2 => ?_⟩
  rw [← s1.hid] at r1
  have r1' := (s2.rep hc r1).shell
  have r2' := r2.shell
  cases q : f d1 d2 with
  | error e => cases e with
    | raise k p => exact absurd q (nr _ _ _ _)
    | stuck => rw [q] at w2; exact w2.elim
  | ok d =>
    rw [q] at w2
    refine hv (Hid xs env1 σ) H2 x y d1 d2 d Q (fun a ha => s2.st.hid (by rw [s2.hid]; exact ha)) r1' r2' q fun v H' k hd => ?_
    rw [s1.hid] at hd
    exact w2 v H' (s2.grow k) hd
theorem e_bin {op : Operator} {r : R2} {f : D → D → M D} (ho : OpR X (binaryOp op) r) (hv : VB (cc X g) r f) (nr : NoR2 f) (hc : sh1 = false ∨ pu2 = true) (ha : DE X g pu1 sh1 a m1 W) (hb : DE X g pu2 sh2 b m2 W) :
    DE X g (pu1 && pu2) false (.BinOp a op b pos) (dBin f m1 m2) W := PE.imp (pe_op ho ha hb) fun _ _ _ h => t_bin hv nr hc h
theorem e_cmp {op : CmpOp} {r : R2} {f : D → D → M D} (ho : OpR X (compareOp op) r) (hv : VB (cc X g) r f) (nr : NoR2 f) (hc : sh1 = false ∨ pu2 = true) (hm : behindInMarks op b = false) (ha : DE X g pu1 sh1 a m1 W) (hb : DE X g pu2 sh2 b m2 W) :
    DE X g (pu1 && pu2) false (.Compare a [op] [b] pos) (dBin f m1 m2) W := PE.imp (pe_cmpR ho ha hb hm) fun _ _ _ h => t_bin hv nr hc h
end
end Dn

/-! Dn4 -/
set_option Elab.async false
set_option linter.all false
set_option maxRecDepth 100000
set_option maxHeartbeats 1000000
/-! Dn4: the operators by values. -/
namespace Dn
open PySem PySem.Spec L2
open PyProof.Rows hiding St

theorem OpR.or {X : Cx} {f : Value → Value → Sem Value} {r r' : R2} (h : OpR X f r) (h' : OpR X f r') : OpR X f (fun x y H Q => r x y H Q ∨ r' x y H Q) := by
  intro pins s σ H x y v u Q I rx ry q
  rcases q with q | q
  · exact h pins s σ H x y v u Q I rx ry q
  · exact h' pins s σ H x y v u Q I rx ry q

section
variable {c : Cc} {P : Addr → Prop} {H : Hp} {v : V}
theorem RepS.int {i : Int} (h : RepS c P H (.int i) v) : v = .int i := by unfold RepS IsD at h; exact h
theorem RepS.bl {b : Bool} (h : RepS c P H (.bl b) v) : v = .bl b := by unfold RepS IsD at h; exact h
theorem RepS.str {x : Str} (h : RepS c P H (.str x) v) : v = .str x := by unfold RepS IsD at h; exact h
theorem RepS.non (h : RepS c P H .non v) : v = .non := by unfold RepS IsD at h; exact h
theorem RepS.lst {ds : List D} (h : RepS c P H (.lst ds) v) : ∃ a vs, v = .ref a ∧ H a = some (.lst vs) ∧ IsDs c (hide H P) ds vs := h
theorem RepS.tup {ds : List D} (h : RepS c P H (.tup ds) v) : ∃ a vs, v = .ref a ∧ SqT c.K H a vs ∧ IsDs c (hide H P) ds vs := by
  unfold RepS IsD at h
  obtain ⟨a, vs, e, h1, h2⟩ := h
  exact ⟨a, vs, e, SqT.same hide_full h1, h2⟩
theorem isInt {G : Hp} {i : Int} : IsD c G (.int i) (.int i) := by unfold IsD; rfl
theorem isBl {G : Hp} {b : Bool} : IsD c G (.bl b) (.bl b) := by unfold IsD; rfl
theorem isStr {G : Hp} {x : Str} : IsD c G (.str x) (.str x) := by unfold IsD; rfl
theorem isNon {G : Hp} : IsD c G .non .non := by unfold IsD; rfl
/-- a new list, a new tuple -/
theorem isNewL {p : Addr} {ds : List D} {vs : List V} (hp : H p = none) (hP : ∀ a, P a → H a ≠ none) (h : IsDs c (hide H P) ds vs) : IsD c (hide (upd H p (.lst vs)) P) (.lst ds) (.ref p) := by
  unfold IsD
  exact ⟨p, vs, rfl, by rw [hide_of fun z => hP p z hp]; exact upd_same, h.same (hide_same (same_new hp))⟩
theorem isNewT {p : Addr} {ds : List D} {vs : List V} (hp : H p = none) (hP : ∀ a, P a → H a ≠ none) (h : IsDs c (hide H P) ds vs) : IsD c (hide (upd H p (.tup vs)) P) (.tup ds) (.ref p) := by
  unfold IsD
  exact ⟨p, vs, rfl, SqT.of (by rw [hide_of fun z => hP p z hp]; exact upd_same), h.same (hide_same (same_new hp))⟩
end

/-- the longest sequence that the model has -/
def maxSeq : Nat := 16777216
theorem maxSeq_eq : sizeLine = maxSeq := sizeLine_eq

/-- ints in, an int out, under a check -/
def dIntOp (ok : Int → Int → Bool) (f : Int → Int → Int) : D → D → M D
  | .int i, .int j => if ok i j then .ok (.int (f i j)) else stuck
  | _, _ => stuck
theorem dIntOp_inv {ok : Int → Int → Bool} {f : Int → Int → Int} {d1 d2 d : D} (h : dIntOp ok f d1 d2 = .ok d) : ∃ i j, d1 = .int i ∧ d2 = .int j ∧ ok i j = true ∧ d = .int (f i j) := by
  unfold dIntOp at h
  split at h
  · split at h
    · rename_i i j hq; cases h; exact ⟨i, j, rfl, rfl, hq, rfl⟩
    · cases h
  · cases h
theorem dIntOp_nr {ok : Int → Int → Bool} {f : Int → Int → Int} : NoR2 (dIntOp ok f) := fun d1 d2 k p h => by
  unfold dIntOp at h
  split at h
  · split at h <;> cases h
  · cases h
theorem vb_int {c : Cc} {C : Int → Int → Prop} {ok : Int → Int → Bool} {f : Int → Int → Int} (hk : ∀ i j, ok i j = true → C i j) : VB c (rI C fun i j => .int (f i j)) (dIntOp ok f) := by
  intro P H x y d1 d2 d Q hP r1 r2 e k
  obtain ⟨i, j, rfl, rfl, ho, rfl⟩ := dIntOp_inv e
  exact ⟨i, j, r1.int, r2.int, hk i j ho, k _ H (Same.refl _) isInt⟩
theorem vb_int0 {c : Cc} {f : Int → Int → Int} : VB c (rI0 fun i j => .int (f i j)) (dIntOp (fun _ _ => true) f) := by
  intro P H x y d1 d2 d Q hP r1 r2 e k
  obtain ⟨i, j, rfl, rfl, ho, rfl⟩ := dIntOp_inv e
  exact ⟨i, j, r1.int, r2.int, k _ H (Same.refl _) isInt⟩

/-! ### + -/
def dAdd : D → D → M D
  | .int i, .int j => .ok (.int (i + j))
  | .str x, .str y => if x.length + y.length ≤ maxSeq then .ok (.str (x ++ y)) else stuck
  | .lst xs, .lst ys => if xs.length + ys.length ≤ maxSeq then .ok (.lst (xs ++ ys)) else stuck
  | .tup xs, .tup ys => if xs.length + ys.length ≤ maxSeq then .ok (.tup (xs ++ ys)) else stuck
  | _, _ => stuck
theorem dAdd_nr : NoR2 dAdd := fun d1 d2 k p h => by
  unfold dAdd at h
  split at h <;> first | cases h | (split at h <;> cases h)
def rAddD (K : PySem.W.Frag) : R2 := fun x y H Q => (rI0 (fun i j => .int (i + j)) x y H Q ∨ (∃ i j, x = .str i ∧ y = .str j ∧ i.length + j.length ≤ sizeLine ∧ Q (.str (i ++ j)) H)) ∨ (rCat x y H Q ∨ rCatA K x y H Q)
theorem op_addD {X : Cx} : OpR X (binaryOp .Add) (rAddD X.K) := OpR.or (OpR.or op_add op_add_str) (OpR.or op_cat op_catA)
theorem vb_add {c : Cc} : VB c (rAddD c.K) dAdd := by
  intro P H x y d1 d2 d Q hP r1 r2 e k
  unfold dAdd at e
  split at e
  · cases e
    exact .inl (.inl ⟨_, _, r1.int, r2.int, k _ H (Same.refl _) isInt⟩)
  · split at e
    · rename_i hz; cases e
      exact .inl (.inr ⟨_, _, r1.str, r2.str, by rw [maxSeq_eq]; exact hz, k _ H (Same.refl _) isStr⟩)
    · cases e
  · split at e
    · rename_i hz; cases e
      obtain ⟨a, vs, e1, h1, h2⟩ := r1.lst
      obtain ⟨b, ws, e2, h3, h4⟩ := r2.lst
      exact .inr (.inl ⟨a, b, vs, ws, e1, e2, h1, h3, by rw [maxSeq_eq, ← h2.len, ← h4.len]; exact hz, fun p hp => k _ _ (same_new hp) (isNewL hp hP (h2.append h4))⟩)
    · cases e
  · split at e
    · rename_i hz; cases e
      obtain ⟨a, vs, e1, h1, h2⟩ := r1.tup
      obtain ⟨b, ws, e2, h3, h4⟩ := r2.tup
      refine .inr (.inr ⟨a, b, vs, ws, e1, e2, h1, h3, by rw [maxSeq_eq, ← h2.len, ← h4.len]; exact hz, fun q => ?_, fun _ q => ?_, fun _ _ p hp => k _ _ (same_new hp) (isNewT hp hP (h2.append h4))⟩)
      · subst q
        have := h2.len
        obtain rfl := List.eq_nil_of_length_eq_zero (show _ = 0 from this)
        subst e2
        have r2' : IsD c (hide H P) (.tup _) (.ref b) := r2
        exact k _ H (Same.refl _) r2'
      · subst q
        have := h4.len
        obtain rfl := List.eq_nil_of_length_eq_zero (show _ = 0 from this)
        subst e1
        have r1' : IsD c (hide H P) (.tup _) (.ref a) := r1
        rw [List.append_nil] at k
        exact k _ H (Same.refl _) r1'
    · cases e
  · cases e

/-! ### -, *, //, %, **, <<, >>, &, | -/
abbrev dSub : D → D → M D := dIntOp (fun _ _ => true) fun i j => i - j
/-- big: a factor below it is taken without a look at the other one -/
def bitsOf (i : Int) : Nat := i.natAbs.log2
def mulOk (i j : Int) : Bool := decide (bitsOf i + bitsOf j < 1000000)
def divOk (_ j : Int) : Bool := decide (0 < j) && decide (bitsOf j < 9000)
abbrev dFdiv : D → D → M D := dIntOp divOk fun i j => i / j
abbrev dMod : D → D → M D := dIntOp (fun _ j => decide (0 < j)) fun i j => i % j
def powOk (i j : Int) : Bool := decide (0 ≤ j) && decide (j ≤ 1000000) && decide (i.natAbs < 2 ^ 64)
abbrev dPow : D → D → M D := dIntOp powOk fun i j => i ^ j.toNat
abbrev dShl : D → D → M D := dIntOp powOk fun i j => i * 2 ^ j.toNat
abbrev dShr : D → D → M D := dIntOp (fun _ j => decide (0 ≤ j)) fun i j => i / 2 ^ j.toNat
abbrev dAnd2 : D → D → M D := dIntOp (fun _ _ => true) Builtin.bitAnd
abbrev dOr2 : D → D → M D := dIntOp (fun _ _ => true) Builtin.bitOr
theorem vb_sub {c : Cc} : VB c (rI0 fun i j => .int (i - j)) dSub := vb_int0
theorem vb_fdiv {c : Cc} : VB c (rI CDivW fun i j => .int (i / j)) dFdiv := vb_int fun i j h => by
  unfold divOk at h
  simp only [Bool.and_eq_true, decide_eq_true_eq] at h
  exact ⟨h.1, h.2⟩
theorem vb_mod {c : Cc} : VB c (rI (fun _ j => 0 < j) fun i j => .int (i % j)) dMod := vb_int fun i j h => by simpa using h
theorem powOk_of {i j : Int} (h : powOk i j = true) : CPow i j := by
  unfold powOk at h
  simp only [Bool.and_eq_true, decide_eq_true_eq] at h
  exact ⟨h.1.1, h.1.2, h.2⟩
theorem vb_pow {c : Cc} : VB c (rI CPow fun i j => .int (i ^ j.toNat)) dPow := vb_int fun i j h => powOk_of h
theorem vb_shl {c : Cc} : VB c (rI CPow fun i j => .int (i * 2 ^ j.toNat)) dShl := vb_int fun i j h => powOk_of h
theorem vb_shr {c : Cc} : VB c (rI (fun _ j => 0 ≤ j) fun i j => .int (i / 2 ^ j.toNat)) dShr := vb_int fun i j h => by simpa using h
theorem vb_and {c : Cc} : VB c (rI0 fun i j => .int (Builtin.bitAnd i j)) dAnd2 := vb_int0
theorem vb_or {c : Cc} : VB c (rI0 fun i j => .int (Builtin.bitOr i j)) dOr2 := vb_int0

/-! ### comparisons -/
def dCmpI (f : Int → Int → Bool) (fs : List Nat → List Nat → Bool) : D → D → M D
  | .int i, .int j => .ok (.bl (f i j))
  | .str x, .str y => .ok (.bl (fs x.cps.toList y.cps.toList))
  | _, _ => stuck
theorem dCmpI_nr {f fs} : NoR2 (dCmpI f fs) := fun d1 d2 k p h => by
  unfold dCmpI at h
  split at h <;> cases h
def rCmpD (f : Int → Int → Bool) (fs : List Nat → List Nat → Bool) : R2 := fun x y H Q => rI0 (fun i j => .bl (f i j)) x y H Q ∨ ∃ i j, x = .str i ∧ y = .str j ∧ Q (.bl (fs i.cps.toList j.cps.toList)) H
theorem vb_cmpI {c : Cc} {f : Int → Int → Bool} {fs : List Nat → List Nat → Bool} : VB c (rCmpD f fs) (dCmpI f fs) := by
  intro P H x y d1 d2 d Q hP r1 r2 e k
  unfold dCmpI at e
  split at e
  · cases e
    exact .inl ⟨_, _, r1.int, r2.int, k _ H (Same.refl _) isBl⟩
  · cases e
    exact .inr ⟨_, _, r1.str, r2.str, k _ H (Same.refl _) isBl⟩
  · cases e
abbrev dLt : D → D → M D := dCmpI (fun i j => decide (i < j)) fun x y => decide (x < y)
abbrev dLe : D → D → M D := dCmpI (fun i j => decide (i ≤ j)) fun x y => !decide (y < x)
abbrev dGt : D → D → M D := dCmpI (fun i j => decide (j < i)) fun x y => decide (y < x)
abbrev dGe : D → D → M D := dCmpI (fun i j => decide (j ≤ i)) fun x y => !decide (x < y)
section
variable {X : Cx}
theorem op_ltD : OpR X (compareOp .Lt) (rCmpD (fun i j => decide (i < j)) fun x y => decide (x < y)) := OpR.or op_lt op_lt_str
theorem op_leD : OpR X (compareOp .LtE) (rCmpD (fun i j => decide (i ≤ j)) fun x y => !decide (y < x)) := OpR.or op_le op_le_str
theorem op_gtD : OpR X (compareOp .Gt) (rCmpD (fun i j => decide (j < i)) fun x y => decide (y < x)) := OpR.or op_gt op_gt_str
theorem op_geD : OpR X (compareOp .GtE) (rCmpD (fun i j => decide (j ≤ i)) fun x y => !decide (x < y)) := OpR.or op_ge op_ge_str
end

/-! ### == of data -/
mutual
def D.eqv : D → D → Bool
  | .non, .non => true
  | .bl a, .bl b => a == b
  | .bl a, .int j => (if a then 1 else 0) == j
  | .int i, .bl b => i == (if b then 1 else 0)
  | .int i, .int j => i == j
  | .str x, .str y => x == y
  | .lst xs, .lst ys => D.eqvs xs ys
  | .tup xs, .tup ys => D.eqvs xs ys
  | _, _ => false
def D.eqvs : List D → List D → Bool
  | [], [] => true
  | x :: xs, y :: ys => D.eqv x y && D.eqvs xs ys
  | _, _ => false
end
mutual
def D.lay : D → Bool
  | .non | .bl _ | .int _ => true
  | .str x => x.cps.all (· < 0x110000)
  | .lst xs | .tup xs => D.lays xs
  | _ => false
def D.lays : List D → Bool
  | [] => true
  | x :: xs => D.lay x && D.lays xs
end
mutual
def D.dep : D → Nat
  | .lst xs | .tup xs => D.deps xs + 1
  | _ => 0
def D.deps : List D → Nat
  | [] => 0
  | x :: xs => max (D.dep x) (D.deps xs)
end
mutual
def D.toP : D → PyData
  | .non => .none
  | .bl b => .bool b
  | .int i => .int i
  | .str x => .str x
  | .lst xs => .list (D.toPs xs)
  | .tup xs => .tuple (D.toPs xs)
  | _ => .none
def D.toPs : List D → List PyData
  | [] => []
  | x :: xs => D.toP x :: D.toPs xs
end
/-- may be compared -/
def D.ok (d : D) : Bool := d.lay && decide (d.dep ≤ 64)
mutual
theorem eqv_toP : ∀ (x y : D), x.lay = true → y.lay = true → PyData.eqv x.toP y.toP = D.eqv x y
  | .non, y, h, h' => by cases y <;> first | rfl | (simp [D.lay] at h'; done) | simp [D.toP, PyData.eqv, D.eqv]
  | .bl a, y, h, h' => by cases y <;> first | rfl | (simp [D.lay] at h'; done) | simp [D.toP, PyData.eqv, D.eqv]
  | .int a, y, h, h' => by cases y <;> first | rfl | (simp [D.lay] at h'; done) | simp [D.toP, PyData.eqv, D.eqv]
  | .str a, y, h, h' => by cases y <;> first | rfl | (simp [D.lay] at h'; done) | simp [D.toP, PyData.eqv, D.eqv]
  | .lst xs, y, h, h' => by
    cases y with
    | lst ys => simp only [D.toP, PyData.eqv, D.eqv]; exact eqvs_toP xs ys (by simpa [D.lay] using h) (by simpa [D.lay] using h')
    | _ => first | rfl | (simp [D.lay] at h'; done) | simp [D.toP, PyData.eqv, D.eqv]
  | .tup xs, y, h, h' => by
    cases y with
    | tup ys => simp only [D.toP, PyData.eqv, D.eqv]; exact eqvs_toP xs ys (by simpa [D.lay] using h) (by simpa [D.lay] using h')
    | _ => first | rfl | (simp [D.lay] at h'; done) | simp [D.toP, PyData.eqv, D.eqv]
  | .dct _ _, y, h, h' => by simp [D.lay] at h
  | .fn _, y, h, h' => by simp [D.lay] at h
  | .scr _, y, h, h' => by simp [D.lay] at h
theorem eqvs_toP : ∀ (xs ys : List D), D.lays xs = true → D.lays ys = true → PyData.eqvAll (D.toPs xs) (D.toPs ys) = D.eqvs xs ys
  | [], [], h, h' => by simp [D.toPs, PyData.eqvAll, D.eqvs]
  | [], y :: ys, h, h' => by simp [D.toPs, PyData.eqvAll, D.eqvs]
  | x :: xs, [], h, h' => by simp [D.toPs, PyData.eqvAll, D.eqvs]
  | x :: xs, y :: ys, h, h' => by
    simp only [D.lays, Bool.and_eq_true] at h h'
    simp only [D.toPs, PyData.eqvAll, D.eqvs]
    rw [eqv_toP x y h.1 h'.1, eqvs_toP xs ys h.2 h'.2]
end
mutual
theorem lay_toP : ∀ (x : D), x.lay = true → x.toP.canLay0 = true
  | .non, h => by simp [D.toP, PyData.canLay0]
  | .bl a, h => by simp [D.toP, PyData.canLay0]
  | .int a, h => by simp [D.toP, PyData.canLay0]
  | .str a, h => by simp only [D.toP, PyData.canLay0]; exact h
  | .lst xs, h => by simp only [D.toP, PyData.canLay0]; exact lays_toP xs (by simpa [D.lay] using h)
  | .tup xs, h => by simp only [D.toP, PyData.canLay0]; exact lays_toP xs (by simpa [D.lay] using h)
  | .dct _ _, h => by simp [D.lay] at h
  | .fn _, h => by simp [D.lay] at h
  | .scr _, h => by simp [D.lay] at h
theorem lays_toP : ∀ (xs : List D), D.lays xs = true → PyData.canLayAll0 (D.toPs xs) = true
  | [], h => by simp [D.toPs, PyData.canLayAll0]
  | x :: xs, h => by
    simp only [D.lays, Bool.and_eq_true] at h
    simp only [D.toPs, PyData.canLayAll0, lay_toP x h.1, lays_toP xs h.2, Bool.and_self]
end
mutual
theorem dep_toP : ∀ (x : D), x.toP.depth = x.dep
  | .non => by simp [D.toP, PyData.depth, D.dep]
  | .bl a => by simp [D.toP, PyData.depth, D.dep]
  | .int a => by simp [D.toP, PyData.depth, D.dep]
  | .str a => by simp [D.toP, PyData.depth, D.dep]
  | .lst xs => by simp only [D.toP, PyData.depth, D.dep, deps_toP xs]
  | .tup xs => by simp only [D.toP, PyData.depth, D.dep, deps_toP xs]
  | .dct _ _ => by simp [D.toP, PyData.depth, D.dep]
  | .fn _ => by simp [D.toP, PyData.depth, D.dep]
  | .scr _ => by simp [D.toP, PyData.depth, D.dep]
theorem deps_toP : ∀ (xs : List D), PyData.depthAll (D.toPs xs) = D.deps xs
  | [] => by simp [D.toPs, PyData.depthAll, D.deps]
  | x :: xs => by simp only [D.toPs, PyData.depthAll, D.deps, dep_toP x, deps_toP xs]
end
theorem ok_toP {d : D} (h : d.ok = true) : SeqAt.shaped d.toP = true := by
  unfold D.ok at h
  simp only [Bool.and_eq_true, decide_eq_true_eq] at h
  unfold SeqAt.shaped
  rw [lay_toP d h.1, dep_toP]
  simpa using h.2
theorem ok_lay {d : D} (h : d.ok = true) : d.lay = true := by
  unfold D.ok at h
  simp only [Bool.and_eq_true] at h
  exact h.1
mutual
theorem IsD.dp {c : Cc} {H : Hp} : ∀ (d : D) (v : V), d.lay = true → IsD c H d v → Dp c.K H v d.toP
  | .non, v, l, h => by unfold IsD at h; subst h; exact .non
  | .bl b, v, l, h => by unfold IsD at h; subst h; exact .bl b
  | .int b, v, l, h => by unfold IsD at h; subst h; exact .int b
  | .str b, v, l, h => by unfold IsD at h; subst h; exact .str b
  | .lst xs, v, l, h => by
    unfold IsD at h
    obtain ⟨a, vs, rfl, h1, h2⟩ := h
    exact .lst (SqL.of h1) (IsDs.dp xs vs (by simpa [D.lay] using l) h2)
  | .tup xs, v, l, h => by
    unfold IsD at h
    obtain ⟨a, vs, rfl, h1, h2⟩ := h
    exact .tup h1 (IsDs.dp xs vs (by simpa [D.lay] using l) h2)
  | .dct _ _, v, l, h => by simp [D.lay] at l
  | .fn _, v, l, h => by simp [D.lay] at l
  | .scr _, v, l, h => by simp [D.lay] at l
theorem IsDs.dp {c : Cc} {H : Hp} : ∀ (ds : List D) (vs : List V), D.lays ds = true → IsDs c H ds vs → DpAll c.K H vs (D.toPs ds)
  | [], vs, l, h => by unfold IsDs at h; subst h; exact .nil
  | d :: ds, vs, l, h => by
    unfold IsDs at h
    obtain ⟨v, r, rfl, h1, h2⟩ := h
    simp only [D.lays, Bool.and_eq_true] at l
    exact .cons (IsD.dp d v l.1 h1) (IsDs.dp ds r l.2 h2)
end
theorem RepS.dp {c : Cc} {P : Addr → Prop} {H : Hp} {d : D} {v : V} (l : d.lay = true) (h : RepS c P H d v) : Dp c.K H v d.toP := by
  cases d with
  | lst ds =>
    obtain ⟨a, vs, rfl, h1, h2⟩ := h
    exact .lst (SqL.of h1) (IsDs.dp ds vs (by simpa [D.lay] using l) (h2.same hide_full))
  | dct _ _ => simp [D.lay] at l
  | _ => exact IsD.dp _ _ l (IsD.same (hide_full (P := P)) _ _ h)
def dEq (d1 d2 : D) : M D := if d1.ok && d2.ok then .ok (.bl (D.eqv d1 d2)) else stuck
def dNe (d1 d2 : D) : M D := if d1.ok && d2.ok then .ok (.bl (!D.eqv d1 d2)) else stuck
theorem dEq_nr : NoR2 dEq := fun d1 d2 k p h => by unfold dEq at h; split at h <;> cases h
theorem dNe_nr : NoR2 dNe := fun d1 d2 k p h => by unfold dNe at h; split at h <;> cases h
theorem vb_eq {c : Cc} : VB c (rEqD c.K) dEq := by
  intro P H x y d1 d2 d Q hP r1 r2 e k
  unfold dEq at e
  split at e
  · rename_i hk
    simp only [Bool.and_eq_true] at hk
    cases e
    exact ⟨_, _, r1.dp (ok_lay hk.1), r2.dp (ok_lay hk.2), ok_toP hk.1, ok_toP hk.2, by rw [eqv_toP _ _ (ok_lay hk.1) (ok_lay hk.2)]; exact k _ H (Same.refl _) isBl⟩
  · cases e
theorem vb_ne {c : Cc} : VB c (rNeD c.K) dNe := by
  intro P H x y d1 d2 d Q hP r1 r2 e k
  unfold dNe at e
  split at e
  · rename_i hk
    simp only [Bool.and_eq_true] at hk
    cases e
    exact ⟨_, _, r1.dp (ok_lay hk.1), r2.dp (ok_lay hk.2), ok_toP hk.1, ok_toP hk.2, by rw [eqv_toP _ _ (ok_lay hk.1) (ok_lay hk.2)]; exact k _ H (Same.refl _) isBl⟩
  · cases e

/-! ### in, not in: lists, tuples, one text in another -/
def inOk (d : D) (ds : List D) : Bool := d.ok && (D.lst ds).ok
def dIn : D → D → M D
  | d, .lst ds => if inOk d ds then .ok (.bl (ds.any fun z => D.eqv z d)) else stuck
  | d, .tup ds => if inOk d ds then .ok (.bl (ds.any fun z => D.eqv z d)) else stuck
  | _, _ => stuck
def dNotIn : D → D → M D
  | d, .lst ds => if inOk d ds then .ok (.bl (!ds.any fun z => D.eqv z d)) else stuck
  | d, .tup ds => if inOk d ds then .ok (.bl (!ds.any fun z => D.eqv z d)) else stuck
  | _, _ => stuck
theorem dIn_nr : NoR2 dIn := fun d1 d2 k p h => by unfold dIn at h; split at h <;> first | cases h | (split at h <;> cases h)
theorem dNotIn_nr : NoR2 dNotIn := fun d1 d2 k p h => by unfold dNotIn at h; split at h <;> first | cases h | (split at h <;> cases h)
def rInT (K : PySem.W.Frag) (neg : Bool) : R2 := fun x y H Q => ∃ d ds, Dp K H x d ∧ Dp K H y (.tuple ds) ∧ SeqAt.shaped d = true ∧ SeqAt.shaped (.list ds) = true ∧ Q (.bl (if neg then !ds.any (fun z => PyData.eqv z d) else ds.any fun z => PyData.eqv z d)) H
theorem op_inT {X : Cx} (hu : X.A.units + 65 < cLine) : OpR X (compareOp .In) (rInT X.K false) := by
  intro pins s σ H x y v u Q I rx ry ⟨d, ds, hd, he, sd, se, q⟩
  obtain ⟨as, r1⟩ := Dp.reads I d x v hd rx
  obtain ⟨bs, r2⟩ := Dp.reads I (.tuple ds) y u he ry
  exact SeqAt.in_tuple_reads r2 r1 (SeqAt.canLay_of_shaped se) (SeqAt.canLay_of_shaped sd) (room_in_shaped sd hu) ⟨.bl _, H, I, rfl, q⟩
theorem op_notInT {X : Cx} (hu : X.A.units + 65 < cLine) : OpR X (compareOp .NotIn) (rInT X.K true) := by
  intro pins s σ H x y v u Q I rx ry ⟨d, ds, hd, he, sd, se, q⟩
  obtain ⟨as, r1⟩ := Dp.reads I d x v hd rx
  obtain ⟨bs, r2⟩ := Dp.reads I (.tuple ds) y u he ry
  exact SeqAt.notIn_tuple_reads r2 r1 (SeqAt.canLay_of_shaped se) (SeqAt.canLay_of_shaped sd) (room_in_shaped sd hu) ⟨.bl _, H, I, rfl, q⟩
def rInD' (K : PySem.W.Frag) : R2 := fun x y H Q => rInD K x y H Q ∨ rInT K false x y H Q
def rNotInD' (K : PySem.W.Frag) : R2 := fun x y H Q => rNotInD K x y H Q ∨ rInT K true x y H Q
theorem op_inS {X : Cx} (hu : X.A.units + 65 < cLine) : OpR X (compareOp .In) (rInD' X.K) := OpR.or (op_inD hu) (op_inT hu)
theorem op_notInS {X : Cx} (hu : X.A.units + 65 < cLine) : OpR X (compareOp .NotIn) (rNotInD' X.K) := OpR.or (op_notInD hu) (op_notInT hu)
theorem toPs_map : ∀ ds : List D, D.toPs ds = ds.map D.toP
  | [] => rfl
  | d :: ds => by simp only [D.toPs, List.map_cons, toPs_map ds]
theorem lays_mem : ∀ {ds : List D} {z : D}, D.lays ds = true → z ∈ ds → z.lay = true
  | d :: ds, z, h, m => by
    simp only [D.lays, Bool.and_eq_true] at h
    rcases List.mem_cons.mp m with rfl | m
    · exact h.1
    · exact lays_mem h.2 m
theorem any_toP {d : D} {ds : List D} (hd : d.lay = true) (hs : D.lays ds = true) : ((D.toPs ds).any fun z => PyData.eqv z d.toP) = ds.any fun z => D.eqv z d := by
  rw [toPs_map, List.any_map]
  rw [Bool.eq_iff_iff]
  simp only [List.any_eq_true, Function.comp]
  constructor
  · rintro ⟨z, m, h⟩; exact ⟨z, m, by rw [← eqv_toP z d (lays_mem hs m) hd]; exact h⟩
  · rintro ⟨z, m, h⟩; exact ⟨z, m, by rw [eqv_toP z d (lays_mem hs m) hd]; exact h⟩
theorem inOk_of {d : D} {ds : List D} (h : inOk d ds = true) : d.lay = true ∧ D.lays ds = true ∧ SeqAt.shaped d.toP = true ∧ SeqAt.shaped (.list (D.toPs ds)) = true := by
  unfold inOk at h
  simp only [Bool.and_eq_true] at h
  have h2 := ok_lay h.2
  exact ⟨ok_lay h.1, by simpa [D.lay] using h2, ok_toP h.1, by have := ok_toP h.2; simpa only [D.toP] using this⟩
theorem vb_in {c : Cc} : VB c (rInD' c.K) dIn := by
  intro P H x y d1 d2 d Q hP r1 r2 e k
  unfold dIn at e
  split at e
  · split at e
    · rename_i hk
      cases e
      obtain ⟨h1, h2, h3, h4⟩ := inOk_of hk
      refine .inl ⟨_, _, r1.dp h1, ?_, h3, h4, by rw [any_toP h1 h2]; exact k _ H (Same.refl _) isBl⟩
      have := r2.dp (show (D.lst _).lay = true by simpa [D.lay] using h2)
      simpa only [D.toP] using this
    · cases e
  · split at e
    · rename_i hk
      cases e
      obtain ⟨h1, h2, h3, h4⟩ := inOk_of hk
      refine .inr ⟨_, _, r1.dp h1, ?_, h3, h4, by rw [any_toP h1 h2]; exact k _ H (Same.refl _) isBl⟩
      have := r2.dp (show (D.tup _).lay = true by simpa [D.lay] using h2)
      simpa only [D.toP] using this
    · cases e
  · cases e
theorem vb_notIn {c : Cc} : VB c (rNotInD' c.K) dNotIn := by
  intro P H x y d1 d2 d Q hP r1 r2 e k
  unfold dNotIn at e
  split at e
  · split at e
    · rename_i hk
      cases e
      obtain ⟨h1, h2, h3, h4⟩ := inOk_of hk
      refine .inl ⟨_, _, r1.dp h1, ?_, h3, h4, by rw [any_toP h1 h2]; exact k _ H (Same.refl _) isBl⟩
      have := r2.dp (show (D.lst _).lay = true by simpa [D.lay] using h2)
      simpa only [D.toP] using this
    · cases e
  · split at e
    · rename_i hk
      cases e
      obtain ⟨h1, h2, h3, h4⟩ := inOk_of hk
      refine .inr ⟨_, _, r1.dp h1, ?_, h3, h4, by rw [any_toP h1 h2]; exact k _ H (Same.refl _) isBl⟩
      have := r2.dp (show (D.tup _).lay = true by simpa [D.lay] using h2)
      simpa only [D.toP] using this
    · cases e
  · cases e

/-! ### is None -/
def dIsN : D → D → M D
  | .non, .non => .ok (.bl true)
  | _, .non => .ok (.bl false)
  | _, _ => stuck
def dNotN : D → D → M D
  | .non, .non => .ok (.bl false)
  | _, .non => .ok (.bl true)
  | _, _ => stuck
theorem dIsN_nr : NoR2 dIsN := fun d1 d2 k p h => by unfold dIsN at h; split at h <;> cases h
theorem dNotN_nr : NoR2 dNotN := fun d1 d2 k p h => by unfold dNotN at h; split at h <;> cases h
theorem RepS.ne_non {c : Cc} {P : Addr → Prop} {H : Hp} {d : D} {v : V} (h : RepS c P H d v) (hd : d ≠ .non) : v ≠ .non := by
  intro e
  subst e
  cases d with
  | non => exact hd rfl
  | lst ds => obtain ⟨a, vs, e, _⟩ := h; cases e
  | dct ks ws => obtain ⟨a, e, _⟩ := h; cases e
  | tup ds => obtain ⟨a, vs, e, _⟩ := h.tup; cases e
  | bl b => cases h.bl
  | int b => cases h.int
  | str b => cases h.str
  | fn i => unfold RepS IsD at h; obtain ⟨a, _, e⟩ := h; cases e
  | scr i => unfold RepS IsD at h; obtain ⟨a, e, _⟩ := h; cases e
theorem vb_isN {c : Cc} : VB c (fun x y H Q => y = .non ∧ Q (.bl (decide (x = .non))) H) dIsN := by
  intro P H x y d1 d2 d Q hP r1 r2 e k
  unfold dIsN at e
  split at e
  · cases e
    refine ⟨r2.non, ?_⟩
    rw [decide_eq_true r1.non]
    exact k _ H (Same.refl _) isBl
  · rename_i hn
    cases e
    refine ⟨r2.non, ?_⟩
    rw [decide_eq_false (r1.ne_non fun q => hn (by rw [q]))]
    exact k _ H (Same.refl _) isBl
  · cases e
theorem vb_notN {c : Cc} : VB c (fun x y H Q => y = .non ∧ Q (.bl (!decide (x = .non))) H) dNotN := by
  intro P H x y d1 d2 d Q hP r1 r2 e k
  unfold dNotN at e
  split at e
  · cases e
    refine ⟨r2.non, ?_⟩
    rw [decide_eq_true r1.non]
    exact k _ H (Same.refl _) isBl
  · rename_i hn
    cases e
    refine ⟨r2.non, ?_⟩
    rw [decide_eq_false (r1.ne_non fun q => hn (by rw [q]))]
    exact k _ H (Same.refl _) isBl
  · cases e
end Dn

/-! Dn5 -/
set_option Elab.async false
set_option linter.all false
set_option maxRecDepth 100000
set_option maxHeartbeats 1000000
/-! Dn5: tests, conditional values, displays, arguments, calls of built-ins, subscripts, slices. -/
namespace Dn
open PySem PySem.Spec L2
open PyProof.Rows hiding St

theorem and_l {a b : Bool} (h : (a && b) = true) : a = true := by simp only [Bool.and_eq_true] at h; exact h.1
theorem and_r {a b : Bool} (h : (a && b) = true) : b = true := by simp only [Bool.and_eq_true] at h; exact h.2

section
variable {X : Cx} {g : Ce} {W : WX} {pu pu1 pu2 pu3 sh sh1 sh2 sh3 : Bool} {m m1 m2 m3 : Ev} {a b e : Expr} {pos : Pos} {t t1 t2 : Tv} {rest : List Expr}

/-! ### tests -/
def dTb (m : Ev) : Tv := fun env => bnd (m env) fun p => match p.1 with
  | .bl k => .ok (k, p.2)
  | _ => stuck
theorem tT_of {c : Cc} {σ : St} {H : Hp} {Q : Bool → Hp → Prop} (h : tT c pu (dTb m) W σ H Q) : tE c pu false m W σ H (fun x H' => ∃ k, x = .bl k ∧ Q k H') := by
  obtain ⟨xs, env, S, w⟩ := h
  refine ⟨xs, env, S, Want.bind w fun d env' v H' e s r w' => ?_⟩
  have r' : RepS c _ H' d v := Rep.shell r
  dsimp only at w'
  split at w'
  · rename_i k
    exact ⟨k, r'.bl, w' k H' s rfl⟩
  · exact w'.elim
theorem t_cmp {op : CmpOp} {r : R2} {f : D → D → M D} (ho : OpR X (compareOp op) r) (hv : VB (cc X g) r f) (nr : NoR2 f) (hc : sh1 = false ∨ pu2 = true) (hm : behindInMarks op b = false) (ha : DE X g pu1 sh1 a m1 W) (hb : DE X g pu2 sh2 b m2 W) :
    DT X g (pu1 && pu2) (.Compare a [op] [b] pos) (dTb (dBin f m1 m2)) W := PT.imp (pt_cmpR ho ha hb hm) fun _ _ _ h => t_bin hv nr hc (tT_of h)

def truth : D → M Bool
  | .non => .ok false
  | .bl b => .ok b
  | .int i => .ok (i != 0)
  | .str x => if x.length ≤ maxSeq then .ok ((x.length : Int) != 0) else stuck
  | .tup xs => .ok (!xs.isEmpty)
  | .lst xs => .ok (!xs.isEmpty)
  | _ => stuck
def dTr (m : Ev) : Tv := fun env => bnd (m env) fun p => bnd (truth p.1) fun k => .ok (k, p.2)
theorem truth_nr {d : D} {k p} : truth d ≠ .error (.raise k p) := fun h => by
  unfold truth at h
  split at h <;> first | cases h | (split at h <;> cases h)
theorem isDs_empty {c : Cc} {H : Hp} {ds : List D} {vs : List V} (h : IsDs c H ds vs) : ds.isEmpty = vs.isEmpty := by
  have := h.len
  cases ds <;> cases vs <;> simp_all
theorem truth_of {c : Cc} {P : Addr → Prop} {H : Hp} {d : D} {v : V} {k : Bool} (h : truth d = .ok k) (r : RepS c P H d v) : TruV c.K v H k := by
  unfold truth at h
  split at h
  · cases h; rw [r.non]; rfl
  · cases h; rw [r.bl]; rfl
  · cases h; rw [r.int]; rfl
  · split at h
    · rename_i hz; cases h; rw [r.str]; exact ⟨by rw [maxSeq_eq]; exact hz, rfl⟩
    · cases h
  · cases h
    obtain ⟨a, vs, rfl, h1, h2⟩ := r.tup
    exact .inr (.inl ⟨vs, h1, by rw [isDs_empty h2]⟩)
  · cases h
    obtain ⟨a, vs, rfl, h1, h2⟩ := r.lst
    exact .inl ⟨vs, SqL.of h1, by rw [isDs_empty h2]⟩
  · cases h
theorem t_truth (he : ∀ whole, isTrue a X.env whole = (do let v ← whole; standAt a.pos; holding [v] (truthy v))) (ha : DE X g pu sh a m W) : DT X g pu a (dTr m) W := by
  refine PT.imp (pt_truth ha he) fun σ H Q ⟨xs, env, S, w⟩ => ⟨xs, env, S, Want.bind w fun d env' v H' e s r w' => ?_⟩
  cases q : truth d with
  | error x => cases x with
    | raise k p => exact absurd q truth_nr
    | stuck => rw [q] at w'; exact w'.elim
  | ok k =>
    rw [q] at w'
    exact ⟨k, truth_of (c := cc X g) q r.shell, w' k H' s rfl⟩

def dTNot (t : Tv) : Tv := fun env => bnd (t env) fun p => .ok (!p.1, p.2)
theorem t_not (h : DT X g pu a t W) : DT X g pu (.UnaryOp .Not a pos) (dTNot t) W :=
  PT.imp (pt_not h) fun σ H Q ⟨xs, env, S, w⟩ => ⟨xs, env, S, Want.bind w fun d env' v H' e s r w' => by subst r; exact w' _ H' s rfl⟩
def dTAnd (t1 t2 : Tv) : Tv := fun env => bnd (t1 env) fun p => if p.1 = true then t2 p.2 else .ok (false, p.2)
def dTOr (t1 t2 : Tv) : Tv := fun env => bnd (t1 env) fun p => if p.1 = true then .ok (true, p.2) else t2 p.2
theorem w_and1 (h : DT X g pu a t W) : DW X g pu (.BoolOp .And [a] pos) t W := pw_and1 h
theorem w_or1 (h : DT X g pu a t W) : DW X g pu (.BoolOp .Or [a] pos) t W := pw_or1 h
theorem w_and (h1 : DT X g pu1 a t1 W) (h2 : DW X g pu2 (.BoolOp .And (b :: rest) pos) t2 W) : DW X g (pu1 && pu2) (.BoolOp .And (a :: b :: rest) pos) (dTAnd t1 t2) W :=
  PW.imp (pw_and h1 h2) fun σ H Q ⟨xs, env, S, w⟩ => ⟨xs, env, S, Want.bind w fun d env' v H' e s r w' => by
    have r' : v = d := r
    subst r'
    dsimp only at w'
    cases v with
    | true => exact ⟨xs, env', s.st, Want.after s w'⟩
    | false => exact w' false H' (s.weak and_l) rfl⟩
theorem w_or (h1 : DT X g pu1 a t1 W) (h2 : DW X g pu2 (.BoolOp .Or (b :: rest) pos) t2 W) : DW X g (pu1 && pu2) (.BoolOp .Or (a :: b :: rest) pos) (dTOr t1 t2) W :=
  PW.imp (pw_or h1 h2) fun σ H Q ⟨xs, env, S, w⟩ => ⟨xs, env, S, Want.bind w fun d env' v H' e s r w' => by
    have r' : v = d := r
    subst r'
    dsimp only at w'
    cases v with
    | false => exact ⟨xs, env', s.st, Want.after s w'⟩
    | true => exact w' true H' (s.weak and_l) rfl⟩
theorem t_w (h : DW X g pu a t W) : DT X g pu a t W := h.pt

/-! ### and, or, not as values (bools, all but the last) -/
def dAndV (m1 m2 : Ev) : Ev := fun env => bnd (m1 env) fun p => match p.1 with
  | .bl true => m2 p.2
  | .bl false => .ok (.bl false, p.2)
  | _ => stuck
def dOrV (m1 m2 : Ev) : Ev := fun env => bnd (m1 env) fun p => match p.1 with
  | .bl true => .ok (.bl true, p.2)
  | .bl false => m2 p.2
  | _ => stuck
def dNotV (m : Ev) : Ev := fun env => bnd (m env) fun p => match p.1 with
  | .bl k => .ok (.bl (!k), p.2)
  | _ => stuck
theorem e_one {op} (h : DE X g pu sh a m W) : DE X g pu sh (.BoolOp op [a] pos) m W := pe_one h
/-- what a later part finds -/
theorem Want.afterE {α β : Type} {c : Cc} {xs : Addr → Prop} {env env' : En} {σ : St} {H H' : Hp} {R : α → En → β → Hp → Prop} {Q : β → Hp → Prop} {m : M (α × En)} (s : Stp c xs pu1 env env' σ H H') (h : Want c xs (pu1 && pu2) env σ H R W Q m) :
    Want c xs pu2 env' σ H' R W Q m := Want.after s h
theorem e_and (h1 : DE X g pu1 sh1 a m1 W) (h2 : DE X g pu2 sh (.BoolOp .And (b :: rest) pos) m2 W) : DE X g (pu1 && pu2) sh (.BoolOp .And (a :: b :: rest) pos) (dAndV m1 m2) W :=
  PE.imp (pe_and h1 h2) fun σ H Q ⟨xs, env, S, w⟩ => ⟨xs, env, S, Want.bind w fun d env' v H' e s r w' => by
    have r' := Rep.shell r
    dsimp only at w'
    split at w'
    · refine ⟨true, r'.bl, ?_⟩
      rw [if_pos rfl]
      refine ⟨xs, env', s.st, ?_⟩
      rw [s.hid]
      exact Want.after s w'
    · refine ⟨false, r'.bl, ?_⟩
      rw [if_neg Bool.false_ne_true]
      exact w' _ H' (s.weak and_l) (Rep.of isBl)
    · exact w'.elim⟩
theorem e_or (h1 : DE X g pu1 sh1 a m1 W) (h2 : DE X g pu2 sh (.BoolOp .Or (b :: rest) pos) m2 W) : DE X g (pu1 && pu2) sh (.BoolOp .Or (a :: b :: rest) pos) (dOrV m1 m2) W :=
  PE.imp (pe_or h1 h2) fun σ H Q ⟨xs, env, S, w⟩ => ⟨xs, env, S, Want.bind w fun d env' v H' e s r w' => by
    have r' := Rep.shell r
    dsimp only at w'
    split at w'
    · refine ⟨true, r'.bl, ?_⟩
      rw [if_pos rfl]
      exact w' _ H' (s.weak and_l) (Rep.of isBl)
    · refine ⟨false, r'.bl, ?_⟩
      rw [if_neg Bool.false_ne_true]
      refine ⟨xs, env', s.st, ?_⟩
      rw [s.hid]
      exact Want.after s w'
    · exact w'.elim⟩
theorem e_not (h : DE X g pu sh a m W) : DE X g pu false (.UnaryOp .Not a pos) (dNotV m) W :=
  PE.imp (pe_not h) fun σ H Q ⟨xs, env, S, w⟩ => ⟨xs, env, S, Want.bind w fun d env' v H' e s r w' => by
    have r' := Rep.shell r
    dsimp only at w'
    split at w'
    · exact ⟨_, r'.bl, w' _ H' s (Rep.of isBl)⟩
    · exact w'.elim⟩
/-! ### a if t else b -/
def dIf (t : Tv) (m1 m2 : Ev) : Ev := fun env => bnd (t env) fun p => if p.1 = true then m1 p.2 else m2 p.2
theorem e_if (ht : DT X g pu e t W) (h1 : DE X g pu1 sh a m1 W) (h2 : DE X g pu1 sh b m2 W) : DE X g (pu && pu1) sh (.IfExp e a b pos) (dIf t m1 m2) W :=
  PE.imp (pe_ifExp ht h1 h2) fun σ H Q ⟨xs, env, S, w⟩ => ⟨xs, env, S, Want.bind w fun d env' v H' e s r w' => by
    have r' : v = d := r
    subst r'
    dsimp only at w'
    cases v with
    | true =>
      rw [if_pos rfl]
      refine ⟨xs, env', s.st, ?_⟩
      rw [s.hid]
      exact Want.after s w'
    | false =>
      rw [if_neg Bool.false_ne_true]
      refine ⟨xs, env', s.st, ?_⟩
      rw [s.hid]
      exact Want.after s w'⟩
/-- chained comparisons -/
def dChain (f f' : D → D → M D) (m1 m2 m3 : Ev) : Ev := fun env => bnd (m1 env) fun p => bnd (m2 p.2) fun q => bnd (f p.1 q.1) fun k => match k with
  | .bl true => bnd (m3 q.2) fun r => bnd (f' q.1 r.1) fun d => .ok (d, r.2)
  | .bl false => .ok (.bl false, q.2)
  | _ => stuck
theorem t_chain' {r r' : R2} {f f' : D → D → M D} (hv : VB (cc X g) r f) (hv' : VB (cc X g) r' f') (nr : NoR2 f) (nr' : NoR2 f') {σ : St} {H : Hp} {Q : VK} (h : tE (cc X g) true false (dChain f f' m1 m2 m3) W σ H Q) :
    tChain r r' (tE (cc X g) true sh1 m1 W) (tE (cc X g) true sh2 m2 W) (tE (cc X g) true sh3 m3 W) σ H Q := by
  obtain ⟨xs, env, S, w⟩ := h
  refine ⟨xs, env, S, w.bind fun d1 env1 x H1 e1 s1 r1 w1 => ?_⟩
  refine ⟨xs, env1, s1.st, Want.bind (pu' := true) (Want.after s1 w1) fun d2 env2 y H2 e2 s2 r2 w2 => ?_⟩
  rw [← s1.hid] at r1
  have r1' := (s2.rep (.inr rfl) r1).shell
  have r2' := r2.shell
  have hP : ∀ a, Hid xs env1 σ a → H2 a ≠ none := fun a ha => s2.st.hid (by rw [s2.hid]; exact ha)
  cases q : f d1 d2 with
  | error e => cases e with
    | raise k p => exact absurd q (nr _ _ _ _)
    | stuck => rw [q] at w2; exact w2.elim
  | ok d =>
    rw [q] at w2
    refine hv (Hid xs env1 σ) H2 x y d1 d2 d _ hP r1' r2' q fun v H3 k hd => ?_
    dsimp only [bnd] at w2
    split at w2
    · have hv := (RepS.of hd).bl
      subst hv
      refine ⟨true, rfl, ?_⟩
      rw [if_pos rfl]
      refine ⟨xs, env2, s2.st.same k, Want.bind (pu' := true) (Want.after (s2.grow k) w2) fun d3 env3 z H4 e3 s3 r3 w3 => ?_⟩
      have r2'' : RepS (cc X g) (Hid xs env1 σ) H4 d2 y := ((RepS.same k r2').same (s3.pr rfl).2)
      have r3' := r3.shell
      rw [s2.hid] at r3'
      cases q' : f' d2 d3 with
      | error e => cases e with
        | raise k p => exact absurd q' (nr' _ _ _ _)
        | stuck => rw [q'] at w3; exact w3.elim
      | ok d' =>
        rw [q'] at w3
        refine hv' (Hid xs env1 σ) H4 y z d2 d3 d' Q (fun a ha => s3.st.hid (by rw [s3.hid, s2.hid]; exact ha)) r2'' r3' q' fun v' H5 k' hd' => ?_
        rw [s1.hid] at hd'
        exact w3 v' H5 (s3.grow k') hd'
    · have hv := (RepS.of hd).bl
      subst hv
      refine ⟨false, rfl, ?_⟩
      rw [if_neg Bool.false_ne_true]
      exact w2 _ H3 (s2.grow k) (Rep.of isBl)
    · exact w2.elim
theorem e_chain {op op' : CmpOp} {r r' : R2} {f f' : D → D → M D} (ho : OpR X (compareOp op) r) (ho' : OpR X (compareOp op') r') (hv : VB (cc X g) r f) (hv' : VB (cc X g) r' f') (nr : NoR2 f) (nr' : NoR2 f')
    (hm : lastMarks [op, op'] [b, e] = false) (ha : DE X g true sh1 a m1 W) (hb : DE X g true sh2 b m2 W) (he : DE X g true sh3 e m3 W) : DE X g true false (.Compare a [op, op'] [b, e] pos) (dChain f f' m1 m2 m3) W :=
  PE.imp (pe_chain ho ho' ha hb he hm) fun _ _ _ h => t_chain' hv hv' nr nr' h
theorem t_chain {op op' : CmpOp} {r r' : R2} {f f' : D → D → M D} (ho : OpR X (compareOp op) r) (ho' : OpR X (compareOp op') r') (hv : VB (cc X g) r f) (hv' : VB (cc X g) r' f') (nr : NoR2 f) (nr' : NoR2 f')
    (hm : lastMarks [op, op'] [b, e] = false) (ha : DE X g true sh1 a m1 W) (hb : DE X g true sh2 b m2 W) (he : DE X g true sh3 e m3 W) : DT X g true (.Compare a [op, op'] [b, e] pos) (dTb (dChain f f' m1 m2 m3)) W :=
  PT.imp (pt_chain ho ho' ha hb he hm) fun _ _ _ h => t_chain' hv hv' nr nr' (tT_of h)
end
end Dn

/-! Dn6 -/
set_option Elab.async false
set_option linter.all false
set_option maxRecDepth 100000
set_option maxHeartbeats 1000000
/-! Dn6: arguments, displays, calls of built-ins, subscripts, slices. -/
namespace Dn
open PySem PySem.Spec L2
open PyProof.Rows hiding St

section
variable {X : Cx} {g : Ce} {W : WX} {pu pu1 pu2 pu3 sh sh1 sh2 sh3 : Bool} {m m1 m2 m3 : Ev} {a b e : Expr} {es : List Expr} {pos : Pos} {ma : Av} {shs : List Bool}

/-! ### arguments -/
def dNil : Av := fun env => .ok ([], env)
def dCons (m : Ev) (ms : Av) : Av := fun env => bnd (m env) fun p => bnd (ms p.2) fun q => .ok (p.1 :: q.1, q.2)
theorem a_nil : DA X g true [] [] dNil W := PA.imp pa_nil fun σ H Q ⟨xs, env, S, w⟩ => w [] H (.refl S) trivial
theorem Stp.reps {c : Cc} {xs : Addr → Prop} {env env' : En} {σ : St} {H H' : Hp} (s : Stp c xs pu env env' σ H H') : ∀ {shs : List Bool} {ds : List D} {vs : List V}, (shs.all (!·) = true ∨ pu = true) → Reps c (Hid xs env σ) H shs ds vs → Reps c (Hid xs env σ) H' shs ds vs
  | [], [], [], _, r => r
  | s' :: ss, d :: ds, v :: vs, h, r => by
    obtain ⟨r1, r2⟩ := r
    refine ⟨s.rep ?_ r1, Stp.reps s ?_ r2⟩
    · rcases h with h | h
      · simp only [List.all_cons, Bool.and_eq_true] at h
        exact .inl (by simpa using h.1)
      · exact .inr h
    · rcases h with h | h
      · simp only [List.all_cons, Bool.and_eq_true] at h
        exact .inl h.2
      · exact .inr h
  | [], [], _ :: _, _, r => r.elim
  | [], _ :: _, _, _, r => r.elim
  | _ :: _, [], _, _, r => r.elim
  | _ :: _, _ :: _, [], _, r => r.elim
theorem a_cons (hc : sh = false ∨ pu2 = true) (h1 : DE X g pu1 sh e m W) (h2 : DA X g pu2 shs es ma W) (hs : starEach (e :: es) X.env = (false, eval e X.env) :: starEach es X.env := by rfl) : DA X g (pu1 && pu2) (sh :: shs) (e :: es) (dCons m ma) W :=
  PA.imp (pa_cons h1 h2 hs) fun σ H Q ⟨xs, env, S, w⟩ => ⟨xs, env, S, Want.bind w fun d env1 v H1 e1 s1 r1 w1 => by
    refine ⟨xs, env1, s1.st, Want.bind (pu' := pu2) (Want.after s1 w1) fun ds env2 vs H2 e2 s2 r2 w2 => ?_⟩
    rw [← s1.hid] at r1
    have r1' := s2.rep hc r1
    rw [s1.hid] at r1' r2
    exact w2 (v :: vs) H2 s2 ⟨r1', r2⟩⟩

/-! ### displays -/
def dTup (ms : Av) : Ev := fun env => bnd (ms env) fun p => if p.1.length ≤ maxSeq then .ok (.tup p.1, p.2) else stuck
def dLst (ms : Av) : Ev := fun env => bnd (ms env) fun p => if p.1.length ≤ maxSeq then .ok (.lst p.1, p.2) else stuck
theorem Reps.clean {c : Cc} {P : Addr → Prop} {H : Hp} : ∀ {shs : List Bool} {ds : List D} {vs : List V}, shs.all (!·) = true → Reps c P H shs ds vs → IsDs c (hide H P) ds vs
  | [], [], [], _, _ => IsDs.nil
  | s :: ss, d :: ds, v :: vs, h, ⟨r1, r2⟩ => by
    simp only [List.all_cons, Bool.and_eq_true] at h
    have e : s = false := by simpa using h.1
    subst e
    exact IsDs.cons r1 (Reps.clean h.2 r2)
  | [], [], _ :: _, _, r => r.elim
  | [], _ :: _, _, _, r => r.elim
  | _ :: _, [], _, _, r => r.elim
  | _ :: _, _ :: _, [], _, r => r.elim
theorem e_tup {x1} (hs : shs.all (!·) = true) (h : DA X g pu shs es ma W) : DE X g pu false (.Tuple es x1 pos) (dTup ma) W :=
  PE.imp (pe_tup h) fun σ H Q ⟨xs, env, S, w⟩ => ⟨xs, env, S, Want.bind w fun ds env' vs H' e s r w' => by
    have c := r.clean hs
    dsimp only at w'
    split at w'
    · rename_i hz
      refine ⟨by rw [maxSeq_eq, ← c.len]; exact hz, fun p hp => ?_⟩
      refine w' _ _ (s.grow (same_new hp)) (Rep.of ?_)
      exact isNewT hp (fun a ha => s.st.hid (by rw [s.hid]; exact ha)) c
    · exact w'.elim⟩
/-- a new list -/
theorem RepF.lst {c : Cc} {xs : Addr → Prop} {env env' : En} {σ : St} {H H' : Hp} {ds : List D} {vs : List V} (s : Stp c xs pu env env' σ H H') (r : IsDs c (hide H' (Hid xs env σ)) ds vs) {p : Addr} (hp : H' p = none) (h0 : H p = none) :
    RepF c xs σ H (.lst ds) env' (.ref p) (upd H' p (.lst vs)) := by
  refine ⟨p, _, rfl, h0, upd_same, s.st.newX (same_new hp) hp upd_same, vs, rfl, r.same ?_⟩
  intro b o hb
  obtain ⟨h1, h2⟩ := hide_some hb
  have ne : b ≠ p := ne_of_none h2 hp
  rw [s.hid, hide_of fun z => z.elim h1 ne, upd_ne ne]
  exact h2
/-- a new object by values, behind a step -/
theorem RepV.step {c : Cc} {xs : Addr → Prop} {env env' : En} {σ : St} {H H' H2 : Hp} {d : D} {v : V} (s : Stp c xs pu env env' σ H H') (S : StOk c xs env σ H) (k : Same H' H2) (r : RepV c (Hid xs env σ) H' H2 d v) (hf : ∀ p, H' p = none → H p = none) : RepF c xs σ H d env' v H2 := by
  obtain ⟨a, o, e1, e2, e3, e4⟩ := r
  exact ⟨a, o, e1, hf a e2, e3, s.st.newX k e2 e3, by rw [s.hid]; exact e4⟩
theorem Stp.free {c : Cc} {xs : Addr → Prop} {env env' : En} {σ : St} {H H' : Hp} (s : Stp c xs pu env env' σ H H') (S : StOk c xs env σ H) {p : Addr} (hp : H' p = none) : H p = none := by
  cases q : H p with
  | none => rfl
  | some o =>
    by_cases hP : Hid xs env σ p
    · exact absurd hp (s.st.hid (by rw [s.hid]; exact hP))
    · have := s.smH p o (by rw [hide_of hP]; exact q)
      rw [hide_of hP, hp] at this; cases this
theorem f_lst (hs : shs.all (!·) = true) (h : DA X g pu shs es ma W) : DF X g pu (.List es pos) (dLst ma) W :=
  PE.imp (pe_lst h) fun σ H Q ⟨xs, env, S, w⟩ => ⟨xs, env, S, Want.bind w fun ds env' vs H' e s r w' => by
    have c := r.clean hs
    dsimp only at w'
    split at w'
    · rename_i hz
      refine ⟨by rw [maxSeq_eq, ← c.len]; exact hz, fun p hp => ?_⟩
      exact w' _ _ (s.grow (same_new hp)) (RepF.lst s c hp (s.free S hp))
    · exact w'.elim⟩

/-! ### calls of built-ins by values -/
abbrev RC := List V → Hp → VK → Prop
def RepsS (c : Cc) (P : Addr → Prop) (H : Hp) : List D → List V → Prop
  | [], [] => True
  | d :: ds, v :: vs => RepS c P H d v ∧ RepsS c P H ds vs
  | _, _ => False
theorem Reps.shell {c : Cc} {P : Addr → Prop} {H : Hp} : ∀ {shs : List Bool} {ds : List D} {vs : List V}, Reps c P H shs ds vs → RepsS c P H ds vs
  | [], [], [], _ => trivial
  | s :: ss, d :: ds, v :: vs, ⟨r1, r2⟩ => ⟨r1.shell, Reps.shell r2⟩
  | [], [], _ :: _, r => r.elim
  | [], _ :: _, _, r => r.elim
  | _ :: _, [], _, r => r.elim
  | _ :: _, _ :: _, [], r => r.elim
/-- a built-in's call, of data -/
def VC (c : Cc) (r : RC) (f : List D → M D) : Prop := ∀ (P : Addr → Prop) (H : Hp) (vs : List V) (ds : List D) (d : D) (Q : VK), (∀ a, P a → H a ≠ none) → RepsS c P H ds vs →
  f ds = .ok d → (∀ v H', Same H H' → IsD c (hide H' P) d v → Q v H') → r vs H Q
/-- .. that makes a new object -/
def VCF (c : Cc) (r : RC) (f : List D → M D) : Prop := ∀ (P : Addr → Prop) (H : Hp) (vs : List V) (ds : List D) (d : D) (Q : VK), (∀ a, P a → H a ≠ none) → RepsS c P H ds vs →
  f ds = .ok d → (∀ v H', Same H H' → RepV c P H H' d v → Q v H') → r vs H Q
def NoRL (f : List D → M D) : Prop := ∀ ds k p, f ds ≠ .error (.raise k p)
def dCall (f : List D → M D) (ms : Av) : Ev := fun env => bnd (ms env) fun p => bnd (f p.1) fun d => .ok (d, p.2)
theorem t_callB {r : RC} {f : List D → M D} (hv : VC (cc X g) r f) (nr : NoRL f) {σ : St} {H : Hp} {Q : VK} (h : tE (cc X g) pu false (dCall f ma) W σ H Q) : tCB r (tA (cc X g) pu shs ma W) σ H Q := by
  obtain ⟨xs, env, S, w⟩ := h
  refine ⟨xs, env, S, Want.bind w fun ds env' vs H' e s r w' => ?_⟩
  cases q : f ds with
  | error x => cases x with
    | raise k p => exact absurd q (nr _ _ _)
    | stuck => rw [q] at w'; exact w'.elim
  | ok d =>
    rw [q] at w'
    exact hv (Hid xs env σ) H' vs ds d Q (fun a ha => s.st.hid (by rw [s.hid]; exact ha)) r.shell q fun v H2 k hd => w' v H2 (s.grow k) (Rep.of hd)
theorem t_callF {r : RC} {f : List D → M D} (hv : VCF (cc X g) r f) (nr : NoRL f) {σ : St} {H : Hp} {Q : VK} (h : tF (cc X g) pu (dCall f ma) W σ H Q) : tCB r (tA (cc X g) pu shs ma W) σ H Q := by
  obtain ⟨xs, env, S, w⟩ := h
  refine ⟨xs, env, S, Want.bind w fun ds env' vs H' e s r w' => ?_⟩
  cases q : f ds with
  | error x => cases x with
    | raise k p => exact absurd q (nr _ _ _)
    | stuck => rw [q] at w'; exact w'.elim
  | ok d =>
    rw [q] at w'
    refine hv (Hid xs env σ) H' vs ds d Q (fun a ha => s.st.hid (by rw [s.hid]; exact ha)) r.shell q fun v H2 k hr => w' v H2 (s.grow k) (hr.step s S k fun p hp => s.free S hp)
variable {x : Str} {p : Pos} {id T : String} {r : RC} {f : List D → M D}
theorem e_callB (hc : CallR X (.builtin id) r) (hv : VC (cc X g) r f) (nr : NoRL f) (hg : Gl X x) (hm : X.mg x = none) (hb : bootBuiltins x = some (.builtin id)) (ha : DA X g pu shs (e :: es) ma W) (hn : x ≠ "__name__" := by decide) (hdb : (x == ("__debug__" : Str)) = false := by decide)
    (he : starEach (e :: es) X.env = (false, eval e X.env) :: starEach es X.env := by rfl) (hpl : (backTo pos (starEach es X.env)).any (·.1) = false := by rfl) : DE X g pu false (.Call (.Name x p) (e :: es) [] pos) (dCall f ma) W :=
  PE.imp (pe_callB hc hg hm hb ha hn hdb he hpl) fun _ _ _ h => t_callB hv nr h
theorem f_callB (hc : CallR X (.builtin id) r) (hv : VCF (cc X g) r f) (nr : NoRL f) (hg : Gl X x) (hm : X.mg x = none) (hb : bootBuiltins x = some (.builtin id)) (ha : DA X g pu shs (e :: es) ma W) (hn : x ≠ "__name__" := by decide) (hdb : (x == ("__debug__" : Str)) = false := by decide)
    (he : starEach (e :: es) X.env = (false, eval e X.env) :: starEach es X.env := by rfl) (hpl : (backTo pos (starEach es X.env)).any (·.1) = false := by rfl) : DF X g pu (.Call (.Name x p) (e :: es) [] pos) (dCall f ma) W :=
  PE.imp (pe_callB hc hg hm hb ha hn hdb he hpl) fun _ _ _ h => t_callF hv nr h
theorem e_callT (hc : CallR X (.type T) r) (hv : VC (cc X g) r f) (nr : NoRL f) (hg : Gl X x) (hm : X.mg x = none) (hb : bootBuiltins x = some (.type T)) (ha : DA X g pu shs (e :: es) ma W) (hn : x ≠ "__name__" := by decide) (hdb : (x == ("__debug__" : Str)) = false := by decide)
    (he : starEach (e :: es) X.env = (false, eval e X.env) :: starEach es X.env := by rfl) (hpl : (backTo pos (starEach es X.env)).any (·.1) = false := by rfl) : DE X g pu false (.Call (.Name x p) (e :: es) [] pos) (dCall f ma) W :=
  PE.imp (pe_callTy hc hg hm hb ha hn hdb he hpl) fun _ _ _ h => t_callB hv nr h
theorem f_callT (hc : CallR X (.type T) r) (hv : VCF (cc X g) r f) (nr : NoRL f) (hg : Gl X x) (hm : X.mg x = none) (hb : bootBuiltins x = some (.type T)) (ha : DA X g pu shs (e :: es) ma W) (hn : x ≠ "__name__" := by decide) (hdb : (x == ("__debug__" : Str)) = false := by decide)
    (he : starEach (e :: es) X.env = (false, eval e X.env) :: starEach es X.env := by rfl) (hpl : (backTo pos (starEach es X.env)).any (·.1) = false := by rfl) : DF X g pu (.Call (.Name x p) (e :: es) [] pos) (dCall f ma) W :=
  PE.imp (pe_callTy hc hg hm hb ha hn hdb he hpl) fun _ _ _ h => t_callF hv nr h
/-- a new object is a value -/
theorem VCF.val {c : Cc} {r : RC} {f : List D → M D} (h : VCF c r f) : VC c r f := fun P H vs ds d Q hP hr hf k => h P H vs ds d Q hP hr hf fun v H' s ⟨a, o, e1, e2, e3, e4⟩ => k v H' s (by
  subst e1
  exact e4.isD e3 fun z => hP a z e2)

/-! ### subscripts -/
theorem e_ix {r : R2} {f : D → D → M D} (ho : IxR X r) (hv : VB (cc X g) r f) (nr : NoR2 f) (hc : sh1 = false ∨ pu2 = true) (ha : DE X g pu1 sh1 a m1 W) (hb : DE X g pu2 sh2 b m2 W) (hs : PlainIx b) : DE X g (pu1 && pu2) false (.Subscript a b pos) (dBin f m1 m2) W :=
  PE.imp (pe_ix ho ha hb hs) fun _ _ _ h => t_bin hv nr hc h
def dIx : D → D → M D
  | .lst xs, .int i => match atI xs i with
    | some d => .ok d
    | none => stuck
  | .tup xs, .int i => match atI xs i with
    | some d => .ok d
    | none => stuck
  | .str x, .int i => if x.length ≤ maxSeq then (match atI x.cps.toList i with
    | some k => .ok (.str ⟨#[k]⟩)
    | none => stuck) else stuck
  | _, _ => stuck
theorem dIx_nr : NoR2 dIx := fun d1 d2 k p h => by
  unfold dIx at h
  split at h
  · split at h <;> cases h
  · split at h <;> cases h
  · split at h
    · split at h <;> cases h
    · cases h
  · cases h
theorem atI_rep {c : Cc} {H : Hp} {ds : List D} {vs : List V} {i : Int} {d : D} (r : IsDs c H ds vs) (h : atI ds i = some d) : ∃ v, atI vs i = some v ∧ IsD c H d v := by
  unfold atI at h ⊢
  rw [← r.len]
  cases q : ixN ds.length i with
  | none => rw [q] at h; cases h
  | some j =>
    rw [q] at h
    obtain ⟨v, h1, h2⟩ := r.getD (show ds[j]? = some d from h)
    exact ⟨v, h1, h2⟩
theorem vb_ix {c : Cc} : VB c (rIx c.K) dIx := by
  intro P H x y d1 d2 d Q hP r1 r2 e k
  unfold dIx at e
  split at e
  · split at e
    · rename_i q
      cases e
      obtain ⟨a, vs, rfl, h1, h2⟩ := r1.lst
      obtain ⟨v, h3, h4⟩ := atI_rep h2 q
      exact .inl ⟨a, vs, _, v, rfl, r2.int, SqL.of h1, h3, k v H (Same.refl _) h4⟩
    · cases e
  · split at e
    · rename_i q
      cases e
      obtain ⟨a, vs, rfl, h1, h2⟩ := r1.tup
      obtain ⟨v, h3, h4⟩ := atI_rep h2 q
      exact .inr (.inl ⟨a, vs, _, v, rfl, r2.int, h1, h3, k v H (Same.refl _) h4⟩)
    · cases e
  · split at e
    · rename_i hz
      split at e
      · rename_i q
        cases e
        exact .inr (.inr ⟨_, _, _, r1.str, r2.int, by rw [maxSeq_eq]; exact hz, q, k _ H (Same.refl _) isStr⟩)
      · cases e
    · cases e
  · cases e

/-! ### slices -/
abbrev Ov := En → M (Option Int × En)
def tO (c : Cc) (pu : Bool) (m : Ov) (W : WX) : TO := fun σ H Q => ∃ xs env, StOk c xs env σ H ∧ Want c xs pu env σ H (fun d _ v _ => v = d) W Q (m env)
abbrev DO (X : Cx) (g : Ce) (pu : Bool) (e : Option Expr) (m : Ov) (W : WX) : Prop := PO X e (tO (cc X g) pu m W)
theorem PO.imp {X : Cx} {e : Option Expr} {t t' : TO} (h : PO X e t) (k : ∀ σ H Q, t' σ H Q → t σ H Q) : PO X e t' := ⟨fun pins s σ H Q I w => h.run pins s σ H Q I (k _ _ _ w)⟩
def dONone : Ov := fun env => .ok (none, env)
def dOSome (m : Ev) : Ov := fun env => bnd (m env) fun p => match p.1 with
  | .int i => .ok (some i, p.2)
  | _ => stuck
theorem o_none : DO X g true none dONone W := PO.imp po_none fun σ H Q ⟨xs, env, S, w⟩ => w _ H (.refl S) rfl
theorem o_some (h : DE X g pu sh e m W) : DO X g pu (some e) (dOSome m) W := PO.imp (po_some h) fun σ H Q ⟨xs, env, S, w⟩ => ⟨xs, env, S, Want.bind w fun d env' v H' e s r w' => by
  have r' := Rep.shell r
  dsimp only at w'
  split at w'
  · exact ⟨_, r'.int, w' _ H' s rfl⟩
  · exact w'.elim⟩
def cutD {α : Type} (xs : List α) (lo hi : Option Int) : List α := (xs.drop (HT.sIx xs.length 0 lo)).take (HT.sIx xs.length xs.length hi - HT.sIx xs.length 0 lo)
def dSlice1 : D → Option Int → Option Int → M D
  | .lst xs, lo, hi => .ok (.lst (cutD xs lo hi))
  | .tup xs, lo, hi => .ok (.tup (cutD xs lo hi))
  | .str x, lo, hi => if x.length ≤ maxSeq then .ok (.str ⟨(cutD x.cps.toList lo hi).toArray⟩) else stuck
  | _, _, _ => stuck
end
end Dn

/-! Dn7 -/
set_option Elab.async false
set_option linter.all false
set_option maxRecDepth 100000
set_option maxHeartbeats 1000000
/-! Dn7: slots set; statements; own calls; defs. -/
namespace Dn
open PySem PySem.Spec L2
open PyProof.Rows hiding St

section
variable {c : Cc} {xs : Addr → Prop} {env env' : En} {σ σ' : St} {H H' H0 : Hp} {pu : Bool}
theorem owns_set_va {i : Nat} {d : D} {v : V} {a : Addr} (h : Owns (env.set i (.va d)) (σ.set i (some v)) a) : Owns env σ a := by
  obtain ⟨j, e, h1, h2⟩ := h
  by_cases hj : i = j
  · subst hj
    rw [List.getElem?_set] at h1
    rw [if_pos rfl] at h1
    split at h1 <;> cases h1
  · rw [List.getElem?_set_ne hj] at h1 h2
    exact ⟨j, e, h1, h2⟩
theorem owns_set_un {i : Nat} {o : Option V} {a : Addr} (h : Owns (env.set i .un) (σ.set i o) a) : Owns env σ a := by
  obtain ⟨j, e, h1, h2⟩ := h
  by_cases hj : i = j
  · subst hj
    rw [List.getElem?_set] at h1
    rw [if_pos rfl] at h1
    split at h1 <;> cases h1
  · rw [List.getElem?_set_ne hj] at h1 h2
    exact ⟨j, e, h1, h2⟩
theorem StOk.setVa (S : StOk c xs env σ H) (i : Nat) {d : D} {v : V} (h : IsD c (hide H (Hid xs env σ)) d v) : StOk c xs (env.set i (.va d)) (σ.set i (some v)) H := by
  have sub : Same (hide H (Hid xs env σ)) (hide H (Hid xs (env.set i (.va d)) (σ.set i (some v)))) := hide_sub fun a z => z.elim (fun z => .inl (owns_set_va z)) .inr
  refine ⟨by simp [S.len], fun a h => ⟨(S.xb a h).1, fun z => (S.xb a h).2 (owns_set_va z)⟩, fun j e he => ?_, fun j e he => ?_, fun j k e f a h1 h2 h3 h4 => ?_⟩
  · by_cases hj : i = j
    · subst hj
      rw [List.getElem?_set, if_pos rfl] at he
      split at he
      · rename_i hl
        cases he
        exact ⟨v, by rw [List.getElem?_set, if_pos rfl, if_pos (by rw [← S.len]; exact hl)], h.same sub⟩
      · cases he
    · rw [List.getElem?_set_ne hj] at he
      obtain ⟨u, h1, h2⟩ := S.va j e he
      exact ⟨u, by rw [List.getElem?_set_ne hj]; exact h1, h2.same sub⟩
  · by_cases hj : i = j
    · subst hj
      rw [List.getElem?_set, if_pos rfl] at he
      split at he <;> cases he
    · rw [List.getElem?_set_ne hj] at he
      obtain ⟨a, o, h1, h2, h3⟩ := S.ow j e he
      exact ⟨a, o, by rw [List.getElem?_set_ne hj]; exact h1, h2, h3.same sub⟩
  · have nj : i ≠ j := fun z => by
      subst z
      rw [List.getElem?_set, if_pos rfl] at h1
      split at h1 <;> cases h1
    have nk : i ≠ k := fun z => by
      subst z
      rw [List.getElem?_set, if_pos rfl] at h2
      split at h2 <;> cases h2
    rw [List.getElem?_set_ne nj] at h1 h3
    rw [List.getElem?_set_ne nk] at h2 h4
    exact S.inj j k e f a h1 h2 h3 h4
theorem StOk.setUn (S : StOk c xs env σ H) (i : Nat) (o : Option V) : StOk c xs (env.set i .un) (σ.set i o) H := by
  have sub : Same (hide H (Hid xs env σ)) (hide H (Hid xs (env.set i .un) (σ.set i o))) := hide_sub fun a z => z.elim (fun z => .inl (owns_set_un z)) .inr
  refine ⟨by simp [S.len], fun a h => ⟨(S.xb a h).1, fun z => (S.xb a h).2 (owns_set_un z)⟩, fun j e he => ?_, fun j e he => ?_, fun j k e f a h1 h2 h3 h4 => ?_⟩
  · by_cases hj : i = j
    · subst hj
      rw [List.getElem?_set, if_pos rfl] at he
      split at he <;> cases he
    · rw [List.getElem?_set_ne hj] at he
      obtain ⟨u, h1, h2⟩ := S.va j e he
      exact ⟨u, by rw [List.getElem?_set_ne hj]; exact h1, h2.same sub⟩
  · by_cases hj : i = j
    · subst hj
      rw [List.getElem?_set, if_pos rfl] at he
      split at he <;> cases he
    · rw [List.getElem?_set_ne hj] at he
      obtain ⟨a, o, h1, h2, h3⟩ := S.ow j e he
      exact ⟨a, o, by rw [List.getElem?_set_ne hj]; exact h1, h2, h3.same sub⟩
  · have nj : i ≠ j := fun z => by
      subst z
      rw [List.getElem?_set, if_pos rfl] at h1
      split at h1 <;> cases h1
    have nk : i ≠ k := fun z => by
      subst z
      rw [List.getElem?_set, if_pos rfl] at h2
      split at h2 <;> cases h2
    rw [List.getElem?_set_ne nj] at h1 h3
    rw [List.getElem?_set_ne nk] at h2 h4
    exact S.inj j k e f a h1 h2 h3 h4
theorem owns_set_ow {i : Nat} {d : D} {b a : Addr} (h : Owns (env.set i (.ow d)) (σ.set i (some (.ref b))) a) : Owns env σ a ∨ a = b := by
  obtain ⟨j, e, h1, h2⟩ := h
  by_cases hj : i = j
  · subst hj
    rw [List.getElem?_set, if_pos rfl] at h2
    split at h2
    · cases h2; exact .inr rfl
    · cases h2
  · rw [List.getElem?_set_ne hj] at h1 h2
    exact .inl ⟨j, e, h1, h2⟩
theorem StOk.setOw (S : StOk c xs env σ H) (i : Nat) {d : D} {a : Addr} {o : HO} (n : ¬ Hid xs env σ a) (ho : H a = some o) (h : ObjRep c (hide H (fun b => Hid xs env σ b ∨ b = a)) d o)
    (hv : ∀ (j : Nat) (e : D) (v : V), env[j]? = some (Sl.va e) → σ[j]? = some (some v) → IsD c (hide H (fun b => Hid xs env σ b ∨ b = a)) e v)
    (hw : ∀ (j : Nat) (e : D) (b : Addr) (u : HO), env[j]? = some (Sl.ow e) → σ[j]? = some (some (V.ref b)) → H b = some u → ObjRep c (hide H (fun b => Hid xs env σ b ∨ b = a)) e u) :
    StOk c xs (env.set i (.ow d)) (σ.set i (some (.ref a))) H := by
  have sub : Same (hide H (fun b => Hid xs env σ b ∨ b = a)) (hide H (Hid xs (env.set i (.ow d)) (σ.set i (some (.ref a))))) := hide_sub fun b z => by
    rcases z with z | z
    · rcases owns_set_ow z with z | z
      · exact .inl (.inl z)
      · exact .inr z
    · exact .inl (.inr z)
  refine ⟨by simp [S.len], fun b hb => ⟨(S.xb b hb).1, fun z => ?_⟩, fun j e he => ?_, fun j e he => ?_, fun j k e f b h1 h2 h3 h4 => ?_⟩
  · rcases owns_set_ow z with z | z
    · exact (S.xb b hb).2 z
    · rw [z] at hb; exact n (.inr hb)
  · by_cases hj : i = j
    · subst hj
      rw [List.getElem?_set, if_pos rfl] at he
      split at he <;> cases he
    · rw [List.getElem?_set_ne hj] at he
      obtain ⟨u, h1, h2⟩ := S.va j e he
      exact ⟨u, by rw [List.getElem?_set_ne hj]; exact h1, (hv j e u he h1).same sub⟩
  · by_cases hj : i = j
    · subst hj
      rw [List.getElem?_set, if_pos rfl] at he
      split at he
      · rename_i hl
        cases he
        exact ⟨a, o, by rw [List.getElem?_set, if_pos rfl, if_pos (by rw [← S.len]; exact hl)], ho, h.same sub⟩
      · cases he
    · rw [List.getElem?_set_ne hj] at he
      obtain ⟨b, u, h1, h2, h3⟩ := S.ow j e he
      exact ⟨b, u, by rw [List.getElem?_set_ne hj]; exact h1, h2, (hw j e b u he h1 h2).same sub⟩
  · by_cases hj : i = j
    · by_cases hk : i = k
      · rw [← hj, ← hk]
      · subst hj
        rw [List.getElem?_set_ne hk] at h2 h4
        rw [List.getElem?_set, if_pos rfl] at h3
        split at h3
        · cases h3
          exact absurd (.inl ⟨k, f, h2, h4⟩) n
        · cases h3
    · rw [List.getElem?_set_ne hj] at h1 h3
      by_cases hk : i = k
      · subst hk
        rw [List.getElem?_set, if_pos rfl] at h4
        split at h4
        · cases h4
          exact absurd (.inl ⟨j, e, h1, h3⟩) n
        · cases h4
      · rw [List.getElem?_set_ne hk] at h2 h4
        exact S.inj j k e f b h1 h2 h3 h4
theorem isOw_get0 {env env' : En} {j : Nat} (h : env[j]? = env'[j]?) : isOw env j = isOw env' j := by unfold isOw; rw [h]
/-- a fresh object behind an evaluation goes to a slot -/
theorem Stp.setOw (S : StOk c xs env σ H) (s : Stp c xs pu env env' σ H H') (i : Nat) (h0 : isOw env' 0 = true → i ≠ 0) {d : D} {v : V} (r : RepF c xs σ H d env' v H') :
    StOk c xs (env'.set i (.ow d)) (σ.set i (some v)) H' ∧ Kept env σ H (env'.set i (.ow d)) (σ.set i (some v)) H' := by
  obtain ⟨a, o, rfl, n, ho, sx, h⟩ := r
  have e : (Hid (fun b => xs b ∨ b = a) env' σ) = fun b => Hid xs env' σ b ∨ b = a := by
    funext b; apply propext
    constructor
    · rintro (z | z | z)
      · exact .inl (.inl z)
      · exact .inl (.inr z)
      · exact .inr z
    · rintro ((z | z) | z)
      · exact .inl z
      · exact .inr (.inl z)
      · exact .inr (.inr z)
  have na : ¬ Hid xs env' σ a := by rw [s.hid]; exact S.newHid n
  refine ⟨StOk.setOw s.st i na ho h (fun j e' v h1 h2 => ?_) (fun j e' b u h1 h2 h3 => ?_), ⟨fun b u hb => ?_, s.th, fun h => ?_, by rw [List.length_set]⟩⟩
  · obtain ⟨v', h3, h4⟩ := sx.va j e' h1
    rw [h2] at h3; cases h3
    rw [← e]; exact h4
  · obtain ⟨b', u', h4, h5, h6⟩ := sx.ow j e' h1
    rw [h2] at h4; cases h4
    rw [h3] at h5; cases h5
    rw [← e]; exact h6
  · obtain ⟨h1, h2⟩ := hide_some hb
    have h3 := s.sm b u hb
    have ne := ne_of_none h2 n
    rw [hide_of fun z => (owns_set_ow z).elim (fun z => h1 (by rw [← s.own]; exact z)) ne]
    exact (hide_some h3).2
  · rw [← s.shp 0] at h
    have hi := h0 h
    exact ⟨(isOw_get0 (by rw [List.getElem?_set_ne hi])).trans h, by rw [List.getElem?_set_ne hi]⟩
end

/-! ### own defs -/
/-- run out of a body: what is handed back -/
def fin : M (Fl × En) → M D
  | .ok (.nx, _) => .ok .non
  | .ok (.rt d, _) => .ok d
  | .ok (.rf d, _) => .ok d
  | .ok (.ro i, env) => match env[i]? with
    | some (.ow d) => .ok d
    | _ => stuck
  | .ok _ => stuck
  | .error e => .error e
/-- the state at a def's entry -/
def enter (n : Nat) (ds : List D) : En := ds.map Sl.va ++ List.replicate (n - ds.length) Sl.un

/-- a def that changes none of its arguments -/
def spP (c : Cc) (n : Nat) (f : List D → M D) : Sp := fun vs H Q E => ∃ (xs : Addr → Prop) (ds : List D), ds.length = n ∧ (∀ a, xs a → H a ≠ none) ∧ IsDs c (hide H xs) ds vs ∧
  match f ds with
  | .ok d => ∀ v H', Same H H' → IsD c (hide H' xs) d v → Q v H'
  | .error (.raise k p) => ∀ cls dd H', Same H H' → ExcRep c H' k p cls dd → E cls dd H'
  | .error .stuck => False
/-- .. and hands back a new object -/
def spF (c : Cc) (n : Nat) (f : List D → M D) : Sp := fun vs H Q E => ∃ (xs : Addr → Prop) (ds : List D), ds.length = n ∧ (∀ a, xs a → H a ≠ none) ∧ IsDs c (hide H xs) ds vs ∧
  match f ds with
  | .ok d => ∀ v H', Same H H' → RepV c xs H H' d v → Q v H'
  | .error (.raise k p) => ∀ cls dd H', Same H H' → ExcRep c H' k p cls dd → E cls dd H'
  | .error .stuck => False
/-- a def that may change its first argument's object -/
def spO (c : Cc) (n : Nat) (f : D → List D → M (D × D)) : Sp := fun vs H Q E => ∃ (xs : Addr → Prop) (a : Addr) (o : HO) (s : D) (ds : List D) (ws : List V), vs = .ref a :: ws ∧ ds.length = n ∧ (∀ b, xs b → H b ≠ none ∧ b ≠ a) ∧
  H a = some o ∧ ObjRep c (hide H (fun b => b = a ∨ xs b)) s o ∧ IsDs c (hide H (fun b => b = a ∨ xs b)) ds ws ∧
  match f s ds with
  | .ok (d, s') => ∀ v H' o', Same (hide H (· = a)) (hide H' (· = a)) → H' a = some o' → ObjRep c (hide H' (fun b => b = a ∨ xs b)) s' o' → IsD c (hide H' (fun b => b = a ∨ xs b)) d v → Q v H'
  | .error (.raise k p) => ∀ cls dd H', Same (hide H (· = a)) H' → ExcRep c H' k p cls dd → E cls dd H'
  | .error .stuck => False

section
variable {P : Program} {w : World} {K : PySem.W.Frag} {mg : Str → Option Value} {base : Heap} {g : Ce}
abbrev ck (K : PySem.W.Frag) (g : Ce) : Cc := ⟨K, g.fa, g.ec, g.en⟩
theorem enter_get {n : Nat} {ds : List D} {i : Nat} {s : Sl} (h : (enter n ds)[i]? = some s) : (∃ d, ds[i]? = some d ∧ s = .va d) ∨ s = .un := by
  unfold enter at h
  rw [List.getElem?_append] at h
  split at h
  · rw [List.getElem?_map] at h
    cases q : ds[i]? with
    | none => rw [q] at h; cases h
    | some d => rw [q] at h; cases h; exact .inl ⟨d, rfl, rfl⟩
  · rw [List.getElem?_replicate] at h
    split at h
    · cases h; exact .inr rfl
    · cases h
theorem enter_owns {n : Nat} {ds : List D} {σ : St} {a : Addr} : ¬ Owns (enter n ds) σ a := fun ⟨i, d, h, _⟩ => by
  rcases enter_get h with ⟨e, _, h⟩ | h <;> cases h
theorem enter_ok {N : List Str} {ds : List D} {vs : List V} {H : Hp} {c : Cc} {xs : Addr → Prop} (hN : ds.length ≤ N.length) (hx : ∀ a, xs a → H a ≠ none) (r : IsDs c (hide H xs) ds vs) : StOk c xs (enter N.length ds) (L2.start N vs) H := by
  refine ⟨?_, fun a h => ⟨hx a h, enter_owns⟩, fun i d h => ?_, fun i d h => ?_, fun i j d e a h => ?_⟩
  · unfold enter L2.start
    simp [r.len]
  · rcases enter_get h with ⟨e, h1, h2⟩ | h
    · cases h2
      obtain ⟨v, h3, h4⟩ := r.getD h1
      have q : (L2.start N vs)[i]? = some (some v) := by
        unfold L2.start
        rw [List.getElem?_append_left (by rw [List.length_map]; exact (List.getElem?_eq_some_iff.mp h3).1), List.getElem?_map, h3]
        rfl
      have k : Same (hide H xs) (hide H (Hid xs (enter N.length ds) (L2.start N vs))) := hide_sub fun a z => z.elim (fun z => (enter_owns z).elim) id
      exact ⟨v, q, h4.same k⟩
    · cases h
  · rcases enter_get h with ⟨e, _, h⟩ | h <;> cases h
  · rcases enter_get h with ⟨e, _, h⟩ | h <;> cases h

/-! ### where one stands -/
def lookB (sc : Scope) (x : Str) : Option NameKind := sc.names.lookup x
/-- nn: every error of its own has no context -/
def CXn (nn : Bool) (P : Program) (w : World) : CXT := match nn with
  | true => L2N.CX P w
  | false => L2.CX P w
def Tk (nn : Bool) (X : Cx) (W : WX) : Prop := match nn with
  | true => L2N.Takes X W
  | false => L2.Takes X W
structure Cok (nn : Bool) (X : Cx) (W : WX) (P : Program) (w : World) (K : PySem.W.Frag) (mg : Str → Option Value) (base : Heap) (N : List Str) (sc : Scope) (k : Nat) (bk : Bool) : Prop where
  eP : X.prog = P
  ew : X.w = w
  eK : X.K = K
  em : X.mg = mg
  eb : X.base = base
  eN : X.N = N
  es : X.env.scope = sc
  calm : X.calm = true
  room : Room k X.A
  nd : N.Nodup
  fn : bk = false → ∀ x : Str, X.fn x = true
  tk : Tk nn X W
  own : bk = false → PassesOwn (model X.prog X.w) X.A X.env X.xe
  sf : bk = false → X.stack = X.env :: X.outer ∧ X.env.frame = some X.env.locals

/-- the outcome of a body, wanted as a promise wants it -/
theorem body_end {c : Cc} {N : List Str} {ds : List D} {vs : List V} {H : Hp} {xs : Addr → Prop} {Q : VK} {E : XK} {r : M (Fl × En)}
    (h : match fin r with
      | .ok d => ∀ v H', Same H H' → IsD c (hide H' xs) d v → Q v H'
      | .error (.raise k p) => ∀ cls dd H', Same H H' → ExcRep c H' k p cls dd → E cls dd H'
      | .error .stuck => False) :
    WantS c xs (enter N.length ds) (L2.start N vs) H (fun cls d _ H => E cls d H) { nx := fun _ H' => Q .non H', rt := Q } r := by
  have own0 : ∀ {H' : Hp}, Same (hide H (Owns (enter N.length ds) (L2.start N vs))) H' → Same H H' := fun k b o e => k b o (by rw [hide_of enter_owns]; exact e)
  cases r with
  | error e => cases e with
    | raise k p => exact fun cls dd σ' H' _ k' r => h cls dd H' (own0 k') r
    | stuck => exact h
  | ok p =>
    obtain ⟨fl, env'⟩ := p
    cases fl with
    | nx => exact fun σ' H' S' k => h _ H' (own0 (Same.trans k.sm hide_full)) isNon
    | bk => exact h.elim
    | ct => exact h.elim
    | rt d => exact fun σ' v H' S' k hd => h v H' (own0 (Same.trans k.sm hide_full)) (hd.same (hide_sub fun a z => .inr z))
    | rf d =>
      rintro σ' v H' S' k ⟨a, o, e1, e2, e3, e4, e5⟩
      subst e1
      refine h _ H' (own0 (Same.trans k.sm hide_full)) (ObjRep.isD (e5.same (hide_sub fun b z => ?_)) e3 fun z => e4 (.inr z))
      rcases z with z | z
      · exact .inl (.inr z)
      · exact .inr z
    | ro i =>
      rintro σ' a H' S' k hi ⟨d, hd⟩
      obtain ⟨b, o, e1, e2, e3⟩ := S'.ow i d hd
      rw [hi] at e1; cases e1
      unfold fin at h
      simp only [hd] at h
      refine h _ H' (own0 (Same.trans k.sm hide_full)) (ObjRep.isD (e3.same ?_) e2 fun z => (S'.xb a z).2 ⟨i, d, hd, hi⟩)
      refine hide_sub fun b z => ?_
      rcases z with z | z
      · exact .inr z
      · subst z; exact .inl ⟨i, d, hd, hi⟩
/-- .. a new object -/
theorem body_endF {c : Cc} {N : List Str} {ds : List D} {vs : List V} {H : Hp} {xs : Addr → Prop} {Q : VK} {E : XK} {r : M (Fl × En)} (hnf : ∀ d env, r ≠ .ok (.rt d, env)) (hnx : ∀ env, r ≠ .ok (.nx, env))
    (h : match fin r with
      | .ok d => ∀ v H', Same H H' → RepV c xs H H' d v → Q v H'
      | .error (.raise k p) => ∀ cls dd H', Same H H' → ExcRep c H' k p cls dd → E cls dd H'
      | .error .stuck => False) :
    WantS c xs (enter N.length ds) (L2.start N vs) H (fun cls d _ H => E cls d H) { nx := fun _ H' => Q .non H', rt := Q } r := by
  have own0 : ∀ {H' : Hp}, Same (hide H (Owns (enter N.length ds) (L2.start N vs))) H' → Same H H' := fun k b o e => k b o (by rw [hide_of enter_owns]; exact e)
  cases r with
  | error e => cases e with
    | raise k p => exact fun cls dd σ' H' _ k' r => h cls dd H' (own0 k') r
    | stuck => exact h
  | ok p =>
    obtain ⟨fl, env'⟩ := p
    cases fl with
    | nx => exact absurd rfl (hnx _)
    | bk => exact h.elim
    | ct => exact h.elim
    | rt d => exact absurd rfl (hnf _ _)
    | rf d =>
      rintro σ' v H' S' k ⟨a, o, e1, e2, e3, e4, e5⟩
      subst e1
      refine h _ H' (own0 (Same.trans k.sm hide_full)) ⟨a, o, rfl, e2, e3, e5.same (hide_sub fun b z => ?_)⟩
      rcases z with z | z
      · exact .inl (.inr z)
      · exact .inr z
    | ro i =>
      rintro σ' a H' S' k hi ⟨d, hd⟩
      obtain ⟨b, o, e1, e2, e3⟩ := S'.ow i d hd
      rw [hi] at e1; cases e1
      unfold fin at h
      simp only [hd] at h
      have n : H a = none := by
        cases q : H a with
        | none => rfl
        | some u =>
          have := k.sm a u (by rw [hide_of enter_owns]; exact q)
          exact absurd (show Owns env' σ' a from ⟨i, d, hd, hi⟩) (hide_some this).1
      refine h _ H' (own0 (Same.trans k.sm hide_full)) ⟨a, o, rfl, n, e2, e3.same (hide_sub fun b z => ?_)⟩
      rcases z with z | z
      · exact .inr z
      · subst z; exact .inl ⟨i, d, hd, hi⟩

abbrev PaOk (X : Cx) : Prop := ∀ hd : Option Value, PassesOwnAt (model X.prog X.w) (X.A.mark hd) X.A X.env X.xe
theorem ctx_def {nn : Bool} {N ps : List Str} {k : Nat} {qual : Str} {st : Stmt} {f : Addr} (S : FnScope N ps (defScope st)) {cdv : Value} {A : Around} {outer : List Env} {s : Shared} {H : Hp} {E : XK} (hr : Room k (A.deeper (envOfC qual (defScope st) s.heap.objs.size f cdv))) :
    Cok nn (cxOf (CXn nn P w) P w K mg base N qual (defScope st) f cdv A outer s H E) (fun cls d _ H => E cls d H) P w K mg base N (defScope st) k false :=
  ⟨rfl, rfl, rfl, rfl, rfl, rfl, rfl, rfl, hr, S.nd, fun _ _ => rfl, by cases nn <;> first | exact L2.takes_of rfl rfl rfl rfl | exact L2N.takes_of rfl rfl rfl rfl, fun _ => passes_of rfl, fun _ => ⟨rfl, rfl⟩⟩

theorem fun_ok {CX : CXT} {x qual : Str} {st : Stmt} {f : Addr} {fd : FuncData} {N ps : List Str} {k : Nat} {sp : Sp} (F : Fun K x qual st f fd) (S : FnScope N ps (defScope st)) (len : ∀ vs H Q E, sp vs H Q E → vs.length = ps.length)
    (hbody : ∀ (cdv : Value) (A : Around) (outer : List Env) (s : Shared) (H : Hp) (vs : List V) (Q : VK) (E : XK), Room k (A.deeper (envOfC qual (defScope st) s.heap.objs.size f cdv)) → sp vs H Q E →
      ∃ t, PSs (cxOf CX P w K mg base N qual (defScope st) f cdv A outer s H E) (defBody st) t ∧ t { nx := fun _ H' => Q .non H', rt := Q } (L2.start N vs) H) : FnOk P w K mg base CX (k + 1) f fd ps sp := by
  obtain ⟨oc, od, kV, doc, pm, an, cdv, ct, osl, rfl, lk, hcd⟩ := F.ex
  exact fn_of lk hcd S len fun A outer s H vs Q E hr hsp => hbody cdv A outer s H vs Q E hr hsp
/-- THE RULE for a def that changes none of its arguments -/
theorem def_pure {nn : Bool} {x qual : Str} {st : Stmt} {f : Addr} {fd : FuncData} {N ps : List Str} {k : Nat} {mf : List D → M D} {body : Sv} (F : Fun K x qual st f fd) (S : FnScope N ps (defScope st)) (hN : ps.length ≤ N.length) (hf : ∀ ds, mf ds = fin (body (enter N.length ds)))
    (hbody : ∀ (X : Cx) (W : WX), Cok nn X W P w K mg base N (defScope st) k false → PaOk X → DSs X g (defBody st) body W) :
    FnOk P w K mg base (CXn nn P w) (k + 1) f fd ps (spP (ck K g) ps.length mf) := by
  refine fun_ok F S (fun vs H Q E ⟨xs, ds, h1, h2, h3, _⟩ => by rw [← h3.len, h1]) (fun cdv A outer s H vs Q E hr ⟨xs, ds, h1, h2, h3, h⟩ => ?_)
  refine ⟨_, hbody _ _ (ctx_def S hr) (L2H.passesAt_of rfl), xs, enter N.length ds, enter_ok (by rw [h1]; exact hN) h2 h3, ?_⟩
  rw [hf] at h
  exact body_end h
/-- .. that hands back a new object -/
theorem def_fresh {nn : Bool} {x qual : Str} {st : Stmt} {f : Addr} {fd : FuncData} {N ps : List Str} {k : Nat} {mf : List D → M D} {body : Sv} (F : Fun K x qual st f fd) (S : FnScope N ps (defScope st)) (hN : ps.length ≤ N.length) (hf : ∀ ds, mf ds = fin (body (enter N.length ds)))
    (hnf : ∀ ds d env, body (enter N.length ds) ≠ .ok (.rt d, env)) (hnx : ∀ ds env, body (enter N.length ds) ≠ .ok (.nx, env))
    (hbody : ∀ (X : Cx) (W : WX), Cok nn X W P w K mg base N (defScope st) k false → PaOk X → DSs X g (defBody st) body W) :
    FnOk P w K mg base (CXn nn P w) (k + 1) f fd ps (spF (ck K g) ps.length mf) := by
  refine fun_ok F S (fun vs H Q E ⟨xs, ds, h1, h2, h3, _⟩ => by rw [← h3.len, h1]) (fun cdv A outer s H vs Q E hr ⟨xs, ds, h1, h2, h3, h⟩ => ?_)
  refine ⟨_, hbody _ _ (ctx_def S hr) (L2H.passesAt_of rfl), xs, enter N.length ds, enter_ok (by rw [h1]; exact hN) h2 h3, ?_⟩
  rw [hf] at h
  exact body_endF (hnf ds) (hnx ds) h
end
end Dn

/-! Dn8 -/
set_option Elab.async false
set_option linter.all false
set_option maxRecDepth 100000
set_option maxHeartbeats 1000000
/-! Dn8: names, calls of own defs, plain statements. -/
namespace Dn
open PySem PySem.Spec L2
open PyProof.Rows hiding St

section
variable {X : Cx} {W : WX} {P : Program} {w : World} {K : PySem.W.Frag} {mg : Str → Option Value} {base : Heap} {N : List Str} {sc : Scope} {k : Nat} {bk nn : Bool} {g : Ce}
variable {pu pu1 pu2 sh sh1 sh2 : Bool} {m m1 m2 : Ev} {a b e : Expr} {es : List Expr} {pos p : Pos} {ma : Av} {shs : List Bool} {x : Str}

/-! ### names -/
def visB (sc : Scope) (x : Str) : Bool := match sc.names.lookup x with
  | some .local | some .cell | some .free => true
  | _ => false
def locB (sc : Scope) (x : Str) : Bool := match sc.names.lookup x with
  | some .local | some .cell => true
  | _ => false
def gloB (sc : Scope) (x : Str) : Bool := match sc.names.lookup x with
  | some .globalImplicit => true
  | _ => false
theorem visB_of (h : visB sc x = true) : Vis sc x := by
  unfold visB at h
  split at h
  · rename_i q; exact .inl q
  · rename_i q; exact .inr (.inl q)
  · rename_i q; exact .inr (.inr q)
  · cases h
theorem locB_of (h : locB sc x = true) : Loc sc x := by
  unfold locB at h
  split at h
  · rename_i q; exact .inl q
  · rename_i q; exact .inr q
  · cases h
theorem gloB_of (C : Cok nn X W P w K mg base N sc k bk) (h : gloB sc x = true) : Gl X x := by
  unfold gloB at h
  split at h
  · rename_i q
    show X.env.scope.names.lookup x = _
    rw [C.es]; exact q
  · cases h
theorem n_pe (C : Cok nn X W P w K mg base N sc k bk) (i : Nat) (x : Str) (hi : N[i]? = some x) (hv : visB sc x = true) (hd : (x == ("__debug__" : Str)) = false) (hcd : (x == ("__classdict__" : Str)) = false) : PE X (.Name x pos) (tVar i) :=
  pe_var (by rw [C.eN]; exact hi) (by rw [C.es]; exact visB_of hv) hd hcd
theorem n_var (C : Cok nn X W P w K mg base N sc k bk) (i : Nat) (x : Str) (hi : N[i]? = some x) (hv : visB sc x = true) (hd : (x == ("__debug__" : Str)) = false) (hcd : (x == ("__classdict__" : Str)) = false) : DE X g true false (.Name x pos) (dVar i) W := e_var i (n_pe C i x hi hv hd hcd)
theorem n_varO (C : Cok nn X W P w K mg base N sc k bk) (i : Nat) (x : Str) (hi : N[i]? = some x) (hv : visB sc x = true) (hd : (x == ("__debug__" : Str)) = false) (hcd : (x == ("__classdict__" : Str)) = false) : DE X g true true (.Name x pos) (dVarO i) W := e_varO i (n_pe C i x hi hv hd hcd)
theorem n_pg (C : Cok nn X W P w K mg base N sc k false) (i : Nat) (x : Str) (hi : N[i]? = some x) (hv : locB sc x = true) : PG X (.Name x pos) (gName i) := by
  have hl := locB_of hv
  refine pg_name (by rw [C.eN]; exact C.nd) (by rw [C.eN]; exact hi) (by rw [C.es]; exact hl) ?_
  rcases hl with h | h
  · exact .inr (by rw [C.es]; exact h)
  · exact .inl (C.fn rfl x)
/-- a module's int constant -/
theorem n_const (C : Cok nn X W P w K mg base N sc k bk) {i : Int} {t : Tok} (hg : gloB sc x = true) (hm : mg x = some (.int i t)) (hd : (x == ("__debug__" : Str)) = false) : DE X g true false (.Name x pos) (dC (.int i)) W :=
  e_const (pe_glob (v := .int i) (u := .int i t) (gloB_of C hg) (by rw [C.em]; exact hm) ⟨t, rfl⟩ hd) fun _ _ => isInt
/-- a def as a value -/
theorem n_fn (C : Cok nn X W P w K mg base N sc k bk) {i : Nat} {f : Addr} (hg : gloB sc x = true) (hm : mg x = some (.ref f)) (hf : g.fa i = some f) (hd : (x == ("__debug__" : Str)) = false) : DE X g true false (.Name x pos) (dC (.fn i)) W :=
  e_const' (pe_glob (v := .ref f) (gloB_of C hg) (by rw [C.em]; exact hm) rfl hd) fun H => by unfold IsD; exact ⟨f, hf, rfl⟩
where
  e_const' {X : Cx} {W : WX} {g : Ce} {e : Expr} {d : D} {v : V} (h : PE X e (tC v)) (k : ∀ H, IsD (cc X g) H d v) : DE X g true false e (dC d) W := PE.imp h fun σ H Q ⟨xs, env, S, w⟩ => w v H (.refl S) (k _)

/-! ### calls of own defs -/
theorem Reps.len {c : Cc} {Z : Addr → Prop} {H : Hp} : ∀ {shs : List Bool} {ds : List D} {vs : List V}, Reps c Z H shs ds vs → ds.length = shs.length
  | [], [], [], _ => rfl
  | _ :: ss, d :: ds, v :: vs, ⟨_, r2⟩ => by simp [Reps.len r2]
  | [], [], _ :: _, r => r.elim
  | [], _ :: _, _, r => r.elim
  | _ :: _, [], _, r => r.elim
  | _ :: _, _ :: _, [], r => r.elim
theorem t_callP {mf : List D → M D} (hs : shs.all (!·) = true) {σ : St} {H : Hp} {Q : VK} (h : tE (cc X g) pu false (dCall mf ma) W σ H Q) : tCallS (spP (cc X g) shs.length mf) (WE W) (tA (cc X g) pu shs ma W) σ H Q := by
  obtain ⟨xs, env, S, w⟩ := h
  refine ⟨xs, env, S, Want.bind w fun ds env' vs H' e s r w' => ?_⟩
  refine ⟨Hid xs env σ, ds, r.len, fun a ha => s.st.hid (by rw [s.hid]; exact ha), r.clean hs, ?_⟩
  dsimp only at w'
  cases q : mf ds with
  | error x =>
    rw [q] at w'
    cases x with
    | raise kk p => exact fun cls dd H2 k2 hx => w' cls dd H2 (s.sm.trans (Same.trans hide_full k2)) hx
    | stuck => exact w'.elim
  | ok d =>
    rw [q] at w'
    exact fun v H2 k2 hd => w' v H2 (s.grow k2) (Rep.of hd)
theorem t_callPF {mf : List D → M D} (hs : shs.all (!·) = true) {σ : St} {H : Hp} {Q : VK} (h : tF (cc X g) pu (dCall mf ma) W σ H Q) : tCallS (spF (cc X g) shs.length mf) (WE W) (tA (cc X g) pu shs ma W) σ H Q := by
  obtain ⟨xs, env, S, w⟩ := h
  refine ⟨xs, env, S, Want.bind w fun ds env' vs H' e s r w' => ?_⟩
  refine ⟨Hid xs env σ, ds, r.len, fun a ha => s.st.hid (by rw [s.hid]; exact ha), r.clean hs, ?_⟩
  dsimp only at w'
  cases q : mf ds with
  | error x =>
    rw [q] at w'
    cases x with
    | raise kk p => exact fun cls dd H2 k2 hx => w' cls dd H2 (s.sm.trans (Same.trans hide_full k2)) hx
    | stuck => exact w'.elim
  | ok d =>
    rw [q] at w'
    exact fun v H2 k2 hr => w' v H2 (s.grow k2) (hr.step s S k2 fun p hp => s.free S hp)
end
/-! nothing but tuples and plain values -/
mutual
def D.flat : D → Bool
  | .non | .bl _ | .int _ | .str _ => true
  | .tup xs => D.flats xs
  | _ => false
def D.flats : List D → Bool
  | [] => true
  | x :: xs => D.flat x && D.flats xs
end
mutual
theorem flat_hide {c : Cc} {H : Hp} {Z Z' : Addr → Prop} (hz : ∀ a ys, Z' a → ¬ Z a → ¬ Rd H a (.tup ys)) : ∀ (d : D) (v : V), d.flat = true → IsD c (hide H Z) d v → IsD c (hide H Z') d v
  | .non, v, _, h => by unfold IsD at h ⊢; exact h
  | .bl _, v, _, h => by unfold IsD at h ⊢; exact h
  | .int _, v, _, h => by unfold IsD at h ⊢; exact h
  | .str _, v, _, h => by unfold IsD at h ⊢; exact h
  | .tup xs, v, f, h => by
    unfold IsD at h ⊢
    obtain ⟨a, vs, e1, e2, e3⟩ := h
    refine ⟨a, vs, e1, ?_, flats_hide hz xs vs (by simpa [D.flat] using f) e3⟩
    rcases e2 with e2 | e2
    · have hn : ¬ Z a := by
        rcases e2 with e2 | ⟨o, e2⟩
        · exact (hide_some e2).1
        · exact (hide_some e2).1
      have hr : Rd H a (.tup vs) := Rd.same hide_full e2
      have hz' : ¬ Z' a := fun z => hz a vs z hn hr
      rcases hr with hr | ⟨o, hr⟩
      · exact .inl (.inl (by rw [hide_of hz']; exact hr))
      · exact .inl (.inr ⟨o, by rw [hide_of hz']; exact hr⟩)
    · exact .inr e2
  | .lst _, v, f, h => by simp [D.flat] at f
  | .dct _ _, v, f, h => by simp [D.flat] at f
  | .fn _, v, f, h => by simp [D.flat] at f
  | .scr _, v, f, h => by simp [D.flat] at f
theorem flats_hide {c : Cc} {H : Hp} {Z Z' : Addr → Prop} (hz : ∀ a ys, Z' a → ¬ Z a → ¬ Rd H a (.tup ys)) : ∀ (ds : List D) (vs : List V), D.flats ds = true → IsDs c (hide H Z) ds vs → IsDs c (hide H Z') ds vs
  | [], vs, _, h => by unfold IsDs at h ⊢; exact h
  | d :: ds, vs, f, h => by
    unfold IsDs at h ⊢
    obtain ⟨v, r, e1, e2, e3⟩ := h
    simp only [D.flats, Bool.and_eq_true] at f
    exact ⟨v, r, e1, flat_hide hz d v f.1 e2, flats_hide hz ds r f.2 e3⟩
end
/-- a shell, seen by who may read all but some tuples -/
def TupsOf (Z : Addr → Prop) (H : Hp) : Addr → Prop := fun b => Z b ∧ ∃ ys, Rd H b (.tup ys)
theorem notTup_lst {H : Hp} {a : Addr} {vs : List V} (h : H a = some (.lst vs)) (ys : List V) : ¬ Rd H a (.tup ys) := fun r => by
  rcases r with r | ⟨o, r⟩ <;> (rw [h] at r; cases r)
theorem notTup_dK {H : Hp} {a : Addr} {kvs : List (Key × V)} (h : Rd H a (.dK kvs)) (ys : List V) : ¬ Rd H a (.tup ys) := fun r => by
  rcases h with h | ⟨u, h⟩ <;> rcases r with r | ⟨o, r⟩ <;> (rw [h] at r; cases r)
theorem notTup_dT {H : Hp} {a : Addr} {kvs : List (List Key × V)} (h : Rd H a (.dT kvs)) (ys : List V) : ¬ Rd H a (.tup ys) := fun r => by
  rcases h with h | ⟨u, h⟩ <;> rcases r with r | ⟨o, r⟩ <;> (rw [h] at r; cases r)
theorem rd_hide {H : Hp} {Z : Addr → Prop} {a : Addr} {o : HO} (h : Rd H a o) (n : ¬ Z a) : Rd (hide H Z) a o := by
  rcases h with h | ⟨u, h⟩
  · exact .inl (by rw [hide_of n]; exact h)
  · exact .inr ⟨u, by rw [hide_of n]; exact h⟩
theorem RepS.open {c : Cc} {Z : Addr → Prop} {H : Hp} {d : D} {v : V} (r : RepS c Z H d v) : IsD c (hide H (TupsOf Z H)) d v := by
  have sub : Same (hide H Z) (hide H (TupsOf Z H)) := hide_sub fun a z => z.1
  cases d with
  | lst ds =>
    obtain ⟨a, vs, rfl, h1, h2⟩ := r
    unfold IsD
    exact ⟨a, vs, rfl, by rw [hide_of fun ⟨_, ys, z⟩ => notTup_lst h1 ys z]; exact h1, h2.same sub⟩
  | dct ks ws =>
    obtain ⟨a, rfl, h⟩ := r
    unfold IsD
    refine ⟨a, rfl, ?_⟩
    rcases h with ⟨kvs, h1, h2, h3⟩ | ⟨kvs, h1, h2, h3⟩
    · exact .inl ⟨kvs, rd_hide h1 fun ⟨_, ys, z⟩ => notTup_dK h1 ys z, h2, h3.same sub⟩
    · exact .inr ⟨kvs, rd_hide h1 fun ⟨_, ys, z⟩ => notTup_dT h1 ys z, h2, h3.same sub⟩
  | _ => exact IsD.same sub _ _ r
theorem RepsS.open {c : Cc} {Z : Addr → Prop} {H : Hp} : ∀ {ds : List D} {vs : List V}, RepsS c Z H ds vs → IsDs c (hide H (TupsOf Z H)) ds vs
  | [], [], _ => IsDs.nil
  | d :: ds, v :: vs, ⟨r1, r2⟩ => IsDs.cons r1.open (RepsS.open r2)
  | [], _ :: _, r => r.elim
  | _ :: _, [], r => r.elim

section
variable {X : Cx} {W : WX} {P : Program} {w : World} {K : PySem.W.Frag} {mg : Str → Option Value} {base : Heap} {N : List Str} {sc : Scope} {k : Nat} {bk nn : Bool} {g : Ce}
variable {pu pu1 pu2 sh sh1 sh2 : Bool} {m m1 m2 : Ev} {a b e : Expr} {es : List Expr} {pos p : Pos} {ma : Av} {shs : List Bool} {x : Str}
/-- a call that is handed lists of one's own: what comes back must be flat -/
def dCallS (f : List D → M D) (ms : Av) : Ev := fun env => bnd (ms env) fun p => bnd (f p.1) fun d => if d.flat = true then .ok (d, p.2) else stuck
theorem t_callPS {mf : List D → M D} {σ : St} {H : Hp} {Q : VK} (h : tE (cc X g) pu false (dCallS mf ma) W σ H Q) : tCallS (spP (cc X g) shs.length mf) (WE W) (tA (cc X g) pu shs ma W) σ H Q := by
  obtain ⟨xs, env, S, w⟩ := h
  refine ⟨xs, env, S, Want.bind w fun ds env' vs H' e s r w' => ?_⟩
  have hP : ∀ a, Hid xs env σ a → H' a ≠ none := fun a ha => s.st.hid (by rw [s.hid]; exact ha)
  refine ⟨TupsOf (Hid xs env σ) H', ds, r.len, fun a ha => hP a ha.1, r.shell.open, ?_⟩
  dsimp only at w'
  cases q : mf ds with
  | error x =>
    rw [q] at w'
    cases x with
    | raise kk p => exact fun cls dd H2 k2 hx => w' cls dd H2 (s.sm.trans (Same.trans hide_full k2)) hx
    | stuck => exact w'.elim
  | ok d =>
    rw [q] at w'
    intro v H2 k2 hd
    dsimp only [bnd] at w'
    split at w'
    · rename_i hf
      refine w' v H2 (s.grow k2) (Rep.of (flat_hide (fun a ys h1 h2 h3 => h2 ⟨h1, ys, ?_⟩) d v hf hd))
      cases q : H' a with
      | none => exact absurd q (hP a h1)
      | some o =>
        have q2 := k2 a o q
        rcases h3 with h3 | ⟨u, h3⟩
        · rw [q2] at h3; cases h3; exact .inl q
        · rw [q2] at h3; cases h3; exact .inr ⟨u, q⟩
    · exact w'.elim

variable {f : Addr} {fd : FuncData} {ps : List Str} {mf : List D → M D}
/-- what a call of an own def wants -/
structure Fok (nn : Bool) (P : Program) (w : World) (K : PySem.W.Frag) (mg : Str → Option Value) (base : Heap) (k : Nat) (x : Str) (sp : Sp) : Prop where
  ex : ∃ (f : Addr) (fd : FuncData) (ps : List Str), mg x = some (.ref f) ∧ FnOk P w K mg base (CXn nn P w) k f fd ps sp ∧ PySem.W.keepIn K (.ref f) = true ∧ Binds K fd ps []
theorem passAtN {X : Cx} {W : WX} {nn : Bool} (tk : Tk nn X W) (σ : St) : PassesAt (CXn nn X.prog X.w) X σ (WE W σ) := by
  cases nn with
  | true => exact L2N.passAt tk σ
  | false => exact L2.passAt tk σ
theorem call_pe (C : Cok nn X W P w K mg base N sc k bk) {j : Nat} {sp : Sp} (F : Fok nn P w K mg base j x sp) (hj : j ≤ k) {t : TA} (hg : gloB sc x = true) (ha : PA X (e :: es) t) (hdb : (x == ("__debug__" : Str)) = false)
    (he : starEach (e :: es) X.env = (false, eval e X.env) :: starEach es X.env) (hpl : (backTo pos (starEach es X.env)).any (·.1) = false) : PE X (.Call (.Name x p) (e :: es) [] pos) (tCallS sp (WE W) t) := by
  obtain ⟨f, fd, ps, hm, G, hk, hb⟩ := F.ex
  have hgl := gloB_of C hg
  have tk := C.tk
  have hr := C.room.mono hj
  obtain ⟨rfl, rfl, rfl, rfl, rfl⟩ := And.intro C.eP (And.intro C.ew (And.intro C.eK (And.intro C.em C.eb)))
  exact pe_callS G hr hgl hm hk hb (fun σ => passAtN tk σ) ha hdb he hpl
theorem e_call (C : Cok nn X W P w K mg base N sc k bk) {j : Nat} (F : Fok nn P w K mg base j x (spP (ck K g) shs.length mf)) (hj : j ≤ k) (hg : gloB sc x = true) (hs : shs.all (!·) = true) (ha : DA X g pu shs (e :: es) ma W) (hdb : (x == ("__debug__" : Str)) = false := by rfl)
    (he : starEach (e :: es) X.env = (false, eval e X.env) :: starEach es X.env := by rfl) (hpl : (backTo pos (starEach es X.env)).any (·.1) = false := by rfl) : DE X g pu false (.Call (.Name x p) (e :: es) [] pos) (dCall mf ma) W := by
  have h := call_pe (p := p) C F hj hg ha hdb he hpl
  obtain rfl := C.eK
  exact PE.imp h fun _ _ _ h => t_callP hs h
theorem f_call (C : Cok nn X W P w K mg base N sc k bk) {j : Nat} (F : Fok nn P w K mg base j x (spF (ck K g) shs.length mf)) (hj : j ≤ k) (hg : gloB sc x = true) (hs : shs.all (!·) = true) (ha : DA X g pu shs (e :: es) ma W) (hdb : (x == ("__debug__" : Str)) = false := by rfl)
    (he : starEach (e :: es) X.env = (false, eval e X.env) :: starEach es X.env := by rfl) (hpl : (backTo pos (starEach es X.env)).any (·.1) = false := by rfl) : DF X g pu (.Call (.Name x p) (e :: es) [] pos) (dCall mf ma) W := by
  have h := call_pe (p := p) C F hj hg ha hdb he hpl
  obtain rfl := C.eK
  exact PE.imp h fun _ _ _ h => t_callPF hs h
theorem e_callS (C : Cok nn X W P w K mg base N sc k bk) {j : Nat} (F : Fok nn P w K mg base j x (spP (ck K g) shs.length mf)) (hj : j ≤ k) (hg : gloB sc x = true) (ha : DA X g pu shs (e :: es) ma W) (hdb : (x == ("__debug__" : Str)) = false := by rfl)
    (he : starEach (e :: es) X.env = (false, eval e X.env) :: starEach es X.env := by rfl) (hpl : (backTo pos (starEach es X.env)).any (·.1) = false := by rfl) : DE X g pu false (.Call (.Name x p) (e :: es) [] pos) (dCallS mf ma) W := by
  have h := call_pe (p := p) C F hj hg ha hdb he hpl
  obtain rfl := C.eK
  exact PE.imp h fun _ _ _ h => t_callPS h

/-! ### a call that changes the object in one's own slot i, its first argument -/
def dCallO (f : D → List D → M (D × D)) (i : Nat) (ms : Av) : Ev := fun env => match env[i]? with
  | some (.ow _) => bnd (ms env) fun p => match p.2[i]? with
    | some (.ow s) => bnd (f s p.1) fun q => .ok (q.1, p.2.set i (.ow q.2))
    | _ => stuck
  | _ => stuck
theorem isOw_keep {env : En} {i : Nat} {d d' : D} (h : env[i]? = some (Sl.ow d)) (j : Nat) : isOw (env.set i (.ow d')) j = isOw env j := by
  by_cases hj : i = j
  · subst hj
    rw [isOw_of h, isOw_of (d := d') (by rw [List.getElem?_set, if_pos rfl, if_pos (List.getElem?_eq_some_iff.mp h).1])]
  · unfold isOw; rw [List.getElem?_set_ne hj]
theorem owns_keep {env : En} {σ : St} {i : Nat} {d d' : D} (h : env[i]? = some (Sl.ow d)) : Owns (env.set i (.ow d')) σ = Owns env σ := by
  funext a
  apply propext
  constructor
  · rintro ⟨j, e, h1, h2⟩
    by_cases hj : i = j
    · subst hj; exact ⟨i, d, h, h2⟩
    · rw [List.getElem?_set_ne hj] at h1; exact ⟨j, e, h1, h2⟩
  · rintro ⟨j, e, h1, h2⟩
    by_cases hj : i = j
    · subst hj
      exact ⟨i, d', by rw [List.getElem?_set, if_pos rfl, if_pos (List.getElem?_eq_some_iff.mp h).1], h2⟩
    · exact ⟨j, e, by rw [List.getElem?_set_ne hj]; exact h1, h2⟩
theorem hide_ne {H : Hp} {a b : Addr} (h : b ≠ a) : hide H (· = a) b = H b := hide_of (P := (· = a)) h
/-- an owned object changed -/
theorem StOk.change {c : Cc} {xs : Addr → Prop} {env : En} {σ : St} {H H' : Hp} {i : Nat} {d d' : D} {a : Addr} {o' : HO} (S : StOk c xs env σ H) (hi : env[i]? = some (Sl.ow d)) (ha : σ[i]? = some (some (V.ref a)))
    (k : Same (hide H (· = a)) (hide H' (· = a))) (ho : H' a = some o') (r : ObjRep c (hide H' (Hid xs env σ)) d' o') : Stp c xs false env (env.set i (.ow d')) σ H H' := by
  have own := owns_keep (σ := σ) (d' := d') hi
  have hid : Hid xs (env.set i (.ow d')) σ = Hid xs env σ := by funext b; unfold Hid; rw [own]
  have oa : Owns env σ a := ⟨i, d, hi, ha⟩
  have up : Same (hide H (Owns env σ)) (hide H' (Owns env σ)) := fun b u hb => by
    obtain ⟨h1, h2⟩ := hide_some hb
    have ne : ¬ b = a := fun z => h1 (z ▸ oa)
    have := k b u (by rw [hide_ne ne]; exact h2)
    rw [hide_of h1]; exact (hide_some this).2
  have upH : Same (hide H (Hid xs env σ)) (hide H' (Hid xs env σ)) := fun b u hb => by
    obtain ⟨h1, h2⟩ := hide_some hb
    have := up b u (by rw [hide_of fun z => h1 (.inl z)]; exact h2)
    rw [hide_of h1]; exact (hide_some this).2
  have at_ : ∀ b u, b ≠ a → H b = some u → H' b = some u := fun b u ne hb => (hide_some (k b u (by rw [hide_ne ne]; exact hb))).2
  refine ⟨⟨by simp [S.len], fun b hb => ?_, fun j e he => ?_, fun j e he => ?_, fun j l e f b h1 h2 h3 h4 => ?_⟩, isOw_keep hi, up, fun z => nomatch z⟩
  · rw [own]
    refine ⟨fun n => ?_, (S.xb b hb).2⟩
    have ne : b ≠ a := fun z => (S.xb b hb).2 (z ▸ oa)
    cases q : H b with
    | none => exact (S.xb b hb).1 q
    | some u => rw [at_ b u ne q] at n; cases n
  · by_cases hj : i = j
    · subst hj
      rw [List.getElem?_set, if_pos rfl] at he
      split at he <;> cases he
    · rw [List.getElem?_set_ne hj] at he
      obtain ⟨v, h1, h2⟩ := S.va j e he
      rw [hid]
      exact ⟨v, h1, h2.same upH⟩
  · rw [hid]
    by_cases hj : i = j
    · subst hj
      rw [List.getElem?_set, if_pos rfl] at he
      split at he
      · cases he
        exact ⟨a, o', ha, ho, r⟩
      · cases he
    · rw [List.getElem?_set_ne hj] at he
      obtain ⟨b, u, h1, h2, h3⟩ := S.ow j e he
      have ne : b ≠ a := fun z => by
        subst z
        exact hj (S.inj i j _ _ _ hi he ha h1)
      exact ⟨b, u, h1, at_ b u ne h2, h3.same upH⟩
  · have key : ∀ {j : Nat} {e : D}, (env.set i (.ow d'))[j]? = some (Sl.ow e) → ∃ e', env[j]? = some (Sl.ow e') := fun {j e} h => by
      by_cases hj : i = j
      · subst hj; exact ⟨d, hi⟩
      · rw [List.getElem?_set_ne hj] at h; exact ⟨e, h⟩
    obtain ⟨e1, q1⟩ := key h1
    obtain ⟨e2, q2⟩ := key h2
    exact S.inj j l e1 e2 b q1 q2 h3 h4
theorem t_callO {mf : D → List D → M (D × D)} {i : Nat} (hs : shs.all (!·) = true) {σ : St} {H : Hp} {Q : VK} (h : tE (cc X g) false false (dCallO mf i ma) W σ H Q) : tCallS (spO (cc X g) shs.length mf) (WE W) (tCons (tVar i) (tA (cc X g) pu shs ma W)) σ H Q := by
  obtain ⟨xs, env, S, w⟩ := h
  unfold dCallO at w
  split at w
  · rename_i d0 hi0
    obtain ⟨a, o0, ha, ho0, hr0⟩ := S.ow i d0 hi0
    refine ⟨.ref a, ha, xs, env, S, Want.bind w fun ds env' vs H' e s r w' => ?_⟩
    dsimp only at w'
    split at w'
    · rename_i d1 hi
      obtain ⟨a', o, ha', ho, hr⟩ := s.st.ow i d1 hi
      rw [ha] at ha'; cases ha'
      have hid := s.hid
      have oa : Owns env σ a := ⟨i, d0, hi0, ha⟩
      have eq : (fun b => b = a ∨ (Hid xs env σ b ∧ b ≠ a)) = Hid xs env σ := by
        funext b
        apply propext
        constructor
        · rintro (rfl | h)
          · exact .inl oa
          · exact h.1
        · intro h
          by_cases q : b = a
          · exact .inl q
          · exact .inr ⟨h, q⟩
      refine ⟨fun b => Hid xs env σ b ∧ b ≠ a, a, o, d1, ds, vs, rfl, r.len, fun b hb => ⟨s.st.hid (by rw [hid]; exact hb.1), hb.2⟩, ho, ?_, ?_, ?_⟩
      · rw [eq, ← hid]; exact hr
      · rw [eq]; exact r.clean hs
      · have oa' : Owns env' σ a := ⟨i, d1, hi, ha⟩
        have upO : ∀ {H2 : Hp}, Same (hide H' (· = a)) H2 → Same (hide H' (Owns env' σ)) H2 := fun k2 b u hb => by
          obtain ⟨h1, h2⟩ := hide_some hb
          have ne : b ≠ a := fun z => h1 (by rw [z]; exact oa')
          exact k2 b u (by rw [hide_ne ne]; exact h2)
        cases q : mf d1 ds with
        | error x =>
          rw [q] at w'
          cases x with
          | raise kk p => exact fun cls dd H2 k2 hx => w' cls dd H2 (s.sm.trans (by have := upO k2; rw [s.own] at this; exact this)) hx
          | stuck => exact w'.elim
        | ok p =>
          obtain ⟨d, s'⟩ := p
          rw [q] at w'
          intro v H2 o' k2 ho' hr' hd
          rw [eq] at hr' hd
          have st2 := s.st.change (d' := s') hi ha k2 ho' (by rw [hid]; exact hr')
          exact w' v H2 ((s.trans st2).weak fun z => nomatch z) hd
    · exact w'.elim
  · exact w.elim
theorem e_callO (C : Cok nn X W P w K mg base N sc k bk) {j : Nat} {mf : D → List D → M (D × D)} {y : Str} {py : Pos} (F : Fok nn P w K mg base j x (spO (ck K g) shs.length mf)) (hj : j ≤ k) (hg : gloB sc x = true) (hs : shs.all (!·) = true) (i : Nat) (hy : PE X (.Name y py) (tVar i)) (ha : DA X g pu shs es ma W)
    (hdb : (x == ("__debug__" : Str)) = false := by rfl) (he : starEach (.Name y py :: es) X.env = (false, eval (.Name y py) X.env) :: starEach es X.env := by rfl) (hpl : (backTo pos (starEach es X.env)).any (·.1) = false := by rfl) :
    DE X g false false (.Call (.Name x p) (.Name y py :: es) [] pos) (dCallO mf i ma) W := by
  have h := call_pe (p := p) C F hj hg (pa_cons hy ha he) hdb he hpl
  obtain rfl := C.eK
  exact PE.imp h fun _ _ _ h => t_callO hs h
end
end Dn

/-! Dn9 -/
set_option Elab.async false
set_option linter.all false
set_option maxRecDepth 100000
set_option maxHeartbeats 1000000
/-! Dn9: statements. -/
namespace Dn
open PySem PySem.Spec L2
open PyProof.Rows hiding St

/-! ### going on behind a statement -/
section
variable {c : Cc} {xs : Addr → Prop} {env env' : En} {σ σ' : St} {H H' : Hp} {W : WX} {E E' : Ends} {r : M (Fl × En)} {pu : Bool}
theorem WantS.after (k : Kept env σ H env' σ' H') (h : WantS c xs env σ H W E r) : WantS c xs env' σ' H' W E r := by
  cases r with
  | error e => cases e with
    | raise kk p => exact fun cls dd σ2 H2 hl q hx => h cls dd σ2 H2 (hl.trans k.ln) (k.sm.trans q) hx
    | stuck => exact h
  | ok p =>
    obtain ⟨fl, env2⟩ := p
    cases fl with
    | nx => exact fun σ2 H2 S q => h σ2 H2 S (k.trans q)
    | bk => exact fun σ2 H2 S q => h σ2 H2 S (k.trans q)
    | ct => exact fun σ2 H2 S q => h σ2 H2 S (k.trans q)
    | rt d => exact fun σ2 v H2 S q hd => h σ2 v H2 S (k.trans q) hd
    | rf d =>
      rintro σ2 v H2 S q ⟨a, o, e1, e2, e3⟩
      refine h σ2 v H2 S (k.trans q) ⟨a, o, e1, ?_, e3⟩
      cases z : H a with
      | none => rfl
      | some u => exact absurd e2 (k.th a (by rw [z]; exact fun w => nomatch w))
    | ro i => exact fun σ2 a H2 S q h1 h2 => h σ2 a H2 S (k.trans q) h1 h2
theorem WantS.ends {nx bk ct : St → Hp → Prop} (h : WantS c xs env σ H W E r)
    (h1 : ∀ env' σ' H', r = .ok (.nx, env') → StOk c xs env' σ' H' → Kept env σ H env' σ' H' → nx σ' H') (h2 : ∀ env' σ' H', r = .ok (.bk, env') → StOk c xs env' σ' H' → Kept env σ H env' σ' H' → bk σ' H')
    (h3 : ∀ env' σ' H', r = .ok (.ct, env') → StOk c xs env' σ' H' → Kept env σ H env' σ' H' → ct σ' H') : WantS c xs env σ H W { E with nx := nx, bk := bk, ct := ct } r := by
  cases r with
  | error e => cases e with
    | raise kk p => exact h
    | stuck => exact h
  | ok p =>
    obtain ⟨fl, env2⟩ := p
    cases fl with
    | nx => exact fun σ2 H2 S q => h1 env2 σ2 H2 rfl S q
    | bk => exact fun σ2 H2 S q => h2 env2 σ2 H2 rfl S q
    | ct => exact fun σ2 H2 S q => h3 env2 σ2 H2 rfl S q
    | rt d => exact h
    | rf d => exact h
    | ro i => exact h
/-- from a statement's outcome to an expression's -/
theorem WantS.bindE {α β : Type} {R : α → En → β → Hp → Prop} {Q : β → Hp → Prop} {m : M (α × En)} {f : α × En → M (Fl × En)} (h : WantS c xs env σ H W E (bnd m f))
    (k : ∀ d env' v H', m = .ok (d, env') → Stp c xs pu env env' σ H H' → R d env' v H' → WantS c xs env σ H W E (f (d, env')) → Q v H') : Want c xs pu env σ H R W Q m := by
  cases m with
  | error e => cases e with
    | raise kk p => exact fun cls dd H2 q hx => h cls dd σ H2 rfl q hx
    | stuck => exact h
  | ok p =>
    obtain ⟨d, env'⟩ := p
    exact fun v H' s r => k d env' v H' rfl s r h
theorem Stp.kept (s : Stp c xs pu env env' σ H H') : Kept env σ H env' σ H' := ⟨by rw [s.own]; exact s.sm, s.th, fun h => ⟨(s.shp 0).trans h, rfl⟩, rfl⟩
theorem kept_set_va {i : Nat} {d : D} {v : V} (h0 : isOw env 0 = true → i ≠ 0) : Kept env σ H (env.set i (.va d)) (σ.set i (some v)) H :=
  ⟨hide_sub fun a z => owns_set_va z, fun _ h => h, fun h => ⟨(isOw_get0 (by rw [List.getElem?_set_ne (h0 h)])).trans h, by rw [List.getElem?_set_ne (h0 h)]⟩, by rw [List.length_set]⟩
theorem kept_va {i : Nat} {d : D} {v : V} (s : Stp c xs pu env env' σ H H') (h0 : isOw env' 0 = true → i ≠ 0) : Kept env σ H (env'.set i (.va d)) (σ.set i (some v)) H' := s.kept.trans (kept_set_va h0)
end

section
variable {X : Cx} {W : WX} {P : Program} {w : World} {K : PySem.W.Frag} {mg : Str → Option Value} {base : Heap} {N : List Str} {sc : Scope} {k : Nat} {bk nn : Bool} {g : Ce}
variable {pu pu1 pu2 sh sh1 sh2 : Bool} {m m1 m2 : Ev} {a b e : Expr} {es : List Expr} {pos p pos' : Pos} {ma : Av} {shs : List Bool} {x : Str} {st : Stmt} {sts sts' : List Stmt} {ms ms1 ms2 : Sv} {t : Tv}

/-! ### blocks -/
def bNil : Sv := fun env => .ok (.nx, env)
def bSeq (s ss : Sv) : Sv := fun env => bnd (s env) fun p => match p.1 with
  | .nx => ss p.2
  | f => .ok (f, p.2)
theorem ss_nil : DSs X g [] bNil W := PSs.imp pss_nil fun E σ H ⟨xs, env, S, w⟩ => w σ H S .refl
theorem ss_one (h : DS X g st ms W) : DSs X g [st] ms W := pss_one h
theorem ss_cons (h1 : DS X g st ms1 W) (h2 : DSs X g sts ms2 W) : DSs X g (st :: sts) (bSeq ms1 ms2) W := PSs.imp (pss_cons h1 h2) fun E σ H ⟨xs, env, S, w⟩ => by
  refine ⟨xs, env, S, ?_⟩
  unfold bSeq at w
  generalize hr : ms1 env = r at w ⊢
  cases r with
  | error e => cases e with
    | raise kk p => exact w
    | stuck => exact w
  | ok p =>
    obtain ⟨fl, env2⟩ := p
    cases fl with
    | nx => exact fun σ2 H2 S2 q => ⟨xs, env2, S2, WantS.after q w⟩
    | bk => exact w
    | ct => exact w
    | rt d => exact w
    | rf d => exact w
    | ro i => exact w

/-! ### stores -/
def sSet (i : Nat) (m : Ev) : Sv := fun env => bnd (m env) fun p => bnd (put i (.va p.1) p.2) fun env' => .ok (.nx, env')
def sSetO (i : Nat) (m : Ev) : Sv := fun env => bnd (m env) fun p => bnd (put i (.ow p.1) p.2) fun env' => .ok (.nx, env')
theorem t_set {i : Nat} {E : Ends} {σ : St} {H : Hp} (h : tS (cc X g) (sSet i m) W E σ H) : tAsg (tE (cc X g) pu false m W) (gName i) E σ H := by
  obtain ⟨xs, env, S, w⟩ := h
  refine ⟨xs, env, S, WantS.bindE w fun d env' v H' e s r w' => ?_⟩
  have r' : IsD (cc X g) (hide H' (Hid xs env σ)) d v := r
  rw [← s.hid] at r'
  dsimp only at w'
  rcases put_cases i (.va d) env' with q | ⟨q, h0⟩ <;> rw [q] at w'
  · exact w'.elim
  · exact w' _ H' (s.st.setVa i r') (kept_va s h0)
theorem t_setO {i : Nat} {E : Ends} {σ : St} {H : Hp} (h : tS (cc X g) (sSetO i m) W E σ H) : tAsg (tF (cc X g) pu m W) (gName i) E σ H := by
  obtain ⟨xs, env, S, w⟩ := h
  refine ⟨xs, env, S, WantS.bindE w fun d env' v H' e s r w' => ?_⟩
  dsimp only at w'
  rcases put_cases i (.ow d) env' with q | ⟨q, h0⟩ <;> rw [q] at w'
  · exact w'.elim
  · obtain ⟨h1, h2⟩ := s.setOw S i h0 r
    exact w' _ H' h1 h2
theorem set_pe (C : Cok nn X W P w K mg base N sc k false) {te : TE} (i : Nat) (hi : N[i]? = some x) (hl : locB sc x = true) (he : PE X e te) (hs : swapsWith e (some (.Name x pos')) pos.line X.env = pure false) : PS X (.Assign [.Name x pos'] e pos) (tAsg te (gName i)) := by
  have hl := locB_of hl
  refine ps_set (by rw [C.eN]; exact C.nd) (by rw [C.eN]; exact hi) (by rw [C.es]; exact hl) he hs ?_
  rcases hl with h | h
  · exact .inr (by rw [C.es]; exact h)
  · exact .inl (C.fn rfl x)
theorem s_set (C : Cok nn X W P w K mg base N sc k false) (i : Nat) (hi : N[i]? = some x) (hl : locB sc x = true) (he : DE X g pu false e m W) (hs : swapsWith e (some (.Name x pos')) pos.line X.env = pure false := by rfl) : DS X g (.Assign [.Name x pos'] e pos) (sSet i m) W :=
  PS.imp (set_pe C i hi hl he hs) fun _ _ _ h => t_set h
theorem s_setO (C : Cok nn X W P w K mg base N sc k false) (i : Nat) (hi : N[i]? = some x) (hl : locB sc x = true) (he : DF X g pu e m W) (hs : swapsWith e (some (.Name x pos')) pos.line X.env = pure false := by rfl) : DS X g (.Assign [.Name x pos'] e pos) (sSetO i m) W :=
  PS.imp (set_pe C i hi hl he hs) fun _ _ _ h => t_setO h

/-! ### an expression dropped; returns; flow -/
def sDrop (m : Ev) : Sv := fun env => bnd (m env) fun p => .ok (.nx, p.2)
theorem s_drop (he : DE X g pu sh e m W) (hs : swapsWith e none pos.line X.env = pure false := by rfl) : DS X g (.Expr e pos) (sDrop m) W := PS.imp (ps_expr he hs) fun E σ H ⟨xs, env, S, w⟩ =>
  ⟨xs, env, S, WantS.bindE w fun d env' v H' e s r w' => w' σ H' s.st s.kept⟩
def sRet (m : Ev) : Sv := fun env => bnd (m env) fun p => .ok (.rt p.1, p.2)
def sRetF (m : Ev) : Sv := fun env => bnd (m env) fun p => .ok (.rf p.1, p.2)
def sRetO (i : Nat) : Sv := fun env => match env[i]? with
  | some (.ow _) => .ok (.ro i, env)
  | _ => stuck
def sRetN : Sv := fun env => .ok (.rt .non, env)
theorem s_ret (he : DE X g pu false e m W) : DS X g (.Return (some e) pos) (sRet m) W := PS.imp (ps_ret he) fun E σ H ⟨xs, env, S, w⟩ =>
  ⟨xs, env, S, WantS.bindE w fun d env' v H' e s r w' => w' σ v H' s.st s.kept (by rw [s.hid]; exact r)⟩
theorem s_retF (he : DF X g pu e m W) : DS X g (.Return (some e) pos) (sRetF m) W := PS.imp (ps_ret he) fun E σ H ⟨xs, env, S, w⟩ =>
  ⟨xs, env, S, WantS.bindE w fun d env' v H' e s r w' => w' σ v H' s.st s.kept (by
    obtain ⟨a, o, e1, e2, e3, _, e5⟩ := r
    exact ⟨a, o, e1, e2, e3, by rw [s.hid]; exact S.newHid e2, e5⟩)⟩
theorem s_retO (i : Nat) (he : PE X (.Name x pos') (tVar i)) : DS X g (.Return (some (.Name x pos')) pos) (sRetO i) W := PS.imp (ps_ret he) fun E σ H ⟨xs, env, S, w⟩ => by
  unfold sRetO at w
  split at w
  · rename_i d hd
    obtain ⟨a, o, h1, h2, h3⟩ := S.ow i d hd
    exact ⟨.ref a, h1, w σ a H S .refl h1 ⟨d, hd⟩⟩
  · exact w.elim
theorem s_retN : DS X g (.Return none pos) sRetN W := PS.imp ps_retN fun E σ H ⟨xs, env, S, w⟩ => w σ .non H S .refl isNon
def sPass : Sv := fun env => .ok (.nx, env)
def sBreak : Sv := fun env => .ok (.bk, env)
def sCont : Sv := fun env => .ok (.ct, env)
theorem s_pass : DS X g (.Pass pos) sPass W := PS.imp ps_pass fun E σ H ⟨xs, env, S, w⟩ => w σ H S .refl
theorem s_break : DS X g (.Break pos) sBreak W := PS.imp ps_break fun E σ H ⟨xs, env, S, w⟩ => w σ H S .refl
theorem s_cont : DS X g (.Continue pos) sCont W := PS.imp ps_continue fun E σ H ⟨xs, env, S, w⟩ => w σ H S .refl
def sIf (t : Tv) (a b : Sv) : Sv := fun env => bnd (t env) fun p => if p.1 = true then a p.2 else b p.2
theorem s_if (ht : DT X g pu e t W) (ha : DSs X g sts ms1 W) (hb : DSs X g sts' ms2 W) : DS X g (.If e sts sts' pos) (sIf t ms1 ms2) W := PS.imp (ps_if ht ha hb) fun E σ H ⟨xs, env, S, w⟩ =>
  ⟨xs, env, S, WantS.bindE w fun d env' v H' e s r w' => by
    have r' : v = d := r
    subst r'
    cases v with
    | true =>
      rw [if_pos rfl] at w'
      rw [if_pos rfl]
      exact ⟨xs, env', s.st, WantS.after s.kept w'⟩
    | false =>
      rw [if_neg Bool.false_ne_true] at w'
      rw [if_neg Bool.false_ne_true]
      exact ⟨xs, env', s.st, WantS.after s.kept w'⟩⟩

/-! ### while -/
def whileN (t : Tv) (b : Sv) : Nat → Sv
  | 0, _ => stuck
  | n + 1, env => bnd (t env) fun p => if p.1 = true then bnd (b p.2) fun q => match q.1 with
      | .nx => whileN t b n q.2
      | .ct => whileN t b n q.2
      | .bk => .ok (.nx, q.2)
      | f => .ok (f, q.2)
    else .ok (.nx, p.2)
/-- as many turns as the model is asked for -/
def manyTurns : Nat := 1000000000
def sWhile (t : Tv) (b : Sv) : Sv := whileN t b manyTurns
theorem s_while (C : Cok nn X W P w K mg base N sc k false) (ht : DT X g pu e t W) (hb : DSs X g sts ms W) : DS X g (.While e sts [] pos) (sWhile t ms) W := PS.imp (ps_while (C.own rfl) ht hb) fun E σ H ⟨xs, env, S, w⟩ => by
  refine ⟨fun n σ' H' => ∃ env', StOk (cc X g) xs env' σ' H' ∧ WantS (cc X g) xs env' σ' H' W E (whileN t ms n env'), ⟨manyTurns, env, S, w⟩, ?_⟩
  rintro n σ1 H1 ⟨env1, S1, w1⟩
  cases n with
  | zero => exact w1.elim
  | succ n =>
    refine ⟨xs, env1, S1, WantS.bindE w1 fun d env2 v H2 e s r w2 => ?_⟩
    have r' : v = d := r
    subst r'
    cases v with
    | false =>
      rw [if_neg Bool.false_ne_true] at w2
      rw [if_neg Bool.false_ne_true]
      exact w2 σ1 H2 s.st s.kept
    | true =>
      rw [if_pos rfl] at w2
      rw [if_pos rfl]
      refine ⟨fun σ' H' => ∃ env', StOk (cc X g) xs env' σ' H' ∧ WantS (cc X g) xs env' σ' H' W E (whileN t ms n env'), fun σ' H' h => ⟨n, Nat.lt_succ_self n, h⟩, xs, env2, s.st, ?_⟩
      have w3 := WantS.after s.kept w2
      dsimp only at w3
      generalize hr : ms env2 = r2 at w3 ⊢
      cases r2 with
      | error e => cases e with
        | raise kk p => exact w3
        | stuck => exact w3
      | ok p =>
        obtain ⟨fl, env3⟩ := p
        cases fl with
        | nx => exact fun σ4 H4 S4 q => ⟨env3, S4, WantS.after q w3⟩
        | ct => exact fun σ4 H4 S4 q => ⟨env3, S4, WantS.after q w3⟩
        | bk => exact w3
        | rt d => exact w3
        | rf d => exact w3
        | ro i => exact w3
end
end Dn

/-! Dn10 -/
set_option Elab.async false
set_option linter.all false
set_option maxRecDepth 100000
set_option maxHeartbeats 1000000
/-! Dn10: what is walked; targets; for. -/
namespace Dn
open PySem PySem.Spec L2
open PyProof.Rows hiding St

/-- J gives ds, one after another, while G0 stands -/
def ItOk (c : Cc) (G0 : Hp) (J : It) (ds : List D) : Prop :=
  ∃ (G : Hp → Prop) (Y : Nat → Hp → V → Hp → Prop), Walk J ds.length G Y ∧ (∀ H, Same G0 H → G H) ∧
    ∀ i x H H' d, ds[i]? = some d → Same G0 H → Y i H x H' → Same H H' ∧ ∀ Z : Addr → Prop, Same G0 (hide H Z) → (∀ a, Z a → H a ≠ none) → IsD c (hide H' Z) d x
theorem ItOk.same {c : Cc} {G0 G1 : Hp} {J : It} {ds : List D} (k : Same G0 G1) (h : ItOk c G0 J ds) : ItOk c G1 J ds := by
  obtain ⟨G, Y, h1, h2, h3⟩ := h
  exact ⟨G, Y, h1, fun H z => h2 H (k.trans z), fun i x H H' d e z y => by
    obtain ⟨p, q⟩ := h3 i x H H' d e (k.trans z) y
    exact ⟨p, fun Z a b => q Z (k.trans a) b⟩⟩

abbrev Iv := En → M (List D × En)
def tI (c : Cc) (pu : Bool) (m : Iv) (W : WX) : TI := fun σ H R => ∃ xs env, StOk c xs env σ H ∧ Want c xs pu env σ H (fun ds _ J H' => ItOk c (hide H' (Hid xs env σ)) J ds) W R (m env)
abbrev DI (X : Cx) (g : Ce) (tg : Expr) (pu : Bool) (e : Expr) (m : Iv) (W : WX) : Prop := PI X tg e (tI (cc X g) pu m W)
theorem PI.imp {X : Cx} {tg e : Expr} {t t' : TI} (h : PI X tg e t) (k : ∀ σ H Q, t' σ H Q → t σ H Q) : PI X tg e t' := ⟨fun pins s σ H Q I w => h.run pins s σ H Q I (k _ _ _ w)⟩
theorem PI.or {X : Cx} {tg e : Expr} {t t' : TI} (h : PI X tg e t) (h' : PI X tg e t') : PI X tg e (fun σ H Q => t σ H Q ∨ t' σ H Q) := ⟨fun pins s σ H Q I w => w.elim (h.run pins s σ H Q I) (h'.run pins s σ H Q I)⟩

theorem itok_lst {c : Cc} {G0 : Hp} {a : Addr} {ds : List D} {vs : List V} (h : SqL c.K G0 a vs) (r : IsDs c G0 ds vs) : ItOk c G0 (Itl c.K a) ds := by
  refine ⟨fun H => SqL c.K H a vs, YAt vs, by rw [r.len]; exact walk_list, fun H z => z.seq h, fun i x H H' d e z y => ?_⟩
  obtain ⟨rfl, y⟩ := y
  refine ⟨Same.refl _, fun Z k _ => ?_⟩
  obtain ⟨v, h1, h2⟩ := r.getD e
  rw [y] at h1; cases h1
  exact h2.same k
theorem itok_tup {c : Cc} {G0 : Hp} {a : Addr} {ds : List D} {vs : List V} (h : SqT c.K G0 a vs) (r : IsDs c G0 ds vs) : ItOk c G0 (Itt c.K a) ds := by
  refine ⟨fun H => SqT c.K H a vs, YAt vs, by rw [r.len]; exact walk_tup, fun H z => SqT.same z h, fun i x H H' d e z y => ?_⟩
  obtain ⟨rfl, y⟩ := y
  refine ⟨Same.refl _, fun Z k _ => ?_⟩
  obtain ⟨v, h1, h2⟩ := r.getD e
  rw [y] at h1; cases h1
  exact h2.same k
def signs (x : Str) : List D := x.cps.toList.map fun k => .str ⟨#[k]⟩
theorem itok_str {c : Cc} {G0 : Hp} {x : Str} : ItOk c G0 (Its x) (signs x) := by
  refine ⟨fun _ => True, _, by unfold signs; rw [List.length_map, Array.length_toList]; exact walk_str, fun _ _ => trivial, fun i v H H' d e z y => ?_⟩
  obtain ⟨rfl, k, h1, rfl⟩ := y
  refine ⟨Same.refl _, fun Z _ _ => ?_⟩
  unfold signs at e
  rw [List.getElem?_map, Array.getElem?_toList, h1] at e
  cases e
  exact isStr
def rngD (lo st : Int) (n : Nat) : List D := (List.range n).map fun i : Nat => D.int (lo + (i : Int) * st)
theorem itok_rng {c : Cc} {G0 : Hp} {lo : Int} {n : Nat} : ItOk c G0 (Itr lo n) (rngD lo 1 n) := by
  refine ⟨fun _ => True, _, by unfold rngD; rw [List.length_map, List.length_range]; exact walk_range, fun _ _ => trivial, fun i v H H' d e z y => ?_⟩
  obtain ⟨rfl, rfl⟩ := y
  refine ⟨Same.refl _, fun Z _ _ => ?_⟩
  unfold rngD at e
  rw [List.getElem?_map] at e
  cases q : (List.range n)[i]? with
  | none => rw [q] at e; cases e
  | some j =>
    rw [q] at e
    rw [List.getElem?_range (by have := (List.getElem?_eq_some_iff.mp q).1; simpa using this)] at q
    cases q; cases e
    show IsD c _ (.int (lo + (i : Int) * 1)) (.int (lo + i))
    rw [Int.mul_one]
    exact isInt
theorem itok_rngC {c : Cc} {G0 : Hp} {lo st : Int} {n : Nat} : ItOk c G0 (Itc lo st n) (rngD lo st n) := by
  refine ⟨fun _ => True, _, by unfold rngD; rw [List.length_map, List.length_range]; exact walk_rangeC, fun _ _ => trivial, fun i v H H' d e z y => ?_⟩
  obtain ⟨rfl, rfl⟩ := y
  refine ⟨Same.refl _, fun Z _ _ => ?_⟩
  unfold rngD at e
  rw [List.getElem?_map] at e
  cases q : (List.range n)[i]? with
  | none => rw [q] at e; cases e
  | some j =>
    rw [q] at e
    rw [List.getElem?_range (by have := (List.getElem?_eq_some_iff.mp q).1; simpa using this)] at q
    cases q; cases e
    exact isInt

section
variable {X : Cx} {g : Ce} {W : WX} {pu pu1 pu2 sh sh1 sh2 : Bool} {m m1 m2 : Ev} {a b e tg : Expr} {es : List Expr} {pos : Pos} {ma : Av} {shs : List Bool} {mi : Iv}
theorem PI.impure (h : DI X g tg true e mi W) : DI X g tg false e mi W := PI.imp h fun σ H Q ⟨xs, env, S, w⟩ =>
  ⟨xs, env, S, w.imp fun d env' v H' e s r k => k (s.weak fun z => nomatch z) r⟩
def dItems (m : Ev) : Iv := fun env => bnd (m env) fun p => match p.1 with
  | .lst xs => .ok (xs, p.2)
  | .tup xs => .ok (xs, p.2)
  | .str x => .ok (signs x, p.2)
  | .scr ns => .ok (ns.map D.int, p.2)
  | _ => stuck
theorem isDs_ints {c : Cc} {H : Hp} : ∀ ns : List Int, IsDs c H (ns.map D.int) (ns.map V.int)
  | [] => IsDs.nil
  | n :: ns => IsDs.cons isInt (isDs_ints ns)
theorem SqL.hid {K : PySem.W.Frag} {H : Hp} {P : Addr → Prop} {a : Addr} {xs : List V} (h : SqL K (hide H P) a xs) : SqL K H a xs := Same.seq hide_full h
theorem SqT.hid {K : PySem.W.Frag} {H : Hp} {P : Addr → Prop} {a : Addr} {xs : List V} (h : SqT K (hide H P) a xs) : SqT K H a xs := SqT.same hide_full h
theorem i_items (h : DE X g pu false e m W) : DI X g tg pu e (dItems m) W :=
  PI.imp (PI.or (pi_list h) (PI.or (pi_tup h) (pi_str (tg := tg) h))) fun σ H Q ⟨xs, env, S, w⟩ => by
    have w0 := w
    unfold dItems at w0
    cases q : m env with
    | error x =>
      rw [q] at w0
      refine .inl ⟨xs, env, S, ?_⟩
      rw [q]
      cases x with
      | raise k p => exact w0
      | stuck => exact w0.elim
    | ok p =>
      obtain ⟨d, env'⟩ := p
      have key : ∀ {R' : V → Hp → Prop}, (∀ v H', Stp (cc X g) xs pu env env' σ H H' → IsD (cc X g) (hide H' (Hid xs env σ)) d v → R' v H') → tE (cc X g) pu false m W σ H R' := fun k => ⟨xs, env, S, by
        rw [q]; exact fun v H' s r => k v H' s r⟩
      rw [q] at w0
      simp only [bnd_ok] at w0
      split at w0
      · rename_i ds
        refine .inl (key fun v H' s r => ?_)
        unfold IsD at r
        obtain ⟨l, vs, e1, e2, e3⟩ := r
        have hq : SqL X.K (hide H' (Hid xs env σ)) l vs := SqL.of e2
        exact ⟨l, e1, ⟨vs, SqL.hid hq⟩, w0 _ H' s (itok_lst hq e3)⟩
      · rename_i ds
        refine .inr (.inl (key fun v H' s r => ?_))
        unfold IsD at r
        obtain ⟨l, vs, e1, e2, e3⟩ := r
        exact ⟨l, e1, ⟨vs, SqT.hid e2⟩, w0 _ H' s (itok_tup e2 e3)⟩
      · rename_i x
        refine .inr (.inr (key fun v H' s r => ?_))
        unfold IsD at r
        exact ⟨x, r, w0 _ H' s itok_str⟩
      · rename_i ns
        refine .inl (key fun v H' s r => ?_)
        unfold IsD at r
        obtain ⟨l, e1, e2⟩ := r
        exact ⟨l, e1, ⟨_, SqL.hid e2⟩, w0 _ H' s (itok_lst e2 (isDs_ints ns))⟩
      · exact w0.elim
end
end Dn

/-! Dn11 -/
set_option Elab.async false
set_option linter.all false
set_option maxRecDepth 100000
set_option maxHeartbeats 1000000
/-! Dn11: ranges, targets, for. -/
namespace Dn
open PySem PySem.Spec L2
open PyProof.Rows hiding St

section
variable {X : Cx} {P : Program} {w : World} {K : PySem.W.Frag} {mg : Str → Option Value} {base : Heap} {N : List Str} {sc : Scope} {k : Nat} {bk nn : Bool} {g : Ce} {W : WX}
variable {pu pu1 pu2 sh sh1 sh2 : Bool} {m m1 m2 : Ev} {a b e tg : Expr} {es : List Expr} {pos p : Pos} {ma : Av} {shs : List Bool} {mi : Iv} {x : Str} {sts : List Stmt} {ms : Sv}

/-! ### ranges -/
def smallI (j : Int) : Bool := decide (-4611686018427387904 ≤ j) && decide (j < 4611686018427387904)
def dRng (ms : Av) : Iv := fun env => bnd (ms env) fun p => match p.1 with
  | [.int j] => if smallI j = true then .ok (rngD 0 1 j.toNat, p.2) else stuck
  | [.int i, .int j] => if (smallI i && smallI j) = true then .ok (rngD i 1 (j - i).toNat, p.2) else stuck
  | [.int i, .int j, .int s] => if (smallI i && smallI j && decide (s = -1)) = true then .ok (rngD i s (i - j).toNat, p.2) else stuck
  | _ => stuck
theorem smallI_of {j : Int} (h : smallI j = true) : -(2 ^ 62) ≤ j ∧ j < 2 ^ 62 := by
  unfold smallI at h
  simp only [Bool.and_eq_true, decide_eq_true_eq] at h
  omega
theorem Reps.one {c : Cc} {P : Addr → Prop} {H : Hp} {d : D} {vs : List V} (r : Reps c P H shs [d] vs) : ∃ v, vs = [v] ∧ RepS c P H d v := by
  cases shs with
  | nil => cases vs <;> exact r.elim
  | cons s ss => cases ss with
    | nil => cases vs with
      | nil => exact r.elim
      | cons v vs => cases vs with
        | nil => exact ⟨v, rfl, r.1.shell⟩
        | cons _ _ => exact r.2.elim
    | cons _ _ => cases vs with
      | nil => exact r.elim
      | cons v vs => exact r.2.elim
theorem RepsS.one {c : Cc} {P : Addr → Prop} {H : Hp} {d : D} {vs : List V} (r : RepsS c P H [d] vs) : ∃ v, vs = [v] ∧ RepS c P H d v := by
  cases vs with
  | nil => exact r.elim
  | cons v vs => cases vs with
    | nil => exact ⟨v, rfl, r.1⟩
    | cons _ _ => exact r.2.elim
theorem RepsS.two {c : Cc} {P : Addr → Prop} {H : Hp} {d d2 : D} {vs : List V} (r : RepsS c P H [d, d2] vs) : ∃ v v2, vs = [v, v2] ∧ RepS c P H d v ∧ RepS c P H d2 v2 := by
  cases vs with
  | nil => exact r.elim
  | cons v vs => obtain ⟨v2, rfl, q⟩ := RepsS.one r.2; exact ⟨v, v2, rfl, r.1, q⟩
theorem RepsS.three {c : Cc} {P : Addr → Prop} {H : Hp} {d d2 d3 : D} {vs : List V} (r : RepsS c P H [d, d2, d3] vs) : ∃ v v2 v3, vs = [v, v2, v3] ∧ RepS c P H d v ∧ RepS c P H d2 v2 ∧ RepS c P H d3 v3 := by
  cases vs with
  | nil => exact r.elim
  | cons v vs => obtain ⟨v2, v3, rfl, q⟩ := RepsS.two r.2; exact ⟨v, v2, v3, rfl, r.1, q⟩
theorem Reps.bad1 {c : Cc} {P : Addr → Prop} {H : Hp} {s : Bool} {d d2 : D} {ds : List D} {vs : List V} (r : Reps c P H [s] (d :: d2 :: ds) vs) : False := by
  cases vs with
  | nil => exact r.elim
  | cons v vs => cases vs <;> exact r.2.elim
theorem Reps.bad2 {c : Cc} {P : Addr → Prop} {H : Hp} {s s2 : Bool} {d d2 d3 : D} {ds : List D} {vs : List V} (r : Reps c P H [s, s2] (d :: d2 :: d3 :: ds) vs) : False := by
  cases vs with
  | nil => exact r.elim
  | cons v vs => exact Reps.bad1 r.2
theorem Reps.bad2' {c : Cc} {P : Addr → Prop} {H : Hp} {s s2 : Bool} {ss : List Bool} {d : D} {vs : List V} (r : Reps c P H (s :: s2 :: ss) [d] vs) : False := by
  cases vs with
  | nil => exact r.elim
  | cons v vs => cases vs <;> exact r.2.elim
theorem i_rng1 (hg : Gl X "range") (hm : X.mg "range" = none) (ha : DA X g pu [sh1] [a] ma W) (hs : starEach [a] X.env = [(false, eval a X.env)] := by rfl) : DI X g tg pu (.Call (.Name "range" p) [a] [] pos) (dRng ma) W :=
  PI.imp (pi_range1 hg hm ha hs) fun σ H Q ⟨xs, env, S, w⟩ => ⟨xs, env, S, Want.bind w fun ds env' vs H' e s r w' => by
    have r' := r.shell
    dsimp only at w'
    split at w'
    · rename_i j
      split at w'
      · rename_i hz
        obtain ⟨v, rfl, r1⟩ := r'.one
        have e1 := r1.int
        subst e1
        obtain ⟨h1, h2⟩ := smallI_of hz
        exact ⟨j, rfl, h1, h2, w' _ H' s itok_rng⟩
      · exact w'.elim
    · exact r.bad1.elim
    · exact r.bad1.elim
    · exact w'.elim⟩
theorem i_rng2 (hg : Gl X "range") (hm : X.mg "range" = none) (ha : DA X g pu [sh1, sh2] [a, b] ma W) (hs : starEach [a, b] X.env = [(false, eval a X.env), (false, eval b X.env)] := by rfl) (hs2 : starEach [b] X.env = [(false, eval b X.env)] := by rfl) : DI X g tg pu (.Call (.Name "range" p) [a, b] [] pos) (dRng ma) W :=
  PI.imp (pi_range2 hg hm ha hs hs2) fun σ H Q ⟨xs, env, S, w⟩ => ⟨xs, env, S, Want.bind w fun ds env' vs H' e s r w' => by
    have r' := r.shell
    dsimp only at w'
    split at w'
    · exact r.bad2'.elim
    · rename_i i j
      split at w'
      · rename_i hz
        rw [Bool.and_eq_true] at hz
        obtain ⟨v, v2, rfl, r1, r2⟩ := r'.two
        have e1 := r1.int
        have e2 := r2.int
        subst e1 e2
        obtain ⟨h1, h2⟩ := smallI_of hz.1
        obtain ⟨h3, h4⟩ := smallI_of hz.2
        exact ⟨i, j, rfl, ⟨h1, h2, h3, h4⟩, w' _ H' s itok_rng⟩
      · exact w'.elim
    · exact r.bad2.elim
    · exact w'.elim⟩
theorem i_rng3 (hg : Gl X "range") (hm : X.mg "range" = none) (ha : DA X g pu [false, false, false] [a, b, e] ma W) (hs : starEach [a, b, e] X.env = (false, eval a X.env) :: starEach [b, e] X.env := by rfl) (hpl : (backTo pos (starEach [b, e] X.env)).any (·.1) = false := by rfl) : DI X g tg pu (.Call (.Name "range" p) [a, b, e] [] pos) (dRng ma) W :=
  PI.imp (pi_range3 hg hm ha hs hpl) fun σ H Q ⟨xs, env, S, w⟩ => ⟨xs, env, S, Want.bind w fun ds env' vs H' e s r w' => by
    have r' := r.shell
    dsimp only at w'
    split at w'
    · exact r.bad2'.elim
    · exfalso
      cases vs with
      | nil => exact r.elim
      | cons v vs => exact r.2.bad2'
    · rename_i i j st
      split at w'
      · rename_i hz
        rw [Bool.and_eq_true, Bool.and_eq_true, decide_eq_true_eq] at hz
        obtain ⟨v, v2, v3, rfl, r1, r2, r3⟩ := r'.three
        have e1 := r1.int
        have e2 := r2.int
        have e3 := r3.int
        subst e1 e2 e3
        obtain ⟨h1, h2⟩ := smallI_of hz.1.1
        obtain ⟨h3, h4⟩ := smallI_of hz.1.2
        obtain rfl := hz.2
        exact ⟨i, j, -1, _, rfl, RgC.neg h1 h2 h3 h4, w' _ H' s itok_rngC⟩
      · exact w'.elim
    · exact w'.elim⟩

/-! ### targets -/
abbrev Gv := D → En → M En
abbrev Gsv := List D → En → M En
def wipeE (env : En) : List Nat → En
  | [] => env
  | v :: vs => (wipeE env vs).set v .un
theorem wipeE_set {env : En} {i : Nat} {s : Sl} : ∀ {vs : List Nat}, i ∈ vs → wipeE (env.set i s) vs = wipeE env vs
  | v :: vs, h => by
    unfold wipeE
    by_cases hv : i ∈ vs
    · rw [wipeE_set hv]
    · have e : i = v := (List.mem_cons.mp h).resolve_right hv
      subst e
      have : ∀ ws : List Nat, i ∉ ws → wipeE (env.set i s) ws = (wipeE env ws).set i s := fun ws => by
        induction ws with
        | nil => intro _; rfl
        | cons w ws ih =>
          intro hw
          unfold wipeE
          rw [ih fun z => hw (List.mem_cons_of_mem _ z), List.set_comm _ _ fun z => hw (by rw [z]; exact List.mem_cons_self)]
      rw [this vs hv, List.set_set]
theorem wipe_set {σ : St} {i : Nat} {s : Option V} : ∀ {vs : List Nat}, i ∈ vs → wipe (σ.set i s) vs = wipe σ vs
  | v :: vs, h => by
    unfold wipe
    by_cases hv : i ∈ vs
    · rw [wipe_set hv]
    · have e : i = v := (List.mem_cons.mp h).resolve_right hv
      subst e
      have : ∀ ws : List Nat, i ∉ ws → wipe (σ.set i s) ws = (wipe σ ws).set i s := fun ws => by
        induction ws with
        | nil => intro _; rfl
        | cons w ws ih =>
          intro hw
          unfold wipe
          rw [ih fun z => hw (List.mem_cons_of_mem _ z), List.set_comm _ _ fun z => hw (by rw [z]; exact List.mem_cons_self)]
      rw [this vs hv, List.set_set]
/-- raising nothing -/
def ns {α : Type} : M α → M α
  | .ok a => .ok a
  | .error _ => stuck
@[simp] theorem ns_ok {α : Type} (a : α) : ns (.ok a : M α) = .ok a := rfl
/-- what a target's stores want -/
def WantG (c : Cc) (vs : List Nat) (xs : Addr → Prop) (env : En) (σ : St) (H : Hp) (Q : St → Hp → Prop) : M En → Prop
  | .ok env' => ∀ σ', StOk c xs env' σ' H → Kept env σ H env' σ' H → wipe σ' vs = wipe σ vs → wipeE env' vs = wipeE env vs → (∀ j, isOw env' j = true → isOw env j = true) → Q σ' H
  | .error _ => False
def tG (c : Cc) (m : Gv) (vs : List Nat) : TG := fun v σ H Q => ∃ xs env d, StOk c xs env σ H ∧ IsD c (hide H (Hid xs env σ)) d v ∧ WantG c vs xs env σ H Q (m d env)
def tGs (c : Cc) (m : Gsv) (vs : List Nat) : TGs := fun v σ H Q => ∃ xs env d, StOk c xs env σ H ∧ IsDs c (hide H (Hid xs env σ)) d v ∧ WantG c vs xs env σ H Q (m d env)
theorem PG.imp {X : Cx} {e : Expr} {t t' : TG} (h : PG X e t) (k : ∀ v σ H Q, t' v σ H Q → t v σ H Q) : PG X e t' := ⟨fun pins s σ H v u Q I r w => h.run pins s σ H v u Q I r (k _ _ _ _ w)⟩
theorem PGs.imp {X : Cx} {e : List Expr} {t t' : TGs} (h : PGs X e t) (k : ∀ v σ H Q, t' v σ H Q → t v σ H Q) : PGs X e t' := ⟨fun pins s σ H v u Q I r w => h.run pins s σ H v u Q I r (k _ _ _ _ w)⟩
abbrev DG (X : Cx) (g : Ce) (vs : List Nat) (e : Expr) (m : Gv) : Prop := PG X e (tG (cc X g) m vs)
abbrev DGs (X : Cx) (g : Ce) (vs : List Nat) (e : List Expr) (m : Gsv) : Prop := PGs X e (tGs (cc X g) m vs)
theorem Kept.smH {xs : Addr → Prop} {env env' : En} {σ σ' : St} {H H' : Hp} (q : Kept env σ H env' σ' H') : Same (hide H (Hid xs env σ)) (hide H' (Hid xs env' σ')) := fun b o h => by
  obtain ⟨h1, h2⟩ := hide_some h
  have h3 := q.sm b o (by rw [hide_of fun z => h1 (.inl z)]; exact h2)
  obtain ⟨h4, h5⟩ := hide_some h3
  rw [hide_of fun z => z.elim h4 fun z => h1 (.inr z)]
  exact h5
variable {vs : List Nat} {mg1 : Gv} {mgs : Gsv} {i : Nat}
def gSet (i : Nat) : Gv := fun d env => put i (.va d) env
theorem isOw_set_va {env : En} {i j : Nat} {d : D} (h : isOw (env.set i (.va d)) j = true) : isOw env j = true := by
  obtain ⟨e, he⟩ := of_isOw h
  by_cases hj : i = j
  · subst hj
    rw [List.getElem?_set, if_pos rfl] at he
    split at he <;> cases he
  · rw [List.getElem?_set_ne hj] at he
    exact isOw_of he
theorem g_name (h : PG X e (gName i)) (hv : i ∈ vs) : DG X g vs e (gSet i) := PG.imp h fun v σ H Q ⟨xs, env, d, S, r, w⟩ => by
  unfold gSet at w
  rcases put_cases i (.va d) env with q | ⟨q, h0⟩ <;> rw [q] at w
  · exact w.elim
  · exact w _ (S.setVa i r) (kept_set_va h0) (wipe_set hv) (wipeE_set hv) fun j z => isOw_set_va z
def gsNil : Gsv := fun ds env => match ds with
  | [] => .ok env
  | _ => stuck
def gsCons (m : Gv) (ms : Gsv) : Gsv := fun ds env => match ds with
  | d :: r => bnd (m d env) fun env1 => ms r env1
  | [] => stuck
theorem g_nil : DGs X g vs [] gsNil := PGs.imp pgs_nil fun v σ H Q ⟨xs, env, ds, S, r, w⟩ => by
  cases ds with
  | nil => unfold IsDs at r; exact ⟨r, w σ S .refl rfl rfl fun _ z => z⟩
  | cons _ _ => exact w.elim
theorem g_cons (h1 : DG X g vs e mg1) (h2 : DGs X g vs es mgs) (hs : (assignEach (e :: es) X.env).map (·.2) = assign e X.env :: (assignEach es X.env).map (·.2) := by rfl) : DGs X g vs (e :: es) (gsCons mg1 mgs) :=
  PGs.imp (pgs_cons h1 h2 hs) fun v σ H Q ⟨xs, env, ds, S, r, w⟩ => by
    cases ds with
    | nil => exact w.elim
    | cons d ds =>
      unfold IsDs at r
      obtain ⟨v1, vr, e1, r1, r2⟩ := r
      refine ⟨v1, vr, e1, xs, env, d, S, r1, ?_⟩
      have w' : WantG (cc X g) vs xs env σ H Q (bnd (mg1 d env) fun env1 => mgs ds env1) := w
      cases q : mg1 d env with
      | error x => rw [q] at w'; exact w'.elim
      | ok env1 =>
        rw [q] at w'
        intro σ1 S1 k1 a1 b1 c1
        refine ⟨xs, env1, ds, S1, r2.same k1.smH, ?_⟩
        dsimp only [bnd] at w'
        cases q2 : mgs ds env1 with
        | error x => rw [q2] at w'; exact w'.elim
        | ok env2 =>
          rw [q2] at w'
          exact fun σ2 S2 k2 a2 b2 c2 => w' σ2 S2 (k1.trans k2) (a2.trans a1) (b2.trans b1) fun j z => c1 j (c2 j z)
def gTupD (ms : Gsv) : Gv := fun d env => match d with
  | .tup ds => ms ds env
  | _ => stuck
def lenOf (n : Nat) (ms : Gsv) : Gsv := fun ds env => if ds.length = n then ms ds env else stuck
theorem g_tup {kk : Nat} (hc : X.calm = true) (h : DGs X g vs es mgs) (hst : (assignEach es X.env).findIdx? (·.1) = none := by rfl) (hl : (assignEach es X.env).length = es.length := by rfl) : DG X g vs (.Tuple es kk pos) (gTupD (lenOf es.length mgs)) :=
  PG.imp (pg_tup hc h hl hst) fun v σ H Q ⟨xs, env, d, S, r, w⟩ => by
    unfold gTupD at w
    split at w
    · rename_i ds
      unfold IsD at r
      obtain ⟨a, ws, e1, e2, e3⟩ := r
      unfold lenOf at w
      split at w
      · rename_i hz
        exact ⟨a, ws, e1, SqT.hid e2, by rw [← e3.len]; exact hz, xs, env, ds, S, e3, w⟩
      · exact w.elim
    · exact w.elim
/-- target = value -/
def sAsg (m : Ev) (mt : Gv) : Sv := fun env => bnd (m env) fun p => bnd (ns (mt p.1 p.2)) fun env' => .ok (.nx, env')
theorem s_asg (he : DE X g pu false e m W) (hg : DG X g vs tg mg1) (hs : swapsWithSole [tg] e pos.line X.env = pure false := by rfl) (hw : swappedStores [tg] e X.env = pure none := by rfl)
    (h1 : (assignEach [tg] X.env).map (·.2) = [assign tg X.env] := by rfl) : DS X g (.Assign [tg] e pos) (sAsg m mg1) W := PS.imp (ps_asg he hg hs hw h1) fun E σ H ⟨xs, env, S, w⟩ =>
  ⟨xs, env, S, WantS.bindE w fun d env' v H' e s r w' => by
    have r' : IsD (cc X g) (hide H' (Hid xs env σ)) d v := r
    rw [← s.hid] at r'
    refine ⟨xs, env', d, s.st, r', ?_⟩
    dsimp only at w'
    cases q : mg1 d env' with
    | error x =>
      rw [q] at w'
      exact w'.elim
    | ok env2 =>
      rw [q] at w'
      exact fun σ2 S2 k2 _ _ _ => w' σ2 H' S2 (s.kept.trans k2)⟩

/-! ### for -/
def forL (mt : Gv) (mb : Sv) : List D → Sv
  | [], env => .ok (.nx, env)
  | d :: r, env => bnd (ns (mt d env)) fun env1 => bnd (mb env1) fun q => match q.1 with
    | .nx => forL mt mb r q.2
    | .ct => forL mt mb r q.2
    | .bk => .ok (.nx, q.2)
    | f => .ok (f, q.2)
def sFor (mi : Iv) (mt : Gv) (mb : Sv) : Sv := fun env => bnd (mi env) fun p => forL mt mb p.1 p.2
theorem s_for (C : Cok nn X W P w K mg base N sc k false) (hi : DI X g tg pu e mi W) (hg : DG X g vs tg mg1) (hb : DSs X g sts ms W) (hs : ∀ x, foldedSetIterable e X.env x = pure x := by intro _; rfl) : DS X g (.For tg e sts [] pos) (sFor mi mg1 ms) W :=
  PS.imp (ps_for (C.own rfl) C.calm hi hg hb hs) fun E σ H ⟨xs, env, S, w⟩ => ⟨xs, env, S, WantS.bindE w fun ds env1 J H1 e s r w1 => by
    obtain ⟨G, Y, hw, hG, hY⟩ := r
    rw [← s.hid] at hG hY
    have w1 := WantS.after s.kept w1
    dsimp only at w1
    refine for_it hw (fun i σ' H' => ∃ env', StOk (cc X g) xs env' σ' H' ∧ Kept env1 σ H1 env' σ' H' ∧ WantS (cc X g) xs env' σ' H' W E (forL mg1 ms (ds.drop i) env')) ⟨env1, s.st, .refl, w1⟩ ?_ ?_ ?_
    · rintro i σ' H' _ ⟨env', S', q, _⟩
      exact hG H' (q.smH.trans hide_full)
    · rintro i x σ' H' H2 hlt ⟨env', S', q, w2⟩ y
      have hd : ds[i]? = some ds[i] := by simp [hlt]
      obtain ⟨k1, k2⟩ := hY i x H' H2 _ hd (q.smH.trans hide_full) y
      have rd := k2 (Hid xs env' σ') q.smH fun a ha => S'.hid ha
      have S2 := S'.same k1
      have kk : Kept env' σ' H' env' σ' H2 := ⟨hide_same k1, Same.th k1, fun h => ⟨h, rfl⟩, rfl⟩
      refine ⟨xs, env', ds[i], S2, rd, ?_⟩
      rw [List.drop_eq_getElem_cons hlt] at w2
      unfold forL at w2
      cases q2 : mg1 ds[i] env' with
      | error x => rw [q2] at w2; exact w2.elim
      | ok env3 =>
        rw [q2] at w2
        intro σ3 S3 k3 _ _ _
        refine ⟨xs, env3, S3, ?_⟩
        have k4 := kk.trans k3
        have w3 := WantS.after k4 w2
        simp only [ns_ok, bnd_ok] at w3
        generalize hr : ms env3 = r2 at w3 ⊢
        cases r2 with
        | error e => cases e with
          | raise kk p => exact w3
          | stuck => exact w3
        | ok p =>
          obtain ⟨fl, env4⟩ := p
          cases fl with
          | nx => exact fun σ5 H5 S5 q5 => ⟨env4, S5, q.trans (k4.trans q5), WantS.after q5 w3⟩
          | ct => exact fun σ5 H5 S5 q5 => ⟨env4, S5, q.trans (k4.trans q5), WantS.after q5 w3⟩
          | bk => exact w3
          | rt d => exact w3
          | rf d => exact w3
          | ro i => exact w3
    · rintro σ' H' ⟨env', S', q, w2⟩
      rw [List.drop_length] at w2
      exact w2 σ' H' S' .refl⟩
end
end Dn

/-! Dn12 -/
set_option Elab.async false
set_option linter.all false
set_option maxRecDepth 100000
set_option maxHeartbeats 1000000
/-! Dn12: list comprehensions. -/
namespace Dn
open PySem PySem.Spec L2
open PyProof.Rows hiding St

/-! ### slots forgotten for a while -/
theorem wipeE_get {env : En} {j : Nat} : ∀ {vs : List Nat}, (wipeE env vs)[j]? = if j ∈ vs then (env[j]?).map (fun _ => Sl.un) else env[j]?
  | [] => by simp [wipeE]
  | v :: vs => by
    unfold wipeE
    by_cases hj : v = j
    · subst hj
      rw [List.getElem?_set, if_pos rfl, if_pos List.mem_cons_self]
      have ih := wipeE_get (env := env) (j := v) (vs := vs)
      split
      · rename_i h
        have : (wipeE env vs)[v]? ≠ none := fun z => by rw [List.getElem?_eq_none_iff] at z; omega
        cases q : env[v]? with
        | none => rw [q] at ih; simp at ih; exact absurd (List.getElem?_eq_none_iff.mpr ih) this
        | some s => rfl
      · rename_i h
        have : (wipeE env vs)[v]? = none := List.getElem?_eq_none_iff.mpr (by omega)
        rw [this] at ih
        cases q : env[v]? with
        | none => rfl
        | some s =>
          rw [q] at ih
          split at ih <;> cases ih
    · rw [List.getElem?_set_ne hj, wipeE_get]
      simp only [List.mem_cons]
      by_cases hm : j ∈ vs
      · rw [if_pos hm, if_pos (.inr hm)]
      · rw [if_neg hm, if_neg fun z => z.elim (fun z => hj z.symm) hm]
theorem wipe_get {σ : St} {j : Nat} : ∀ {vs : List Nat}, (wipe σ vs)[j]? = if j ∈ vs then (σ[j]?).map (fun _ => none) else σ[j]?
  | [] => by simp [wipe]
  | v :: vs => by
    unfold wipe
    by_cases hj : v = j
    · subst hj
      rw [List.getElem?_set, if_pos rfl, if_pos List.mem_cons_self]
      have ih := wipe_get (σ := σ) (j := v) (vs := vs)
      split
      · rename_i h
        have : (wipe σ vs)[v]? ≠ none := fun z => by rw [List.getElem?_eq_none_iff] at z; omega
        cases q : σ[v]? with
        | none => rw [q] at ih; simp at ih; exact absurd (List.getElem?_eq_none_iff.mpr ih) this
        | some s => rfl
      · rename_i h
        have : (wipe σ vs)[v]? = none := List.getElem?_eq_none_iff.mpr (by omega)
        rw [this] at ih
        cases q : σ[v]? with
        | none => rfl
        | some s =>
          rw [q] at ih
          split at ih <;> cases ih
    · rw [List.getElem?_set_ne hj, wipe_get]
      simp only [List.mem_cons]
      by_cases hm : j ∈ vs
      · rw [if_pos hm, if_pos (.inr hm)]
      · rw [if_neg hm, if_neg fun z => z.elim (fun z => hj z.symm) hm]
theorem wipeE_wipeE {env : En} {vs : List Nat} : wipeE (wipeE env vs) vs = wipeE env vs := by
  apply List.ext_getElem?
  intro j
  rw [wipeE_get, wipeE_get]
  by_cases h : j ∈ vs
  · simp only [if_pos h]; cases env[j]? <;> rfl
  · simp only [if_neg h]
theorem wipe_wipe {σ : St} {vs : List Nat} : wipe (wipe σ vs) vs = wipe σ vs := by
  apply List.ext_getElem?
  intro j
  rw [wipe_get, wipe_get]
  by_cases h : j ∈ vs
  · simp only [if_pos h]; cases σ[j]? <;> rfl
  · simp only [if_neg h]
def resE (env env' : En) : List Nat → En
  | [] => env'
  | v :: vs => (resE env env' vs).set v ((env[v]?).getD .un)
theorem resE_len {env env' : En} : ∀ {vs : List Nat}, (resE env env' vs).length = env'.length
  | [] => rfl
  | v :: vs => by unfold resE; rw [List.length_set, resE_len]
theorem resE_get {env env' : En} {j : Nat} (hl : env'.length = env.length) : ∀ {vs : List Nat}, (resE env env' vs)[j]? = if j ∈ vs then env[j]? else env'[j]?
  | [] => by simp [resE]
  | v :: vs => by
    unfold resE
    by_cases hj : v = j
    · subst hj
      rw [List.getElem?_set, if_pos rfl, if_pos List.mem_cons_self, resE_len]
      split
      · rename_i h
        rw [hl] at h
        rw [List.getElem?_eq_getElem h]; rfl
      · rename_i h
        rw [List.getElem?_eq_none (by omega)]
    · rw [List.getElem?_set_ne hj, resE_get hl]
      simp only [List.mem_cons]
      by_cases hm : j ∈ vs
      · rw [if_pos hm, if_pos (.inr hm)]
      · rw [if_neg hm, if_neg fun z => z.elim (fun z => hj z.symm) hm]
theorem resE_wipe {env : En} {vs : List Nat} (hl : (wipeE env vs).length = env.length) : resE env (wipeE env vs) vs = env := by
  apply List.ext_getElem?
  intro j
  rw [resE_get hl, wipeE_get]
  by_cases h : j ∈ vs
  · simp only [if_pos h]
  · simp only [if_neg h]
theorem wipeE_len {env : En} : ∀ {vs : List Nat}, (wipeE env vs).length = env.length
  | [] => rfl
  | v :: vs => by unfold wipeE; rw [List.length_set, wipeE_len]
def noOw (env : En) (vs : List Nat) : Bool := vs.all fun j => !isOw env j
theorem noOw_of {env : En} {vs : List Nat} (h : noOw env vs = true) {j : Nat} (hj : j ∈ vs) : isOw env j = false := by
  unfold noOw at h
  rw [List.all_eq_true] at h
  simpa using h j hj
theorem isOw_get {env env' : En} {j : Nat} (h : env[j]? = env'[j]?) : isOw env j = isOw env' j := by unfold isOw; rw [h]
theorem isOw_wipe {env : En} {vs : List Nat} (no : ∀ j ∈ vs, isOw env j = false) (j : Nat) : isOw (wipeE env vs) j = isOw env j := by
  by_cases h : j ∈ vs
  · rw [no j h]
    unfold isOw
    rw [wipeE_get, if_pos h]
    cases env[j]? <;> rfl
  · exact isOw_get (by rw [wipeE_get, if_neg h])
theorem owns_blk {env env' : En} {σ σ' : St} {vs : List Nat} (no : ∀ j ∈ vs, isOw env j = false) (hA : ∀ j, isOw env' j = isOw env j) (hw : wipe σ' vs = wipe σ vs) : Owns env' σ' = Owns env σ := by
  have at_ : ∀ j, isOw env j = true → σ'[j]? = σ[j]? := fun j h => by
    have hj : j ∉ vs := fun z => by rw [no j z] at h; cases h
    have := congrArg (·[j]?) hw
    simp only [wipe_get, if_neg hj] at this
    exact this
  funext a
  apply propext
  constructor
  · rintro ⟨j, d, h1, h2⟩
    have hj := (hA j).symm.trans (isOw_of h1)
    obtain ⟨e, he⟩ := of_isOw hj
    exact ⟨j, e, he, by rw [← at_ j hj]; exact h2⟩
  · rintro ⟨j, d, h1, h2⟩
    have hj := isOw_of h1
    obtain ⟨e, he⟩ := of_isOw ((hA j).trans hj)
    exact ⟨j, e, he, by rw [at_ j hj]; exact h2⟩
section
variable {c : Cc} {xs xs' : Addr → Prop} {env env' : En} {σ σ' : St} {H H' : Hp} {vs : List Nat}
theorem StOk.wipe (S : StOk c xs env σ H) : ∀ vs : List Nat, StOk c xs (wipeE env vs) (L2.wipe σ vs) H
  | [] => S
  | v :: vs => by unfold wipeE L2.wipe; exact (StOk.wipe S vs).setUn v none
theorem StOk.lessX (h : ∀ a, xs a → xs' a) (S : StOk c xs' env σ H) : StOk c xs env σ H := by
  have sub : Same (hide H (Hid xs' env σ)) (hide H (Hid xs env σ)) := hide_sub fun a z => z.elim .inl fun z => .inr (h a z)
  exact ⟨S.len, fun a z => S.xb a (h a z), fun i d q => let ⟨v, h1, h2⟩ := S.va i d q; ⟨v, h1, h2.same sub⟩, fun i d q => let ⟨a, o, h1, h2, h3⟩ := S.ow i d q; ⟨a, o, h1, h2, h3.same sub⟩, S.inj⟩
/-- a foreign object changed -/
theorem StOk.updX (S : StOk c xs env σ H) {a : Addr} {o : HO} (h : xs a) : StOk c xs env σ (upd H a o) := by
  have hid : ∀ b u, hide H (Hid xs env σ) b = some u → hide (upd H a o) (Hid xs env σ) b = some u := fun b u hb => by
    obtain ⟨h1, h2⟩ := hide_some hb
    rw [hide_of h1, upd_ne fun z : b = a => h1 (.inr (by rw [z]; exact h))]
    exact h2
  refine ⟨S.len, fun b hb => ⟨fun z => ?_, (S.xb b hb).2⟩, fun i d q => let ⟨v, h1, h2⟩ := S.va i d q; ⟨v, h1, h2.same hid⟩, fun i d q => ?_, S.inj⟩
  · by_cases e : b = a
    · subst e; rw [upd_same] at z; cases z
    · rw [upd_ne e] at z; exact (S.xb b hb).1 z
  · obtain ⟨b, u, h1, h2, h3⟩ := S.ow i d q
    have ne : b ≠ a := fun z => (S.xb a h).2 ⟨i, d, q, z ▸ h1⟩
    exact ⟨b, u, h1, by rw [upd_ne ne]; exact h2, h3.same hid⟩
/-- the slots given back -/
theorem StOk.res (S : StOk c xs env σ H) (S' : StOk c xs' env' (L2.wipe σ vs) H') (no : ∀ j ∈ vs, isOw env j = false) (hl : env'.length = env.length) (hA : ∀ j, isOw env' j = isOw env j)
    (sm : Same (hide H (Hid xs env σ)) (hide H' (Hid xs' env σ))) : StOk c xs' (resE env env' vs) σ H' := by
  have hA' : ∀ j, isOw (resE env env' vs) j = isOw env j := fun j => by
    by_cases h : j ∈ vs
    · exact isOw_get (by rw [resE_get hl, if_pos h])
    · exact (isOw_get (by rw [resE_get hl, if_neg h])).trans (hA j)
  have o1 : Owns (resE env env' vs) σ = Owns env σ := owns_shape hA'
  have o2 : Owns env' (L2.wipe σ vs) = Owns env σ := owns_blk no hA wipe_wipe
  have hh : Hid xs' (resE env env' vs) σ = Hid xs' env' (L2.wipe σ vs) := by funext a; unfold Hid; rw [o1, o2]
  have h3 : Hid xs' (resE env env' vs) σ = Hid xs' env σ := by funext a; unfold Hid; rw [o1]
  have out : ∀ {i d}, (resE env env' vs)[i]? = some (Sl.ow d) → i ∉ vs ∧ env'[i]? = some (Sl.ow d) := fun {i d} q => by
    by_cases h : i ∈ vs
    · rw [resE_get hl, if_pos h] at q
      have := no i h
      rw [isOw_of q] at this; cases this
    · rw [resE_get hl, if_neg h] at q
      exact ⟨h, q⟩
  have at_ : ∀ {i}, i ∉ vs → (L2.wipe σ vs)[i]? = σ[i]? := fun {i} h => by rw [wipe_get, if_neg h]
  refine ⟨by rw [resE_len, hl, S.len], fun a h => ⟨(S'.xb a h).1, fun z => (S'.xb a h).2 (by rw [o2, ← o1]; exact z)⟩, fun i d q => ?_, fun i d q => ?_, fun i j d e a h1 h2 q1 q2 => ?_⟩
  · by_cases h : i ∈ vs
    · rw [resE_get hl, if_pos h] at q
      obtain ⟨v, h1, h2⟩ := S.va i d q
      rw [h3]
      exact ⟨v, h1, h2.same sm⟩
    · rw [resE_get hl, if_neg h] at q
      obtain ⟨v, h1, h2⟩ := S'.va i d q
      rw [hh]
      exact ⟨v, by rw [← at_ h]; exact h1, h2⟩
  · obtain ⟨h, q'⟩ := out q
    obtain ⟨a, o, h1, h2, h3⟩ := S'.ow i d q'
    rw [hh]
    exact ⟨a, o, by rw [← at_ h]; exact h1, h2, h3⟩
  · obtain ⟨n1, h1⟩ := out h1
    obtain ⟨n2, h2⟩ := out h2
    exact S'.inj i j d e a h1 h2 (by rw [at_ n1]; exact q1) (by rw [at_ n2]; exact q2)
end

/-! ### the comprehension -/
def lcL (mt : Gv) (tt : Tv) (te : Ev) (vs : List Nat) : List D → En → M (List D × En)
  | [], env => .ok ([], env)
  | d :: r, env => bnd (mt d env) fun env1 => bnd (tt env1) fun p => if p.1 = true then bnd (te p.2) fun q => bnd (lcL mt tt te vs r (wipeE q.2 vs)) fun z => .ok (q.1 :: z.1, z.2) else lcL mt tt te vs r (wipeE p.2 vs)
def dLc (mi : Iv) (mt : Gv) (tt : Tv) (te : Ev) (vs : List Nat) : Ev := fun env => bnd (mi env) fun p => if noOw p.2 vs = true then bnd (ns (lcL mt tt te vs p.1 (wipeE p.2 vs))) fun q => if q.1.length ≤ maxSeq then .ok (.lst q.1, resE p.2 q.2 vs) else stuck else stuck
def dYes : Tv := fun env => .ok (true, env)
abbrev W0 : WX := fun _ _ _ _ => False
section
variable {X : Cx} {g : Ce} {W : WX} {pu pu1 pu2 : Bool} {e elt tg iter : Expr} {ifs : List Expr} {scope : Scope} {own : List (Str × Nat)} {pos : Pos} {mi : Iv} {mt : Gv} {tt : Tv} {me : Ev} {vs : List Nat}
theorem t_lc {σ : St} {H : Hp} {Q : VK} (h : tF (cc X g) (pu && (pu1 && pu2)) (dLc mi mt tt me vs) W σ H Q) : tLc (tI (cc X g) pu mi W) (tG (cc X g) mt vs) (tT (cc X g) pu1 tt W0) (tE (cc X g) pu2 false me W0) vs σ H Q := by
  obtain ⟨xs, env, S, w⟩ := h
  refine ⟨xs, env, S, w.bind fun ds env1 J H1 e1 s r w1 => ?_⟩
  intro A hA
  dsimp only at w1
  split at w1
  case isFalse => exact w1.elim
  rename_i hno
  have no : ∀ j ∈ vs, isOw env1 j = false := fun j hj => noOw_of hno hj
  cases qf : lcL mt tt me vs ds (wipeE env1 vs) with
  | error x => rw [qf] at w1; exact w1.elim
  | ok pf =>
  obtain ⟨total, envF⟩ := pf
  rw [qf] at w1
  simp only [ns_ok, bnd_ok] at w1
  split at w1
  case isFalse => exact w1.elim
  rename_i hsz
  have hA0 : H A = none := s.free S hA
  obtain ⟨G, Y, hw, hG, hY⟩ := r
  rw [← s.hid] at hG hY
  -- what stands through the loop
  have hS1 : StOk (cc X g) (fun b => xs b ∨ b = A) env1 σ (upd H1 A (.lst [])) := s.st.newX (same_new hA) hA upd_same
  have eqO : ∀ {env' σ'}, (∀ j, isOw env' j = isOw env1 j) → wipe σ' vs = wipe σ vs → Owns env' σ' = Owns env1 σ := fun a b => owns_blk no a b
  refine lc_it hw (fun i H2 => ∃ env2 accD acc rest, StOk (cc X g) (fun b => xs b ∨ b = A) env2 (wipe σ vs) H2 ∧ env2.length = env1.length ∧ (∀ j, isOw env2 j = isOw env1 j) ∧ H2 A = some (.lst acc) ∧
    IsDs (cc X g) (hide H2 (fun b => Owns env1 σ b ∨ (xs b ∨ b = A))) accD acc ∧ Same (hide H1 (Owns env1 σ)) (hide H2 (Owns env1 σ)) ∧ ((pu && (pu1 && pu2)) = true → env2 = wipeE env1 vs ∧ Same H1 H2) ∧
    lcL mt tt me vs (ds.drop i) env2 = .ok (rest, envF) ∧ accD ++ rest = total) ?_ ?_ ?_ ?_
  · refine ⟨wipeE env1 vs, [], [], total, hS1.wipe vs, wipeE_len, isOw_wipe no, upd_same, IsDs.nil, hide_same (same_new hA), fun _ => ⟨rfl, same_new hA⟩, qf, rfl⟩
  · rintro i H2 _ ⟨env2, accD, acc, rest, S2, hl, hA2, hD, hacc, sm, hp, hr, ht⟩
    refine hG H2 fun b o hb => ?_
    obtain ⟨h1, h2⟩ := hide_some hb
    exact (hide_some (sm b o (by rw [hide_of fun z => h1 (.inl z)]; exact h2))).2
  · rintro i x H2 H3 hlt ⟨env2, accD, acc, rest, S2, hl, hA2, hD, hacc, sm, hp, hr, ht⟩ y
    have o2 : Owns env2 (wipe σ vs) = Owns env1 σ := eqO hA2 wipe_wipe
    have hid2 : Hid (fun b => xs b ∨ b = A) env2 (wipe σ vs) = fun b => Owns env1 σ b ∨ (xs b ∨ b = A) := by funext b; unfold Hid; rw [o2]
    have up : Same (hide H1 (Hid xs env1 σ)) (hide H2 (Hid (fun b => xs b ∨ b = A) env2 (wipe σ vs))) := fun b o hb => by
      obtain ⟨h1, h2⟩ := hide_some hb
      have h3 := (hide_some (sm b o (by rw [hide_of fun z => h1 (.inl z)]; exact h2))).2
      rw [hid2, hide_of fun z => z.elim (fun z => h1 (.inl z)) fun z => z.elim (fun z => h1 (.inr z)) (ne_of_none h2 hA)]
      exact h3
    have hd : ds[i]? = some ds[i] := by simp [hlt]
    obtain ⟨k1, k2⟩ := hY i x H2 H3 _ hd (up.trans hide_full) y
    have rd := k2 _ up fun a ha => S2.hid ha
    have S3 := S2.same k1
    refine ⟨_, env2, ds[i], S3, rd, ?_⟩
    rw [List.drop_eq_getElem_cons hlt] at hr
    unfold lcL at hr
    cases q2 : mt ds[i] env2 with
    | error z => rw [q2] at hr; cases hr
    | ok env3 =>
    rw [q2] at hr
    simp only [bnd_ok] at hr
    intro σ3 S4 k3 hw3 hwE how
    have hw3' : wipe σ3 vs = wipe σ vs := hw3.trans wipe_wipe
    have hA3 : ∀ j, isOw env3 j = isOw env1 j := fun j => by
      cases q : isOw env1 j with
      | true =>
        have hj : j ∉ vs := fun z => by rw [no j z] at q; cases q
        have := congrArg (·[j]?) hwE
        simp only [wipeE_get, if_neg hj] at this
        rw [isOw_get this, hA2 j, q]
      | false =>
        cases q3 : isOw env3 j with
        | false => rfl
        | true => have := how j q3; rw [hA2 j, q] at this; cases this
    have o3 : Owns env3 σ3 = Owns env1 σ := eqO hA3 hw3'
    refine ⟨hw3', _, env3, S4, ?_⟩
    cases q4 : tt env3 with
    | error z => rw [q4] at hr; cases hr
    | ok p4 =>
    obtain ⟨b4, env4⟩ := p4
    rw [q4] at hr
    simp only [bnd_ok] at hr
    intro b H4 s4 hb
    subst hb
    have D4 : H4 A = some (.lst acc) := by
      have h3 : H3 A = some (.lst acc) := k1 _ _ hD
      have na : ¬ Owns env3 σ3 A := fun z => (S4.xb A (.inr rfl)).2 z
      exact (hide_some (s4.sm A _ (by rw [hide_of na]; exact h3))).2
    have o4 : Owns env4 σ3 = Owns env1 σ := s4.own.trans o3
    have sm4 : Same (hide H1 (Owns env1 σ)) (hide H4 (Owns env1 σ)) := sm.trans ((hide_same k1).trans (by have := s4.sm; rw [o3] at this; exact this))
    have acc4 : IsDs (cc X g) (hide H4 (fun b => Owns env1 σ b ∨ (xs b ∨ b = A))) accD acc := by
      refine hacc.same (Same.trans (hide_same k1) ?_)
      have := s4.smH
      unfold Hid at this
      rw [o3] at this
      exact this
    have len3 : env3.length = env1.length := by rw [S4.len, ← wipe_length σ3 vs, hw3', wipe_length, ← s.st.len]
    have len4 : env4.length = env1.length := by rw [s4.st.len, ← wipe_length σ3 vs, hw3', wipe_length, ← s.st.len]
    cases b with
    | false =>
      rw [if_neg Bool.false_ne_true] at hr
      rw [if_neg Bool.false_ne_true]
      have S5 := s4.st.wipe vs
      rw [hw3'] at S5
      refine ⟨wipeE env4 vs, accD, acc, rest, S5, by rw [wipeE_len]; exact len4, fun j => ?_, D4, acc4, sm4, fun hpu => ?_, hr, ht⟩
      · rw [isOw_wipe (fun j hj => by rw [s4.shp, hA3, no j hj]), s4.shp, hA3]
      · obtain ⟨p1, p2⟩ := hp hpu
        have : pu1 = true := by simp only [Bool.and_eq_true] at hpu; exact hpu.2.1
        obtain ⟨r1, r2⟩ := s4.pr this
        refine ⟨?_, p2.trans (k1.trans r2)⟩
        rw [r1, hwE, p1, wipeE_wipeE]
    | true =>
      rw [if_pos rfl] at hr
      rw [if_pos rfl]
      refine ⟨_, env4, s4.st, ?_⟩
      cases q5 : me env4 with
      | error z => rw [q5] at hr; cases hr
      | ok p5 =>
      obtain ⟨d5, env5⟩ := p5
      rw [q5] at hr
      simp only [bnd_ok] at hr
      cases q6 : lcL mt tt me vs (ds.drop (i + 1)) (wipeE env5 vs) with
      | error z => rw [q6] at hr; cases hr
      | ok p6 =>
      obtain ⟨r6, env6⟩ := p6
      rw [q6] at hr
      simp only [bnd_ok, Except.ok.injEq, Prod.mk.injEq] at hr
      obtain ⟨hr1, hr2⟩ := hr
      subst hr1 hr2
      intro v5 H5 s5 r5
      have D5 : H5 A = some (.lst acc) := by
        have na : ¬ Owns env4 σ3 A := fun z => (s4.st.xb A (.inr rfl)).2 z
        exact (hide_some (s5.sm A _ (by rw [hide_of na]; exact D4))).2
      have hzl : acc.length < sizeLine := by
        rw [← hacc.len]
        have := congrArg List.length ht
        rw [List.length_append, List.length_cons] at this
        have h2 : sizeLine = maxSeq := maxSeq_eq
        omega
      refine ⟨acc, D5, hzl, ?_⟩
      have o5 : Owns env5 σ3 = Owns env1 σ := s5.own.trans o4
      have acc5 : IsDs (cc X g) (hide H5 (fun b => Owns env1 σ b ∨ (xs b ∨ b = A))) accD acc := by
        refine acc4.same ?_
        have := s5.smH
        unfold Hid at this
        rw [o4] at this
        exact this
      have r5' : IsD (cc X g) (hide H5 (fun b => Owns env1 σ b ∨ (xs b ∨ b = A))) d5 v5 := by
        have : IsD (cc X g) (hide H5 (Hid (fun b => xs b ∨ b = A) env4 σ3)) d5 v5 := r5
        unfold Hid at this
        rw [o4] at this
        exact this
      have kU : Same (hide H5 (fun b => Owns env1 σ b ∨ (xs b ∨ b = A))) (hide (upd H5 A (.lst (acc ++ [v5]))) (fun b => Owns env1 σ b ∨ (xs b ∨ b = A))) := fun b o hb => by
        obtain ⟨h1, h2⟩ := hide_some hb
        rw [hide_of h1, upd_ne fun z => h1 (.inr (.inr z))]
        exact h2
      have S6 := (s5.st.updX (o := .lst (acc ++ [v5])) (a := A) (.inr rfl)).wipe vs
      rw [hw3'] at S6
      have hno5 : ∀ j ∈ vs, isOw env5 j = false := fun j hj => by rw [s5.shp, s4.shp, hA3, no j hj]
      have nA : ∀ {b o}, H1 b = some o → b ≠ A := fun h => ne_of_none h hA
      refine ⟨wipeE env5 vs, accD ++ [d5], acc ++ [v5], r6, S6, by rw [wipeE_len, s5.st.len, ← wipe_length σ3 vs, hw3', wipe_length, ← s.st.len], fun j => ?_, upd_same, IsDs.append (acc5.same kU) (IsDs.cons (r5'.same kU) IsDs.nil), fun b o hb => ?_, fun hpu => ?_, q6, by rw [List.append_assoc]; exact ht⟩
      · rw [isOw_wipe hno5, s5.shp, s4.shp, hA3]
      · have h1 := (sm4.trans (by have := s5.sm; rw [o4] at this; exact this)) b o hb
        obtain ⟨h2, h3⟩ := hide_some h1
        rw [hide_of h2, upd_ne (nA (hide_some hb).2)]
        exact h3
      · obtain ⟨p1, p2⟩ := hp hpu
        have h1 : pu1 = true := by simp only [Bool.and_eq_true] at hpu; exact hpu.2.1
        have h2 : pu2 = true := by simp only [Bool.and_eq_true] at hpu; exact hpu.2.2
        obtain ⟨r1, r2⟩ := s4.pr h1
        obtain ⟨r3, r4⟩ := s5.pr h2
        refine ⟨by rw [r3, r1, hwE, p1, wipeE_wipeE], fun b o hb => ?_⟩
        rw [upd_ne (nA hb)]
        exact r4 _ _ (r2 _ _ (k1 _ _ (p2 _ _ hb)))
  · rintro H2 ⟨env2, accD, acc, rest, S2, hl, hA2, hD, hacc, sm, hp, hr, ht⟩
    rw [List.drop_length] at hr
    unfold lcL at hr
    simp only [Except.ok.injEq, Prod.mk.injEq] at hr
    obtain ⟨hr1, hr2⟩ := hr
    subst hr1 hr2
    rw [List.append_nil] at ht
    subst ht
    have SX : StOk (cc X g) (fun b => xs b ∨ b = A) (resE env1 env2 vs) σ H2 := by
      refine StOk.res s.st S2 no hl hA2 fun b o hb => ?_
      obtain ⟨h1, h2⟩ := hide_some hb
      have h3 := (hide_some (sm b o (by rw [hide_of fun z => h1 (.inl z)]; exact h2))).2
      rw [hide_of fun z => z.elim (fun z => h1 (.inl z)) fun z => z.elim (fun z => h1 (.inr z)) (ne_of_none h2 hA)]
      exact h3
    have shpR : ∀ j, isOw (resE env1 env2 vs) j = isOw env1 j := fun j => by
      by_cases h : j ∈ vs
      · exact isOw_get (by rw [resE_get hl, if_pos h])
      · exact (isOw_get (by rw [resE_get hl, if_neg h])).trans (hA2 j)
    have oR : Owns (resE env1 env2 vs) σ = Owns env1 σ := owns_shape shpR
    refine w1 (.ref A) H2 ⟨SX.lessX fun a h => .inl h, fun j => (shpR j).trans (s.shp j), s.sm.trans (by rw [← s.own]; exact sm), fun hpu => ?_⟩ ⟨A, .lst acc, rfl, hA0, hD, SX, acc, rfl, ?_⟩
    · obtain ⟨p1, p2⟩ := hp hpu
      have h1 : pu = true := by simp only [Bool.and_eq_true] at hpu; exact hpu.1
      obtain ⟨r1, r2⟩ := s.pr h1
      refine ⟨?_, r2.trans p2⟩
      rw [p1, resE_wipe wipeE_len, r1]
    · refine hacc.same (hide_sub fun b z => ?_)
      unfold Hid at z
      rw [oR] at z
      rcases z with (z | z) | z
      · exact .inl z
      · exact .inr (.inl z)
      · exact .inr (.inr z)
end
end Dn

/-! Dn13 -/
set_option Elab.async false
set_option linter.all false
set_option maxRecDepth 100000
set_option maxHeartbeats 1000000
/-! Dn13: a comprehension's block; the rules. -/
namespace Dn
open PySem PySem.Spec L2
open PyProof.Rows hiding St

section
variable {X : Cx} {P : Program} {w : World} {K : PySem.W.Frag} {mg : Str → Option Value} {base : Heap} {N : List Str} {sc : Scope} {k : Nat} {bk nn : Bool} {g : Ce} {W : WX}
variable {pu pu1 pu2 : Bool} {e elt tg iter c1 : Expr} {ifs : List Expr} {scope : Scope} {own : List (Str × Nat)} {pos p pos' : Pos} {mi : Iv} {mt : Gv} {tt : Tv} {me : Ev} {vs : List Nat} {x : Str} {i : Nat}
theorem Cok.blk (C : Cok nn X W P w K mg base N sc k bk) (s : Shared) (H : Hp) (scope : Scope) (A : Addr) (cl : List (Str × Addr)) (fp : List Addr) : Cok nn (X.blk s H scope (compEnvC scope cl A X.env) fp) W0 P w K mg base N (relS scope sc) k true where
  eP := C.eP
  ew := C.ew
  eK := C.eK
  em := C.em
  eb := C.eb
  eN := C.eN
  es := by have := C.es; subst this; rfl
  calm := C.calm
  room := C.room
  nd := C.nd
  fn := fun z => nomatch z
  tk := by cases nn <;> (intro _ _ x; obtain ⟨_, _, _, _, _, _, _, _, _, _, _, _, _, _, _, _, z⟩ := x; exact z.elim)
  own := fun z => nomatch z
  sf := fun z => nomatch z
/-- a target's name within a block -/
def tgB (sc scope : Scope) (x : Str) : Bool := match (relS scope sc).names.lookup x with
  | some .local => true
  | some .cell => scope.names.lookup x == some .cell
  | _ => false
theorem n_tg (C : Cok nn X W P w K mg base N sc k bk) (s : Shared) (H : Hp) (A : Addr) (cl : List (Str × Addr)) (fp : List Addr) (i : Nat) (hi : N[i]? = some x) (hv : tgB sc scope x = true) : PG (X.blk s H scope (compEnvC scope cl A X.env) fp) (.Name x pos) (gName i) := by
  have B := C.blk s H scope A cl fp
  unfold tgB at hv
  split at hv
  · rename_i q
    exact pg_name (by rw [B.eN]; exact C.nd) (by rw [B.eN]; exact hi) (by rw [B.es]; exact .inl q) (.inr (by rw [B.es]; exact q))
  · rename_i q
    exact pg_name (by rw [B.eN]; exact C.nd) (by rw [B.eN]; exact hi) (by rw [B.es]; exact .inr q) (.inl hv)
  · cases hv
abbrev DC (X : Cx) (g : Ce) (pu : Bool) (es : List Expr) (t : Tv) : Prop := PTs X es (tT (cc X g) pu t W0)
theorem PTs.imp {X : Cx} {e : List Expr} {t t' : TT} (h : PTs X e t) (k : ∀ σ H Q, t' σ H Q → t σ H Q) : PTs X e t' := ⟨fun pins s σ H Q I w => h.run pins s σ H Q I (k _ _ _ w)⟩
theorem c_nil : DC X g true [] dYes := PTs.imp pts_nil fun σ H Q ⟨xs, env, S, w⟩ => w true H (.refl S) rfl
theorem c_one (h : DT X g pu e tt W0) : DC X g pu [e] tt := pts_one h
theorem blk_ok (C : Cok nn X W P w K mg base N sc k bk) (h : blkC N sc scope own = true) : BlkOk X.N X.env.scope scope own := by
  rw [C.eN, C.es]; exact blkOk_by h
abbrev AllB (X : Cx) (scope : Scope) (φ : Cx → Prop) : Prop := ∀ (s : Shared) (H : Hp) (A : Addr) (cl : List (Str × Addr)) (fp : List Addr), φ (X.blk s H scope (compEnvC scope cl A X.env) fp)
theorem f_lc (C : Cok nn X W P w K mg base N sc k bk) (own : List (Str × Nat)) (ok : blkC N sc scope own = true) (hi : DI X g tg pu iter mi W) (hg : AllB X scope fun X' => DG X' g (own.map (·.2)) tg mt) (ht : AllB X scope fun X' => DC X' g pu1 ifs tt) (he : AllB X scope fun X' => DE X' g pu2 false elt me W0)
    (hs : ∀ x, foldedSetIterable iter X.env x = pure x := by intro _; rfl) : DF X g (pu && (pu1 && pu2)) (.ListComp elt [⟨tg, iter, ifs, 0⟩] scope pos) (dLc mi mt tt me (own.map (·.2))) W :=
  PE.imp (pe_lc C.calm (by rw [C.eN]; exact C.nd) hi (blk_ok C ok) hg ht he hs) fun σ H Q h => t_lc h
/-- y = [..] on one line: does the model swap -/
def swB (sc scope : Scope) (y : Str) (l l' : Nat) : Bool := (sc.names.lookup y == some .local && l == l') && !(scope.names.any fun (n, k) => n == y && (k == .local || k == .cell))
theorem sw_eq (C : Cok nn X W P w K mg base N sc k bk) {gs : List Comprehension} {l : Nat} (h : swB sc scope x p.line pos.line = false) : swapsWith (.ListComp elt gs scope pos) (some (.Name x p)) l X.env = pure false := by
  have e : swapsWith (.ListComp elt gs scope pos) (some (.Name x p)) l X.env = pure (X.env.blockKind == .function && X.env.kindOf x == some .local && p.line == pos.line && !(scope.names.any fun (n, k) => n == x && (k == .local || k == .cell))) := rfl
  have e2 : X.env.kindOf x = sc.names.lookup x := by have := C.es; subst this; rfl
  rw [e, e2, Bool.and_assoc (X.env.blockKind == .function), Bool.and_assoc (X.env.blockKind == .function)]
  unfold swB at h
  rw [h, Bool.and_false]
theorem sw_eqT (C : Cok nn X W P w K mg base N sc k bk) (hk : (match sc.kind with | .function => true | _ => false) = true) {gs : List Comprehension} {l : Nat} (h : swB sc scope x p.line pos.line = true) : swapsWith (.ListComp elt gs scope pos) (some (.Name x p)) l X.env = pure true := by
  have es := C.es
  unfold swB at h
  simp only [Bool.and_eq_true, Bool.not_eq_true', beq_iff_eq] at h
  obtain ⟨⟨h1, h2⟩, h3⟩ := h
  have h0 : sc.kind = .function := by
    split at hk
    · assumption
    · cases hk
  exact sw_true (by rw [es]; exact h0) (by rw [es]; exact h1) (by rw [h2]; exact beq_self_eq_true _) h3
theorem swB_loc {l l' : Nat} (h : swB sc scope x l l' = true) : sc.names.lookup x = some .local := by
  unfold swB at h
  simp only [Bool.and_eq_true, Bool.not_eq_true', beq_iff_eq] at h
  exact h.1.1
/-- the store of a comprehension, swapped or not -/
theorem setLc_pe (C : Cok nn X W P w K mg base N sc k false) (own : List (Str × Nat)) (ok : blkC N sc scope own = true) (hk : (match sc.kind with | .function => true | _ => false) = true) (i : Nat) (hx : N[i]? = some x) (hl : locB sc x = true) (hi : DI X g tg pu iter mi W) (hg : AllB X scope fun X' => DG X' g (own.map (·.2)) tg mt) (ht : AllB X scope fun X' => DC X' g pu1 ifs tt) (he : AllB X scope fun X' => DE X' g pu2 false elt me W0)
    (hs : ∀ x, foldedSetIterable iter X.env x = pure x) : PS X (.Assign [.Name x p] (.ListComp elt [⟨tg, iter, ifs, 0⟩] scope pos) pos') (tAsg (tLc (tI (cc X g) pu mi W) (tG (cc X g) mt (own.map (·.2))) (tT (cc X g) pu1 tt W0) (tE (cc X g) pu2 false me W0) (own.map (·.2))) (gName i)) := by
  cases h : swB sc scope x p.line pos.line with
  | true => exact ps_setLc C.calm (by rw [C.eN]; exact C.nd) (by rw [C.eN]; exact hx) (by rw [C.es]; exact swB_loc h) (sw_eqT C hk h) hi (blk_ok C ok) hg ht he hs
  | false => exact set_pe C i hx hl (pe_lc C.calm (by rw [C.eN]; exact C.nd) hi (blk_ok C ok) hg ht he hs) (sw_eq C h)
theorem s_setLc (C : Cok nn X W P w K mg base N sc k false) (own : List (Str × Nat)) (ok : blkC N sc scope own = true) (hk : (match sc.kind with | .function => true | _ => false) = true) (i : Nat) (hx : N[i]? = some x) (hl : locB sc x = true) (hi : DI X g tg pu iter mi W) (hg : AllB X scope fun X' => DG X' g (own.map (·.2)) tg mt) (ht : AllB X scope fun X' => DC X' g pu1 ifs tt) (he : AllB X scope fun X' => DE X' g pu2 false elt me W0)
    (hs : ∀ x, foldedSetIterable iter X.env x = pure x := by intro _; rfl) : DS X g (.Assign [.Name x p] (.ListComp elt [⟨tg, iter, ifs, 0⟩] scope pos) pos') (sSet i (dLc mi mt tt me (own.map (·.2)))) W :=
  PS.imp (setLc_pe C own ok hk i hx hl hi hg ht he hs) fun E σ H h => by
    obtain ⟨xs, env, S, w⟩ := h
    exact t_lc (W := W) ⟨xs, env, S, WantS.bindE w fun d env' v H' e s r w' => by
      obtain ⟨a, o, rfl, n, h1, _, h2⟩ := r
      rw [s.hid] at h2
      have r' : IsD (cc X g) (hide H' (Hid xs env σ)) d (.ref a) := h2.isD h1 (S.newHid n)
      rw [← s.hid] at r'
      dsimp only at w'
      rcases put_cases i (.va d) env' with q | ⟨q, h0⟩ <;> rw [q] at w'
      · exact w'.elim
      · exact w' _ H' (s.st.setVa i r') (kept_va s h0)⟩
theorem s_setOLc (C : Cok nn X W P w K mg base N sc k false) (own : List (Str × Nat)) (ok : blkC N sc scope own = true) (hk : (match sc.kind with | .function => true | _ => false) = true) (i : Nat) (hx : N[i]? = some x) (hl : locB sc x = true) (hi : DI X g tg pu iter mi W) (hg : AllB X scope fun X' => DG X' g (own.map (·.2)) tg mt) (ht : AllB X scope fun X' => DC X' g pu1 ifs tt) (he : AllB X scope fun X' => DE X' g pu2 false elt me W0)
    (hs : ∀ x, foldedSetIterable iter X.env x = pure x := by intro _; rfl) : DS X g (.Assign [.Name x p] (.ListComp elt [⟨tg, iter, ifs, 0⟩] scope pos) pos') (sSetO i (dLc mi mt tt me (own.map (·.2)))) W :=
  PS.imp (setLc_pe C own ok hk i hx hl hi hg ht he hs) fun E σ H h => by
    obtain ⟨xs, env, S, w⟩ := h
    exact t_lc (W := W) ⟨xs, env, S, WantS.bindE w fun d env' v H' e s r w' => by
      dsimp only at w'
      rcases put_cases i (.ow d) env' with q | ⟨q, h0⟩ <;> rw [q] at w'
      · exact w'.elim
      · obtain ⟨h1, h2⟩ := s.setOw S i h0 r
        exact w' _ H' h1 h2⟩
end
end Dn

/-! Dn14 -/
set_option Elab.async false
set_option linter.all false
set_option maxRecDepth 100000
set_option maxHeartbeats 1000000
/-! Dn14: built-ins of data. -/
namespace Dn
open PySem PySem.Spec L2
open PyProof.Rows hiding St

section
variable {X : Cx} {P : Program} {w : World} {K : PySem.W.Frag} {mg : Str → Option Value} {base : Heap} {N : List Str} {sc : Scope} {k : Nat} {bk nn : Bool} {g : Ce} {W : WX}
variable {pu pu1 pu2 sh sh1 : Bool} {e e1 a b : Expr} {es : List Expr} {pos p p2 pos' apos cpos : Pos} {m m1 m2 : Ev} {ma : Av} {shs : List Bool} {x : Str} {c : Cc} {T : String}

/-! ### isinstance with one built-in type -/
def D.ty : D → Option String
  | .non => some "NoneType"
  | .bl _ => some "bool"
  | .int _ => some "int"
  | .str _ => some "str"
  | .tup _ => some "tuple"
  | .lst _ => some "list"
  | .dct _ _ => none
  | .scr _ => some "list"
  | .fn _ => none
/-- is a value of type t one of T -/
def isTy (t T : String) : Bool := t == T || (t == "bool" && T == "int")
def dIsi (T : String) (m : Ev) : Ev := fun env => bnd (m env) fun p => match p.1.ty with
  | some t => .ok (.bl (isTy t T), p.2)
  | none => stuck
theorem RepS.ty {Z : Addr → Prop} {H : Hp} {d : D} {v : V} {t : String} (r : RepS c Z H d v) (h : d.ty = some t) : TyX c.K H v (.type t) := by
  cases d with
  | non => cases h; rw [r.non]; exact .base .non
  | bl b => cases h; rw [r.bl]; exact .base (.bl _)
  | int i => cases h; rw [r.int]; exact .base (.int _)
  | str s => cases h; rw [r.str]; exact .base (.str _)
  | tup ds =>
    cases h
    obtain ⟨a, vs, rfl, h1, _⟩ := r.tup
    rcases h1 with (h1 | ⟨o, h1⟩) | ⟨o, its, n, h1, h2, _⟩
    · exact .base (.tup h1)
    · exact .fTuple h1
    · exact .kTuple h1 h2
  | lst ds =>
    cases h
    obtain ⟨a, vs, rfl, h1, _⟩ := r.lst
    exact .base (.lst h1)
  | dct ks ws => cases h
  | scr ns =>
    cases h
    unfold RepS IsD at r
    obtain ⟨a, rfl, h1⟩ := r
    rcases h1 with (h1 | ⟨o, h1⟩) | ⟨o, its, n, h1, h2, _⟩
    · exact .base (.lst (hide_full _ _ h1))
    · exact .base (.frz (hide_full _ _ h1))
    · exact .kList h1 h2
  | fn i => cases h
def KitT (T : String) : Prop := ∀ (K : PySem.W.Frag) (d : D) (t : String), d.ty = some t → PySem.W.kitOne K (.type t) (.type T) = some (isTy t T)
theorem kitT_int : KitT "int" := fun K d t h => by cases d <;> cases h <;> rfl
theorem kitT_bool : KitT "bool" := fun K d t h => by cases d <;> cases h <;> rfl
theorem kitT_str : KitT "str" := fun K d t h => by cases d <;> cases h <;> rfl
theorem kitT_tuple : KitT "tuple" := fun K d t h => by cases d <;> cases h <;> rfl
theorem kitT_list : KitT "list" := fun K d t h => by cases d <;> cases h <;> rfl
theorem kitT_dict : KitT "dict" := fun K d t h => by cases d <;> cases h <;> rfl
theorem e_isi (kt : KitT T) (hg : Gl X "isinstance") (hm : X.mg "isinstance" = none) (hg2 : Gl X x) (hm2 : X.mg x = none) (hv : bootBuiltins x = some (.type T)) (he : DE X g pu sh e m W) (hn : x ≠ "__name__" := by decide) (hdb : (x == ("__debug__" : Str)) = false := by decide)
    (hs : starEach [e, .Name x p2] X.env = (false, eval e X.env) :: starEach [.Name x p2] X.env := by rfl) (hs2 : starEach [.Name x p2] X.env = (false, eval (.Name x p2) X.env) :: starEach [] X.env := by rfl) (hpl : (backTo pos (starEach [.Name x p2] X.env)).any (·.1) = false := by rfl) :
    DE X g pu false (.Call (.Name "isinstance" p) [e, .Name x p2] [] pos) (dIsi T m) W :=
  PE.imp (pe_callB call_isi hg hm rfl (pa_cons he (pa_cons (pe_bltn (v := .ty T) hg2 hm2 hv rfl hn hdb) pa_nil hs2) hs) (by decide) (by decide) hs hpl) fun σ H Q ⟨xs, env, S, w⟩ => ⟨xs, env, S, Want.bind w fun d env' v H' e s r w' => by
    dsimp only at w'
    split at w'
    · rename_i t ht
      exact ⟨v, .ty T, .type t, .type T, _, rfl, .ty T, RepS.ty (c := cc X g) (Rep.shell r) ht, kt _ _ _ ht, w' _ H' s (Rep.of isBl)⟩
    · exact w'.elim⟩

/-! ### built-ins by values -/
def bLen : List D → M D
  | [.lst xs] => .ok (.int xs.length)
  | [.tup xs] => .ok (.int xs.length)
  | [.scr xs] => .ok (.int xs.length)
  | [.str x] => if x.length ≤ maxSeq then .ok (.int x.length) else stuck
  | _ => stuck
theorem bLen_nr : NoRL bLen := fun ds k p h => by
  unfold bLen at h
  split at h <;> (try split at h) <;> cases h
theorem vc_len : VC c (fun xs H Q => ∃ x n, xs = [x] ∧ LenV c.K x H n ∧ Q (.int n) H) bLen := fun Z H vs ds d Q hP r e k => by
  unfold bLen at e
  split at e
  · obtain ⟨v, rfl, r1⟩ := r.one
    obtain ⟨a, ws, rfl, h1, h2⟩ := r1.lst
    cases e
    exact ⟨.ref a, ws.length, rfl, .inl ⟨ws, SqL.of h1, rfl⟩, by rw [← h2.len]; exact k _ H (Same.refl _) isInt⟩
  · obtain ⟨v, rfl, r1⟩ := r.one
    obtain ⟨a, ws, rfl, h1, h2⟩ := r1.tup
    cases e
    exact ⟨.ref a, ws.length, rfl, .inr ⟨ws, h1, rfl⟩, by rw [← h2.len]; exact k _ H (Same.refl _) isInt⟩
  · obtain ⟨v, rfl, r1⟩ := r.one
    unfold RepS IsD at r1
    obtain ⟨a, rfl, h1⟩ := r1
    cases e
    exact ⟨.ref a, _, rfl, .inl ⟨_, SqL.hid h1, rfl⟩, by rw [List.length_map]; exact k _ H (Same.refl _) isInt⟩
  · split at e
    · rename_i hz
      obtain ⟨v, rfl, r1⟩ := r.one
      rw [r1.str]
      cases e
      exact ⟨.str _, _, rfl, ⟨by rw [maxSeq_eq]; exact hz, rfl⟩, k _ H (Same.refl _) isInt⟩
    · cases e
  · cases e
def bList : List D → M D
  | [.lst xs] => .ok (.lst xs)
  | [.tup xs] => .ok (.lst xs)
  | [.scr xs] => .ok (.lst (xs.map D.int))
  | _ => stuck
theorem bList_nr : NoRL bList := fun ds k p h => by
  unfold bList at h
  split at h <;> cases h
theorem repV_lst {Z : Addr → Prop} {H : Hp} {ds : List D} {vs : List V} {p : Addr} (hp : H p = none) (r : IsDs c (hide H Z) ds vs) : RepV c Z H (upd H p (.lst vs)) (.lst ds) (.ref p) := by
  refine ⟨p, _, rfl, hp, upd_same, vs, rfl, r.same fun b o hb => ?_⟩
  obtain ⟨h1, h2⟩ := hide_some hb
  have ne : b ≠ p := ne_of_none h2 hp
  rw [hide_of fun z => z.elim h1 ne, upd_ne ne]
  exact h2
theorem vcf_list : VCF c (fun xs H Q => ∃ p ys, xs = [.ref p] ∧ (SqL c.K H p ys ∨ SqT c.K H p ys) ∧ ∀ l, H l = none → Q (.ref l) (upd H l (.lst ys))) bList := fun Z H vs ds d Q hP r e k => by
  unfold bList at e
  split at e
  · obtain ⟨v, rfl, r1⟩ := r.one
    obtain ⟨a, ws, rfl, h1, h2⟩ := r1.lst
    cases e
    exact ⟨a, ws, rfl, .inl (SqL.of h1), fun l hl => k _ _ (same_new hl) (repV_lst hl h2)⟩
  · obtain ⟨v, rfl, r1⟩ := r.one
    obtain ⟨a, ws, rfl, h1, h2⟩ := r1.tup
    cases e
    exact ⟨a, ws, rfl, .inr h1, fun l hl => k _ _ (same_new hl) (repV_lst hl h2)⟩
  · obtain ⟨v, rfl, r1⟩ := r.one
    unfold RepS IsD at r1
    obtain ⟨a, rfl, h1⟩ := r1
    cases e
    exact ⟨a, _, rfl, .inl (SqL.hid h1), fun l hl => k _ _ (same_new hl) (repV_lst hl (isDs_ints _))⟩
  · cases e
def bTuple : List D → M D
  | [.lst xs] => .ok (.tup xs)
  | [.tup xs] => .ok (.tup xs)
  | _ => stuck
theorem bTuple_nr : NoRL bTuple := fun ds k p h => by
  unfold bTuple at h
  split at h <;> cases h
theorem vc_tuple : VC c (fun xs H Q => ∃ p ys, xs = [.ref p] ∧ ((SqL c.K H p ys ∧ ∀ l, H l = none → Q (.ref l) (upd H l (.tup ys))) ∨ (SqT c.K H p ys ∧ Q (.ref p) H))) bTuple := fun Z H vs ds d Q hP r e k => by
  unfold bTuple at e
  split at e
  · obtain ⟨v, rfl, r1⟩ := r.one
    obtain ⟨a, ws, rfl, h1, h2⟩ := r1.lst
    cases e
    exact ⟨a, ws, rfl, .inl ⟨SqL.of h1, fun l hl => k _ _ (same_new hl) (isNewT hl hP h2)⟩⟩
  · obtain ⟨v, rfl, r1⟩ := r.one
    have r0 := r1
    obtain ⟨a, ws, rfl, h1, h2⟩ := r1.tup
    cases e
    exact ⟨a, ws, rfl, .inr ⟨h1, k _ H (Same.refl _) r0⟩⟩
  · cases e
def bools : List D → Option (List Bool)
  | [] => some []
  | .bl b :: r => (bools r).map (b :: ·)
  | _ => none
theorem bools_rep {H : Hp} : ∀ {ds : List D} {vs : List V} {bs : List Bool}, bools ds = some bs → IsDs c H ds vs → vs = bs.map V.bl
  | [], vs, bs, h, r => by unfold IsDs at r; cases h; exact r
  | d :: ds, vs, bs, h, r => by
    unfold IsDs at r
    obtain ⟨v, ws, rfl, h1, h2⟩ := r
    cases d <;> simp only [bools] at h <;> try (cases h; done)
    rename_i b
    cases q : bools ds with
    | none => rw [q] at h; cases h
    | some cs =>
      rw [q] at h
      cases h
      rw [bools_rep q h2]
      unfold IsD at h1
      rw [h1]; rfl
def bAll : List D → M D
  | [.lst xs] => match bools xs with
    | some bs => .ok (.bl (bs.all id))
    | none => stuck
  | _ => stuck
def bAny : List D → M D
  | [.lst xs] => match bools xs with
    | some bs => .ok (.bl (bs.any id))
    | none => stuck
  | _ => stuck
theorem bAll_nr : NoRL bAll := fun ds k p h => by
  unfold bAll at h
  split at h <;> (try split at h) <;> cases h
theorem bAny_nr : NoRL bAny := fun ds k p h => by
  unfold bAny at h
  split at h <;> (try split at h) <;> cases h
theorem vc_all : VC c (rAll c.K) bAll := fun Z H vs ds d Q hP r e k => by
  unfold bAll at e
  split at e
  · split at e
    · rename_i bs hb
      obtain ⟨v, rfl, r1⟩ := r.one
      obtain ⟨a, ws, rfl, h1, h2⟩ := r1.lst
      cases e
      exact ⟨a, bs, rfl, by rw [← bools_rep hb h2]; exact SqL.of h1, k _ H (Same.refl _) isBl⟩
    · cases e
  · cases e
theorem vc_any : VC c (rAny c.K) bAny := fun Z H vs ds d Q hP r e k => by
  unfold bAny at e
  split at e
  · split at e
    · rename_i bs hb
      obtain ⟨v, rfl, r1⟩ := r.one
      obtain ⟨a, ws, rfl, h1, h2⟩ := r1.lst
      cases e
      exact ⟨a, bs, rfl, by rw [← bools_rep hb h2]; exact SqL.of h1, k _ H (Same.refl _) isBl⟩
    · cases e
  · cases e
def intsOf : List D → Option (List Int)
  | [] => some []
  | .int i :: r => (intsOf r).map (i :: ·)
  | _ => none
theorem intsOf_rep {H : Hp} : ∀ {ds : List D} {vs : List V} {bs : List Int}, intsOf ds = some bs → IsDs c H ds vs → vs = bs.map V.int
  | [], vs, bs, h, r => by unfold IsDs at r; cases h; exact r
  | d :: ds, vs, bs, h, r => by
    unfold IsDs at r
    obtain ⟨v, ws, rfl, h1, h2⟩ := r
    cases d <;> simp only [intsOf] at h <;> try (cases h; done)
    rename_i b
    cases q : intsOf ds with
    | none => rw [q] at h; cases h
    | some cs =>
      rw [q] at h
      cases h
      rw [intsOf_rep q h2]
      unfold IsD at h1
      rw [h1]; rfl
def bAbs : List D → M D
  | [.int i] => .ok (.int (if i < 0 then -i else i))
  | _ => stuck
theorem bAbs_nr : NoRL bAbs := fun ds k p h => by
  unfold bAbs at h
  split at h <;> cases h
theorem vc_abs : VC c (fun xs H Q => ∃ i, xs = [.int i] ∧ Q (.int (if i < 0 then -i else i)) H) bAbs := fun Z H vs ds d Q hP r e k => by
  unfold bAbs at e
  split at e
  · obtain ⟨v, rfl, r1⟩ := r.one
    rw [r1.int]
    cases e
    exact ⟨_, rfl, k _ H (Same.refl _) isInt⟩
  · cases e
def bInt : List D → M D
  | [.int i] => .ok (.int i)
  | [.bl b] => .ok (.int (if b = true then 1 else 0))
  | _ => stuck
theorem bInt_nr : NoRL bInt := fun ds k p h => by
  unfold bInt at h
  split at h <;> cases h
theorem vc_int : VC c (fun xs H Q => (∃ i, xs = [.int i] ∧ Q (.int i) H) ∨ ∃ k, xs = [.bl k] ∧ Q (.int (if k then 1 else 0)) H) bInt := fun Z H vs ds d Q hP r e k => by
  unfold bInt at e
  split at e
  · obtain ⟨v, rfl, r1⟩ := r.one
    rw [r1.int]
    cases e
    exact .inl ⟨_, rfl, k _ H (Same.refl _) isInt⟩
  · obtain ⟨v, rfl, r1⟩ := r.one
    rw [r1.bl]
    cases e
    exact .inr ⟨_, rfl, k _ H (Same.refl _) isInt⟩
  · cases e
/-- the least, the greatest -/
def leastOf : List Int → Option Int
  | [] => none
  | i :: r => match leastOf r with
    | some j => some (if j < i then j else i)
    | none => some i
def mostOf : List Int → Option Int
  | [] => none
  | i :: r => match mostOf r with
    | some j => some (if i < j then j else i)
    | none => some i
theorem leastOf_le : ∀ {ns : List Int} {m : Int}, leastOf ns = some m → m ∈ ns ∧ ∀ y ∈ ns, m ≤ y
  | [], m, h => by cases h
  | i :: r, m, h => by
    unfold leastOf at h
    cases q : leastOf r with
    | none =>
      rw [q] at h; cases h
      cases r with
      | nil => simp
      | cons j r => unfold leastOf at q; split at q <;> cases q
    | some j =>
      rw [q] at h; cases h
      obtain ⟨h1, h2⟩ := leastOf_le q
      split
      · refine ⟨List.mem_cons_of_mem _ h1, fun y hy => ?_⟩
        rcases List.mem_cons.mp hy with rfl | hy
        · omega
        · exact h2 y hy
      · refine ⟨List.mem_cons_self, fun y hy => ?_⟩
        rcases List.mem_cons.mp hy with rfl | hy
        · omega
        · have := h2 y hy; omega
theorem mostOf_le : ∀ {ns : List Int} {m : Int}, mostOf ns = some m → m ∈ ns ∧ ∀ y ∈ ns, y ≤ m
  | [], m, h => by cases h
  | i :: r, m, h => by
    unfold mostOf at h
    cases q : mostOf r with
    | none =>
      rw [q] at h; cases h
      cases r with
      | nil => simp
      | cons j r => unfold mostOf at q; split at q <;> cases q
    | some j =>
      rw [q] at h; cases h
      obtain ⟨h1, h2⟩ := mostOf_le q
      split
      · refine ⟨List.mem_cons_of_mem _ h1, fun y hy => ?_⟩
        rcases List.mem_cons.mp hy with rfl | hy
        · omega
        · exact h2 y hy
      · refine ⟨List.mem_cons_self, fun y hy => ?_⟩
        rcases List.mem_cons.mp hy with rfl | hy
        · omega
        · have := h2 y hy; omega
def bMin : List D → M D
  | [.int i, .int j] => .ok (.int (if j < i then j else i))
  | [.lst xs] => match (intsOf xs).bind leastOf with
    | some m => .ok (.int m)
    | none => stuck
  | [.tup xs] => match (intsOf xs).bind leastOf with
    | some m => .ok (.int m)
    | none => stuck
  | _ => stuck
def bMax : List D → M D
  | [.int i, .int j] => .ok (.int (if j > i then j else i))
  | [.lst xs] => match (intsOf xs).bind mostOf with
    | some m => .ok (.int m)
    | none => stuck
  | [.tup xs] => match (intsOf xs).bind mostOf with
    | some m => .ok (.int m)
    | none => stuck
  | _ => stuck
def bSum : List D → M D
  | [.lst xs] => match intsOf xs with
    | some ns => .ok (.int ns.sum)
    | none => stuck
  | [.tup xs] => match intsOf xs with
    | some ns => .ok (.int ns.sum)
    | none => stuck
  | _ => stuck
theorem bMin_nr : NoRL bMin := fun ds k p h => by
  unfold bMin at h
  split at h <;> (try split at h) <;> cases h
theorem bMax_nr : NoRL bMax := fun ds k p h => by
  unfold bMax at h
  split at h <;> (try split at h) <;> cases h
theorem bSum_nr : NoRL bSum := fun ds k p h => by
  unfold bSum at h
  split at h <;> (try split at h) <;> cases h
end
end Dn

/-! Dn15 -/
set_option Elab.async false
set_option linter.all false
set_option maxRecDepth 100000
set_option maxHeartbeats 1000000
/-! Dn15: sum, min, max of tuples; enumerate over tuples. -/
namespace Dn
open PySem PySem.Spec L2
open PyProof.Rows hiding St

/-! ### walks of a tuple of ints -/
section
variable {prog : Program} {w : World} {A : Around} {E : Value → Shared → Prop} {s : Shared} {l : Addr} {xs : Array (Int × Tok)}
theorem iter_tupI {items : Array Value} {Q : Value → Shared → Prop} (hl : s.heap.IsTuple l items)
    (h : ∀ s2 : Shared, s2 = { s with heap := s.heap.push { cls := .type "tuple_iterator", data := .fields #[.ref l, .int 0 0] } } →
      (s2.heap.IsTupleIter s.heap.objs.size l 0 ∧ s2.heap.IsTuple l items) → (∀ b ∈ [s.heap.objs.size, l], b < s2.heap.objs.size) → l ≠ s.heap.objs.size → Q (.ref s.heap.objs.size) s2) :
    wpAny (model prog w) A (pyIter (.ref l)) Q E s := by
  have hlt : l < s.heap.objs.size := by obtain ⟨_, e, _⟩ := hl; exact Heap.lt_size e
  refine wpAny_pyIter_tuple hl (h _ rfl ⟨⟨_, Heap.get?_push_size _ rfl, rfl, rfl⟩, hl.push _⟩ (fun b hb => ?_) (Nat.ne_of_lt hlt))
  show b < (s.heap.push _).objs.size
  rw [Heap.size_push]
  rcases List.mem_cons.mp hb with rfl | hb
  · exact Nat.lt_succ_self _
  · rw [List.mem_singleton.mp hb]; exact Nat.lt_succ_of_lt hlt
theorem kept_old {h' : Heap} {o : Obj} (hk : ∀ b u, b ∉ [s.heap.objs.size] → (s.heap.push o).get? b = some u → h'.get? b = some u) (b : Addr) (u : Obj) (e : s.heap.get? b = some u) : h'.get? b = some u :=
  hk b u (fun z => by rw [List.mem_singleton] at z; subst z; exact absurd (Heap.lt_size e) (Nat.lt_irrefl _)) (Heap.get?_push_of_some _ e)
theorem sum_tupI {Q : Value → Shared → Prop} (hh : A.handled = none) (hl : s.heap.IsTuple l (intItems xs))
    (h : ∀ h' tk t', (∀ b o, s.heap.get? b = some o → h'.get? b = some o) → Q (.int (preSum (numAt xs) xs.size) t') { s with heap := h', toks := tk }) :
    wpAny (model prog w) A (call (.builtin "sum") [.ref l]) Q E s := by
  refine call_sum_walkG (iter_tupI hl fun s2 e st hfp hlI => ?_)
  subst e
  refine ⟨_, _, _, _, _, _, numAt xs, rfl, Walks.tuple (A := A.in1) hh _ l hlI (intItems xs), st, hfp, (fun _ _ => intItems_at), fun h' tk t' hk => ?_⟩
  have := h h' tk t' (kept_old hk)
  simpa [intItems] using this
theorem max_tupI {Q : Value → Shared → Prop} (hh : A.handled = none) (hl : s.heap.IsTuple l (intItems xs)) (hne : 0 < xs.size)
    (h : ∀ v h' tk, (intItems xs)[argBest (fun i j => decide (numAt xs i > numAt xs j)) (xs.size - 1)]? = some v → (∀ b o, s.heap.get? b = some o → h'.get? b = some o) → Q v { s with heap := h', toks := tk }) :
    wpAny (model prog w) A (call (.builtin "max") [.ref l]) Q E s := by
  refine call_max_walk (iter_tupI hl fun s2 e st hfp hlI => ?_)
  subst e
  refine ⟨_, _, _, _, _, _, _, rfl, Walks.tuple (A := A.in1) hh _ l hlI (intItems xs), st, hfp, by simpa [intItems] using hne, CmpOf.ints_gt (numAt xs) (fun _ _ => intItems_at), fun v h' tk hP hk => ?_⟩
  exact h v h' tk (by simpa [intItems] using hP) (kept_old hk)
theorem min_tupI {Q : Value → Shared → Prop} (hh : A.handled = none) (hl : s.heap.IsTuple l (intItems xs)) (hne : 0 < xs.size)
    (h : ∀ v h' tk, (intItems xs)[argBest (fun i j => decide (numAt xs i < numAt xs j)) (xs.size - 1)]? = some v → (∀ b o, s.heap.get? b = some o → h'.get? b = some o) → Q v { s with heap := h', toks := tk }) :
    wpAny (model prog w) A (call (.builtin "min") [.ref l]) Q E s := by
  refine call_min_walk (iter_tupI hl fun s2 e st hfp hlI => ?_)
  subst e
  refine ⟨_, _, _, _, _, _, _, rfl, Walks.tuple (A := A.in1) hh _ l hlI (intItems xs), st, hfp, by simpa [intItems] using hne, CmpOf.ints_lt (numAt xs) (fun _ _ => intItems_at), fun v h' tk hP hk => ?_⟩
  exact h v h' tk (by simpa [intItems] using hP) (kept_old hk)
end
section
variable {X : Cx} {c : Cc}
def rSumT (K : PySem.W.Frag) : RC := fun vs H Q => ∃ (a : Addr) (ns : List Int), vs = [V.ref a] ∧ SqT K H a (ns.map V.int) ∧ Q (.int ns.sum) H
def rMaxT (K : PySem.W.Frag) : RC := fun vs H Q => ∃ (a : Addr) (ns : List Int), vs = [V.ref a] ∧ SqT K H a (ns.map V.int) ∧ 0 < ns.length ∧ ∀ m, m ∈ ns → (∀ y, y ∈ ns → y ≤ m) → Q (.int m) H
def rMinT (K : PySem.W.Frag) : RC := fun vs H Q => ∃ (a : Addr) (ns : List Int), vs = [V.ref a] ∧ SqT K H a (ns.map V.int) ∧ 0 < ns.length ∧ ∀ m, m ∈ ns → (∀ y, y ∈ ns → m ≤ y) → Q (.int m) H
theorem cr_sumT (hc : X.calm = true) : CallR X (.builtin "sum") (rSumT X.K) := by
  intro pins s σ H vs us Q I r h
  obtain ⟨a, ns, rfl, hs, q⟩ := h
  obtain ⟨its, rv, hl, _⟩ := I.tuple hs
  rw [Vals.ref1 r]
  obtain ⟨xs, e⟩ := rv.ints.allInts.items
  have hn : numsOf (intItems xs).toList = ns := by rw [← e]; exact rv.ints.numsOf
  rw [nums_intItems] at hn
  have hl' : s.heap.IsTuple a its.toArray := hl
  rw [e] at hl'
  refine sum_tupI (I.ok.hd hc) hl' fun h' tk t' hk => ?_
  rw [preSum_eq, List.take_of_length_le (by simp), hn]
  exact ⟨.int _, H, I.kept hk, ⟨_, rfl⟩, q⟩
theorem cr_maxT (hc : X.calm = true) : CallR X (.builtin "max") (rMaxT X.K) := by
  intro pins s σ H vs us Q I r h
  obtain ⟨a, ns, rfl, hs, hne, q⟩ := h
  obtain ⟨its, rv, hl, _⟩ := I.tuple hs
  rw [Vals.ref1 r]
  obtain ⟨xs, e⟩ := rv.ints.allInts.items
  have hn : numsOf (intItems xs).toList = ns := by rw [← e]; exact rv.ints.numsOf
  rw [nums_intItems] at hn
  subst hn
  have hl' : s.heap.IsTuple a its.toArray := hl
  rw [e] at hl'
  have hsz : 0 < xs.size := by simpa using hne
  refine max_tupI (I.ok.hd hc) hl' hsz fun v h' tk hv hk => ?_
  obtain ⟨t, rfl⟩ := intItems_at hv
  obtain ⟨h1, h2⟩ := argBest_gt (numAt xs) (xs.size - 1)
  refine ⟨.int _, H, I.kept hk, ⟨_, rfl⟩, q _ ?_ fun y hy => ?_⟩
  · rw [numAt_eq]; exact PySem.getD_mem (by rw [List.length_map, Array.length_toList]; omega)
  · obtain ⟨j, hj, rfl⟩ := mem_getD hy
    rw [List.length_map, Array.length_toList] at hj
    rw [← numAt_eq]; exact h2 j (by omega)
theorem cr_minT (hc : X.calm = true) : CallR X (.builtin "min") (rMinT X.K) := by
  intro pins s σ H vs us Q I r h
  obtain ⟨a, ns, rfl, hs, hne, q⟩ := h
  obtain ⟨its, rv, hl, _⟩ := I.tuple hs
  rw [Vals.ref1 r]
  obtain ⟨xs, e⟩ := rv.ints.allInts.items
  have hn : numsOf (intItems xs).toList = ns := by rw [← e]; exact rv.ints.numsOf
  rw [nums_intItems] at hn
  subst hn
  have hl' : s.heap.IsTuple a its.toArray := hl
  rw [e] at hl'
  have hsz : 0 < xs.size := by simpa using hne
  refine min_tupI (I.ok.hd hc) hl' hsz fun v h' tk hv hk => ?_
  obtain ⟨t, rfl⟩ := intItems_at hv
  obtain ⟨h1, h2⟩ := argBest_lt (numAt xs) (xs.size - 1)
  refine ⟨.int _, H, I.kept hk, ⟨_, rfl⟩, q _ ?_ fun y hy => ?_⟩
  · rw [numAt_eq]; exact PySem.getD_mem (by rw [List.length_map, Array.length_toList]; omega)
  · obtain ⟨j, hj, rfl⟩ := mem_getD hy
    rw [List.length_map, Array.length_toList] at hj
    rw [← numAt_eq]; exact h2 j (by omega)
def rSumA (K : PySem.W.Frag) : RC := fun vs H Q => rSum K vs H Q ∨ rSumT K vs H Q
def rMinA (K : PySem.W.Frag) : RC := fun vs H Q => (∃ i j, vs = [.int i, .int j] ∧ Q (.int (if j < i then j else i)) H) ∨ rMin K vs H Q ∨ rMinT K vs H Q
def rMaxA (K : PySem.W.Frag) : RC := fun vs H Q => (∃ i j, vs = [.int i, .int j] ∧ Q (.int (if j > i then j else i)) H) ∨ rMax K vs H Q ∨ rMaxT K vs H Q
theorem cr_sumA (hc : X.calm = true) : CallR X (.builtin "sum") (rSumA X.K) := CallR.or (cr_sum hc) (cr_sumT hc)
theorem cr_minA (hc : X.calm = true) : CallR X (.builtin "min") (rMinA X.K) := CallR.or (call_min2 hc) (CallR.or (cr_min hc) (cr_minT hc))
theorem cr_maxA (hc : X.calm = true) : CallR X (.builtin "max") (rMaxA X.K) := CallR.or (call_max2 hc) (CallR.or (cr_max hc) (cr_maxT hc))
theorem vc_sum : VC c (rSumA c.K) bSum := fun Z H vs ds d Q hP r e k => by
  unfold bSum at e
  split at e
  · split at e
    · rename_i ns hb
      obtain ⟨v, rfl, r1⟩ := r.one
      obtain ⟨a, ws, rfl, h1, h2⟩ := r1.lst
      cases e
      exact .inl ⟨a, ns, rfl, by rw [← intsOf_rep hb h2]; exact SqL.of h1, k _ H (Same.refl _) isInt⟩
    · cases e
  · split at e
    · rename_i ns hb
      obtain ⟨v, rfl, r1⟩ := r.one
      obtain ⟨a, ws, rfl, h1, h2⟩ := r1.tup
      cases e
      exact .inr ⟨a, ns, rfl, by rw [← intsOf_rep hb h2]; exact h1, k _ H (Same.refl _) isInt⟩
    · cases e
  · cases e
theorem least_uniq {ns : List Int} {m m' : Int} (h : leastOf ns = some m) (h1 : m' ∈ ns) (h2 : ∀ y ∈ ns, m' ≤ y) : m' = m := by
  obtain ⟨a, b⟩ := leastOf_le h
  have := b _ h1
  have := h2 _ a
  omega
theorem most_uniq {ns : List Int} {m m' : Int} (h : mostOf ns = some m) (h1 : m' ∈ ns) (h2 : ∀ y ∈ ns, y ≤ m') : m' = m := by
  obtain ⟨a, b⟩ := mostOf_le h
  have := b _ h1
  have := h2 _ a
  omega
theorem vc_min : VC c (rMinA c.K) bMin := fun Z H vs ds d Q hP r e k => by
  unfold bMin at e
  split at e
  · obtain ⟨v, v2, rfl, r1, r2⟩ := r.two
    rw [r1.int, r2.int]
    cases e
    exact .inl ⟨_, _, rfl, k _ H (Same.refl _) isInt⟩
  · split at e
    · rename_i m hb
      obtain ⟨v, rfl, r1⟩ := r.one
      obtain ⟨a, ws, rfl, h1, h2⟩ := r1.lst
      cases e
      obtain ⟨ns, q1, q2⟩ := Option.bind_eq_some_iff.mp hb
      refine .inr (.inl ⟨a, ns, rfl, by rw [← intsOf_rep q1 h2]; exact SqL.of h1, List.length_pos_of_mem (leastOf_le q2).1, fun m' h3 h4 => ?_⟩)
      rw [least_uniq q2 h3 h4]
      exact k _ H (Same.refl _) isInt
    · cases e
  · split at e
    · rename_i m hb
      obtain ⟨v, rfl, r1⟩ := r.one
      obtain ⟨a, ws, rfl, h1, h2⟩ := r1.tup
      cases e
      obtain ⟨ns, q1, q2⟩ := Option.bind_eq_some_iff.mp hb
      refine .inr (.inr ⟨a, ns, rfl, by rw [← intsOf_rep q1 h2]; exact h1, List.length_pos_of_mem (leastOf_le q2).1, fun m' h3 h4 => ?_⟩)
      rw [least_uniq q2 h3 h4]
      exact k _ H (Same.refl _) isInt
    · cases e
  · cases e
theorem vc_max : VC c (rMaxA c.K) bMax := fun Z H vs ds d Q hP r e k => by
  unfold bMax at e
  split at e
  · obtain ⟨v, v2, rfl, r1, r2⟩ := r.two
    rw [r1.int, r2.int]
    cases e
    exact .inl ⟨_, _, rfl, k _ H (Same.refl _) isInt⟩
  · split at e
    · rename_i m hb
      obtain ⟨v, rfl, r1⟩ := r.one
      obtain ⟨a, ws, rfl, h1, h2⟩ := r1.lst
      cases e
      obtain ⟨ns, q1, q2⟩ := Option.bind_eq_some_iff.mp hb
      refine .inr (.inl ⟨a, ns, rfl, by rw [← intsOf_rep q1 h2]; exact SqL.of h1, List.length_pos_of_mem (mostOf_le q2).1, fun m' h3 h4 => ?_⟩)
      rw [most_uniq q2 h3 h4]
      exact k _ H (Same.refl _) isInt
    · cases e
  · split at e
    · rename_i m hb
      obtain ⟨v, rfl, r1⟩ := r.one
      obtain ⟨a, ws, rfl, h1, h2⟩ := r1.tup
      cases e
      obtain ⟨ns, q1, q2⟩ := Option.bind_eq_some_iff.mp hb
      refine .inr (.inr ⟨a, ns, rfl, by rw [← intsOf_rep q1 h2]; exact h1, List.length_pos_of_mem (mostOf_le q2).1, fun m' h3 h4 => ?_⟩)
      rw [most_uniq q2 h3 h4]
      exact k _ H (Same.refl _) isInt
    · cases e
  · cases e
end

/-! ### enumerate over a tuple -/
theorem meets_enumT (l : Addr) (items : Array Value) (n : Nat) (dct : Option Addr) (sl : Array (Option Value)) :
    Meets (Builtin.«enumerate.__new__» ⟨[.type "enumerate", .ref l], []⟩) (fun _ R s => s.heap.get? l = some { cls := .type "tuple", dict := dct, data := .seq items n, slots := sl } ∧
      R (.ok (.ret (.ref (s.heap.push { cls := .type "tuple_iterator", data := .fields #[.ref l, .int 0 0] }).objs.size)))
        { s with heap := (s.heap.push { cls := .type "tuple_iterator", data := .fields #[.ref l, .int 0 0] }).push { cls := .type "enumerate", data := .fields #[.none, .bool false, .ref s.heap.objs.size, rawInt 0, .none, .none] } }) :=
  .of_wp fun prog w A R s h => by
    obtain ⟨hp, g, d, tk, os⟩ := s; obtain ⟨h1, h⟩ := h
    have hsub := sub_enumerate
    have hl : (⟨hp, g, d, tk, os⟩ : Shared).heap.IsTuple l items := ⟨_, h1, rfl, _, rfl⟩
    have q1 : ∀ {A' : Around} {E : Value → Shared → Prop} {Q : Value → Shared → Prop}, Q (.ref hp.objs.size) ⟨hp.push { cls := .type "tuple_iterator", data := .fields #[.ref l, .int 0 0] }, g, d, tk, os⟩ → wpAny (model prog w) A' (pyIter (.ref l)) Q E ⟨hp, g, d, tk, os⟩ :=
      fun q => wpAny_pyIter_tuple hl q
    wp_walk using q1
    refine wpAny_stack_any fun st => wpAny_pure ?_
    split
    · rename_i c _ _ _ _ _
      cases (c == Value.type "enumerate")
      · wp_walk using q1
        exact ⟨_, rfl, h⟩
      · wp_walk using q1
        exact ⟨_, rfl, h⟩
    · wp_walk using q1
      exact ⟨_, rfl, h⟩
theorem call_enumT {prog : Program} {w : World} {A : Around} {E : Value → Shared → Prop} {s : Shared} {l : Addr} {items : Array Value} {Q : Value → Shared → Prop} (hL : s.heap.IsTuple l items)
    (h : ∀ h', IsEnum h' (s.heap.objs.size + 1) s.heap.objs.size 0 .none → h'.IsTupleIter s.heap.objs.size l 0 → h'.objs.size = s.heap.objs.size + 2 →
      (∀ b o, s.heap.get? b = some o → h'.get? b = some o) → Q (.ref (s.heap.objs.size + 1)) { s with heap := h' }) :
    wpAny (model prog w) A (call (.type "enumerate") [.ref l]) Q E s := by
  obtain ⟨⟨c, dct, dt, sl⟩, hl, hc, n, hd⟩ := hL
  simp only at hc hd
  subst hc hd
  refine callType_new F.called_enumerate (by decide) (F.typeCall_enumerate_1 _) (F.newCall_enumerate_1 _) (fun obj => F.args_object_init_2 obj _) F.entry_enumerate_new
    (meets_enumT l items n dct sl) ⟨hl, ?_⟩
  have hz : (s.heap.push { cls := .type "tuple_iterator", data := .fields #[.ref l, .int 0 0] }).objs.size = s.heap.objs.size + 1 := Heap.size_push ..
  show _ ∧ _
  rw [hz]
  have he : IsEnum ((s.heap.push { cls := .type "tuple_iterator", data := .fields #[.ref l, .int 0 0] }).push { cls := .type "enumerate", data := .fields #[.none, .bool false, .ref s.heap.objs.size, rawInt 0, .none, .none] }) (s.heap.objs.size + 1) s.heap.objs.size 0 .none := by
    have := Heap.get?_push_size (s.heap.push { cls := .type "tuple_iterator", data := .fields #[.ref l, .int 0 0] }) (o := { cls := .type "enumerate", data := .fields #[.none, .bool false, .ref s.heap.objs.size, rawInt 0, .none, .none] }) rfl
    rw [hz] at this; exact this
  exact ⟨⟨_, he, rfl⟩, h _ he ⟨_, Heap.get?_push_of_some _ (Heap.get?_push_size _ rfl), rfl, rfl⟩ (by rw [Heap.size_push, hz]) fun b o x => Heap.get?_push_of_some _ (Heap.get?_push_of_some _ x)⟩
/-- the tuple at a, each item in a new pair -/
def IteT (K : PySem.W.Frag) (a : Addr) : It :=
  ⟨fun i H => ∃ (xs : List V) (x : V), SqT K H a xs ∧ xs[i]? = some x, fun i H v H' => ∃ T x, v = .ref T ∧ H T = none ∧ H' = upd H T (.tup [.int (i : Nat), x]) ∧ ∀ xs, SqT K H a xs → xs[i]? = some x, fun i H => ∃ xs : List V, SqT K H a xs ∧ xs.length = i⟩
theorem turn_enumT {P : Program} {w : World} {K : PySem.W.Frag} {elts : List Expr} {kk : Nat} {tpos : Pos} (a e it : Addr) (hea : e ≠ a) (hia : it ≠ a) :
    Turn P w K (.Tuple elts kk tpos) (IteT K a) [e, it] e (fun i h => (∃ old, IsEnum h e it ((i : Nat) : Int) old) ∧ h.IsTupleIter it a i ∧ e ≠ it) where
  mem := by simp
  obj := fun i h st b hb => by
    obtain ⟨⟨old, he⟩, ⟨o, ho, hc, hd⟩, _⟩ := st
    have e' : b = e ∨ b = it := by simpa using hb
    rcases e' with z | z
    · rw [z]; exact ⟨_, he, fun v q => nomatch q⟩
    · rw [z]; exact ⟨o, ho, fun v q => by rw [hd] at q; cases q⟩
  keep := fun i h h' st k => let ⟨⟨old, he⟩, hi, hne⟩ := st; ⟨⟨old, k e (by simp) _ he⟩, hi.at fun o q => k it (by simp) o q, hne⟩
  item := by
    intro X hP hw hK hc i pins s σ H E I hf st hg
    subst hP hw hK
    obtain ⟨⟨old, he⟩, hit, hne⟩ := st
    obtain ⟨xs, x, hq, hx⟩ := hg
    obtain ⟨its, rv, pl, hz⟩ := I.tuple hq
    have pl' : s.heap.IsTuple a its.toArray := pl
    obtain ⟨u, hu, ru⟩ := rv.get hx
    have hel : e < s.heap.objs.size := Heap.lt_size he
    have hil : it < s.heap.objs.size := by obtain ⟨_, q, _⟩ := hit; exact Heap.lt_size q
    have hlt : i < its.toArray.size := by simpa using (List.getElem?_eq_some_iff.mp hu).1
    refine wpAny_pyNext_enum_itemC (c := ((i : Nat) : Int)) (Draws.tuple (A := X.A.in1) (I.ok.hd hc) it a (Ne.symm hia) its.toArray) he ⟨hit, pl'⟩ hlt hne (by simp [hne, hea]) fun x' h' tk hP ho st' hT hsz hk => ?_
    have ex : x' = u := by
      have : its[i]? = some x' := by simpa using hP
      rw [hu] at this; cases this; rfl
    subst ex
    refine ⟨_, rfl, wpAny_letOwnedTupleGo_enum (s := { s with heap := h', toks := tk + 1 }) ho fun h'' he' sb => ?_⟩
    have hT2 : h''.get? s.heap.objs.size = some { cls := .type "tuple", data := .seq #[.int i tk, x'] } := (sb.2 _ (Nat.ne_of_gt hel)).trans hT
    have new : ObjOk X.prog X.w (upd H s.heap.objs.size (.tup [.int (i : Nat), x])) h'' s.heap.objs.size (.tup [.int (i : Nat), x]) :=
      ⟨by show 2 ≤ sizeLine; decide, [.int i tk, x'], .cons ⟨_, rfl⟩ (.cons ru .nil), ⟨_, hT2, rfl, _, rfl⟩⟩
    have I1 : Inv X pins σ (upd H s.heap.objs.size (.tup [.int (i : Nat), x])) { s with heap := h'', toks := tk + 1 } :=
      I.turnedNew (ch := [e, it]) (fun b ob hb q => (sb.2 b (fun z => hb (by simp [z]))).trans (hk b ob (fun z => hb (by simp [z])) (fun z => hb (by simp [z])) q)) hf (Nat.le_refl _) new
    refine ⟨.ref s.heap.objs.size, _, I1, rfl, ⟨_, x, rfl, I.hok.fresh (Nat.le_refl _), rfl, fun ys hy => ?_⟩, ⟨⟨x', ?_⟩, st'.1.at fun o q => (sb.2 it (Ne.symm hne)).trans q, hne⟩, fun b hb => ?_⟩
    · rw [I.tuple_inj hy hq]; exact hx
    · have e1 : ((i + 1 : Nat) : Int) = (i : Int) + 1 := by omega
      rw [e1]; exact he'
    · have hb' : b < s.heap.objs.size := by
        have e' : b = e ∨ b = it := by simpa using hb
        rcases e' with z | z
        · rw [z]; exact hel
        · rw [z]; exact hil
      rw [upd_ne (Nat.ne_of_lt hb')]
      exact (hf b hb).1
  done := by
    intro X hP hw hK hc i pins s σ H E I hf st hg
    subst hP hw hK
    obtain ⟨⟨old, he⟩, hit, hne⟩ := st
    obtain ⟨xs, hq, hx⟩ := hg
    obtain ⟨its, rv, pl, hz⟩ := I.tuple hq
    have pl' : s.heap.IsTuple a its.toArray := pl
    obtain ⟨f0, f1, f2, f3, f4, f5⟩ := hf it (by simp)
    have hl := rv.length
    have hi : i = its.toArray.size := by rw [List.size_toArray, ← hl, hx]
    subst hi
    exact wpAny_pyNext_enum_endD (Draws.tuple (A := X.A.in1) (I.ok.hd hc) it a (Ne.symm hia) its.toArray) he ⟨hit, pl'⟩ fun h' eb => ⟨rfl, I.turned (t' := s.toks) (fun b o hb q => eb b o hb q) f0 f1 f3 f4 f5⟩
  self := fun A i s Q E st h => let ⟨⟨_, he⟩, _⟩ := st; wpAny_pyIter_enum he h
def iEnumT (K : PySem.W.Frag) (ta : TA) : TI := fun σ H R => ta σ H fun vs H1 => ∃ a xs, vs = [.ref a] ∧ SqT K H1 a xs ∧ R (IteT K a) H1
theorem pi_enumT {X : Cx} {e : Expr} {ta : TA} {p pos tpos : Pos} {elts : List Expr} {kk : Nat} (hg : Gl X "enumerate") (hm : X.mg "enumerate" = none) (ha : PA X [e] ta) (hs : starEach [e] X.env = [(false, eval e X.env)] := by rfl) :
    PI X (.Tuple elts kk tpos) (.Call (.Name "enumerate" p) [e] [] pos) (iEnumT X.K ta) := by
  refine ⟨fun pins s σ H R I h => ?_⟩
  refine Call_ (ld_blt I hg hm boot_enumerate (PyProof.Rows.callWith_type1 (thn (ha.run pos pins s σ H _ I h) fun us s1 ⟨vs, H1, I1, r1, q1⟩ => ?_) hs rfl))
  obtain ⟨a, xs, ex, hq, q⟩ := q1
  subst ex
  cases r1 with
  | cons r rr =>
    cases rr
    cases r
    obtain ⟨its, rv, p', hz⟩ := I1.tuple hq
    have pl' : s1.heap.IsTuple a its.toArray := p'
    have al : a < s1.heap.objs.size := by obtain ⟨_, e, _⟩ := pl'; exact Heap.lt_size e
    refine call_enumT pl' fun h' he hit hsz hk => wpAny_pyIter_enum he ?_
    have I2 : Inv X pins σ H1 { s1 with heap := h' } := I1.kept (t' := s1.toks) hk
    refine ⟨s1.heap.objs.size + 1, [s1.heap.objs.size + 1, s1.heap.objs.size], _, _, H1, rfl, I2, turn_enumT a (s1.heap.objs.size + 1) s1.heap.objs.size (Nat.ne_of_gt (Nat.lt_succ_of_lt al)) (Nat.ne_of_gt al), ⟨⟨.none, he⟩, hit, Nat.succ_ne_self _⟩, fun b hb => ?_, q⟩
    have e' : b = s1.heap.objs.size + 1 ∨ b = s1.heap.objs.size := by simpa using hb
    have hle : s1.heap.objs.size ≤ b := by
      rcases e' with z | z
      · rw [z]; exact Nat.le_add_right _ _
      · rw [z]; exact Nat.le_refl _
    exact I1.fpOk hle (I1.hok.fresh hle)
theorem walk_enumT {K : PySem.W.Frag} {a : Addr} {xs : List V} : Walk (IteT K a) xs.length (fun H => SqT K H a xs) (YPair (fun i => some (.int (i : Nat))) (fun i => xs[i]?)) := by
  refine ⟨fun i _ hi q => ⟨xs, xs[i], q, by simp [hi]⟩, fun _ q => ⟨xs, q, rfl⟩, fun i H v H' _ q y => ?_⟩
  obtain ⟨T, x, h1, h2, h3, h4⟩ := y
  exact ⟨T, .int (i : Nat), x, h1, h2, h3, rfl, h4 xs q⟩

/-! ### enumerate, zip of data -/
def enumD (ds : List D) : List D := ds.zipIdx.map fun p => .tup [.int (p.2 : Nat), p.1]
theorem enumD_get {ds : List D} {i : Nat} {d : D} (h : (enumD ds)[i]? = some d) : ∃ x, ds[i]? = some x ∧ d = .tup [.int (i : Nat), x] := by
  unfold enumD at h
  rw [List.getElem?_map, List.getElem?_zipIdx] at h
  cases q : ds[i]? with
  | none => rw [q] at h; cases h
  | some x => rw [q] at h; cases h; exact ⟨x, rfl, by simp⟩
theorem enumD_len {ds : List D} : (enumD ds).length = ds.length := by unfold enumD; simp
theorem isNewT' {c : Cc} {Z : Addr → Prop} {H : Hp} {T : Addr} {ds : List D} {vs : List V} (hT : H T = none) (hZ : ∀ a, Z a → H a ≠ none) (r : IsDs c (hide H Z) ds vs) : Same H (upd H T (.tup vs)) ∧ IsD c (hide (upd H T (.tup vs)) Z) (.tup ds) (.ref T) :=
  ⟨same_new hT, isNewT hT hZ r⟩
theorem itok_enum {c : Cc} {G0 : Hp} {a : Addr} {ds : List D} {vs : List V} (h : SqL c.K G0 a vs) (r : IsDs c G0 ds vs) : ItOk c G0 (Ite c.K a) (enumD ds) := by
  refine ⟨fun H => SqL c.K H a vs, _, by rw [enumD_len, r.len]; exact walk_enum, fun H z => z.seq h, fun i x H H' d e z y => ?_⟩
  obtain ⟨T, u, v, rfl, hT, rfl, h1, h2⟩ := y
  obtain ⟨x, e1, rfl⟩ := enumD_get e
  cases h1
  refine ⟨same_new hT, fun Z k hZ => ?_⟩
  obtain ⟨v', h3, h4⟩ := r.getD e1
  rw [show vs[i]? = some v from h2] at h3; cases h3
  exact isNewT hT hZ (IsDs.cons isInt (IsDs.cons (h4.same k) IsDs.nil))
theorem itok_enumT {c : Cc} {G0 : Hp} {a : Addr} {ds : List D} {vs : List V} (h : SqT c.K G0 a vs) (r : IsDs c G0 ds vs) : ItOk c G0 (IteT c.K a) (enumD ds) := by
  refine ⟨fun H => SqT c.K H a vs, _, by rw [enumD_len, r.len]; exact walk_enumT, fun H z => SqT.same z h, fun i x H H' d e z y => ?_⟩
  obtain ⟨T, u, v, rfl, hT, rfl, h1, h2⟩ := y
  obtain ⟨x, e1, rfl⟩ := enumD_get e
  cases h1
  refine ⟨same_new hT, fun Z k hZ => ?_⟩
  obtain ⟨v', h3, h4⟩ := r.getD e1
  rw [show vs[i]? = some v from h2] at h3; cases h3
  exact isNewT hT hZ (IsDs.cons isInt (IsDs.cons (h4.same k) IsDs.nil))
def dEnum (m : Ev) : Iv := fun env => bnd (m env) fun p => match p.1 with
  | .lst xs => .ok (enumD xs, p.2)
  | .tup xs => .ok (enumD xs, p.2)
  | _ => stuck
theorem i_enum {X : Cx} {g : Ce} {W : WX} {pu : Bool} {m : Ev} {e : Expr} {p pos tpos : Pos} {elts : List Expr} {kk : Nat} (hg : Gl X "enumerate") (hm : X.mg "enumerate" = none) (h : DE X g pu false e m W)
    (hs : starEach [e] X.env = [(false, eval e X.env)] := by rfl) (hs2 : starEach [e] X.env = (false, eval e X.env) :: starEach [] X.env := by rfl) : DI X g (.Tuple elts kk tpos) pu (.Call (.Name "enumerate" p) [e] [] pos) (dEnum m) W :=
  PI.imp (PI.or (pi_enum hg hm (pa_cons h pa_nil hs2) hs) (pi_enumT hg hm (pa_cons h pa_nil hs2) hs)) fun σ H Q ⟨xs, env, S, w⟩ => by
    have w0 := w
    unfold dEnum at w0
    cases q : m env with
    | error x =>
      rw [q] at w0
      refine .inl ⟨xs, env, S, ?_⟩
      rw [q]
      cases x with
      | raise k p => exact w0
      | stuck => exact w0.elim
    | ok p =>
      obtain ⟨d, env'⟩ := p
      have key : ∀ {R' : V → Hp → Prop}, (∀ v H', Stp (cc X g) xs pu env env' σ H H' → IsD (cc X g) (hide H' (Hid xs env σ)) d v → R' v H') → tE (cc X g) pu false m W σ H R' := fun k => ⟨xs, env, S, by
        rw [q]; exact fun v H' s r => k v H' s r⟩
      rw [q] at w0
      simp only [bnd_ok] at w0
      split at w0
      · rename_i ds
        refine .inl (key fun v H' s r => ?_)
        unfold IsD at r
        obtain ⟨l, vs, e1, e2, e3⟩ := r
        have hq : SqL X.K (hide H' (Hid xs env σ)) l vs := SqL.of e2
        exact ⟨l, vs, by rw [e1], SqL.hid hq, w0 _ H' s (itok_enum hq e3)⟩
      · rename_i ds
        refine .inr (key fun v H' s r => ?_)
        unfold IsD at r
        obtain ⟨l, vs, e1, e2, e3⟩ := r
        exact ⟨l, vs, by rw [e1], SqT.hid e2, w0 _ H' s (itok_enumT e2 e3)⟩
      · exact w0.elim
end Dn

/-! Dn16 -/
set_option Elab.async false
set_option linter.all false
set_option maxRecDepth 100000
set_option maxHeartbeats 1000000
/-! Dn16: products, slices, stores in subscripts, methods of lists, stores of pairs, augmented stores. -/
namespace Dn
open PySem PySem.Spec L2
open PyProof.Rows hiding St

section
variable {c : Cc}
/-! ### products -/
def repD (k : Int) (ds : List D) : List D := (List.replicate k.toNat ds).flatten
def dMul : D → D → M D
  | .int i, .int j => if mulOk i j = true then .ok (.int (i * j)) else stuck
  | .lst ds, .int k => if (decide (k ≤ 16777216) && decide (-16777216 ≤ k) && decide (ds.length * k.toNat ≤ maxSeq)) = true then .ok (.lst (repD k ds)) else stuck
  | .tup ds, .int k => if (decide (2 ≤ k) && decide (k ≤ 1000) && decide (0 < ds.length) && decide (ds.length ≤ 1000)) = true then .ok (.tup (repD k ds)) else stuck
  | _, _ => stuck
theorem dMul_nr : NoR2 dMul := fun d1 d2 k p h => by
  unfold dMul at h
  split at h <;> (try split at h) <;> cases h
theorem IsDs.rep {H : Hp} {ds : List D} {vs : List V} (r : IsDs c H ds vs) : ∀ n : Nat, IsDs c H (List.replicate n ds).flatten (List.replicate n vs).flatten
  | 0 => IsDs.nil
  | n + 1 => by rw [List.replicate_succ, List.replicate_succ, List.flatten_cons, List.flatten_cons]; exact IsDs.append r (IsDs.rep r n)
def rMulD (K : PySem.W.Frag) : R2 := fun x y H Q => rI CMulW (fun i j => .int (i * j)) x y H Q ∨ rRep x y H Q ∨ rRepT K x y H Q
theorem op_mulD {X : Cx} : OpR X (binaryOp .Mult) (rMulD X.K) := OpR.or op_mulW (OpR.or op_rep op_repT)
theorem vb_mul : VB c (rMulD c.K) dMul := by
  intro P H x y d1 d2 d Q hP r1 r2 e k
  unfold dMul at e
  split at e
  · split at e
    · rename_i h
      cases e
      unfold mulOk at h
      rw [decide_eq_true_eq] at h
      exact .inl ⟨_, _, r1.int, r2.int, h, k _ H (Same.refl _) isInt⟩
    · cases e
  · split at e
    · rename_i h
      simp only [Bool.and_eq_true, decide_eq_true_eq] at h
      cases e
      obtain ⟨a, vs, rfl, h1, h2⟩ := r1.lst
      exact .inr (.inl ⟨a, _, vs, rfl, r2.int, h1, by omega, by omega, by rw [maxSeq_eq, ← h2.len]; exact h.2, fun p hp => k _ _ (same_new hp) (isNewL hp hP (h2.rep _))⟩)
    · cases e
  · split at e
    · rename_i h
      simp only [Bool.and_eq_true, decide_eq_true_eq] at h
      cases e
      obtain ⟨a, vs, rfl, h1, h2⟩ := r1.tup
      have hl := h2.len
      exact .inr (.inr ⟨a, _, vs, rfl, r2.int, h1, fun z => by rw [z, List.length_nil] at hl; omega, h.1.1.1, h.1.1.2, by omega, fun p hp => k _ _ (same_new hp) (isNewT hp hP (h2.rep _))⟩)
    · cases e
  · cases e
end

section
variable {X : Cx} {P : Program} {w : World} {K : PySem.W.Frag} {mg : Str → Option Value} {base : Heap} {N : List Str} {sc : Scope} {k : Nat} {bk nn : Bool} {g : Ce} {W : WX}
variable {pu pu1 pu2 pu3 sh sh1 sh2 : Bool} {e e1 a b lo hi : Expr} {es : List Expr} {pos p p2 pos' apos cpos : Pos} {m m1 m2 : Ev} {ma : Av} {shs : List Bool} {x y : Str} {T : String} {ol oh : Option Expr} {ml mh : Ov} {i j : Nat}

/-! ### slices -/
def dSlice (m : Ev) (ml mh : Ov) : Ev := fun env => bnd (m env) fun p => bnd (ml p.2) fun q => bnd (mh q.2) fun r => bnd (dSlice1 p.1 q.1 r.1) fun d => .ok (d, r.2)
theorem cut_rep {c : Cc} {H : Hp} {ds : List D} {vs : List V} (r : IsDs c H ds vs) (lo hi : Option Int) : IsDs c H (cutD ds lo hi) (cutV vs lo hi) := by
  unfold cutD cutV
  rw [r.len]
  exact (r.drop _).take _
theorem cut_whole {ds : List D} {lo hi : Option Int} (h : HT.sIx ds.length 0 lo = 0 ∧ HT.sIx ds.length ds.length hi = ds.length) : cutD ds lo hi = ds := by
  unfold cutD
  rw [h.1, h.2]
  simp
theorem e_slice (hc : (sh = false ∨ pu2 = true) ∧ (sh = false ∨ pu3 = true)) (he : DE X g pu1 sh e m W) (hl : DO X g pu2 ol ml W) (hh : DO X g pu3 oh mh W) : DE X g (pu1 && (pu2 && pu3)) false (.Subscript e (.Slice ol oh none p2) pos) (dSlice m ml mh) W :=
  PE.imp (pe_slice (SlR.or sl_list (SlR.or sl_tupA sl_str)) he hl hh) fun σ H Q ⟨xs, env, S, w⟩ => ⟨xs, env, S, Want.bind w fun d env1 v H1 e1 s1 r1 w1 => by
    refine ⟨xs, env1, s1.st, Want.bind (pu' := pu2 && pu3) (Want.after s1 w1) fun o1 env2 v2 H2 e2 s2 r2 w2 => ?_⟩
    refine ⟨xs, env2, s2.st, Want.bind (pu' := pu3) (Want.after s2 w2) fun o2 env3 v3 H3 e3 s3 r3 w3 => ?_⟩
    have r2' : v2 = o1 := r2
    have r3' : v3 = o2 := r3
    subst r2' r3'
    have r1a : Rep (cc X g) sh (Hid xs env1 σ) H1 d v := by rw [s1.hid]; exact r1
    have r1b := s2.rep hc.1 r1a
    rw [← s2.hid] at r1b
    have r1c := (s3.rep hc.2 r1b).shell
    have hP : ∀ a, Hid xs env2 σ a → H3 a ≠ none := fun a ha => s3.st.hid (by rw [s3.hid]; exact ha)
    dsimp only at w3
    cases q : dSlice1 d v2 v3 with
    | error z =>
      exfalso
      rw [q] at w3
      cases z with
      | raise kk pp => unfold dSlice1 at q; split at q <;> (try split at q) <;> cases q
      | stuck => exact w3
    | ok d' =>
      rw [q] at w3
      simp only [bnd_ok] at w3
      have fin : ∀ u H4, Same H3 H4 → IsD (cc X g) (hide H4 (Hid xs env2 σ)) d' u → Q u H4 := fun u H4 kk hd => w3 u H4 (s3.grow kk) (by rw [s2.hid, s1.hid] at hd; exact Rep.of hd)
      unfold dSlice1 at q
      split at q
      · cases q
        obtain ⟨l, vs, rfl, h1, h2⟩ := r1c.lst
        exact .inl ⟨l, vs, rfl, SqL.of h1, fun p hp => fin _ _ (same_new hp) (isNewL hp hP (cut_rep h2 _ _))⟩
      · cases q
        have r0 := r1c
        obtain ⟨l, vs, rfl, h1, h2⟩ := r1c.tup
        refine .inr (.inl ⟨l, vs, rfl, h1, fun hw => ?_, fun _ p hp => fin _ _ (same_new hp) (isNewT hp hP (cut_rep h2 _ _))⟩)
        rw [← h2.len] at hw
        rw [cut_whole hw] at fin
        exact fin _ H3 (Same.refl _) r0
      · split at q
        · rename_i hz
          cases q
          exact .inr (.inr ⟨_, r1c.str, by rw [maxSeq_eq]; exact hz, fin _ H3 (Same.refl _) isStr⟩)
        · cases q
      · cases q⟩

/-! ### a store in an own list -/
def sSub (i : Nat) (mi m : Ev) : Sv := fun env => bnd (m env) fun p => match p.2[i]? with
  | some (.ow _) => bnd (mi p.2) fun q => match q.2[i]?, q.1 with
    | some (.ow (.lst ds)), .int k => match ixN ds.length k with
      | some j => .ok (.nx, q.2.set i (.ow (.lst (ds.set j p.1))))
      | none => stuck
    | _, _ => stuck
  | _ => stuck
theorem ObjRep.upd {c : Cc} {G : Addr → Prop} {H : Hp} {a : Addr} {d : D} {o u : HO} (ha : G a) (h : ObjRep c (hide H G) d o) : ObjRep c (hide (upd H a u) G) d o := h.same fun b v hb => by
  obtain ⟨h1, h2⟩ := hide_some hb
  rw [hide_of h1, upd_ne fun z : b = a => h1 (by rw [z]; exact ha)]
  exact h2
theorem IsD.upd {c : Cc} {G : Addr → Prop} {H : Hp} {a : Addr} {d : D} {v : V} {u : HO} (ha : G a) (h : IsD c (hide H G) d v) : IsD c (hide (upd H a u) G) d v := h.same fun b v hb => by
  obtain ⟨h1, h2⟩ := hide_some hb
  rw [hide_of h1, upd_ne fun z : b = a => h1 (by rw [z]; exact ha)]
  exact h2
theorem IsDs.upd {c : Cc} {G : Addr → Prop} {H : Hp} {a : Addr} {d : List D} {v : List V} {u : HO} (ha : G a) (h : IsDs c (hide H G) d v) : IsDs c (hide (upd H a u) G) d v := h.same fun b v hb => by
  obtain ⟨h1, h2⟩ := hide_some hb
  rw [hide_of h1, upd_ne fun z : b = a => h1 (by rw [z]; exact ha)]
  exact h2
theorem hide_at {H : Hp} {a : Addr} {u : HO} : Same (hide H (· = a)) (hide (upd H a u) (· = a)) := fun b v hb => by
  obtain ⟨h1, h2⟩ := hide_some hb
  rw [hide_of (P := (· = a)) h1, upd_ne h1]
  exact h2
/-- the list in slot i written -/
theorem StOk.write {c : Cc} {xs : Addr → Prop} {env : En} {σ : St} {H : Hp} {i : Nat} {d : D} {a : Addr} {ds' : List D} {vs' : List V} (S : StOk c xs env σ H) (hi : env[i]? = some (Sl.ow d)) (ha : σ[i]? = some (some (V.ref a))) (r : IsDs c (hide H (Hid xs env σ)) ds' vs') :
    Stp c xs false env (env.set i (.ow (.lst ds'))) σ H (upd H a (.lst vs')) :=
  S.change hi ha hide_at upd_same ⟨vs', rfl, r.upd (.inl ⟨i, d, hi, ha⟩)⟩
theorem own_lst {c : Cc} {xs : Addr → Prop} {env : En} {σ : St} {H : Hp} {i : Nat} {ds : List D} (S : StOk c xs env σ H) (hi : env[i]? = some (Sl.ow (.lst ds))) : ∃ a vs, σ[i]? = some (some (V.ref a)) ∧ H a = some (.lst vs) ∧ IsDs c (hide H (Hid xs env σ)) ds vs := by
  obtain ⟨a, o, h1, h2, vs, rfl, h3⟩ := S.ow i _ hi
  exact ⟨a, vs, h1, h2, h3⟩
theorem s_sub (hx : PE X (.Name x p) (tVar i)) (hi : DE X g pu1 sh1 b m1 W) (he : DE X g pu false e m W) (ha : ∀ v, assign (.Subscript (.Name x p) b pos') X.env v = (do
      let ov ← holding [v] (eval (.Name x p) X.env)
      let iv ← holding [v, ov] (eval b X.env)
      standAt pos'
      holding [v, ov, iv] (setItem ov iv v)
      release [v, ov, iv] []) := by intro _; rfl)
    (hs : swapsWithSole [.Subscript (.Name x p) b pos'] e pos.line X.env = pure false := by rfl) (hw : swappedStores [.Subscript (.Name x p) b pos'] e X.env = pure none := by rfl)
    (h1 : (assignEach [.Subscript (.Name x p) b pos'] X.env).map (·.2) = [assign (.Subscript (.Name x p) b pos') X.env] := by rfl) : DS X g (.Assign [.Subscript (.Name x p) b pos'] e pos) (sSub i m1 m) W :=
  PS.imp (ps_asg he (pg_sub hx hi set_list ha) hs hw h1) fun E σ H ⟨xs, env, S, w⟩ => ⟨xs, env, S, WantS.bindE w fun d env1 v H1 e1 s1 r1 w1 => by
    dsimp only at w1
    split at w1
    case h_2 => exact w1.elim
    rename_i d0 hi0
    obtain ⟨a, o0, ha0, ho0, hr0⟩ := s1.st.ow i d0 hi0
    refine ⟨.ref a, ha0, xs, env1, s1.st, WantS.bindE (WantS.after s1.kept w1) fun dk env2 vk H2 e2 s2 r2 w2 => ?_⟩
    dsimp only at w2
    split at w2
    case h_2 => exact w2.elim
    rename_i ds kk hi2
    split at w2
    case h_2 => exact w2.elim
    rename_i j hj
    obtain ⟨a', vs, ha2, ho2, hr2⟩ := own_lst s2.st hi2
    rw [ha0] at ha2; cases ha2
    rw [s2.hid, s1.hid] at hr2
    have r1' : IsD (cc X g) (hide H1 (Hid xs env1 σ)) d v := by rw [s1.hid]; exact r1
    have r2' := r1'.same s2.smH
    rw [s1.hid] at r2'
    have hst := s2.st.write hi2 ha0 (ds' := ds.set j d) (vs' := vs.set j v) (by rw [s2.hid, s1.hid]; exact hr2.set j r2')
    exact ⟨a, vs, kk, j, rfl, (Rep.shell r2).int, ho2, by rw [← hr2.len]; exact hj, w2 σ _ hst.st (s2.kept.trans hst.kept)⟩⟩

/-! ### methods that change an own list -/
/-- such a method, of data -/
def VMt (c : Cc) (r : V → List V → Hp → VK → Prop) (f : List D → List D → M (D × List D)) : Prop := ∀ (Z : Addr → Prop) (H : Hp) (a : Addr) (vs avs : List V) (ds ads : List D) (d : D) (ds' : List D) (Q : VK), Z a → H a = some (.lst vs) →
  IsDs c (hide H Z) ds vs → IsDs c (hide H Z) ads avs → f ds ads = .ok (d, ds') → (∀ v vs', IsDs c (hide H Z) ds' vs' → IsD c (hide H Z) d v → Q v (upd H a (.lst vs'))) → r (.ref a) avs H Q
def NoRM (f : List D → List D → M (D × List D)) : Prop := ∀ a b k p, f a b ≠ .error (.raise k p)
def dMeth (f : List D → List D → M (D × List D)) (i : Nat) (ms : Av) : Ev := fun env => match env[i]? with
  | some (.ow (.lst _)) => bnd (ms env) fun p => match p.2[i]? with
    | some (.ow (.lst ds)) => bnd (f ds p.1) fun q => .ok (q.1, p.2.set i (.ow (.lst q.2)))
    | _ => stuck
  | _ => stuck
theorem meth_end {c : Cc} {xs : Addr → Prop} {env env1 : En} {σ : St} {H H1 : Hp} {Q : VK} {r : V → List V → Hp → VK → Prop} {f : List D → List D → M (D × List D)} {a : Addr} {ads : List D} {avs : List V} (hv : VMt c r f) (nr : NoRM f) (s : Stp c xs pu env env1 σ H H1) (ha : σ[i]? = some (some (V.ref a)))
    (ra : IsDs c (hide H1 (Hid xs env σ)) ads avs) (w : Want c xs false env σ H (fun d _ v H' => Rep c false (Hid xs env σ) H' d v) W Q (match env1[i]? with
    | some (.ow (.lst ds)) => bnd (f ds ads) fun q => .ok (q.1, env1.set i (.ow (.lst q.2)))
    | _ => stuck)) : r (.ref a) avs H1 Q := by
  split at w
  · rename_i ds hi
    obtain ⟨a', vs, ha2, ho2, hr2⟩ := own_lst s.st hi
    rw [ha] at ha2; cases ha2
    cases q : f ds ads with
    | error z =>
      rw [q] at w
      cases z with
      | raise kk pp => exact absurd q (nr _ _ _ _)
      | stuck => exact w.elim
    | ok pr =>
      obtain ⟨d, ds'⟩ := pr
      rw [q] at w
      have hid := s.hid
      refine hv (Hid xs env σ) H1 a vs avs ds ads d ds' Q (by rw [← hid]; exact .inl ⟨i, _, hi, ha⟩) ho2 (by rw [← hid]; exact hr2) ra q fun v vs' h1 h2 => ?_
      have st := s.st.write hi ha (ds' := ds') (vs' := vs') (by rw [hid]; exact h1)
      refine w v _ ((s.trans st).weak fun z => nomatch z) (h2.upd (by rw [← hid]; exact .inl ⟨i, _, hi, ha⟩))
  · exact w.elim
theorem e_meth {id : String} {name : Str} {r : V → List V → Hp → VK → Prop} {f : List D → List D → M (D × List D)} (pa : PlainAttrs "list") (slot : Slot "list" name id) (hty : typeOf (.builtin id) = pure (.type "method_descriptor")) (hm : MtR X id r) (hv : VMt (cc X g) r f) (nr : NoRM f) (hs : shs.all (!·) = true)
    (hx : PE X (.Name x p) (tVar i)) (ha : DA X g pu shs (e :: es) ma W)
    (hbase : attributeBase (.Name x p) name X.env (eval (.Name x p) X.env) = eval (.Name x p) X.env := by rfl)
    (hfew : ((backTo cpos (starEach (e :: es) X.env)).all (fun x => !x.1) && (backToKw cpos (keywordEach [] X.env)).all (fun x => x.1.isSome)
      && decide ((e :: es).length + ([] : List Keyword).length + (if ([] : List Keyword).isEmpty then 0 else 1) < 30)) = true := by rfl)
    (hline : (apos.endLine == cpos.line) = true := by rfl) (hst : starEach (e :: es) X.env = (false, eval e X.env) :: starEach es X.env := by rfl) (hplain : (backTo cpos (starEach es X.env)).any (·.1) = false := by rfl) :
    DE X g false false (.Call (.Attribute (.Name x p) name apos) (e :: es) [] cpos) (dMeth f i ma) W :=
  PE.imp (pe_bm pa slot hty hm hx ha hbase hfew hline hst hplain) fun σ H Q ⟨xs, env, S, w⟩ => by
    unfold dMeth at w
    split at w
    · rename_i ds0 hi0
      obtain ⟨a, vs, h1, h2, h3⟩ := own_lst S hi0
      refine ⟨.ref a, h1, .inl ⟨rfl, vs, SqL.of h2⟩, xs, env, S, Want.bind w fun ads env1 avs H1 e1 s1 r1 w1 => ?_⟩
      exact meth_end hv nr s1 h1 (r1.clean hs) w1
    · exact w.elim
theorem e_meth0 {id : String} {name : Str} {r : V → List V → Hp → VK → Prop} {f : List D → List D → M (D × List D)} (pa : PlainAttrs "list") (slot : Slot "list" name id) (hty : typeOf (.builtin id) = pure (.type "method_descriptor")) (hm : MtR X id r) (hv : VMt (cc X g) r f) (nr : NoRM f)
    (hx : PE X (.Name x p) (tVar i))
    (hbase : attributeBase (.Name x p) name X.env (eval (.Name x p) X.env) = eval (.Name x p) X.env := by rfl) (hline : (apos.endLine == cpos.line) = true := by rfl) :
    DE X g false false (.Call (.Attribute (.Name x p) name apos) [] [] cpos) (dMeth f i dNil) W :=
  PE.imp (pe_bm0 pa slot hty hm hx hbase hline) fun σ H Q ⟨xs, env, S, w⟩ => by
    unfold dMeth at w
    split at w
    · rename_i ds0 hi0
      obtain ⟨a, vs, h1, h2, h3⟩ := own_lst S hi0
      exact ⟨.ref a, h1, .inl ⟨rfl, vs, SqL.of h2⟩, meth_end (pu := true) hv nr (.refl S) h1 IsDs.nil w⟩
    · exact w.elim
def fApp : List D → List D → M (D × List D)
  | ds, [d] => if ds.length < maxSeq then .ok (.non, ds ++ [d]) else stuck
  | _, _ => stuck
def fExt : List D → List D → M (D × List D)
  | ds, [.lst es] => if ds.length + es.length ≤ maxSeq then .ok (.non, ds ++ es) else stuck
  | _, _ => stuck
def fPop : List D → List D → M (D × List D)
  | ds, [] => match ds[ds.length - 1]? with
    | some d => .ok (d, ds.dropLast)
    | none => stuck
  | _, _ => stuck
theorem fApp_nr : NoRM fApp := fun a b k p h => by
  unfold fApp at h
  split at h <;> (try split at h) <;> cases h
theorem fExt_nr : NoRM fExt := fun a b k p h => by
  unfold fExt at h
  split at h <;> (try split at h) <;> cases h
theorem fPop_nr : NoRM fPop := fun a b k p h => by
  unfold fPop at h
  split at h <;> (try split at h) <;> cases h
theorem IsDs.one {c : Cc} {H : Hp} {d : D} {vs : List V} (r : IsDs c H [d] vs) : ∃ v, vs = [v] ∧ IsD c H d v := by
  unfold IsDs at r
  obtain ⟨v, r', rfl, h1, h2⟩ := r
  unfold IsDs at h2
  subst h2
  exact ⟨v, rfl, h1⟩
theorem vm_app {c : Cc} : VMt c rAppend fApp := by
  intro Z H a vs avs ds ads d ds' Q hZ ho r ra q k
  unfold fApp at q
  split at q
  · split at q
    · rename_i hz
      cases q
      obtain ⟨v, rfl, h1⟩ := ra.one
      exact ⟨a, vs, v, rfl, rfl, ho, by rw [maxSeq_eq, ← r.len]; exact hz, k _ _ (r.append (IsDs.cons h1 IsDs.nil)) isNon⟩
    · cases q
  · cases q
theorem vm_ext {c : Cc} : VMt c rExtend fExt := by
  intro Z H a vs avs ds ads d ds' Q hZ ho r ra q k
  unfold fExt at q
  split at q
  · split at q
    · rename_i hz
      cases q
      obtain ⟨v, rfl, h1⟩ := ra.one
      unfold IsD at h1
      obtain ⟨b, ws, rfl, h2, h3⟩ := h1
      exact ⟨a, b, vs, ws, rfl, rfl, ho, hide_full _ _ h2, by rw [maxSeq_eq, ← r.len, ← h3.len]; exact hz, k _ _ (r.append h3) isNon⟩
    · cases q
  · cases q
theorem vm_pop {c : Cc} : VMt c rPop fPop := by
  intro Z H a vs avs ds ads d ds' Q hZ ho r ra q k
  unfold fPop at q
  split at q
  · split at q
    · rename_i d' hd
      cases q
      have := ra
      unfold IsDs at this
      subst this
      obtain ⟨v, h1, h2⟩ := r.getD hd
      exact ⟨a, vs, v, rfl, rfl, ho, by rw [← r.len]; exact h1, k _ _ r.dropLast h2⟩
    · cases q
  · cases q

/-! ### pairs stored -/
def dumE (sc : Scope) : Env := { scope := sc, locals := 0, globals := 0, cells := [] }
theorem sws_eq {env : Env} (h : env.scope = sc) (ts : List Expr) (v : Expr) : swappedStores ts v env = swappedStores ts v (dumE sc) := by
  unfold swappedStores Env.blockKind Env.kindOf dumE
  rw [h]
theorem swp_eq {env : Env} (h : env.scope = sc) (t : Option Expr) (v : Expr) (l : Nat) : swapsWith v t l env = swapsWith v t l (dumE sc) := by
  unfold swapsWith Env.blockKind Env.kindOf dumE
  rw [h]
def sPar (i j : Nat) (ms : Av) : Sv := fun env => bnd (ms env) fun p => match p.1 with
  | [d1, d2] => bnd (put i (.va d1) p.2) fun e1 => bnd (put j (.va d2) e1) fun e2 => .ok (.nx, e2)
  | _ => stuck
theorem IsDs.two {c : Cc} {H : Hp} {d d2 : D} {vs : List V} (r : IsDs c H [d, d2] vs) : ∃ v v2, vs = [v, v2] ∧ IsD c H d v ∧ IsD c H d2 v2 := by
  unfold IsDs at r
  obtain ⟨v, r', rfl, h1, h2⟩ := r
  obtain ⟨v2, rfl, h3⟩ := h2.one
  exact ⟨v, v2, rfl, h1, h3⟩
def locL (sc : Scope) (x : Str) : Bool := sc.names.lookup x == some .local
theorem s_par {px py pt pt2 : Pos} {kt k2 : Nat} (C : Cok nn X W P w K mg base N sc k false) (i j : Nat) (hi : N[i]? = some x) (hj : N[j]? = some y) (hij : i ≠ j) (hx : locL sc x = true) (hy : locL sc y = true) (hsh : shs.all (!·) = true) (ha : DA X g pu shs [a, b] ma W)
    (hw : swappedStores [.Tuple [.Name x px, .Name y py] kt pt] (.Tuple [a, b] k2 pt2) (dumE sc) = pure (some [x, y]))
    (hs : swapsWithSole [.Tuple [.Name x px, .Name y py] kt pt] (.Tuple [a, b] k2 pt2) pos.line X.env = pure false := by rfl) :
    DS X g (.Assign [.Tuple [.Name x px, .Name y py] kt pt] (.Tuple [a, b] k2 pt2) pos) (sPar i j ma) W :=
  PS.imp (ps_par C.calm (by rw [C.eN]; exact C.nd) (by rw [C.eN]; exact hi) (by rw [C.eN]; exact hj) hij (by rw [C.es]; exact eq_of_beq hx) (by rw [C.es]; exact eq_of_beq hy) ha (by rw [sws_eq C.es]; exact hw) hs) fun E σ H ⟨xs, env, S, w⟩ =>
    ⟨xs, env, S, WantS.bindE w fun ds env1 vs H1 e1 s1 r1 w1 => by
      have rc := r1.clean hsh
      dsimp only at w1
      split at w1
      · rename_i d1 d2
        obtain ⟨v1, v2, rfl, h1, h2⟩ := rc.two
        rw [← s1.hid] at h1 h2
        have S1 := s1.st.setVa i h1
        rcases put_cases i (.va d1) env1 with q | ⟨q, h0⟩ <;> rw [q] at w1
        · exact w1.elim
        rw [bnd_ok] at w1
        rcases put_cases j (.va d2) (env1.set i (.va d1)) with q | ⟨q, h3⟩ <;> rw [q] at w1
        · exact w1.elim
        have k1 := kept_va (i := i) (d := d1) (v := v1) s1 h0
        have h2' := h2.same (Kept.smH (kept_set_va (env := env1) (σ := σ) (H := H1) (i := i) (d := d1) (v := v1) h0))
        exact ⟨v1, v2, rfl, w1 _ H1 (S1.setVa j h2') (k1.trans (kept_set_va h3))⟩
      · exact w1.elim⟩

/-! ### augmented stores -/
def sAug (i : Nat) (f : D → D → M D) (m : Ev) : Sv := fun env => match env[i]? with
  | some (.va d) => bnd (m env) fun p => bnd (f d p.1) fun z => bnd (put i (.va z) p.2) fun e => .ok (.nx, e)
  | _ => stuck
theorem s_aug {op : Operator} {r : R2} {f : D → D → M D} (C : Cok nn X W P w K mg base N sc k false) (ho : OpR X (inplaceOp op) r) (hv : VB (cc X g) r f) (nr : NoR2 f) (i : Nat) (hi : N[i]? = some x) (hl : locB sc x = true) (he : DE X g pu sh e m W) : DS X g (.AugAssign (.Name x pos') op e pos) (sAug i f m) W := by
  have hl' := locB_of hl
  refine PS.imp (ps_aug (by rw [C.eN]; exact C.nd) (by rw [C.eN]; exact hi) (by rw [C.es]; exact hl') he ho ?_) fun E σ H ⟨xs, env, S, w⟩ => ?_
  · rcases hl' with h | h
    · exact .inr (by rw [C.es]; exact h)
    · exact .inl (C.fn rfl x)
  · unfold sAug at w
    split at w
    · rename_i d hd
      obtain ⟨v, h1, h2⟩ := S.va i d hd
      refine ⟨v, h1, xs, env, S, WantS.bindE w fun d2 env1 u H1 e1 s1 r1 w1 => ?_⟩
      dsimp only at w1
      cases q : f d d2 with
      | error z =>
        rw [q] at w1
        cases z with
        | raise kk pp => exact absurd q (nr _ _ _ _)
        | stuck => exact w1.elim
      | ok z =>
        rw [q] at w1
        refine hv (Hid xs env σ) H1 v u d d2 z _ (fun a ha => s1.st.hid (by rw [s1.hid]; exact ha)) (RepS.of (h2.same s1.smH)) (Rep.shell r1) q fun t H2 k2 hd2 => ?_
        have s2 := s1.grow k2
        rw [bnd_ok] at w1
        rcases put_cases i (.va z) env1 with q | ⟨q, h0⟩ <;> rw [q] at w1
        · exact w1.elim
        · exact w1 _ H2 (s2.st.setVa i (by rw [s2.hid]; exact hd2)) (kept_va s2 h0)
    · exact w.elim
def aMul : D → D → M D := dIntOp (fun i j => decide (i.natAbs < 18446744073709551616) || decide (j.natAbs < 18446744073709551616)) fun i j => i * j
theorem aMul_nr : NoR2 aMul := fun d1 d2 k p h => by
  unfold aMul dIntOp at h
  split at h <;> (try split at h) <;> cases h
theorem va_mul {c : Cc} : VB c (rI CMul fun i j => .int (i * j)) aMul := vb_int fun i j h => by
  rw [Bool.or_eq_true, decide_eq_true_eq, decide_eq_true_eq] at h
  unfold CMul
  have e : (2 : Int) ^ 64 = 18446744073709551616 := by decide
  omega
abbrev aAdd : D → D → M D := dIntOp (fun _ _ => true) fun i j => i + j
abbrev aSub : D → D → M D := dIntOp (fun _ _ => true) fun i j => i - j
abbrev aOr : D → D → M D := dIntOp (fun _ _ => true) Builtin.bitOr
theorem va_add {c : Cc} : VB c (rI0 fun i j => .int (i + j)) aAdd := vb_int0
theorem va_sub {c : Cc} : VB c (rI0 fun i j => .int (i - j)) aSub := vb_int0
theorem va_or {c : Cc} : VB c (rI0 fun i j => .int (Builtin.bitOr i j)) aOr := vb_int0
end
end Dn

/-! Dn17 -/
set_option Elab.async false
set_option linter.all false
set_option maxRecDepth 100000
set_option maxHeartbeats 2000000
/-! Dn17: own errors over ValueError, made by super().__init__(text); self.reason = reason. -/
namespace Dn
namespace Sup
open PySem PySem.W PySem.Calls PyProof.Rows PySem.HandSPX
/-! ### ValueError.__init__ bound to an error -/
abbrev bv (x : Addr) : Obj := { cls := .type "method-wrapper", dict := none, data := .fields #[.builtin "ValueError.__init__", .ref x], slots := #[] }
theorem type_vi : typeOf (.builtin "ValueError.__init__") = pure (.type "wrapper_descriptor") := by show builtinType _ = _; rw [builtinType_eq_fast]; kernel_rfl
theorem nav : (kfb_private% "nameAndClass") (Value.builtin "ValueError.__init__") = (pure (("__init__" : Str), Value.type "ValueError") : Sem (Str × Value)) := by kernel_rfl
section
variable {prog : Program} {w : World} {M : Model} {A : Around} {E : Value → Shared → Prop} {h : Heap} {g : Array GenState} {d : Drawn} {t : Nat} {os : OsState}
theorem run_v {x C : Addr} {P : Fin → Shared → Prop} (hin : Looks M h (isInstance (.ref x) (.type "ValueError")) true) (hq : P (.done (.ret (.ref h.objs.size))) ⟨h.push (bv x), g, d, t, os⟩) :
    wpAny M A (Builtin.«wrapper_descriptor.__get__» ⟨[.builtin "ValueError.__init__", .ref x, .ref C], []⟩) P E ⟨h, g, d, t, os⟩ := by
  unfold Builtin.«wrapper_descriptor.__get__»
  refine wpAny_bind (wpAny_of_eq (a := (.builtin "ValueError.__init__", some (.ref x), some (.ref C))) (by first | rfl | kernel_rfl) ?_)
  show wpAny M A ((kfb_private% "checkInstance") (.builtin "ValueError.__init__") (.ref x) >>= fun _ => newFields "method-wrapper" [.builtin "ValueError.__init__", .ref x] >>= fun r => ret r) P E _
  refine wpAny_bind ?_
  show wpAny M A ((kfb_private% "nameAndClass") (.builtin "ValueError.__init__") >>= _) _ E _
  refine wpAny_bind (wpAny_of_eq nav ?_)
  show wpAny M A (isInstance (.ref x) (.type "ValueError") >>= _) _ E _
  refine wpAny_bind (hin.at ?_)
  refine KFB.if_not rfl ?_
  refine wpAny_pure ?_
  exact wpAny_bind (wpAny_newObj_type (wpAny_pure hq))
theorem ga_v {so D x C : Addr} {l₀ l : List Value} {K : Frag} {name : Str} {tk : Tok} {Q : Fin → Shared → Prop}
    (hso : h.get? so = some { cls := .type "super", dict := none, data := .fields #[.ref D, .ref x, .ref C], slots := #[] }) (hno : Looks (model prog w) h (opaqueClassAbove (.ref C)) none)
    (hC : Looks (model prog w) h (mroOf (.ref C)) l₀) (hl : (l₀.dropWhile (· != .ref D)).drop 1 = l) (X : K.In h)
    (hf : alongIn K name l = some (some (.builtin "ValueError.__init__"))) (hxC : x ≠ C) (hn : (name == ("__class__" : Str)) = false) (hin : Looks (model prog w) h (isInstance (.ref x) (.type "ValueError")) true)
    (hq : Q (.done (.ret (.ref h.objs.size))) ⟨h.push (bv x), g, d, t, os⟩) :
    wpAny (model prog w) A (Builtin.«super.__getattribute__» ⟨[.ref so, .str name tk], []⟩) Q E ⟨h, g, d, t, os⟩ := by
  have hlk := ESX.slot_wd.lookup
  have hne : (Value.ref x == Value.ref C) = false := by simp [hxC]
  have hTf := type_vi
  have hTi : Shared.TypeIs ⟨h, g, d, t, os⟩ (.builtin "ValueError.__init__") "wrapper_descriptor" := type_vi
  have hdt : ({ cls := .type "super", dict := none, data := .fields #[.ref D, .ref x, .ref C], slots := #[] } : Obj).data = .fields #[.ref D, .ref x, .ref C] := rfl
  have f0 : (#[.ref D, .ref x, .ref C] : Array Value)[0]? = some (.ref D) := rfl
  have f1 : (#[.ref D, .ref x, .ref C] : Array Value)[1]? = some (.ref x) := rfl
  have f2 : (#[.ref D, .ref x, .ref C] : Array Value)[2]? = some (.ref C) := rfl
  unfold Builtin.«super.__getattribute__»
  repeat (first
    | (with_reducible refine wpAny_field hso hdt f0 ?_) | (with_reducible refine wpAny_field hso hdt f1 ?_) | (with_reducible refine wpAny_field hso hdt f2 ?_)
    | (with_reducible refine ks_wpAny_notOpaque hno ?_)
    | (with_reducible refine Looks.at hC ?_; rw [hl])
    | (refine ks_forIn_along X (fun _ _ => rfl) rfl ?_ hf)
    | (with_reducible refine wpAny_call_entry ESX.slot_wd hTi ESX.entry_wd ?_ (ESX.args_wd _ _ _))
    | (with_reducible refine run_v hin ?_)
    | (with_reducible refine ⟨_, rfl, ?_⟩)
    | (simp only [hn, hne, Bool.or_false, Bool.false_eq_true, if_false])
    | wp_step
    | dsimp only)
  all_goals exact hq
theorem getMethod_v {so D x C : Addr} {l₀ l : List Value} {K : Frag} {name : Str} {pl : Sem Bool} {Q : Value × List Value → Shared → Prop}
    (hso : h.get? so = some { cls := .type "super", dict := none, data := .fields #[.ref D, .ref x, .ref C], slots := #[] }) (hno : Looks (model prog w) h (opaqueClassAbove (.ref C)) none)
    (hC : Looks (model prog w) h (mroOf (.ref C)) l₀) (hl : (l₀.dropWhile (· != .ref D)).drop 1 = l) (X : K.In h)
    (hf : alongIn K name l = some (some (.builtin "ValueError.__init__"))) (hxC : x ≠ C) (hn : (name == ("__class__" : Str)) = false) (hin : Looks (model prog w) h (isInstance (.ref x) (.type "ValueError")) true)
    (hq : Q (.ref h.objs.size, []) ⟨h.push (bv x), g, d, t + 1, os⟩) :
    wpAny (model prog w) A (getMethod (.ref so) name pl) Q E ⟨h, g, d, t, os⟩ := by
  have hlk := F.ks_slot_super_ga.lookup
  have hcan := F.ks_canon_super_ga
  have hT : ∀ t', (⟨h, g, d, t', os⟩ : Shared).TypeIs (.ref so) "super" := fun _ => ⟨_, hso, rfl⟩
  unfold getMethod
  refine wpAny_bind (wpAny_specialOf (hT _) hlk ?_)
  show wpAny _ _ (if (Manifest.canonical "super.__getattribute__" != "object.__getattribute__") = true then _ else _) _ _ _
  rw [if_pos hcan]
  unfold getAttr getAttrBy
  refine wpAny_bind (wpAny_bind (wpAny_mkText (wpAny_holding (wpAny_bind (wpAny_typeOf (hT _) (wpAny_bind (wpAny_of_eq hlk ?_)))))))
  show wpAny _ _ (getAttrByItsOwn (.ref so) (.str name t) (.type "super") (.builtin "super.__getattribute__") true false) _ _ _
  unfold getAttrByItsOwn hookBefore callGetattribute boundAndCalled
  refine wpAny_bind (wpAny_of_eq (show (if onTheHeap (.type "super") then typeLookup (.type "super") "__getattr__" else pure none) = pure none from rfl) ?_)
  refine wpAny_bind (wpAny_attempt (wpAny_holding ?_))
  show wpAny _ _ (bindSpecial (.builtin "super.__getattribute__") (.ref so) >>= _) _ _ _
  refine wpAny_bind (wpAny_of_eq (F.ks_slot_super_ga.bind _) ?_)
  refine wpAny_mono (Q := fun v s' => v = .ref h.objs.size ∧ s' = ⟨h.push (bv x), g, d, t + 1, os⟩) (E := fun _ _ => False)
    (wpAny_call_entry F.ks_slot_super_ga (hT _) F.ks_entry_super_ga (ga_v hso hno hC hl X hf hxC hn hin ⟨_, rfl, rfl, rfl⟩) (F.ks_gaArgs_super _ _)) (fun v s' hv => ?_) fun _ _ z => z.elim
  obtain ⟨rfl, rfl⟩ := hv
  exact wpAny_pure (wpAny_pure hq)
end
section
variable {prog : Program} {w : World} {M : Model} {A : Around} {E : Value → Shared → Prop} {s : Shared}
theorem callWith_v {pos : Pos} {u x : Addr} {args : List (Bool × Sem Value)} {Q : Value → Shared → Prop} (hplain : args.any (·.1) = false)
    (h : wpAny M A (evalArgs (.ref u) true args []) (fun a s₁ => s₁.heap.get? u = some (bv x) ∧ wpAny M A (call (.ref u) ([] ++ a.pos) a.kw) Q E s₁) E s) : wpAny M A (callWith pos (.ref u) [] args []) Q E s := by
  unfold callWith
  refine wpAny_bind (wpAny_holding (wpAny_mono h (fun a s₁ h₁ => wpAny_bind (wpAny_standAt ?_)) fun _ _ x => x))
  obtain ⟨ho, hcall⟩ := h₁
  simp only [hplain, List.any_nil, Bool.or_false]
  refine wpAny_bind (m := keeperOf (.ref u)) ?_
  unfold keeperOf
  refine wpAny_bind (wpAny_load ho ?_)
  simp only [bv, show (Value.type "method-wrapper" != Value.type "method") = true by decide, show (Value.type "method-wrapper" == Value.type "builtin_function_or_method" || Value.type "method-wrapper" == Value.type "method-wrapper") = true by decide, if_true]
  refine wpAny_pure ?_
  exact wpAny_bind (wpAny_mono hcall (fun r s₂ hr => wpAny_bind (wpAny_holding (wpAny_point (wpAny_pure hr)))) fun _ _ x => x)
end
section
variable {prog : Program} {w : World} {A : Around} {E : Value → Shared → Prop} {h : Heap} {g : Array GenState} {d : Drawn} {t : Nat} {os : OsState}
variable {nm q : Str} {C N : Addr} {bs bm : List Value} {hdct : Bool} {sn : List Str} {sub : List Value} {ab : Bool} {col : Option Bool} {dd : Option Addr} {k0 k1 k2 k3 k5 : Option Value}
theorem call_v {u e t0 : Addr} {rest : List Value} {Q : Value → Shared → Prop}
    (hC : h.get? C = some (excClassObj nm q C N bs bm hdct sn sub ab col dd k0 k1 k2 k3 k5 "ValueError.__new__")) (he : h.get? e = some (excO C t0)) (hu : h.get? u = some (bv e)) (hrest : rest.length ≤ sizeLine)
    (hq : ∀ h' t1, (∀ b o, b ≠ e → h.get? b = some o → h'.get? b = some o) → h'.get? e = some (excO C t1) → Q .none ⟨h', g, d, t, os⟩) :
    wpAny (model prog w) A (call (.ref u) rest) Q E ⟨h, g, d, t, os⟩ := by
  refine wpAny_call (codeAny_of_tree ?_)
  show wpAny _ A.in1 (callAny (.ref u) ⟨rest, []⟩) _ _ _
  simp only [callAny]
  refine wpAny_bind (wpAny_load hu ?_)
  simp only [bv, show (Value.type "method-wrapper" == Value.type "method" || Value.type "method-wrapper" == Value.type "builtin_function_or_method" || Value.type "method-wrapper" == Value.type "method-wrapper") = true by decide, if_true]
  refine W.KFB.if_so (by decide) ?_
  refine wpAny_bind (ESX.check_bound F.excBase_ValueError hC he rfl ?_)
  refine wpAny_bind (wpAny_pure (wpAny_pure ?_))
  refine ⟨Code.quiet_builtin _ (by decide +kernel), codeAny_builtin F.excBase_ValueError.initEntry ?_⟩
  rw [Around.under_plainId F.excBase_ValueError.init.plain _]
  wp_walk
  refine hq _ h.objs.size (fun b o hb ho => ?_) ?_
  · rw [Heap.get?_update_other _ _ (Ne.symm hb)]
    exact Heap.get?_push_of_some _ ho
  · rw [Heap.get?_update_self _ (Heap.get?_push_of_some _ he) rfl]
    rfl
end

end Sup
end Dn

/-! Dn18 -/
set_option Elab.async false
set_option linter.all false
set_option maxRecDepth 100000
set_option maxHeartbeats 2000000
/-! Dn18: the __init__ of such an error; raising it. -/
namespace Dn
namespace Sup
open PySem PySem.W PySem.Calls PyProof.Rows PySem.HandSPX
/-! ### the text of __init__ -/
def iA (p1 p2 : Pos) : Arguments := { posonlyargs := [], args := [{ arg := "self", annotation := none, pos := p1 }, { arg := "reason", annotation := none, pos := p2 }], vararg := none, kwonlyargs := [], kw_defaults := [], kwarg := none, defaults := [] }
def iB (txt : Str) (j : Nat) (a1 a2 a3 a4 a5 a6 q1 q2 q3 q4 : Pos) : List Stmt :=
  [.Expr (.Call (.Attribute (.Call (.Name "super" a1) [] [] a2) "__init__" a3) [.Constant (.str txt) j a4] [] a5) a6, .Assign [.Attribute (.Name "self" q1) "reason" q2] (.Name "reason" q3) q4]
def iS : Scope := { kind := .function, names := [(PySem.Str.ofString "self", .local), (PySem.Str.ofString "reason", .local), (PySem.Str.ofString "__class__", .free), (PySem.Str.ofString "super", .globalImplicit)], isGenerator := false, isCoroutine := false, more := [] }
/-- what the written part says of such a class, at C, and of its __init__, at fI -/
structure Txt (P : Program) (K : Frag) (mg : Str → Option Value) (C fI : Addr) : Prop where
  cls : ∃ nm q N bs bm sn sub ab col dd k0 k1 k2 k3 k5, K.lookup C = some (excClassObj nm q C N bs bm true sn sub ab col dd k0 k1 k2 k3 k5 "ValueError.__new__") ∧ refsVE bm = true
  sa : findIn K (.ref C) "__setattr__" = some (some (.builtin "object.__setattr__"))
  noR : findIn K (.ref C) "reason" = some none
  iC : findIn K (.ref C) "__init__" = some (some (.ref fI))
  tI : typeIn K (.ref fI) = some (.type "function")
  kC : keepIn K (.ref C) = true
  exC : subIn K (.ref C) (.type "BaseException") = some true
  tyC : typeIn K (.ref C) = some (.type "type")
  ms : mroIn K C (.ref C) = some true
  mv : mroIn K C (.type "ValueError") = some true
  si : ks_superIn K C C "__init__" = some (some (.builtin "ValueError.__init__"))
  st : nsIn K cStatics "thirdparty.any" = some none
  ns : mg "super" = none
  top : (P.main.scope.names.lookup ("super" : Str)).isSome = false
  fn : ∃ (oc : Value) (od : Option Addr) (qual : Str) (doc pm : Value) (an : Option Addr) (cda : Addr) (ct : Value) (cc : Addr) (osl : Array (Option Value)) (txt : Str) (j : Nat) (p1 p2 a1 a2 a3 a4 a5 a6 q1 q2 q3 q4 : Pos),
    K.lookup fI = some ⟨oc, od, .func (ksFn "__init__" qual (iA p1 p2) (iB txt j a1 a2 a3 a4 a5 a6 q1 q2 q3 q4) iS .none .none doc pm an (.ref cda) ct cc), osl⟩ ∧ codeIn K (.ref cda) qual = true ∧ (a3.endLine == a5.line) = true ∧
      (∃ (ccl : Value) (cdd : Option Addr) (vs : Array Value) (ccs : Array (Option Value)) (file : Str) (tf : Tok), K.lookup cda = some ⟨ccl, cdd, .fields vs, ccs⟩ ∧ vs[2]? = some (.str file tf) ∧ ((P.main.file : Str) == file) = true) ∧
      ∃ (cl : Value) (cld : Option Addr) (csl : Array (Option Value)), K.lookup cc = some ⟨cl, cld, .cell (some (.ref C)), csl⟩
/-- what __init__ leaves of a new error at x -/
structure End (h h' : Heap) (x C dx t1 : Addr) (v : Value) : Prop where
  keep : ∀ b o, b ≠ x → h.get? b = some o → h'.get? b = some o
  obj : h'.get? x = some { cls := .ref C, dict := some dx, data := .fields #[.ref t1, .none, .none, .none, .bool false, .none] }
  dbig : h.objs.size ≤ dx
  dne : dx ≠ x
  ns : h'.Ns1 dx (fun y => if y = "reason" then some v else none)
theorem call_eq {o e : Expr} {name : Str} {apos pos : Pos} {env : Env} (hline : (apos.endLine == pos.line) = true) (hs : starEach [e] env = [(false, eval e env)]) : eval (.Call (.Attribute o name apos) [e] [] pos) env = (do
      let ov ← attributeBase o name env (eval o env)
      standAt apos.atName
      let (f, first) ← holding [ov] (getMethod ov name (do return (← importBound o env).getD true))
      callWith pos f first (backTo pos (starEach [e] env)) []) := by
  rw [arm_eval_Call]
  have hp : methodCallPos true o env apos pos = pure pos := by unfold methodCallPos; simp [hline]
  have hf : methodCallForm ([e].length + ([] : List Keyword).length) (backTo pos (starEach [e] env)) (backToKw pos (keywordEach [] env)) = true := by rw [hs]; rfl
  unfold methodCall
  rw [hf, hp]
  simp only [pure_bind]
  rfl
theorem kept_but {K : Frag} {h h' : Heap} {x : Addr} (X : K.In h) (hx : K.lookup x = none) (k : ∀ b o, b ≠ x → h.get? b = some o → h'.get? b = some o) : K.In h' := fun a o e =>
  k a o (fun z => by rw [z, hx] at e; cases e) (X a o e)
section
variable {prog : Program} {w : World} {A : Around} {E : Value → Shared → Prop} {R : Result → Shared → Prop} {s : Shared} {K : Frag} {mg mb : Str → Option Value} {C fI : Addr}
theorem sup_init (T : Txt prog K mg C fI) {x t0 : Addr} {v : Value} (X : K.In s.heap) (hlim : s.heap.NoLimit) (hG : s.heap.Ns mainGlobals mg) (hB : s.heap.Ns builtinsNs mb) (hb : mb "super" = some (.type "super")) (hx : s.heap.get? x = some (excO C t0)) (hnx : K.lookup x = none) (hroom : A.depth < recursionLimit)
    (hq : ∀ h' tk dx t1, End s.heap h' x C dx t1 v → R (.ok (.ret .none)) { s with heap := h', toks := tk }) :
    codeAny (model prog w) A (.call (.ref fI) ⟨[.ref x, v], []⟩) R s := by
  obtain ⟨oc, od, qual, doc, pm, an, cda, ct, cc, osl, txt, j, p1, p2, a1, a2, a3, a4, a5, a6, q1, q2, q3, q4, ho, hcd, hline, ⟨ccl, cdd, vs, ccs, file, tf, hcda, hvs, hfile⟩, cl, cld, csl, hcc⟩ := T.fn
  obtain ⟨nm, q, N, bs, bm, sn, sub, ab, col, dd, k0, k1, k2, k3, k5, hC, hbm⟩ := T.cls
  have hcl : clsIn K C = some { name := nm, bases := bs, mro := .ref C :: bm, ns := N, qualname := q, hasDict := true, slotNames := sn, subclasses := sub, abstract := ab, collection := col, hasDel := false } := by unfold clsIn; rw [hC] <;> rfl
  refine ks_codeAny_call_defAt (body := iB txt j a1 a2 a3 a4 a5 a6 q1 q2 q3 q4) (binds := [("self", .ref x), ("reason", v)]) hroom (X _ _ ho) rfl hlim (codeRec_of X hcd) rfl (BindsTo.of_eq (by first | rfl | with_unfolding_all rfl)) (show ∀ y ∈ iS.names, y.2 ≠ .cell by decide) (fun y hy => ?_) (fun h₁ hn k => ?_)
  · rcases List.mem_cons.mp hy with rfl | hy
    · rfl
    · rw [List.mem_singleton.mp hy]; rfl
  have X₁ : K.In h₁ := X.keeps k
  have hxL : s.heap.objs.size ≠ x := Nat.ne_of_gt (Heap.lt_size hx)
  have hxC : x ≠ C := fun z => by rw [z, hC] at hnx; cases hnx
  have hx₁ := k _ _ hx
  obtain ⟨s0, gg, dr, tk0, os⟩ := s
  show _root_.PySem.wpAt (model prog w) _ (.func (iB txt j a1 a2 a3 a4 a5 a6 q1 q2 q3 q4) (ksEnv qual iS s0.objs.size fI (.ref cda) cc)) (execs (iB txt j a1 a2 a3 a4 a5 a6 q1 q2 q3 q4) (ksEnv qual iS s0.objs.size fI (.ref cda) cc)) _ _ _
  have hD : ∃ oD, h₁.get? C = some oD ∧ oD.data = .cls { name := nm, bases := bs, mro := .ref C :: bm, ns := N, qualname := q, hasDict := true, slotNames := sn, subclasses := sub, abstract := ab, collection := col, hasDel := false } := ⟨_, X₁ _ _ hC, rfl⟩
  obtain ⟨oD, hD1, hD2⟩ := hD
  have I₁ : InstAt h₁ x (excO C t0) C none := ⟨hx₁, rfl, rfl, trivial⟩
  refine ks_wpAt_execs_cons (ks_wpAt_Expr_any (ks_wpAt_MethodCall (ks_wpAt_super_base (env := ksEnv qual iS s0.objs.size fI (.ref cda) cc) rfl rfl rfl rfl (X₁ _ _ ho) rfl rfl rfl (X₁ _ _ hcda) rfl hvs hfile T.top ?_) (call_eq hline rfl)))
  · have hnone : mg "super" = none := T.ns
    refine ks_loadName_global rfl rfl (loadGlobal_builtin (env := ksEnv qual iS s0.objs.size fI (.ref cda) cc) (hG.keeps k) hnone (hB.keeps k) hb ⟨rfl, ?_⟩)
    refine wpAny_loadName_free rfl rfl rfl ⟨_, X₁ _ _ hcc, rfl⟩ ?_
    refine wpAny_loadName_local rfl rfl hn (by first | rfl | with_unfolding_all rfl | kernel_rfl) ?_
    refine ks_wpAny_isType_cls hD1 hD2 ⟨rfl, ?_⟩
    refine ks_wpAny_call_super hD1 hD2 I₁.at_ I₁.cls (fun c e => by cases e) (looks_mroIn X₁ T.ms) (fun h₂ so k₂ => ?_)
    have X₂ : K.In h₂ := X₁.keeps k₂
    have hx₂ := k₂ _ _ hx₁
    have I₂ : InstAt h₂ x (excO C t0) C none := ⟨hx₂, rfl, rfl, trivial⟩
    have hsi : alongIn K "__init__" (((Value.ref C :: bm).dropWhile (· != .ref C)).drop 1) = some (some (.builtin "ValueError.__init__")) := by
      have := T.si
      unfold ks_superIn at this
      rw [hcl] at this
      exact this
    refine getMethod_v so (looks_opaque X₂ T.st) (l₀ := .ref C :: bm) ((looks_clsIn X₂ hcl).andThen .now) rfl X₂ hsi hxC (by decide) (I₂.type.andThen (looks_mroIn X₂ T.mv)) ?_
    have kv : ∀ b o, h₂.get? b = some o → (h₂.push (bv x)).get? b = some o := fun b o e => Heap.get?_push_of_some _ e
    have hu : (h₂.push (bv x)).get? h₂.objs.size = some (bv x) := Heap.get?_push_size _ rfl
    refine callWith_v (x := x) rfl (evalArgs_plain ?_)
    refine spliced_cons (wpAny_Constant_str (k := j) (pos := a4) (spliced_nil ⟨hu, ?_⟩))
    refine call_v (kv _ _ (X₂ _ _ hC)) (kv _ _ hx₂) hu (by rw [sizeLine_eq]; exact (by decide : 1 ≤ 16777216)) fun h₃ t₃ k₃ hx₃ => ?_
    have old : ∀ b o, b ≠ x → h₁.get? b = some o → h₃.get? b = some o := fun b o hb e => k₃ b o hb (kv _ _ (k₂ _ _ e))
    have X₃ : K.In h₃ := kept_but X₁ hnx old
    have hn₃ : h₃.Ns s0.objs.size (fun y => [((PySem.Str.ofString "self"), Value.ref x), ((PySem.Str.ofString "reason"), v)].reverse.lookup y) := by
      obtain ⟨oL, es, ep, hL, r⟩ := hn
      exact ⟨oL, es, ep, old _ _ hxL hL, r⟩
    refine ks_wpAt_execs_cons (ks_wpAt_Assign_Attr ?_)
    refine wpAt_of_wpAny (wpAny_Name (wpAny_loadName_local rfl rfl hn₃ (by first | rfl | with_unfolding_all rfl | kernel_rfl) ?_) (by decide))
    refine wpAny_Name (wpAny_loadName_local rfl rfl hn₃ (by first | rfl | with_unfolding_all rfl | kernel_rfl) ?_) (by decide)
    refine set_plain X₃ (ox := excO C t₃) (od := none) ⟨hx₃, rfl, rfl, trivial⟩ T.sa ?_
    refine exc_osa X₃ hx₃ hcl (show refsVE (.ref C :: bm) = true from hbm) rfl T.noR (fun h₄ tk₄ dx k₄ dn dne hx₄ hn₄ => ?_)
    have z : s0.objs.size < h₁.objs.size := hn.lt
    have z3 : s0.objs.size < h₃.objs.size := hn₃.lt
    exact wpAt_of_wpAny (wpAny_execs_nil (hq h₄ tk₄ dx t₃ ⟨fun b o hb e => k₄ b o hb (old b o hb (k b o e)), hx₄, Nat.le_of_lt (Nat.lt_of_lt_of_le z3 dn), dne, hn₄⟩))
/-- an error just made -/
structure Made (h h' : Heap) (e C d : Addr) (v : Value) : Prop where
  keep : ∀ b o, h.get? b = some o → h'.get? b = some o
  new : h.objs.size ≤ e
  obj : ∃ oe vs, h'.get? e = some oe ∧ oe.cls = .ref C ∧ oe.dict = some d ∧ oe.data = .fields vs ∧ vs[1]? = some .none ∧ vs[2]? = some .none ∧ 4 < vs.size
  dbig : h.objs.size ≤ d
  dne : d ≠ e
  ns : h'.Ns1 d (fun y => if y = "reason" then some v else none)
theorem sup_made (T : Txt prog K mg C fI) {v : Value} (X : K.In s.heap) (hlim : s.heap.NoLimit) (hG : s.heap.Ns mainGlobals mg) (hB : s.heap.Ns builtinsNs mb) (hb : mb "super" = some (.type "super")) (hroom : A.depth + 1 < recursionLimit)
    (hq : ∀ h' tk e d, Made s.heap h' e C d v → R (.ok (.ret (.ref e))) { s with heap := h', toks := tk }) :
    codeAny (model prog w) A (.call (.ref C) ⟨[v], []⟩) R s := by
  obtain ⟨nm, q, N, bs, bm, sn, sub, ab, col, dd, k0, k1, k2, k3, k5, hC, hbm⟩ := T.cls
  obtain ⟨hp, g, dr, tk, os⟩ := s
  have k : ∀ b o, hp.get? b = some o → ((hp.push (kdv_tup [v])).push (excO C hp.objs.size)).get? b = some o := fun b o e => Heap.get?_push_of_some _ (Heap.get?_push_of_some _ e)
  have hget : ((hp.push (kdv_tup [v])).push (excO C hp.objs.size)).get? (hp.objs.size + 1) = some (excO C hp.objs.size) := by heap_get
  have hnx : K.lookup (hp.objs.size + 1) = none := by
    cases e : K.lookup (hp.objs.size + 1) with
    | none => rfl
    | some o =>
      have z : hp.get? (hp.objs.size + 1) = some o := X _ _ e
      exact absurd (Nat.lt_of_succ_lt (Heap.lt_size z)) (Nat.lt_irrefl _)
  refine call_own F.excBase_ValueError (fun Y => refsVE_contains Y bm hbm) (X _ _ hC) (looks_findIn X T.iC) (fun self => bind_fn X self T.tI) (by rw [sizeLine_eq]; exact (by decide : 1 ≤ 16777216)) ?_
  refine sup_init (mb := mb) (s := ⟨(hp.push (kdv_tup [v])).push (excO C hp.objs.size), g, dr, tk, os⟩) T (X.keeps k) (hlim.keeps k) (hG.keeps k) (hB.keeps k) hb hget hnx ?_ fun h' tk' dx t1 ⟨k', hx, dn, dne, hns⟩ => ?_
  · show A.depth + 1 < recursionLimit
    exact hroom
  · have old : ∀ b o, hp.get? b = some o → h'.get? b = some o := fun b o e => k' b o (Nat.ne_of_lt (Nat.lt_succ_of_lt (Heap.lt_size e))) (k b o e)
    have z : hp.objs.size + 1 + 1 ≤ dx := by
      have q := dn
      rw [Heap.size_push, Heap.size_push] at q
      exact q
    exact ⟨rfl, hq h' tk' (hp.objs.size + 1) dx ⟨old, Nat.le_succ _, ⟨_, _, hx, rfl, rfl, rfl, rfl, rfl, show 4 < 6 by decide⟩, Nat.le_trans (Nat.le_trans (Nat.le_succ _) (Nat.le_succ _)) z, dne, hns⟩⟩
end
end Sup

open PySem PySem.Spec L2
open PyProof.Rows hiding St
theorem relO_reason {v : V} {v' : Value} (r : RelV v v') (f : Str) : RelO (List.lookup f [(("reason" : Str), v)]) (if f = "reason" then some v' else none) := by
  by_cases hw : f = "reason"
  · subst hw
    rw [if_pos rfl]
    have q : List.lookup ("reason" : Str) [(("reason" : Str), v)] = some v := by simp [List.lookup]
    rw [q]
    exact r
  · rw [if_neg hw]
    have qw : (f == ("reason" : Str)) = false := by simpa using hw
    have q2 : List.lookup f [(("reason" : Str), v)] = none := by simp [List.lookup, qw]
    rw [q2]
    trivial
section
variable {X : Cx} {P : Program} {w : World} {K : PySem.W.Frag} {mg : Str → Option Value} {base : Heap} {N : List Str} {sc : Scope} {k : Nat} {bk nn : Bool} {g : Ce} {W : WX}
variable {pu sh : Bool} {e : Expr} {pos p pos' : Pos} {m : Ev} {x : Str} {C fI : Addr}
/-- C(e) -/
def tMkS (C : Addr) (ta : TA) : L2.St → Hp → XK → Prop := fun σ H Q => ta σ H fun vs H1 => ∃ v, vs = [v] ∧ ∀ d, H1 d = none → Q (.ref C) (some d) (upd H1 d (.xd [(("reason" : Str), v)]))
theorem pmk5_sup {te : TE} (T : Sup.Txt X.prog X.K X.mg C fI) (hr : X.A.depth + 1 < recursionLimit) (hg : Gl X x) (hm : X.mg x = some (.ref C)) (ha : PE X e te) (hdb : (x == ("__debug__" : Str)) = false)
    (he : starEach (e :: []) X.env = (false, eval e X.env) :: starEach [] X.env := by rfl) (hpl : (backTo pos (starEach [] X.env)).any (·.1) = false := by rfl) :
    L2H.PMk5 X (.Call (.Name x p) [e] [] pos) (tMkS C (tCons te tNil)) := by
  intro pins s σ H Q I h
  refine wpAny_Call_Name_kw (ld_glob I hg hm ?_ hdb)
  refine PySem.W.callWith_K (h₀ := X.base) I.ok.mod.kin T.kC (thn ((pa_cons ha pa_nil he).run pos pins s σ H _ I h) fun us s1 hh => ?_) he hpl
  obtain ⟨vs, H1, I1, r1, v, ev, q1⟩ := hh
  subst ev
  refine ⟨I1.kIn, ?_⟩
  cases r1 with
  | cons rv rn =>
    rename_i v' us'
    cases rn
    show wpAny _ _ (call (.ref C) [v']) _ _ _
    have hlim := I1.nolimit
    have hG := I1.mod.glob.keeps I1.bk
    obtain ⟨mb, hB0, hb0⟩ := I1.mod.blt
    have hB := hB0.keeps I1.bk
    have hb : mb "super" = some (.type "super") := (hb0 "super" (by decide)).trans rfl
    obtain ⟨hp, gg, dr, tk, os⟩ := s1
    refine wpAny_call (Sup.sup_made T I1.kIn hlim hG hB hb hr fun h' tk' e d M => ?_)
    show L2N.MkP X pins σ Q (.ref e) ⟨h', gg, dr, tk', os⟩ ∧ L2H.Six (.ref e) ⟨h', gg, dr, tk', os⟩
    obtain ⟨oe, fv, hoe, hc, hd, hdat, h1, h2, h4⟩ := M.obj
    have hns := M.ns
    obtain ⟨G', g1, g2⟩ := restrict h' fun b => decide (b ≠ e)
    have gk : ∀ b, b ≠ e → G'.get? b = h'.get? b := fun b hb => g1 b (decide_eq_true hb)
    have ge : G'.get? e = none := g2 e (by simp)
    have old : ∀ b o, hp.get? b = some o → G'.get? b = some o := fun b o q => (gk b (Nat.ne_of_lt (Nat.lt_of_lt_of_le (Heap.lt_size q) M.new))).trans (M.keep b o q)
    have ob : ObjOk X.prog X.w (upd H1 d (.xd [(("reason" : Str), v)])) G' d (.xd [(("reason" : Str), v)]) :=
      ⟨_, hns.at (fun o q => (gk d M.dne).trans q), fun f => relO_reason rv f⟩
    have J : Inv X pins σ (upd H1 d (.xd [(("reason" : Str), v)])) ⟨G', gg, dr, tk', os⟩ := I1.laid (t' := tk') old M.dbig ob
    refine ⟨⟨e, oe, fv, ⟨G', gg, dr, tk', os⟩, _, .ref C, some d, rfl, J, fun b o q => ?_, ge, hoe, ⟨hc, hd, fun vs ev => by rw [hdat] at ev; cases ev; exact h2⟩, hdat, h1, ?_, rfl, I1.bare, raises_own T.exC T.tyC, q1 d (I1.hok.fresh M.dbig)⟩, fun a' oe' vs' ea eo ed => by
      cases ea
      rw [show h'.get? e = some oe' from eo] at hoe
      cases hoe
      rw [ed] at hdat
      cases hdat
      exact h4⟩
    · by_cases hb : b = e
      · have q' : G'.get? b = some o := q
        rw [hb, ge] at q'; cases q'
      · exact (gk b hb).symm.trans q
    · rw [upd_ne (Ne.symm M.dne)]
      exact I1.hok.fresh M.new
theorem pmk_zc {e : Expr} {t : L2.St → Hp → XK → Prop} (h : L2N.PMk X e t) : PMk X e t := fun pins s σ H Q I w => thn (h pins s σ H Q I w) fun u s1 ⟨a, oe, vs, sI, H', cls, d, e1, e2, e3, e4, e5, e6, e7⟩ => ⟨a, oe, vs, sI, H', cls, d, e1, e2, e3, e4, e5, e6.zc, e7⟩
theorem raiseN {e : Expr} {t : L2.St → Hp → XK → Prop} {nn : Bool} (hc : X.calm = true) (tk : Tk nn X W) (he : L2N.PMk X e t) : PS X (.Raise (some e) none pos) (fun _ σ H => t σ H fun cls d H' => W cls d σ H') := by
  cases nn with
  | true => exact L2N.ps_raise hc tk he
  | false => exact L2.ps_raise hc tk (pmk_zc he)
def sRaise (i : Nat) (m : Ev) : Sv := fun env => bnd (m env) fun p => .error (.raise i p.1)
theorem s_raise (Cc : Cok nn X W P w K mg base N sc k bk) {i j : Nat} (T : Sup.Txt P K mg C fI) (hj : j + 1 ≤ k + 1) (hg : gloB sc x = true) (hm : mg x = some (.ref C)) (hec : g.ec i = some C) (hen : g.en i = "reason") (ha : DE X g pu false e m W) (hdb : (x == ("__debug__" : Str)) = false := by rfl)
    (he : starEach (e :: []) X.env = (false, eval e X.env) :: starEach [] X.env := by rfl) (hpl : (backTo pos (starEach [] X.env)).any (·.1) = false := by rfl) : DS X g (.Raise (some (.Call (.Name x p) [e] [] pos)) none pos') (sRaise i m) W := by
  have hgl := gloB_of Cc hg
  have tk := Cc.tk
  have hr := Cc.room
  have hc := Cc.calm
  obtain ⟨rfl, rfl, rfl, rfl, rfl⟩ := And.intro Cc.eP (And.intro Cc.ew (And.intro Cc.eK (And.intro Cc.em Cc.eb)))
  refine PS.imp (raiseN hc tk (L2H.PMk5.pmk (pmk5_sup T (by have := hr.dp; omega) hgl hm ha hdb he hpl))) fun E σ H ⟨xs, env, S, w⟩ => ?_
  refine ⟨xs, env, S, WantS.bindE w fun d env' v H' e s r w' => ⟨v, rfl, fun d' hd => ?_⟩⟩
  have r' : IsD (cc X g) (hide H' (Hid xs env σ)) d v := r
  refine w' _ _ σ _ rfl (s.sm.trans (hide_full.trans (same_new hd))) ⟨C, d', v, hec, rfl, rfl, ?_, r'.same (hide_full.trans (same_new hd))⟩
  show upd H' d' _ d' = some (.xd [(g.en i, v)])
  rw [hen]; exact upd_same
end
end Dn

/-! Dn19 -/
set_option Elab.async false
set_option linter.all false
set_option maxRecDepth 100000
set_option maxHeartbeats 1000000
/-! Dn19: a def that changes its first argument's list. -/
namespace Dn
open PySem PySem.Spec L2
open PyProof.Rows hiding St

def enterO (n : Nat) (s : D) (ds : List D) : En := Sl.ow s :: enter (n - 1) ds
def finO : M (Fl × En) → M (D × D)
  | .ok (fl, env) => match env[(0 : Nat)]? with
    | some (.ow s) => match fl with
      | .nx => .ok (.non, s)
      | .rt d => .ok (d, s)
      | .rf d => .ok (d, s)
      | _ => stuck
    | _ => stuck
  | .error e => .error e
section
variable {c : Cc} {N : List Str} {ds : List D} {s : D} {a : Addr} {ws : List V} {H : Hp} {xs : Addr → Prop} {o : HO}
theorem startO_eq (hN : ws.length + 1 ≤ N.length) : L2.start N (.ref a :: ws) = some (V.ref a) :: (ws.map some ++ List.replicate (N.length - 1 - ws.length) none) := by
  unfold L2.start
  simp only [List.map_cons, List.length_cons, List.cons_append]
  have : N.length - (ws.length + 1) = N.length - 1 - ws.length := by omega
  rw [this]
theorem enterO_owns (hN : ws.length + 1 ≤ N.length) {b : Addr} : Owns (enterO N.length s ds) (L2.start N (.ref a :: ws)) b ↔ b = a := by
  rw [startO_eq hN]
  constructor
  · rintro ⟨i, d, h1, h2⟩
    cases i with
    | zero => simp at h2; exact h2.symm
    | succ i =>
      have h1' : (enter (N.length - 1) ds)[i]? = some (Sl.ow d) := h1
      rcases enter_get h1' with ⟨e, _, h⟩ | h <;> cases h
  · rintro rfl
    exact ⟨0, s, rfl, rfl⟩
theorem enterO_ok (hN : ds.length + 1 ≤ N.length) (hx : ∀ b, xs b → H b ≠ none ∧ b ≠ a) (ho : H a = some o) (hr : ObjRep c (hide H (fun b => b = a ∨ xs b)) s o) (r : IsDs c (hide H (fun b => b = a ∨ xs b)) ds ws) :
    StOk c xs (enterO N.length s ds) (L2.start N (.ref a :: ws)) H := by
  have hl := r.len
  have hN' : ws.length + 1 ≤ N.length := by omega
  have eq : Hid xs (enterO N.length s ds) (L2.start N (.ref a :: ws)) = fun b => b = a ∨ xs b := by
    funext b; unfold Hid; rw [propext (enterO_owns (s := s) (ds := ds) hN')]
  refine ⟨?_, fun b hb => ⟨(hx b hb).1, fun z => (hx b hb).2 ((enterO_owns hN').mp z)⟩, fun i d h => ?_, fun i d h => ?_, fun i j d e b h1 h2 h3 h4 => ?_⟩
  · rw [startO_eq hN']
    unfold enterO enter
    simp [hl]
  · rw [eq, startO_eq hN']
    cases i with
    | zero => cases h
    | succ i =>
      have h' : (enter (N.length - 1) ds)[i]? = some (Sl.va d) := h
      rcases enter_get h' with ⟨e, h1, h2⟩ | h
      · cases h2
        obtain ⟨v, h3, h4⟩ := r.getD h1
        refine ⟨v, ?_, h4⟩
        show (ws.map some ++ _)[i]? = _
        rw [List.getElem?_append_left (by rw [List.length_map]; exact (List.getElem?_eq_some_iff.mp h3).1), List.getElem?_map, h3]
        rfl
      · cases h
  · rw [eq, startO_eq hN']
    cases i with
    | zero =>
      have : s = d := by
        have h' : some (Sl.ow s) = some (Sl.ow d) := h
        cases h'; rfl
      subst this
      exact ⟨a, o, rfl, ho, hr⟩
    | succ i =>
      have h' : (enter (N.length - 1) ds)[i]? = some (Sl.ow d) := h
      rcases enter_get h' with ⟨e, _, h⟩ | h <;> cases h
  · have z : ∀ {i d}, (enterO N.length s ds)[i]? = some (Sl.ow d) → i = 0 := fun {i d} h => by
      cases i with
      | zero => rfl
      | succ i =>
        have h' : (enter (N.length - 1) ds)[i]? = some (Sl.ow d) := h
        rcases enter_get h' with ⟨e, _, h⟩ | h <;> cases h
    rw [z h1, z h2]
theorem body_endO {Q : VK} {E : XK} {r : M (Fl × En)} (hN : ws.length + 1 ≤ N.length)
    (h : match finO r with
      | .ok (d, s') => ∀ v H' o', Same (hide H (· = a)) (hide H' (· = a)) → H' a = some o' → ObjRep c (hide H' (fun b => b = a ∨ xs b)) s' o' → IsD c (hide H' (fun b => b = a ∨ xs b)) d v → Q v H'
      | .error (.raise k p) => ∀ cls dd H', Same (hide H (· = a)) H' → ExcRep c H' k p cls dd → E cls dd H'
      | .error .stuck => False) :
    WantS c xs (enterO N.length s ds) (L2.start N (.ref a :: ws)) H (fun cls d _ H => E cls d H) { nx := fun _ H' => Q .non H', rt := Q } r := by
  have own : Owns (enterO N.length s ds) (L2.start N (.ref a :: ws)) = (· = a) := by funext b; exact propext (enterO_owns hN)
  have hw0 : isOw (enterO N.length s ds) 0 = true := rfl
  have hs0 : (L2.start N (.ref a :: ws))[0]? = some (some (V.ref a)) := by rw [startO_eq hN]; rfl
  cases r with
  | error e => cases e with
    | raise k p => exact fun cls dd σ' H' _ k' r => h cls dd H' (by rw [← own]; exact k') r
    | stuck => exact h
  | ok p =>
    obtain ⟨fl, env'⟩ := p
    have key : ∀ {σ' : St} {H' : Hp}, StOk c xs env' σ' H' → Kept (enterO N.length s ds) (L2.start N (.ref a :: ws)) H env' σ' H' →
        ∃ s' o', env'[0]? = some (Sl.ow s') ∧ H' a = some o' ∧ Same (hide H (· = a)) (hide H' (· = a)) ∧ ObjRep c (hide H' (fun b => b = a ∨ xs b)) s' o' ∧ Same (hide H' (Hid xs env' σ')) (hide H' (fun b => b = a ∨ xs b)) := fun {σ' H'} S' k => by
      obtain ⟨f1, f2⟩ := k.fx hw0
      obtain ⟨s', hs'⟩ := of_isOw f1
      obtain ⟨b, o', e1, e2, e3⟩ := S'.ow 0 s' hs'
      rw [f2, hs0] at e1; cases e1
      have sub : Same (hide H' (Hid xs env' σ')) (hide H' (fun b => b = a ∨ xs b)) := hide_sub fun b z => by
        rcases z with z | z
        · subst z; exact .inl ⟨0, s', hs', by rw [f2, hs0]⟩
        · exact .inr z
      refine ⟨s', o', hs', e2, fun b u hb => ?_, e3.same sub, sub⟩
      obtain ⟨h1, h2⟩ := hide_some hb
      have := k.sm b u (by rw [own]; exact hb)
      rw [hide_of (P := (· = a)) h1]
      exact (hide_some this).2
    cases fl with
    | nx =>
      intro σ' H' S' k
      obtain ⟨s', o', q1, q2, q3, q4, _⟩ := key S' k
      unfold finO at h
      simp only [q1] at h
      exact h .non H' o' q3 q2 q4 isNon
    | bk =>
      intro σ' H' S' k
      obtain ⟨s', o', q1, _⟩ := key S' k
      unfold finO at h
      simp only [q1] at h
    | ct =>
      intro σ' H' S' k
      obtain ⟨s', o', q1, _⟩ := key S' k
      unfold finO at h
      simp only [q1] at h
    | rt d =>
      intro σ' v H' S' k hd
      obtain ⟨s', o', q1, q2, q3, q4, q5⟩ := key S' k
      unfold finO at h
      simp only [q1] at h
      exact h v H' o' q3 q2 q4 (hd.same q5)
    | rf d =>
      rintro σ' v H' S' k ⟨b, u, e1, e2, e3, e4, e5⟩
      obtain ⟨s', o', q1, q2, q3, q4, q5⟩ := key S' k
      unfold finO at h
      simp only [q1] at h
      subst e1
      have nb : ¬ (b = a ∨ xs b) := fun z => e4 (by
        rcases z with z | z
        · subst z
          obtain ⟨f1, f2⟩ := k.fx hw0
          exact .inl ⟨0, s', q1, by rw [f2, hs0]⟩
        · exact .inr z)
      refine h _ H' o' q3 q2 q4 (ObjRep.isD (e5.same (hide_sub fun c' z => ?_)) e3 nb)
      rcases z with (z | z) | z
      · subst z
        obtain ⟨f1, f2⟩ := k.fx hw0
        exact .inl (.inl ⟨0, s', q1, by rw [f2, hs0]⟩)
      · exact .inl (.inr z)
      · exact .inr z
    | ro i =>
      intro σ' a' H' S' k
      obtain ⟨s', o', q1, _⟩ := key S' k
      unfold finO at h
      simp only [q1] at h
end
section
variable {P : Program} {w : World} {K : PySem.W.Frag} {mg : Str → Option Value} {base : Heap} {g : Ce}
/-- THE RULE for a def that may change its first argument's list -/
theorem def_own {nn : Bool} {x qual : Str} {st : Stmt} {f : Addr} {fd : FuncData} {N ps : List Str} {k n : Nat} {mf : D → List D → M (D × D)} {body : Sv} (F : Fun K x qual st f fd) (S : FnScope N ps (defScope st)) (hn : ps.length = n + 1) (hN : ps.length ≤ N.length) (hf : ∀ s ds, mf s ds = finO (body (enterO N.length s ds)))
    (hbody : ∀ (X : Cx) (W : WX), Cok nn X W P w K mg base N (defScope st) k false → PaOk X → DSs X g (defBody st) body W) :
    FnOk P w K mg base (CXn nn P w) (k + 1) f fd ps (spO (ck K g) n mf) := by
  refine fun_ok F S (fun vs H Q E ⟨xs, a, o, s, ds, ws, h1, h2, h3, h4, h5, h6, _⟩ => by rw [h1, List.length_cons, ← h6.len, h2, hn]) (fun cdv A outer s H vs Q E hr ⟨xs, a, o, st', ds, ws, h1, h2, h3, h4, h5, h6, h⟩ => ?_)
  subst h1
  have hl := h6.len
  refine ⟨_, hbody _ _ (ctx_def S hr) (L2H.passesAt_of rfl), xs, enterO N.length st' ds, enterO_ok (by omega) h3 h4 h5 h6, ?_⟩
  rw [hf] at h
  exact body_endO (by omega) h
end
end Dn

/-! Dn20 -/
set_option Elab.async false
set_option linter.all false
set_option maxRecDepth 100000
set_option maxHeartbeats 2000000
/-! Dn20: a def called on the error that a suite holds. -/
namespace Dn
open PySem PySem.Spec L2
open PyProof.Rows hiding St
open L2H (RoomH PinOk)

/-- what such a def promises: it lets no error out -/
structure FnW (P : Program) (w : World) (K : PySem.W.Frag) (mg : Str → Option Value) (base : Heap) (k : Nat) (f : Addr) (fd : FuncData) (ps : List Str) (sp : Addr → Value → Option Addr → Sp) : Prop where
  len : ∀ a cls d vs H Q E, sp a cls d vs H Q E → vs.length = ps.length
  run : ∀ (A : Around) (outer : List Env) (s : Shared) (H : Hp) (args : Args) (us : List Value) (vs : List V) (Q : VK) (a : Addr) (oe : Obj) (cls : Value) (d : Option Addr), RoomH k A → PinOk outer H s (a, oe) → Zc cls d oe → (∃ vs, oe.data = .fields vs) → Env0 P w K mg base A outer s H → BindsTo s fd args (ps.zip us) → Vals vs us →
    sp a cls d vs H Q (fun _ _ _ => False) → codeAny (model P w) A (.call (.ref f) args) (CR CX0 outer P w H s Q (fun _ _ _ => False)) s
theorem fn_ofW {P : Program} {w : World} {K : PySem.W.Frag} {mg : Str → Option Value} {base : Heap} {k : Nat} {f : Addr} {x qual : Str} {st : Stmt} {fd : FuncData} {N ps : List Str} {sp : Addr → Value → Option Addr → Sp} (F : Fun K x qual st f fd) (S : FnScope N ps (defScope st))
    (len : ∀ a cls d vs H Q E, sp a cls d vs H Q E → vs.length = ps.length)
    (hbody : ∀ (cdv : Value) (A : Around) (outer : List Env) (s : Shared) (H : Hp) (vs : List V) (Q : VK) (a : Addr) (oe : Obj) (cls : Value) (d : Option Addr), Zc cls d oe → (∃ vs, oe.data = .fields vs) → sp a cls d vs H Q (fun _ _ _ => False) →
      ∃ t, PSs (L2H.cxH CX0 P w K mg base N qual (defScope st) f cdv A outer s H (fun _ _ _ => False) (a, oe)) (defBody st) t ∧ t { nx := fun _ H' => Q .non H', rt := Q } (L2.start N vs) H) :
    FnW P w K mg base (k + 1) f fd ps sp := by
  obtain ⟨oc, od, kV, doc, pm, an, cdv, ct, osl, rfl, lk, hcd⟩ := F.ex
  refine ⟨len, fun A outer s H args us vs Q a oe cls d hr hpin hz hf e0 hb r hsp => ?_⟩
  have hl := len _ _ _ _ _ _ _ hsp
  have KX : K.In s.heap := e0.mod.kin.keeps fun b o e => (e0.bs b o e).1
  have lim : s.heap.NoLimit := e0.mod.nolimit.keeps fun b o e => (e0.bs b o e).1
  have hkind : ∀ y ∈ ps.zip us, (defScope st).names.lookup y.1 = some .local ∨ ((defScope st).names.lookup y.1 = some .cell ∧ ((cellsFrom (s.heap.objs.size + 1) (defScope st).names []).lookup y.1).isSome = true) := fun ⟨n, v⟩ hy => by
    rcases S.par n (List.of_mem_zip hy).1 with q | q
    · exact .inl q
    · exact .inr ⟨q, PySem.W.cellsFrom_some _ _ _ (.inl q)⟩
  refine codeAny_call_function hr.depth (KX _ _ lk) rfl S.co S.gen rfl (PySem.W.codeRec_of KX hcd) (hb _ _ _ _ ?_)
  refine wpAny_newFunctionEnv_cells S.kind hkind fun env he s1 x => ?_
  subst he
  refine ⟨lim.keeps x.toInCall.keep, codeAny_func ?_⟩
  obtain ⟨t, ht, hq⟩ := hbody cdv A outer s H vs Q a oe cls d hz hf hsp
  have I : Inv (L2H.cxH CX0 P w K mg base N qual (defScope st) f cdv A outer s H (fun _ _ _ => False) (a, oe)) [] (L2.start N vs) H s1 := L2H.inv_startH S hpin e0 hl r x
  refine wpAny_mono (ht.run [] s1 (L2.start N vs) H _ I hq) (fun fl s' hs => ?_) fun e s' hs => hs
  have fin : ∀ {σ' : St} {H' : Hp} {v : V} {u : Value}, Inv (L2H.cxH CX0 P w K mg base N qual (defScope st) f cdv A outer s H (fun _ _ _ => False) (a, oe)) [] σ' H' s' → RelV v u → Q v H' → CE outer P w H s Q u s' :=
    fun {σ' H' v u} J rv q => ⟨v, H', J.os, J.bare, J.base, J.hok, rv, q⟩
  cases fl with
  | ret u =>
    obtain ⟨v, σ', H', J, rv, q⟩ := hs
    exact fin J rv q
  | next =>
    obtain ⟨σ', H', J, q⟩ := hs
    exact fin (v := V.non) (u := Value.none) J rfl q
  | brk =>
    obtain ⟨_, _, _, q⟩ := hs
    exact False.elim q
  | cont =>
    obtain ⟨_, _, _, q⟩ := hs
    exact False.elim q
section
variable {X : Cx} {k : Nat} {f : Addr} {fd : FuncData} {ps : List Str} {sp : Addr → Value → Option Addr → Sp} {x : Str} {q pos : Pos} {e : Expr} {es : List Expr} {t : TA} {a : Addr} {oe : Obj} {cls : Value} {d : Option Addr}
def tCallW (a : Addr) (cls : Value) (d : Option Addr) (sp : Addr → Value → Option Addr → Sp) (t : TA) : TE := fun σ H Q => t σ H fun vs H1 => sp a cls d vs H1 Q (fun _ _ _ => False)
theorem pe_callW (F : FnW X.prog X.w X.K X.mg X.base k f fd ps sp) (hr : RoomH k X.A) (hp : (a, oe) ∈ X.pn) (hz : Zc cls d oe) (hf : ∃ vs, oe.data = .fields vs) (hg : Gl X x) (hm : X.mg x = some (.ref f)) (hk : PySem.W.keepIn X.K (.ref f) = true) (hb : Binds X.K fd ps [])
    (ha : PA X (e :: es) t) (hdb : (x == ("__debug__" : Str)) = false := by decide) (he : starEach (e :: es) X.env = (false, eval e X.env) :: starEach es X.env := by rfl) (hpl : (backTo pos (starEach es X.env)).any (·.1) = false := by rfl) :
    PE X (.Call (.Name x q) (e :: es) [] pos) (tCallW a cls d sp t) := by
  refine ⟨fun pins s σ H Q I h => ?_⟩
  refine wpAny_Call_Name_kw (ld_glob I hg hm ?_ hdb)
  refine PySem.W.callWith_K (h₀ := X.base) I.ok.mod.kin hk (thn (ha.run pos pins s σ H _ I h) fun us s1 ⟨vs, H1, I1, r, q⟩ => ⟨I1.kIn, ?_⟩) he hpl
  have hl : us.length = ps.length := by rw [← r.length]; exact F.len _ _ _ _ _ _ _ q
  have b := hb s1 us I1.kIn (by rw [List.append_nil]; exact hl)
  rw [List.append_nil] at b
  have P1 := I1.pin (a, oe) (List.mem_append_left _ hp)
  have hpin : PinOk X.stack H1 s1 (a, oe) := ⟨P1.1, P1.2.1, fun hm => (List.mem_cons.mp (I1.stkSub a hm)).elim P1.2.2.1 P1.2.2.2.1, P1.2.2.2.2⟩
  show wpAny _ _ (call (.ref f) us) _ _ _
  refine wpAny_call (codeAny_mono (F.run X.A X.stack s1 H1 ⟨us, []⟩ us vs Q a oe cls d hr hpin hz hf I1.env0 b r q) fun r s' hq => ?_)
  cases r with
  | error e => exact False.elim hq
  | ok fl =>
    cases fl with
    | ret u => exact I1.after hq
    | next => exact False.elim hq
    | brk => exact False.elim hq
    | cont => exact False.elim hq
end

/-! ### asking the error -/
section
variable {X : Cx} {a : Addr} {oe : Obj} {cls : Value} {d : Option Addr}
theorem inst_of {pins : List (Addr × Obj)} {σ : St} {H : Hp} {s : Shared} {D dd : Addr} {fs : List (Str × V)} (I : Inv X pins σ H s) (hp : (a, oe) ∈ X.pn) (hz : Zc (.ref D) (some dd) oe) (hf : ∃ vs, oe.data = .fields vs) (hd : H dd = some (.xd fs)) :
    ∃ od, PySem.W.InstAt s.heap a oe D (some od) ∧ s.heap.get? dd = some od := by
  obtain ⟨hget, _⟩ := I.pin (a, oe) (List.mem_append_left _ hp)
  obtain ⟨vs, hv⟩ := hf
  have hx : ObjOk X.prog X.w H s.heap dd (.xd fs) := I.hok dd _ hd
  obtain ⟨mA, hns, hr⟩ := hx
  obtain ⟨od, ho, hl⟩ := L2.lookIn_ns hns
  exact ⟨od, ⟨hget, hz.1, by unfold PySem.W.notCls; rw [hv] <;> rfl, by rw [hz.2]; exact ho⟩, ho⟩
/-- isinstance(e, c) -/
def rIsX (K : PySem.W.Frag) (a : Addr) (cls : Value) (d : Option Addr) : RC := fun xs H Q => ∃ (D dd : Addr) (fs : List (Str × V)) (c : V) (cv : Value) (b : Bool), cls = .ref D ∧ d = some dd ∧ H dd = some (.xd fs) ∧ ExcC K D ∧ xs = [.ref a, c] ∧ (∀ u, RelV c u → u = cv) ∧ PySem.W.kitOne K (.ref D) cv = some b ∧ Q (.bl b) H
theorem call_isX (hp : (a, oe) ∈ X.pn) (hz : Zc cls d oe) (hf : ∃ vs, oe.data = .fields vs) : CallR X (.builtin "isinstance") (rIsX X.K a cls d) := by
  intro pins s σ H xs us Q I r h
  obtain ⟨D, dd, fs, c, cv, b, rfl, rfl, hd, C, rfl, hcv, e, q⟩ := h
  cases r with
  | cons rx rr =>
    cases rr with
    | cons rt rr =>
      cases rr
      cases rx
      have ec := hcv _ rt
      subst ec
      obtain ⟨od, J, _⟩ := inst_of I hp hz hf hd
      have hcl : (PySem.W.clsIn X.K D).isSome = true := by obtain ⟨cd, hc, _⟩ := PySem.W.any_some C.hd; rw [hc]; rfl
      exact PySem.W.kia_one (PySem.W.kitx_exc hcl C.hg C.hk C.hs C.ha C.hn C.ht C.hm) I.kIn J e (fun z => nomatch z) fun tk => ⟨.bl b, H, I.kept (t' := tk) fun _ _ z => z, rfl, q⟩
/-- e.f -/
def tXg (a : Addr) (cls : Value) (d : Option Addr) (K : PySem.W.Frag) (f : Str) (te : TE) : TE := fun σ H Q => te σ H fun x H1 => ∃ (D dd : Addr) (fs : List (Str × V)) (v : V), x = .ref a ∧ cls = .ref D ∧ d = some dd ∧ XfC K D ∧ PySem.W.findIn K (.ref D) f = some none ∧ H1 dd = some (.xd fs) ∧ fs.lookup f = some v ∧ Q v H1
theorem pe_xg {e : Expr} {te : TE} {pos : Pos} {n : Str} (hp : (a, oe) ∈ X.pn) (hz : Zc cls d oe) (hf : ∃ vs, oe.data = .fields vs) (he : PE X e te) (hb : attributeBase e n X.env (eval e X.env) = eval e X.env := by rfl) :
    PE X (.Attribute e n pos) (tXg a cls d X.K n te) := by
  refine ⟨fun pins s σ H Q I h => ?_⟩
  refine attr_of hb (thn (he.run pins s σ H _ I h) fun u s1 hh => ?_)
  obtain ⟨x, H1, I1, rx, D, dd, fs, v, ex, ec, ed, T, hno, ea, l, q⟩ := hh
  subst ex
  obtain rfl : u = Value.ref a := rx
  subst ec
  subst ed
  obtain ⟨ha, _⟩ := I1.pin (a, oe) (List.mem_append_left _ hp)
  obtain ⟨vs, hd⟩ := hf
  have hx : ObjOk X.prog X.w H1 s1.heap dd (.xd fs) := I1.hok dd _ ea
  obtain ⟨mA, hns, hr⟩ := hx
  obtain ⟨od, ho, hl⟩ := L2.lookIn_ns hns
  obtain ⟨u, hu, ru⟩ := RelO.some_of (v := v) (o := mA n) (by rw [← l]; exact hr n)
  have J : PySem.W.InstAt s1.heap a oe D (some od) := ⟨ha, hz.1, by unfold PySem.W.notCls; rw [hd] <;> rfl, by rw [hz.2]; exact ho⟩
  exact HandSPX.exc_get I1.kIn J T.ga T.gg T.exC (PySem.W.findObj_own T.hdC hno rfl (by rw [hl, hu])) (handed_of ru) ⟨v, H1, I1.tok _, ru, q⟩
end

/-! ### list.count, flat items -/
section
variable {X : Cx}
def rCountV (K : PySem.W.Frag) : V → List V → Hp → VK → Prop := fun x xs H Q => ∃ (a : Addr) (ys : List V) (y : V), x = V.ref a ∧ xs = [y] ∧ SqL K H a ys ∧ flatV y = true ∧ ys.all flatV = true ∧ Q (.int (ys.countP fun z => eqV z y : Nat)) H
theorem count_eqU {y : V} : ∀ {ys : List V} {us : List Value}, Vals ys us → ys.all flatV = true → us.countP (eqU y) = ys.countP fun z => eqV z y
  | _, _, .nil, _ => rfl
  | _, _, .cons r t, f => by
    rw [List.all_cons, Bool.and_eq_true] at f
    rw [List.countP_cons, List.countP_cons, count_eqU t f.2, eqU_of r f.1]
theorem mt_countV : MtR X "list.count" (rCountV X.K) := by
  intro pins s σ H x xs v us Q I rx rxs h
  obtain ⟨a, ys, y, rfl, rfl, hs, fy, fys, q⟩ := h
  cases rx
  cases rxs with
  | cons ry rt =>
    rename_i uy ut
    cases rt
    obtain ⟨its, rv, ⟨⟨cls, dd, data, sl⟩, n, ho, hc, hdn, hd⟩, hlen⟩ := I.list hs
    simp only at hc hd
    subst hc hd
    refine call_meets PySem.F.slot_list_count ⟨_, ho, rfl⟩ PySem.F.entry_list_count (PySem.F.args_list_count_2 _ _)
      (SeqAt.list_countAt a its.toArray n dd sl uy (eqU y)) ⟨ho, fun u' hu' => mem_eqAt ry fy rv fys u' (by simpa using hu'), ?_⟩
    refine ⟨.int (ys.countP fun z => eqV z y : Nat), H, I.tok _, ⟨s.toks, ?_⟩, q⟩
    show Value.int ((its.toArray.toList.countP (eqU y) : Nat) : Int) s.toks = _
    rw [show its.toArray.toList = its from rfl, count_eqU rv fys]
end
end Dn

/-! Dn21 -/
set_option Elab.async false
set_option linter.all false
set_option maxRecDepth 100000
set_option maxHeartbeats 2000000
/-! Dn21: _law_word. -/
namespace Dn
open PySem PySem.Spec L2
open PyProof.Rows hiding St

/-! ### the text -/
def wHeads : List Str := ["flow ", "argument ", "paper ", "many "]
def wNames : List Str := ["FlowError", "ArgumentError", "PaperError", "TooMany"]
def wIs (x : Str) (a b c d : Pos) : Expr := .Call (.Name "isinstance" a) [.Name "error" b, .Name x c] [] d
def wBody (j0 j1 j2 j3 j4 j5 j6 j7 : Nat) (p : Nat → Pos) : List Stmt :=
  [.Assign [.Name "heads" (p 0)] (.List [.Constant (.str "flow ") j0 (p 1), .Constant (.str "argument ") j1 (p 2), .Constant (.str "paper ") j2 (p 3), .Constant (.str "many ") j3 (p 4)] (p 5)) (p 6),
   .Assign [.Name "found" (p 7)] (.List [wIs "FlowError" (p 8) (p 9) (p 10) (p 11), wIs "ArgumentError" (p 12) (p 13) (p 14) (p 15), wIs "PaperError" (p 16) (p 17) (p 18) (p 19), wIs "TooMany" (p 20) (p 21) (p 22) (p 23)] (p 24)) (p 25),
   .Return (some (.IfExp (.BoolOp .And [.Compare (.Call (.Attribute (.Name "found" (p 26)) "count" (p 27)) [.Constant (.bool true) j4 (p 28)] [] (p 29)) [.Eq] [.Constant (.int 1) j5 (p 30)] (p 31), wIs "ValueError" (p 32) (p 33) (p 34) (p 35)] (p 36))
     (.BinOp (.Subscript (.Name "heads" (p 37)) (.Call (.Attribute (.Name "found" (p 38)) "index" (p 39)) [.Constant (.bool true) j6 (p 40)] [] (p 41)) (p 42)) .Add (.Attribute (.Name "error" (p 43)) "reason" (p 44)) (p 45))
     (.Constant (.str "other") j7 (p 46)) (p 47))) (p 48)]
def wS : Scope := { kind := .function, names := [("error", .local), ("heads", .local), ("found", .local), ("isinstance", .globalImplicit), ("FlowError", .globalImplicit), ("ArgumentError", .globalImplicit), ("PaperError", .globalImplicit), ("TooMany", .globalImplicit), ("ValueError", .globalImplicit)], isGenerator := false, isCoroutine := false, more := [] }
def wN : List Str := ["error", "heads", "found"]
/-- the four classes -/
structure WCls (K : PySem.W.Frag) (mg : Str → Option Value) (g : Ce) (C : Nat → Addr) : Prop where
  ec : ∀ i, i < 4 → g.ec i = some (C i)
  m0 : mg "FlowError" = some (.ref (C 0))
  m1 : mg "ArgumentError" = some (.ref (C 1))
  m2 : mg "PaperError" = some (.ref (C 2))
  m3 : mg "TooMany" = some (.ref (C 3))
  mi : mg "isinstance" = none
  mv : mg "ValueError" = none
  ex : ∀ i, i < 4 → ExcC K (C i)
  xf : ∀ i, i < 4 → XfC K (C i)
  no : ∀ i, i < 4 → PySem.W.findIn K (.ref (C i)) "reason" = some none
  is : ∀ i j, i < 4 → j < 4 → PySem.W.kitOne K (.ref (C i)) (.ref (C j)) = some (i == j)
  iv : ∀ i, i < 4 → PySem.W.kitOne K (.ref (C i)) (.type "ValueError") = some true
/-- the word for the error i with that reason -/
def wordOf : Nat → D → M D
  | i, .str x => match wHeads[i]? with
    | some h => if x.length ≤ 1000 then .ok (.str (h ++ x)) else stuck
    | none => stuck
  | _, _ => stuck
def spWord (C : Nat → Addr) (a : Addr) (cls : Value) (d : Option Addr) : Sp := fun vs H Q _ => vs = [V.ref a] ∧ ∃ (i : Nat) (h x : Str) (dd : Addr), i < 4 ∧ wHeads[i]? = some h ∧ x.length ≤ 1000 ∧ cls = .ref (C i) ∧ d = some dd ∧ H dd = some (.xd [("reason", .str x)]) ∧
  ∀ H', Same H H' → Q (.str (h ++ x)) H'
section
variable {X : Cx} {K : PySem.W.Frag} {mg : Str → Option Value} {g : Ce} {C : Nat → Addr} {a : Addr} {oe : Obj} {cls : Value} {d : Option Addr}
/-- the reading of isinstance(error, c) -/
def tIsX (K : PySem.W.Frag) (a : Addr) (cls : Value) (d : Option Addr) (cv : V) : TE := tCB (rIsX K a cls d) (tCons (tVar 0) (tCons (tC cv) tNil))
theorem pe_wIs {x : Str} {cv : V} {p1 p2 p3 p4 : Pos} (hp : (a, oe) ∈ X.pn) (hz : Zc cls d oe) (hf : ∃ vs, oe.data = .fields vs) (hN : X.N = wN) (hs : X.env.scope = wS) (hm : X.mg "isinstance" = none) (hc : PE X (.Name x p3) (tC cv)) (h1 : starEach [.Name x p3] X.env = (false, eval (.Name x p3) X.env) :: starEach [] X.env := by rfl) : PE X (wIs x p1 p2 p3 p4) (tIsX X.K a cls d cv) :=
  pe_callB (call_isX hp hz hf) (by show X.env.scope.names.lookup _ = _; rw [hs]; rfl) hm rfl (pa_cons (pe_var (by rw [hN]; rfl) (.inl (by rw [hs]; rfl))) (pa_cons hc pa_nil))
theorem word_ok {P : Program} {w : World} {base : Heap} {f : Addr} {fd : FuncData} {x qual : Str} {st : Stmt} {k : Nat} {j0 j1 j2 j3 j4 j5 j6 j7 : Nat} {p : Nat → Pos} (T : WCls K mg g C) (F : Fun K x qual st f fd) (hB : defBody st = wBody j0 j1 j2 j3 j4 j5 j6 j7 p) (hS : defScope st = wS)
    (l1 : ((p 27).endLine == (p 29).line) = true) (l2 : ((p 39).endLine == (p 41).line) = true) (S : FnScope wN ["error"] (defScope st)) : FnW P w K mg base (k + 1) f fd ["error"] (spWord C) := by
  refine fn_ofW F S (fun a cls d vs H Q E ⟨e, _⟩ => by rw [e]; rfl) (fun cdv A outer s H vs Q a oe cls d hz hf hsp => ?_)
  obtain ⟨ev, i, h, x, dd, hi, hh, hx, ec, ed, hd, q⟩ := hsp
  subst ev ec ed
  generalize hX : L2H.cxH CX0 P w K mg base wN qual (defScope st) f cdv A outer s H (fun _ _ _ => False) (a, oe) = X
  have eN : X.N = wN := by rw [← hX]; rfl
  have es : X.env.scope = wS := by rw [← hX, ← hS]; rfl
  have eK : X.K = K := by rw [← hX]; rfl
  have em : X.mg = mg := by rw [← hX]; rfl
  have ef : ∀ y, X.fn y = true := by rw [← hX]; exact fun _ => rfl
  have hp : (a, oe) ∈ X.pn := by rw [← hX]; exact List.mem_cons_self
  have gl : ∀ y : Str, wS.names.lookup y = some .globalImplicit → Gl X y := fun y e => by show X.env.scope.names.lookup y = _; rw [es]; exact e
  have vr : ∀ (n : Nat) (y : Str) (pos : Pos), wN[n]? = some y → wS.names.lookup y = some .local → (y == ("__debug__" : Str)) = false → (y == ("__classdict__" : Str)) = false → PE X (.Name y pos) (tVar n) := fun n y pos h1 h2 h3 h4 => pe_var (by rw [eN]; exact h1) (.inl (by rw [es]; exact h2)) h3 h4
  have cl : ∀ (y : Str) (n : Nat) (pos : Pos), wS.names.lookup y = some .globalImplicit → mg y = some (.ref (C n)) → (y == ("__debug__" : Str)) = false → PE X (.Name y pos) (tC (.ref (C n))) := fun y n pos h1 h2 h3 => pe_glob (gl y h1) (by rw [em]; exact h2) rfl h3
  have hmi : X.mg "isinstance" = none := by rw [em]; exact T.mi
  have s1 : PS X (.Assign [.Name "heads" (p 0)] (.List [.Constant (.str "flow ") j0 (p 1), .Constant (.str "argument ") j1 (p 2), .Constant (.str "paper ") j2 (p 3), .Constant (.str "many ") j3 (p 4)] (p 5)) (p 6)) _ :=
    ps_set (i := 1) (by rw [eN]; decide) (by rw [eN]; rfl) (.inl (by rw [es]; rfl)) (pe_lst (pa_cons pe_str (pa_cons pe_str (pa_cons pe_str (pa_cons pe_str pa_nil))))) rfl (.inl (ef _))
  have s2 : PS X (.Assign [.Name "found" (p 7)] (.List [wIs "FlowError" (p 8) (p 9) (p 10) (p 11), wIs "ArgumentError" (p 12) (p 13) (p 14) (p 15), wIs "PaperError" (p 16) (p 17) (p 18) (p 19), wIs "TooMany" (p 20) (p 21) (p 22) (p 23)] (p 24)) (p 25)) _ :=
    ps_set (i := 2) (by rw [eN]; decide) (by rw [eN]; rfl) (.inl (by rw [es]; rfl)) (pe_lst (pa_cons (pe_wIs hp hz hf eN es hmi (cl _ 0 _ rfl T.m0 rfl)) (pa_cons (pe_wIs hp hz hf eN es hmi (cl _ 1 _ rfl T.m1 rfl)) (pa_cons (pe_wIs hp hz hf eN es hmi (cl _ 2 _ rfl T.m2 rfl)) (pa_cons (pe_wIs hp hz hf eN es hmi (cl _ 3 _ rfl T.m3 rfl)) pa_nil))))) rfl (.inl (ef _))
  have s3 : PS X (.Return (some (.IfExp (.BoolOp .And [.Compare (.Call (.Attribute (.Name "found" (p 26)) "count" (p 27)) [.Constant (.bool true) j4 (p 28)] [] (p 29)) [.Eq] [.Constant (.int 1) j5 (p 30)] (p 31), wIs "ValueError" (p 32) (p 33) (p 34) (p 35)] (p 36))
     (.BinOp (.Subscript (.Name "heads" (p 37)) (.Call (.Attribute (.Name "found" (p 38)) "index" (p 39)) [.Constant (.bool true) j6 (p 40)] [] (p 41)) (p 42)) .Add (.Attribute (.Name "error" (p 43)) "reason" (p 44)) (p 45))
     (.Constant (.str "other") j7 (p 46)) (p 47))) (p 48)) _ :=
    ps_ret (pe_ifExp (pw_and (pt_cmpR op_eq (pe_bm PySem.F.plainAttrs_list PySem.F.slot_list_count PySem.F.type_list_count mt_countV (vr 2 "found" _ rfl rfl rfl rfl) (pa_cons pe_bl pa_nil) rfl rfl l1) pe_int rfl)
        (pw_and1 (pt_val (pe_wIs hp hz hf eN es hmi (pe_bltn (v := .ty "ValueError") (gl _ rfl) (by rw [em]; exact T.mv) PyProof.Rows.Boot.«ValueError» rfl))))).pt
      (pe_op op_add_str (pe_ix ix_list (vr 1 "heads" _ rfl rfl rfl rfl) (pe_bm PySem.F.plainAttrs_list PySem.F.slot_list_index PySem.F.type_list_index mt_index (vr 2 "found" _ rfl rfl rfl rfl) (pa_cons pe_bl pa_nil) rfl rfl l2) fun _ _ => rfl) (pe_xg hp hz hf (vr 0 "error" _ rfl rfl rfl rfl))) pe_str)
  refine ⟨_, by rw [hB]; exact pss_cons s1 (pss_cons s2 (pss_one s3)), ?_⟩
  have hst : L2.start wN [V.ref a] = [some (V.ref a), none, none] := rfl
  rw [hst]
  -- isinstance(error, C j), anywhere that keeps the error's dict
  have isj : ∀ (j : Nat) (σ : L2.St) (H' : Hp) (Q' : VK), j < 4 → σ[0]? = some (some (V.ref a)) → Same H H' → Q' (.bl (i == j)) H' → tIsX X.K a (.ref (C i)) (some dd) (.ref (C j)) σ H' Q' := fun j σ H' Q' hj h0 k q' =>
    ⟨.ref a, h0, C i, dd, _, .ref (C j), .ref (C j), (i == j), rfl, rfl, k _ _ hd, by rw [eK]; exact T.ex i hi, rfl, fun u r => r, by rw [eK]; exact T.is i j hi hj, q'⟩
  -- heads
  refine ⟨by show 4 ≤ sizeLine; rw [sizeLine_eq]; decide, fun b1 hb1 => ?_⟩
  have k1 : Same H (upd H b1 (.lst [.str "flow ", .str "argument ", .str "paper ", .str "many "])) := same_new hb1
  generalize hH1 : upd H b1 (.lst [.str "flow ", .str "argument ", .str "paper ", .str "many "]) = H1 at k1
  have hd1 : H1 b1 = some (.lst [.str "flow ", .str "argument ", .str "paper ", .str "many "]) := by rw [← hH1]; exact upd_same
  -- found
  refine isj 0 _ _ _ (by decide) rfl k1 (isj 1 _ _ _ (by decide) rfl k1 (isj 2 _ _ _ (by decide) rfl k1 (isj 3 _ _ _ (by decide) rfl k1 ?_)))
  refine ⟨by show 4 ≤ sizeLine; rw [sizeLine_eq]; decide, fun b2 hb2 => ?_⟩
  have k2 : Same H1 (upd H1 b2 (.lst [.bl (i == 0), .bl (i == 1), .bl (i == 2), .bl (i == 3)])) := same_new hb2
  generalize hH2 : upd H1 b2 (.lst [.bl (i == 0), .bl (i == 1), .bl (i == 2), .bl (i == 3)]) = H2 at k2
  have hd2 : H2 b2 = some (.lst [.bl (i == 0), .bl (i == 1), .bl (i == 2), .bl (i == 3)]) := by rw [← hH2]; exact upd_same
  have k3 := k1.trans k2
  have he : ∃ h0 : Str, wHeads[i]? = some h0 ∧ h0.length ≤ 10 := by
    have : i = 0 ∨ i = 1 ∨ i = 2 ∨ i = 3 := by omega
    rcases this with rfl | rfl | rfl | rfl <;> exact ⟨_, rfl, by decide⟩
  obtain ⟨h0, e0, z0⟩ := he
  rw [hh] at e0
  cases e0
  have hcount : ([V.bl (i == 0), .bl (i == 1), .bl (i == 2), .bl (i == 3)].countP fun z => eqV z (.bl true)) = 1 := by
    have : i = 0 ∨ i = 1 ∨ i = 2 ∨ i = 3 := by omega
    rcases this with rfl | rfl | rfl | rfl <;> rfl
  have hidx : ∃ z, [V.bl (i == 0), .bl (i == 1), .bl (i == 2), .bl (i == 3)][i]? = some z ∧ eqV z (.bl true) = true ∧ ∀ (m : Nat) (z' : V), m < i → [V.bl (i == 0), .bl (i == 1), .bl (i == 2), .bl (i == 3)][m]? = some z' → eqV z' (.bl true) = false := by
    have : i = 0 ∨ i = 1 ∨ i = 2 ∨ i = 3 := by omega
    rcases this with rfl | rfl | rfl | rfl <;> refine ⟨_, rfl, rfl, fun m z' hm e => ?_⟩
    · omega
    · obtain rfl : m = 0 := by omega
      cases e; rfl
    · have : m = 0 ∨ m = 1 := by omega
      rcases this with rfl | rfl <;> (cases e; rfl)
    · have : m = 0 ∨ m = 1 ∨ m = 2 := by omega
      rcases this with rfl | rfl | rfl <;> (cases e; rfl)
  obtain ⟨z, i1, i2, i3⟩ := hidx
  refine ⟨.ref b2, rfl, .inl ⟨rfl, _, SqL.of hd2⟩, b2, _, .bl true, rfl, rfl, SqL.of hd2, rfl, rfl, ?_⟩
  rw [hcount]
  refine ⟨rfl, true, rfl, ?_⟩
  simp only [↓reduceIte]
  refine ⟨.ref a, rfl, C i, dd, _, .ty "ValueError", .type "ValueError", true, rfl, rfl, k3 _ _ hd, by rw [eK]; exact T.ex i hi, rfl, fun u r => r, by rw [eK]; exact T.iv i hi, true, rfl, ?_⟩
  simp only [↓reduceIte]
  refine ⟨.ref b1, rfl, .ref b2, rfl, .inl ⟨rfl, _, SqL.of hd2⟩, b2, _, .bl true, i, z, rfl, rfl, SqL.of hd2, rfl, rfl, i1, i2, i3, ?_⟩
  refine ⟨b1, _, (i : Int), .str h, rfl, rfl, SqL.of (k2 _ _ hd1), ?_, ?_⟩
  · have : i = 0 ∨ i = 1 ∨ i = 2 ∨ i = 3 := by omega
    rcases this with rfl | rfl | rfl | rfl <;> (cases hh; rfl)
  refine ⟨.ref a, rfl, C i, dd, _, .str x, rfl, rfl, rfl, by rw [eK]; exact T.xf i hi, by rw [eK]; exact T.no i hi, k3 _ _ hd, ?_, h, x, rfl, rfl, by rw [sizeLine_eq]; omega, q _ k3⟩
  simp [List.lookup]
end
end Dn

/-! Dn22 -/
set_option Elab.async false
set_option linter.all false
set_option maxRecDepth 100000
set_option maxHeartbeats 1000000
/-! Dn22: calls of def values; try. -/
namespace Dn
open PySem PySem.Spec L2
open PyProof.Rows hiding St

section
variable {X : Cx} {P : Program} {w : World} {K : PySem.W.Frag} {mg : Str → Option Value} {base : Heap} {N : List Str} {sc : Scope} {k : Nat} {bk nn : Bool} {g : Ce} {W : WX}
variable {pu sh : Bool} {e : Expr} {es : List Expr} {pos p : Pos} {m : Ev} {ma : Av} {shs : List Bool} {x y : Str} {sts : List Stmt} {ms : Sv}

/-! ### calls of defs that are values -/
abbrev Tbl := Nat → Option (Nat × (List D → M D))
def TblOk (nn : Bool) (P : Program) (w : World) (K : PySem.W.Frag) (mg : Str → Option Value) (base : Heap) (k : Nat) (g : Ce) (tbl : Tbl) : Prop :=
  ∀ i n mf, tbl i = some (n, mf) → ∃ (f : Addr) (fd : FuncData) (ps : List Str), g.fa i = some f ∧ FnOk P w K mg base (CXn nn P w) k f fd ps (spP (ck K g) n mf) ∧ PySem.W.keepIn K (.ref f) = true ∧ Binds K fd ps []
def dCallV (tbl : Tbl) (i : Nat) (ms : Av) : Ev := fun env => match env[i]? with
  | some (.va (.fn j)) => match tbl j with
    | some (n, mf) => bnd (ms env) fun p => if p.1.length = n then bnd (mf p.1) fun d => .ok (d, p.2) else stuck
    | none => stuck
  | _ => stuck
theorem e_callV (C : Cok nn X W P w K mg base N sc k bk) {tbl : Tbl} {j i : Nat} (T : TblOk nn P w K mg base j g tbl) (hj : j ≤ k) (hi : N[i]? = some x) (hv : visB sc x = true) (hs : shs.all (!·) = true) (ha : DA X g pu shs (e :: es) ma W)
    (hdb : (x == ("__debug__" : Str)) = false := by rfl) (hcd : (x == ("__classdict__" : Str)) = false := by rfl) (he : starEach (e :: es) X.env = (false, eval e X.env) :: starEach es X.env := by rfl) (hpl : (backTo pos (starEach es X.env)).any (·.1) = false := by rfl) :
    DE X g pu false (.Call (.Name x p) (e :: es) [] pos) (dCallV tbl i ma) W := by
  have hN : X.N[i]? = some x := by rw [C.eN]; exact hi
  have hvis : Vis X.env.scope x := by rw [C.es]; exact visB_of hv
  have tk := C.tk
  have hr := C.room.mono hj
  obtain ⟨rfl, rfl, rfl, rfl, rfl⟩ := And.intro C.eP (And.intro C.ew (And.intro C.eK (And.intro C.em C.eb)))
  refine ⟨fun pins s σ H Q I h => ?_⟩
  obtain ⟨xs, env, S, wn⟩ := h
  unfold dCallV at wn
  split at wn
  case h_2 => exact wn.elim
  rename_i jf hjf
  obtain ⟨v, hv1, hv2⟩ := S.va i _ hjf
  unfold IsD at hv2
  obtain ⟨f, hf, rfl⟩ := hv2
  refine wpAny_Call_Name_kw (thn ((pe_var (pos := p) hN hvis hdb hcd).run pins s σ H (fun v H1 => v = .ref f ∧ H1 = H) I ⟨.ref f, hv1, rfl, rfl⟩) fun u s1 ⟨v, H1, I1, r1, q1⟩ => ?_)
  obtain ⟨rfl, rfl⟩ := q1
  cases r1
  cases ht : tbl jf with
  | none => rw [ht] at wn; exact wn.elim
  | some t =>
  obtain ⟨n0, mf0⟩ := t
  rw [ht] at wn
  obtain ⟨f', fd, ps, h1, G, hk, hb⟩ := T jf n0 mf0 ht
  rw [show g.fa jf = some f from hf] at h1
  cases h1
  refine PySem.W.callWith_K (h₀ := X.base) I.ok.mod.kin hk (thn (ha.run pos pins s1 σ _ (fun vs H2 => spP (ck X.K g) n0 mf0 vs H2 Q (WE W σ)) I1 ⟨xs, env, S, Want.bind wn fun ds env' vs H' e s r w' => ?_⟩) fun us s2 ⟨vs, H2, I2, r, q⟩ => ⟨I2.kIn, ?_⟩) he hpl
  · dsimp only at w'
    split at w'
    case isFalse => exact w'.elim
    rename_i hl
    have hP : ∀ a, Hid xs env σ a → H' a ≠ none := fun a ha => s.st.hid (by rw [s.hid]; exact ha)
    refine ⟨Hid xs env σ, ds, hl, hP, r.clean hs, ?_⟩
    cases q : mf0 ds with
    | error x =>
      rw [q] at w'
      cases x with
      | raise kk pp => exact fun cls dd H2 k2 hx => w' cls dd H2 (s.sm.trans (Same.trans hide_full k2)) hx
      | stuck => exact w'.elim
    | ok d =>
      rw [q] at w'
      intro v H2 k2 hd
      exact w' v H2 (s.grow k2) hd
  · exact run_fnS G hr hb (passAtN tk σ) I2 r q

/-! ### try: .. except C as n: return word(n) -/
def noOwE (env : En) : Bool := env.all fun s => match s with
  | .ow _ => false
  | _ => true
theorem noOwE_of {env : En} (h : noOwE env = true) {σ : St} {a : Addr} : ¬ Owns env σ a := fun ⟨i, d, h1, _⟩ => by
  unfold noOwE at h
  rw [List.all_eq_true] at h
  have := h _ (List.mem_of_getElem? h1)
  cases this
def sHeard (ms : Sv) (i : Nat) : Sv := fun env => if (noOwE env && decide (i < env.length)) = true then (match ms env with
  | .error (.raise k p) => bnd (wordOf k p) fun d => .ok (.rt d, env)
  | .error .stuck => stuck
  | .ok p => .ok p) else stuck
theorem Cok.tr (C : Cok false X W P w K mg base N sc k false) {W' : WX} {pn : List (Addr × Obj)} {xe : Value → Shared → Prop} (tk : L2.Takes (X.tr pn xe) W') (ow : PassesOwn (model X.prog X.w) X.A X.env xe) : Cok false (X.tr pn xe) W' P w K mg base N sc k false :=
  ⟨C.eP, C.ew, C.eK, C.em, C.eb, C.eN, C.es, C.calm, C.room, C.nd, C.fn, tk, fun _ => ow, C.sf⟩
theorem Cok.trN (C : Cok false X W P w K mg base N sc k false) {W' : WX} {pn : List (Addr × Obj)} {xe : Value → Shared → Prop} (tk : L2N.Takes (X.tr pn xe) W') (ow : PassesOwn (model X.prog X.w) X.A X.env xe) : Cok true (X.tr pn xe) W' P w K mg base N sc k false :=
  ⟨C.eP, C.ew, C.eK, C.em, C.eb, C.eN, C.es, C.calm, C.room, C.nd, C.fn, tk, fun _ => ow, C.sf⟩
theorem wordOf_ok {i : Nat} {p d : D} (h : wordOf i p = .ok d) : ∃ x hd, p = .str x ∧ i < 4 ∧ wHeads[i]? = some hd ∧ x.length ≤ 1000 ∧ d = .str (hd ++ x) := by
  unfold wordOf at h
  split at h
  · split at h
    · rename_i hd hh
      split at h
      · rename_i hx
        cases h
        exact ⟨_, hd, rfl, (List.getElem?_eq_some_iff.mp hh).1, hh, hx, rfl⟩
      · cases h
    · cases h
  · cases h
/-- a word function: on the error that a suite holds -/
structure WordOk (P : Program) (w : World) (K : PySem.W.Frag) (mg : Str → Option Value) (base : Heap) (k : Nat) (C : Nat → Addr) (x : Str) : Prop where
  ex : ∃ (f : Addr) (fd : FuncData), mg x = some (.ref f) ∧ FnW P w K mg base k f fd ["error"] (spWord C) ∧ PySem.W.keepIn K (.ref f) = true ∧ Binds K fd ["error"] []
theorem s_heard {xw n xc : Str} {i j : Nat} {AW : Addr} {np p1 p2 p3 pos' : Pos} {Ca : Nat → Addr} (C : Cok false X W P w K mg base N sc k false) (T : WCls K mg g Ca) (hen : ∀ i, i < 4 → g.en i = "reason") (FW : WordOk P w K mg base j Ca xw) (hj : j ≤ k) (hi : N[i]? = some n) (hln : locL sc n = true) (hc : gloB sc xc = true) (hmc : mg xc = some (.ref AW)) (hxm : ∀ i, i < 4 → PySem.W.exmOne K (.ref (Ca i)) (.ref AW) = some true)
    (hgw : gloB sc xw = true) (hb : ∀ (X' : Cx) (W' : WX), Cok false X' W' P w K mg base N sc k false → DSs X' g sts ms W') (hd1 : (xc == ("__debug__" : Str)) = false := by rfl) (hd2 : (xw == ("__debug__" : Str)) = false := by rfl) (hd3 : (n == ("__debug__" : Str)) = false := by rfl) (hd4 : (n == ("__classdict__" : Str)) = false := by rfl)
    (he : ∀ Y : Cx, starEach [.Name n p2] Y.env = (false, eval (.Name n p2) Y.env) :: starEach [] Y.env := by intro _; rfl) (hpl : ∀ Y : Cx, (backTo p3 (starEach [] Y.env)).any (·.1) = false := by intro _; rfl) :
    DS X g (.Try sts [.ExceptHandler (some (.Name xc np)) (some n) [.Return (some (.Call (.Name xw p1) [.Name n p2] [] p3)) pos'] p] [] [] pos) (sHeard ms i) W := by
  obtain ⟨f, fd, hmw, G, hk, hbd⟩ := FW.ex
  have hgl := gloB_of C hgw
  have hgc := gloB_of C hc
  have hl : X.env.scope.names.lookup n = some .local := by rw [C.es]; exact eq_of_beq hln
  have hN : X.N[i]? = some n := by rw [C.eN]; exact hi
  have hNd : X.N.Nodup := by rw [C.eN]; exact C.nd
  have hr : L2H.RoomH j X.A := L2H.roomH_of (C.room.mono hj)
  obtain ⟨sf1, sf2⟩ := C.sf rfl
  have tkW : L2.Takes X W := C.tk
  have hbt := fun (W' : WX) (pn : List (Addr × Obj)) (xe : Value → Shared → Prop) (tk : L2.Takes (X.tr pn xe) W') (ow : PassesOwn (model X.prog X.w) X.A X.env xe) => hb (X.tr pn xe) W' (C.tr tk ow)
  obtain ⟨rfl, rfl, rfl, rfl, rfl⟩ := And.intro C.eP (And.intro C.ew (And.intro C.eK (And.intro C.em C.eb)))
  refine PS.imp (ps_try_as (c := .ref AW) (tb := fun W' => tS (cc X g) ms W') (ts := fun a cls d => tRet (tCallW a cls d (spWord Ca) (tCons (tVar i) tNil))) sf1 sf2 hNd hN hl ⟨hgc, hd1, .inl hmc⟩ tkW hbt fun a oe cls d pn hz hf => ?_) fun E σ H ⟨xs, env, S, w⟩ => ?_
  · exact pss_one (ps_ret (pe_callW (X := X.suite a ((a, oe) :: pn)) G ⟨hr.dp, hr.un⟩ List.mem_cons_self hz hf hgl hmw hk hbd (pa_cons (pe_var hN (.inl hl) hd3 hd4) pa_nil (he _)) hd2 (he _) (hpl _)))
  · unfold sHeard at w
    split at w
    case isFalse => exact w.elim
    rename_i hno
    rw [Bool.and_eq_true, decide_eq_true_eq] at hno
    refine ⟨xs, env, S, ?_⟩
    generalize hr0 : ms env = r at w ⊢
    cases r with
    | ok p =>
      obtain ⟨fl, env'⟩ := p
      cases fl <;> exact w
    | error x =>
      cases x with
      | stuck => exact w.elim
      | raise kk pp =>
        intro cls dd σ' H' hlen q hx
        dsimp only at w
        cases hw : wordOf kk pp with
        | error z =>
          exfalso
          rw [hw] at w
          cases z with
          | raise k1 p1 =>
            unfold wordOf at hw
            split at hw
            · split at hw
              · split at hw <;> cases hw
              · cases hw
            · cases hw
          | stuck => exact w
        | ok d =>
          rw [hw] at w
          obtain ⟨x, hd, rfl, hk4, hh, hxl, rfl⟩ := wordOf_ok hw
          obtain ⟨C0, d0, v, e1, e2, e3, e4, e5⟩ := hx
          have e1' := e1.symm.trans (T.ec kk hk4)
          cases e1'
          unfold IsD at e5
          subst e2 e3 e5
          have own : ∀ a, ¬ Owns env σ a := fun a => noOwE_of hno.1
          have k0 : Same H H' := fun b o hb => q b o (by rw [hide_of (own b)]; exact hb)
          refine ⟨true, hxm kk hk4, fun _ a ha => ?_, fun z => nomatch z⟩
          have hset : (σ'.set i (some (V.ref a)))[i]? = some (some (V.ref a)) := by
            rw [List.getElem?_set, if_pos rfl, if_pos (by rw [hlen, ← S.len]; exact hno.2)]
          refine ⟨.ref a, hset, rfl, kk, hd, x, d0, hk4, hh, hxl, rfl, rfl, ?_, fun H2 k2 => ?_⟩
          · rw [← hen kk hk4]; exact e4
          · have kk2 := k0.trans k2
            exact w σ _ H2 (S.same kk2) ⟨hide_same kk2, Same.th kk2, fun h => ⟨h, rfl⟩, rfl⟩ isStr

/-! ### try: .. except C: raise C'(text) from None -/
def sReraise (ms : Sv) (f : Nat → Bool) (k' : Nat) (txt : Str) : Sv := fun env => match ms env with
  | .error (.raise k p) => if k < 4 then (if f k = true then .error (.raise k' (.str txt)) else .error (.raise k p)) else stuck
  | .error .stuck => stuck
  | .ok p => .ok p
theorem s_reraise {xc xr txt : Str} {i' j jj : Nat} {AC AR fR : Addr} {f : Nat → Bool} {np p1 p2 p3 pos' cp : Pos} {Ca : Nat → Addr} (C : Cok false X W P w K mg base N sc k false) (pa : PaOk X) (T : WCls K mg g Ca) (TR : Sup.Txt P K mg AR fR) (hc : gloB sc xc = true) (hmc : mg xc = some (.ref AC)) (hxm : ∀ i, i < 4 → PySem.W.exmOne K (.ref (Ca i)) (.ref AC) = some (f i))
    (hgr : gloB sc xr = true) (hmr : mg xr = some (.ref AR)) (her : g.ec i' = some AR) (hen : g.en i' = "reason") (hb : ∀ (X' : Cx) (W' : WX), Cok true X' W' P w K mg base N sc k false → DSs X' g sts ms W') (hd1 : (xc == ("__debug__" : Str)) = false := by rfl) (hd2 : (xr == ("__debug__" : Str)) = false := by rfl)
    (he : ∀ Y : Cx, starEach [.Constant (.str txt) jj p2] Y.env = (false, eval (.Constant (.str txt) jj p2) Y.env) :: starEach [] Y.env := by intro _; rfl) (hpl : ∀ Y : Cx, (backTo p3 (starEach [] Y.env)).any (·.1) = false := by intro _; rfl) :
    DS X g (.Try sts [.ExceptHandler (some (.Name xc np)) none [.Raise (some (.Call (.Name xr p1) [.Constant (.str txt) jj p2] [] p3)) (some (.Constant .none j cp)) pos'] p] [] [] pos) (sReraise ms f i' txt) W := by
  have hgl := gloB_of C hgr
  have hgc := gloB_of C hc
  have hdp : X.A.depth + 1 < recursionLimit := by have := C.room.dp; omega
  obtain ⟨sf1, sf2⟩ := C.sf rfl
  have tkW : L2.Takes X W := C.tk
  have hbt := fun (W' : WX) (pn : List (Addr × Obj)) (xe : Value → Shared → Prop) (tk : L2N.Takes (X.tr pn xe) W') (_ : L2.Takes (X.tr pn xe) (L2H.wPass X.K (.ref AC) W)) (ow : PassesOwn (model X.prog X.w) X.A X.env xe) => hb (X.tr pn xe) W' (C.trN tk ow)
  obtain ⟨rfl, rfl, rfl, rfl, rfl⟩ := And.intro C.eP (And.intro C.ew (And.intro C.eK (And.intro C.em C.eb)))
  refine PS.imp (L2H.ps_try_onlyX (c := .ref AC) (Wout := W) (tb := fun W' => tS (cc X g) ms W') (ts := fun a cls d => fun _ σ H => tMkS AR (tCons (tC (.str txt)) tNil) σ H fun cls d H' => W cls d σ H') sf1 sf2 ⟨hgc, hd1, .inl hmc⟩ pa tkW hbt fun a oe cls d pn hz hf tk2 hot => ?_) fun E σ H ⟨xs, env, S, w⟩ => ?_
  · exact pss_one (L2H.ps_raiseHN hot tk2 (pmk5_sup (X := L2H.suiteX X a ((a, oe) :: pn)) TR hdp hgl hmr pe_str hd2 (he _) (hpl _)))
  · unfold sReraise at w
    refine ⟨xs, env, S, ?_⟩
    generalize hr0 : ms env = r at w ⊢
    cases r with
    | ok p =>
      obtain ⟨fl, env'⟩ := p
      cases fl <;> exact w
    | error x =>
      cases x with
      | stuck => exact w.elim
      | raise kk pp =>
        intro cls dd σ' H' hlen q hx
        dsimp only at w
        split at w
        case isFalse => exact w.elim
        rename_i hk4
        have hx' := hx
        obtain ⟨C0, d0, v, e1, e2, e3, e4, e5⟩ := hx'
        have e1' := e1.symm.trans (T.ec kk hk4)
        cases e1'
        subst e2 e3
        refine ⟨f kk, hxm kk hk4, fun hf a ha => ⟨.str txt, rfl, fun d' hd' => ?_⟩, fun hf => ?_⟩
        · rw [if_pos hf] at w
          refine w _ _ σ' _ hlen (q.trans (same_new hd')) ⟨AR, d', .str txt, her, rfl, rfl, ?_, isStr⟩
          show upd H' d' _ d' = some (.xd [(g.en i', V.str txt)])
          rw [hen]; exact upd_same
        · rw [hf, if_neg Bool.false_ne_true] at w
          exact w _ _ σ' H' hlen q hx
end
end Dn

/-! Dn23 -/
set_option Elab.async false
set_option linter.all false
set_option maxRecDepth 100000
set_option maxHeartbeats 1000000
/-! Dn23: short rules for the printer. -/
namespace Dn
open PySem PySem.Spec L2
open PyProof.Rows hiding St

/-! ### code that is never come to -/
def sNever : Sv := fun _ => stuck
def eNever : Ev := fun _ => stuck
section
variable {X : Cx} {P : Program} {w : World} {K : PySem.W.Frag} {mg : Str → Option Value} {base : Heap} {N : List Str} {sc : Scope} {k : Nat} {bk nn : Bool} {g : Ce} {W : WX}
variable {pu pu1 pu2 sh sh1 sh2 : Bool} {e a b : Expr} {es : List Expr} {pos p : Pos} {m m1 m2 : Ev} {ma : Av} {shs : List Bool} {x y : Str} {st : Stmt} {sts : List Stmt} {ms : Sv}
theorem s_never : DS X g st sNever W := ⟨fun _ _ _ _ _ _ ⟨_, _, _, w⟩ => w.elim⟩
theorem ss_never : DSs X g sts sNever W := ⟨fun _ _ _ _ _ _ ⟨_, _, _, w⟩ => w.elim⟩
theorem e_never : DE X g pu sh e eNever W := ⟨fun _ _ _ _ _ _ ⟨_, _, _, w⟩ => w.elim⟩

/-! ### unary minus -/
def dNeg (m : Ev) : Ev := fun env => bnd (m env) fun p => match p.1 with
  | .int i => .ok (.int (-i), p.2)
  | _ => stuck
theorem e_neg (h : DE X g pu sh a m W) : DE X g pu false (.UnaryOp .USub a pos) (dNeg m) W := PE.imp (pe_un un_neg h) fun σ H Q ⟨xs, env, S, w⟩ => ⟨xs, env, S, Want.bind w fun d env' v H' e s r w' => by
  have r' := Rep.shell r
  dsimp only at w'
  split at w'
  · exact ⟨_, r'.int, w' _ H' s (Rep.of isInt)⟩
  · exact w'.elim⟩

/-! ### operators -/
theorem un_room (C : Cok nn X W P w K mg base N sc k bk) : X.A.units + 65 < cLine := by have := C.room.un; omega
theorem un_roomE (C : Cok nn X W P w K mg base N sc k bk) : X.A.units + 64 < cLine := by have := C.room.un; omega
theorem eAdd (hc : sh1 = false ∨ pu2 = true) (ha : DE X g pu1 sh1 a m1 W) (hb : DE X g pu2 sh2 b m2 W) : DE X g (pu1 && pu2) false (.BinOp a .Add b pos) (dBin dAdd m1 m2) W := e_bin op_addD vb_add dAdd_nr hc ha hb
theorem eSub (hc : sh1 = false ∨ pu2 = true) (ha : DE X g pu1 sh1 a m1 W) (hb : DE X g pu2 sh2 b m2 W) : DE X g (pu1 && pu2) false (.BinOp a .Sub b pos) (dBin dSub m1 m2) W := e_bin op_sub vb_sub dIntOp_nr hc ha hb
theorem eMul (hc : sh1 = false ∨ pu2 = true) (ha : DE X g pu1 sh1 a m1 W) (hb : DE X g pu2 sh2 b m2 W) : DE X g (pu1 && pu2) false (.BinOp a .Mult b pos) (dBin dMul m1 m2) W := e_bin op_mulD vb_mul dMul_nr hc ha hb
theorem eFdiv (hc : sh1 = false ∨ pu2 = true) (ha : DE X g pu1 sh1 a m1 W) (hb : DE X g pu2 sh2 b m2 W) : DE X g (pu1 && pu2) false (.BinOp a .FloorDiv b pos) (dBin dFdiv m1 m2) W := e_bin op_fdivW vb_fdiv dIntOp_nr hc ha hb
theorem eMod (hc : sh1 = false ∨ pu2 = true) (ha : DE X g pu1 sh1 a m1 W) (hb : DE X g pu2 sh2 b m2 W) : DE X g (pu1 && pu2) false (.BinOp a .Mod b pos) (dBin dMod m1 m2) W := e_bin op_mod vb_mod dIntOp_nr hc ha hb
theorem ePow (hc : sh1 = false ∨ pu2 = true) (ha : DE X g pu1 sh1 a m1 W) (hb : DE X g pu2 sh2 b m2 W) : DE X g (pu1 && pu2) false (.BinOp a .Pow b pos) (dBin dPow m1 m2) W := e_bin op_pow vb_pow dIntOp_nr hc ha hb
theorem eIx (hc : sh1 = false ∨ pu2 = true) (ha : DE X g pu1 sh1 a m1 W) (hb : DE X g pu2 sh2 b m2 W) (hs : PlainIx b := by intro _ _; rfl) : DE X g (pu1 && pu2) false (.Subscript a b pos) (dBin dIx m1 m2) W := e_ix ix_seq vb_ix dIx_nr hc ha hb hs
theorem eEq (C : Cok nn X W P w K mg base N sc k bk) (hc : sh1 = false ∨ pu2 = true) (ha : DE X g pu1 sh1 a m1 W) (hb : DE X g pu2 sh2 b m2 W) (hm : behindInMarks .Eq b = false := by rfl) : DE X g (pu1 && pu2) false (.Compare a [.Eq] [b] pos) (dBin dEq m1 m2) W := e_cmp (op_eqD (un_roomE C)) vb_eq dEq_nr hc hm ha hb
theorem eNe (C : Cok nn X W P w K mg base N sc k bk) (hc : sh1 = false ∨ pu2 = true) (ha : DE X g pu1 sh1 a m1 W) (hb : DE X g pu2 sh2 b m2 W) (hm : behindInMarks .NotEq b = false := by rfl) : DE X g (pu1 && pu2) false (.Compare a [.NotEq] [b] pos) (dBin dNe m1 m2) W := e_cmp (op_neD (un_roomE C)) vb_ne dNe_nr hc hm ha hb
theorem eLt (hc : sh1 = false ∨ pu2 = true) (ha : DE X g pu1 sh1 a m1 W) (hb : DE X g pu2 sh2 b m2 W) (hm : behindInMarks .Lt b = false := by rfl) : DE X g (pu1 && pu2) false (.Compare a [.Lt] [b] pos) (dBin dLt m1 m2) W := e_cmp op_ltD vb_cmpI dCmpI_nr hc hm ha hb
theorem eLe (hc : sh1 = false ∨ pu2 = true) (ha : DE X g pu1 sh1 a m1 W) (hb : DE X g pu2 sh2 b m2 W) (hm : behindInMarks .LtE b = false := by rfl) : DE X g (pu1 && pu2) false (.Compare a [.LtE] [b] pos) (dBin dLe m1 m2) W := e_cmp op_leD vb_cmpI dCmpI_nr hc hm ha hb
theorem eGt (hc : sh1 = false ∨ pu2 = true) (ha : DE X g pu1 sh1 a m1 W) (hb : DE X g pu2 sh2 b m2 W) (hm : behindInMarks .Gt b = false := by rfl) : DE X g (pu1 && pu2) false (.Compare a [.Gt] [b] pos) (dBin dGt m1 m2) W := e_cmp op_gtD vb_cmpI dCmpI_nr hc hm ha hb
theorem eGe (hc : sh1 = false ∨ pu2 = true) (ha : DE X g pu1 sh1 a m1 W) (hb : DE X g pu2 sh2 b m2 W) (hm : behindInMarks .GtE b = false := by rfl) : DE X g (pu1 && pu2) false (.Compare a [.GtE] [b] pos) (dBin dGe m1 m2) W := e_cmp op_geD vb_cmpI dCmpI_nr hc hm ha hb
theorem eIn (C : Cok nn X W P w K mg base N sc k bk) (hc : sh1 = false ∨ pu2 = true) (ha : DE X g pu1 sh1 a m1 W) (hb : DE X g pu2 sh2 b m2 W) (hm : behindInMarks .In b = false := by rfl) : DE X g (pu1 && pu2) false (.Compare a [.In] [b] pos) (dBin dIn m1 m2) W := e_cmp (op_inS (un_room C)) vb_in dIn_nr hc hm ha hb
theorem eNotIn (C : Cok nn X W P w K mg base N sc k bk) (hc : sh1 = false ∨ pu2 = true) (ha : DE X g pu1 sh1 a m1 W) (hb : DE X g pu2 sh2 b m2 W) (hm : behindInMarks .NotIn b = false := by rfl) : DE X g (pu1 && pu2) false (.Compare a [.NotIn] [b] pos) (dBin dNotIn m1 m2) W := e_cmp (op_notInS (un_room C)) vb_notIn dNotIn_nr hc hm ha hb
theorem tEq (C : Cok nn X W P w K mg base N sc k bk) (hc : sh1 = false ∨ pu2 = true) (ha : DE X g pu1 sh1 a m1 W) (hb : DE X g pu2 sh2 b m2 W) (hm : behindInMarks .Eq b = false := by rfl) : DT X g (pu1 && pu2) (.Compare a [.Eq] [b] pos) (dTb (dBin dEq m1 m2)) W := t_cmp (op_eqD (un_roomE C)) vb_eq dEq_nr hc hm ha hb
theorem tNe (C : Cok nn X W P w K mg base N sc k bk) (hc : sh1 = false ∨ pu2 = true) (ha : DE X g pu1 sh1 a m1 W) (hb : DE X g pu2 sh2 b m2 W) (hm : behindInMarks .NotEq b = false := by rfl) : DT X g (pu1 && pu2) (.Compare a [.NotEq] [b] pos) (dTb (dBin dNe m1 m2)) W := t_cmp (op_neD (un_roomE C)) vb_ne dNe_nr hc hm ha hb
theorem tLt (hc : sh1 = false ∨ pu2 = true) (ha : DE X g pu1 sh1 a m1 W) (hb : DE X g pu2 sh2 b m2 W) (hm : behindInMarks .Lt b = false := by rfl) : DT X g (pu1 && pu2) (.Compare a [.Lt] [b] pos) (dTb (dBin dLt m1 m2)) W := t_cmp op_ltD vb_cmpI dCmpI_nr hc hm ha hb
theorem tLe (hc : sh1 = false ∨ pu2 = true) (ha : DE X g pu1 sh1 a m1 W) (hb : DE X g pu2 sh2 b m2 W) (hm : behindInMarks .LtE b = false := by rfl) : DT X g (pu1 && pu2) (.Compare a [.LtE] [b] pos) (dTb (dBin dLe m1 m2)) W := t_cmp op_leD vb_cmpI dCmpI_nr hc hm ha hb
theorem tGt (hc : sh1 = false ∨ pu2 = true) (ha : DE X g pu1 sh1 a m1 W) (hb : DE X g pu2 sh2 b m2 W) (hm : behindInMarks .Gt b = false := by rfl) : DT X g (pu1 && pu2) (.Compare a [.Gt] [b] pos) (dTb (dBin dGt m1 m2)) W := t_cmp op_gtD vb_cmpI dCmpI_nr hc hm ha hb
theorem tGe (hc : sh1 = false ∨ pu2 = true) (ha : DE X g pu1 sh1 a m1 W) (hb : DE X g pu2 sh2 b m2 W) (hm : behindInMarks .GtE b = false := by rfl) : DT X g (pu1 && pu2) (.Compare a [.GtE] [b] pos) (dTb (dBin dGe m1 m2)) W := t_cmp op_geD vb_cmpI dCmpI_nr hc hm ha hb
theorem tIn (C : Cok nn X W P w K mg base N sc k bk) (hc : sh1 = false ∨ pu2 = true) (ha : DE X g pu1 sh1 a m1 W) (hb : DE X g pu2 sh2 b m2 W) (hm : behindInMarks .In b = false := by rfl) : DT X g (pu1 && pu2) (.Compare a [.In] [b] pos) (dTb (dBin dIn m1 m2)) W := t_cmp (op_inS (un_room C)) vb_in dIn_nr hc hm ha hb
theorem tNotIn (C : Cok nn X W P w K mg base N sc k bk) (hc : sh1 = false ∨ pu2 = true) (ha : DE X g pu1 sh1 a m1 W) (hb : DE X g pu2 sh2 b m2 W) (hm : behindInMarks .NotIn b = false := by rfl) : DT X g (pu1 && pu2) (.Compare a [.NotIn] [b] pos) (dTb (dBin dNotIn m1 m2)) W := t_cmp (op_notInS (un_room C)) vb_notIn dNotIn_nr hc hm ha hb
theorem tTruth (ha : DE X g pu sh a m W) (he : ∀ whole, isTrue a X.env whole = (do let v ← whole; standAt a.pos; holding [v] (truthy v)) := by intro _; rfl) : DT X g pu a (dTr m) W := t_truth he ha

/-! ### zip -/
def zipD (xs ys : List D) : List D := List.zipWith (fun x y => D.tup [x, y]) xs ys
theorem zipD_get : ∀ {xs ys : List D} {i : Nat} {d : D}, (zipD xs ys)[i]? = some d → ∃ x y, xs[i]? = some x ∧ ys[i]? = some y ∧ d = .tup [x, y]
  | [], ys, i, d, h => by simp [zipD] at h
  | x :: xs, [], i, d, h => by simp [zipD] at h
  | x :: xs, y :: ys, 0, d, h => by simp [zipD] at h; exact ⟨x, y, rfl, rfl, h.symm⟩
  | x :: xs, y :: ys, i + 1, d, h => by
    have h' : (zipD xs ys)[i]? = some d := by simpa [zipD] using h
    obtain ⟨x', y', h1, h2, h3⟩ := zipD_get h'
    exact ⟨x', y', by simpa using h1, by simpa using h2, h3⟩
theorem zipD_len (xs ys : List D) : (zipD xs ys).length = min xs.length ys.length := by unfold zipD; exact List.length_zipWith
theorem walk_zipT {K : PySem.W.Frag} {a b : Addr} {xs ys : List V} {n : Nat} (hn : n = min xs.length ys.length) : Walk (RZ.ItzT K a b) n (fun H => SqT K H a xs ∧ SqT K H b ys) (YPair (fun i => xs[i]?) (fun i => ys[i]?)) := by
  subst hn
  refine ⟨fun i _ hi q => ?_, fun _ q => ⟨xs, ys, q.1, q.2, by omega⟩, fun i H v H' _ q y => ?_⟩
  · have h1 : i < xs.length := by omega
    have h2 : i < ys.length := by omega
    exact ⟨xs, ys, xs[i], ys[i], q.1, q.2, by simp [h1], by simp [h2]⟩
  · obtain ⟨T, x, z, h1, h2, h3, h4, h5⟩ := y
    exact ⟨T, x, z, h1, h2, h3, h4 xs q.1, h5 ys q.2⟩
theorem itok_zipT {c : Cc} {G0 : Hp} {a b : Addr} {ds es : List D} {vs ws : List V} (h : SqT c.K G0 a vs) (h' : SqT c.K G0 b ws) (r : IsDs c G0 ds vs) (r' : IsDs c G0 es ws) : ItOk c G0 (RZ.ItzT c.K a b) (zipD ds es) := by
  refine ⟨fun H => SqT c.K H a vs ∧ SqT c.K H b ws, _, walk_zipT (by rw [zipD_len, r.len, r'.len]), fun H z => ⟨SqT.same z h, SqT.same z h'⟩, fun i x H H' d e z y => ?_⟩
  obtain ⟨T, u, v, rfl, hT, rfl, h1, h2⟩ := y
  obtain ⟨d1, d2, e1, e2, rfl⟩ := zipD_get e
  refine ⟨same_new hT, fun Z k hZ => ?_⟩
  obtain ⟨v1, h3, h4⟩ := r.getD e1
  obtain ⟨v2, h5, h6⟩ := r'.getD e2
  rw [show vs[i]? = some u from h1] at h3; cases h3
  rw [show ws[i]? = some v from h2] at h5; cases h5
  exact isNewT hT hZ (IsDs.cons (h4.same k) (IsDs.cons (h6.same k) IsDs.nil))
theorem itok_zipL {c : Cc} {G0 : Hp} {a b : Addr} {ds es : List D} {vs ws : List V} (h : SqL c.K G0 a vs) (h' : SqL c.K G0 b ws) (r : IsDs c G0 ds vs) (r' : IsDs c G0 es ws) : ItOk c G0 (Itz c.K a b) (zipD ds es) := by
  refine ⟨fun H => SqL c.K H a vs ∧ SqL c.K H b ws, _, walk_zip (by rw [zipD_len, r.len, r'.len]), fun H z => ⟨z.seq h, z.seq h'⟩, fun i x H H' d e z y => ?_⟩
  obtain ⟨T, u, v, rfl, hT, rfl, h1, h2⟩ := y
  obtain ⟨d1, d2, e1, e2, rfl⟩ := zipD_get e
  refine ⟨same_new hT, fun Z k hZ => ?_⟩
  obtain ⟨v1, h3, h4⟩ := r.getD e1
  obtain ⟨v2, h5, h6⟩ := r'.getD e2
  rw [show vs[i]? = some u from h1] at h3; cases h3
  rw [show ws[i]? = some v from h2] at h5; cases h5
  exact isNewT hT hZ (IsDs.cons (h4.same k) (IsDs.cons (h6.same k) IsDs.nil))
def dZip (ms : Av) : Iv := fun env => bnd (ms env) fun p => match p.1 with
  | [.lst xs, .lst ys] => .ok (zipD xs ys, p.2)
  | [.tup xs, .tup ys] => .ok (zipD xs ys, p.2)
  | _ => stuck
theorem i_zip {elts : List Expr} {kk : Nat} {tpos : Pos} (hg : Gl X "zip") (hm : X.mg "zip" = none) (h : DA X g pu [false, false] [a, b] ma W) (hs : starEach [a, b] X.env = (false, eval a X.env) :: starEach [b] X.env := by rfl) (hpl : (backTo pos (starEach [b] X.env)).any (·.1) = false := by rfl) : DI X g (.Tuple elts kk tpos) pu (.Call (.Name "zip" p) [a, b] [] pos) (dZip ma) W :=
  PI.imp (RZ.pi_zipA hg hm h hs hpl) fun σ H Q ⟨xs, env, S, w⟩ => ⟨xs, env, S, Want.bind w fun ds env' vs H' e s r w' => by
    have rc := r.clean rfl
    dsimp only at w'
    split at w'
    · obtain ⟨v1, v2, rfl, h1, h2⟩ := rc.two
      unfold IsD at h1 h2
      obtain ⟨a1, vs1, rfl, q1, r1⟩ := h1
      obtain ⟨a2, vs2, rfl, q2, r2⟩ := h2
      have z1 : SqL X.K (hide H' (Hid xs env σ)) a1 vs1 := SqL.of q1
      have z2 : SqL X.K (hide H' (Hid xs env σ)) a2 vs2 := SqL.of q2
      exact ⟨a1, a2, vs1, vs2, rfl, .inl ⟨SqL.hid z1, SqL.hid z2, w' _ H' s (itok_zipL z1 z2 r1 r2)⟩⟩
    · obtain ⟨v1, v2, rfl, h1, h2⟩ := rc.two
      unfold IsD at h1 h2
      obtain ⟨a1, vs1, rfl, q1, r1⟩ := h1
      obtain ⟨a2, vs2, rfl, q2, r2⟩ := h2
      exact ⟨a1, a2, vs1, vs2, rfl, .inr ⟨SqT.hid q1, SqT.hid q2, w' _ H' s (itok_zipT q1 q2 r1 r2)⟩⟩
    · exact w'.elim⟩

/-! ### defs by name -/
/-- the written part holds this def, as it stands in the text -/
def FunAt (K : PySem.W.Frag) (mg : Str → Option Value) (x : Str) (st : Stmt) (ps : List Str) : Prop := ∃ (f : Addr) (fd : FuncData), mg x = some (.ref f) ∧ Fun K x x st f fd ∧ PySem.W.keepIn K (.ref f) = true ∧ Binds K fd ps []
theorem fok_pure {N ps : List Str} {n : Nat} {mf : List D → M D} {body : Sv} (F : FunAt K mg x st ps) (S : FnScope N ps (defScope st)) (hl : ps.length = n) (hN : ps.length ≤ N.length) (hf : ∀ ds, mf ds = fin (body (enter N.length ds)))
    (hbody : ∀ (X : Cx) (W : WX), Cok nn X W P w K mg base N (defScope st) k false → PaOk X → DSs X g (defBody st) body W) : Fok nn P w K mg base (k + 1) x (spP (ck K g) n mf) := by
  obtain ⟨f, fd, h1, h2, h3, h4⟩ := F
  subst hl
  exact ⟨f, fd, ps, h1, def_pure h2 S hN hf hbody, h3, h4⟩
theorem fok_own {N ps : List Str} {n : Nat} {mf : D → List D → M (D × D)} {body : Sv} (F : FunAt K mg x st ps) (S : FnScope N ps (defScope st)) (hn : ps.length = n + 1) (hN : ps.length ≤ N.length) (hf : ∀ s ds, mf s ds = finO (body (enterO N.length s ds)))
    (hbody : ∀ (X : Cx) (W : WX), Cok nn X W P w K mg base N (defScope st) k false → PaOk X → DSs X g (defBody st) body W) : Fok nn P w K mg base (k + 1) x (spO (ck K g) n mf) := by
  obtain ⟨f, fd, h1, h2, h3, h4⟩ := F
  exact ⟨f, fd, ps, h1, def_own h2 S hn hN hf hbody, h3, h4⟩
/-- out of a body that hands back a new object -/
def finF : M (Fl × En) → M D
  | .ok (.rf d, _) => .ok d
  | .ok (.ro i, env) => match env[i]? with
    | some (.ow d) => .ok d
    | _ => stuck
  | .ok _ => stuck
  | .error e => .error e
theorem fok_fresh {N ps : List Str} {n : Nat} {mf : List D → M D} {body : Sv} (F : FunAt K mg x st ps) (S : FnScope N ps (defScope st)) (hl : ps.length = n) (hN : ps.length ≤ N.length) (hf : ∀ ds, mf ds = finF (body (enter N.length ds)))
    (hbody : ∀ (X : Cx) (W : WX), Cok nn X W P w K mg base N (defScope st) k false → PaOk X → DSs X g (defBody st) body W) : Fok nn P w K mg base (k + 1) x (spF (ck K g) n mf) := by
  obtain ⟨f, fd, h1, h2, h3, h4⟩ := F
  subst hl
  refine ⟨f, fd, ps, h1, ?_, h3, h4⟩
  refine fun_ok h2 S (fun vs H Q E ⟨xs, ds, h1, h2, h3, _⟩ => by rw [← h3.len, h1]) (fun cdv A outer s H vs Q E hr ⟨xs, ds, h1, h2, h3, h⟩ => ?_)
  refine ⟨_, hbody _ _ (ctx_def S hr) (L2H.passesAt_of rfl), xs, enter N.length ds, enter_ok (by rw [h1]; exact hN) h2 h3, ?_⟩
  rw [hf] at h
  cases hb : body (enter N.length ds) with
  | error e =>
    rw [hb] at h
    refine body_endF (fun d env z => nomatch z) (fun env z => nomatch z) ?_
    cases e <;> exact h
  | ok p =>
    obtain ⟨fl, env'⟩ := p
    rw [hb] at h
    cases fl with
    | nx => exact h.elim
    | rt d => exact h.elim
    | bk => exact h.elim
    | ct => exact h.elim
    | rf d => exact body_endF (fun d env z => nomatch z) (fun env z => nomatch z) h
    | ro i => exact body_endF (fun d env z => nomatch z) (fun env z => nomatch z) h
/-- a def as a value -/
theorem tbl_of {i n : Nat} {mf : List D → M D} {f : Addr} (F : Fok nn P w K mg base k x (spP (ck K g) n mf)) (hm : mg x = some (.ref f)) (hf : g.fa i = some f) : ∃ (f : Addr) (fd : FuncData) (ps : List Str), g.fa i = some f ∧ FnOk P w K mg base (CXn nn P w) k f fd ps (spP (ck K g) n mf) ∧ PySem.W.keepIn K (.ref f) = true ∧ Binds K fd ps [] := by
  obtain ⟨f', fd, ps, h1, h2, h3, h4⟩ := F.ex
  rw [hm] at h1
  cases h1
  exact ⟨f, fd, ps, hf, h2, h3, h4⟩
theorem Fok.mono {j k : Nat} {sp : Sp} (F : Fok nn P w K mg base j x sp) (h : j ≤ k) : Fok nn P w K mg base k x sp := by
  obtain ⟨f, fd, ps, h1, h2, h3, h4⟩ := F.ex
  exact ⟨f, fd, ps, h1, h2.mono h, h3, h4⟩
end
end Dn

/-! Dn24 -/
set_option Elab.async false
set_option linter.all false
set_option maxRecDepth 100000
set_option maxHeartbeats 1000000
/-! Dn24: plain laws: what an evaluation gives. -/
namespace Dn
open PySem
/-- it ends well, and Q holds of what it gives -/
def wm {β : Type} (r : M β) (Q : β → Prop) : Prop := match r with
  | .ok b => Q b
  | .error _ => False
@[simp] theorem wm_ok {β : Type} (b : β) (Q : β → Prop) : wm (.ok b) Q = Q b := rfl
@[simp] theorem wm_stuck {β : Type} (x : Exn) (Q : β → Prop) : wm (.error x) Q = False := rfl
theorem wm_bnd {α β : Type} (m : M α) (f : α → M β) (Q : β → Prop) : wm (bnd m f) Q = wm m (fun a => wm (f a) Q) := by
  cases m <;> rfl
theorem wm_mono {β : Type} {r : M β} {Q Q' : β → Prop} (h : wm r Q) (k : ∀ b, Q b → Q' b) : wm r Q' := by
  cases r with
  | ok b => exact k b h
  | error x => exact h
theorem wm_eq {β : Type} {r : M β} {b : β} {Q : β → Prop} (h : r = .ok b) (q : Q b) : wm r Q := by rw [h]; exact q
theorem wm_out {β : Type} {r : M β} {Q : β → Prop} (h : wm r Q) : ∃ b, r = .ok b ∧ Q b := by
  cases r with
  | ok b => exact ⟨b, rfl, h⟩
  | error x => exact h.elim
theorem wm_ite {β : Type} {c : Prop} [Decidable c] {a b : M β} {Q : β → Prop} : wm (if c then a else b) Q = if c then wm a Q else wm b Q := by split <;> rfl
/-- a for loop by an invariant -/
theorem forL_inv {mt : Gv} {mb : Sv} {Q : Fl × En → Prop} (I : Nat → En → Prop) : ∀ (ds : List D) (i : Nat) (env : En), I i env →
    (∀ (j : Nat) (d : D) (e : En), ds[j]? = some d → I (i + j) e → wm (ns (mt d e)) fun e1 => wm (mb e1) fun q => match q.1 with
      | .nx => I (i + j + 1) q.2
      | .ct => I (i + j + 1) q.2
      | .bk => Q (.nx, q.2)
      | f => Q (f, q.2)) → (∀ e, I (i + ds.length) e → Q (.nx, e)) → wm (forL mt mb ds env) Q
  | [], i, env, h, _, hd => hd env (by simpa using h)
  | d :: r, i, env, h, hs, hd => by
    unfold forL
    rw [wm_bnd]
    refine wm_mono (hs 0 d env rfl (by simpa using h)) fun e1 h1 => ?_
    rw [wm_bnd]
    refine wm_mono h1 fun q hq => ?_
    obtain ⟨fl, e2⟩ := q
    have next : I (i + 1) e2 → wm (forL mt mb r e2) Q := fun hI => forL_inv I r (i + 1) e2 hI (fun j d' e he hi => by
      have := hs (j + 1) d' e (by simpa using he) (by rw [← Nat.add_assoc, Nat.add_right_comm]; exact hi)
      rw [← Nat.add_assoc, Nat.add_right_comm i j 1] at this
      exact this) fun e he => hd e (by rw [List.length_cons, ← Nat.add_assoc, Nat.add_right_comm]; exact he)
    cases fl with
    | nx => exact next hq
    | ct => exact next hq
    | bk => exact hq
    | rt d => exact hq
    | rf d => exact hq
    | ro i => exact hq
theorem bitsOf_lt {i : Int} {n : Nat} (h : i.natAbs < 2 ^ n) : bitsOf i ≤ n := by
  unfold bitsOf
  by_cases z : i.natAbs = 0
  · rw [z]; exact Nat.zero_le _
  · exact Nat.le_of_lt ((Nat.log2_lt z).mpr h)
theorem mulOk_of {i j : Int} {m n : Nat} (h1 : i.natAbs < 2 ^ m) (h2 : j.natAbs < 2 ^ n) (h : m + n < 1000000) : mulOk i j = true := by
  unfold mulOk
  have := bitsOf_lt h1
  have := bitsOf_lt h2
  exact decide_eq_true (by omega)
theorem divOk_of {i j : Int} {n : Nat} (h0 : 0 < j) (h2 : j.natAbs < 2 ^ n) (h : n < 9000) : divOk i j = true := by
  unfold divOk
  have := bitsOf_lt h2
  rw [decide_eq_true h0, decide_eq_true (show bitsOf j < 9000 by omega)]; rfl
end Dn

/-! Dn25 -/
set_option Elab.async false
set_option linter.all false
set_option maxRecDepth 100000
set_option maxHeartbeats 1000000
/-! Dn25: from a law's mirror to the row. -/
namespace Dn
open PySem PySem.Spec L2
open PyProof.Rows hiding St
/-- what the law's def promises -/
def spL (K : PySem.W.Frag) : Sp := fun vs H Q _ => ∃ (a : Addr) (ns : List Int), vs = [.ref a] ∧ SqL K H a (ns.map V.int) ∧ ∀ H', Q (.bl true) H'
theorem FnOk.weaken {P : Program} {w : World} {K : PySem.W.Frag} {mg : Str → Option Value} {base : Heap} {CX : CXT} {k : Nat} {f : Addr} {fd : FuncData} {ps : List Str} {sp sp' : Sp} (F : FnOk P w K mg base CX k f fd ps sp) (h : ∀ vs H Q E, sp' vs H Q E → sp vs H Q E) : FnOk P w K mg base CX k f fd ps sp' :=
  ⟨fun vs H Q E z => F.len vs H Q E (h _ _ _ _ z), fun A outer s H args us vs Q E hr e0 b r z => F.run A outer s H args us vs Q E hr e0 b r (h _ _ _ _ z)⟩
theorem law_fn {P : Program} {w : World} {K : PySem.W.Frag} {mg : Str → Option Value} {base : Heap} {k : Nat} {g : Ce} {f : Addr} {fd : FuncData} {ps : List Str} {mf : List D → M D} (F : FnOk P w K mg base (CXn false P w) k f fd ps (spP (ck K g) 1 mf)) (hl : ∀ ns : List Int, mf [.scr ns] = .ok (.bl true)) :
    FnOk P w K mg base (L2.CX P w) k f fd ps (spL K) := by
  refine FnOk.weaken F fun vs H Q E ⟨a, ns, e, hs, q⟩ => ⟨fun _ => False, [.scr ns], rfl, fun _ z => z.elim, ?_, ?_⟩
  · subst e
    refine IsDs.cons ?_ IsDs.nil
    unfold IsD
    exact ⟨a, rfl, Same.seq (fun b o hb => by rw [hide_of (fun z => z)]; exact hb) hs⟩
  · rw [hl ns]
    intro v H' _ hv
    unfold IsD at hv
    subst hv
    exact q H'
theorem walkD {l : PySem.W.OpenLaw} {k : Nat} {q : Program} {loose : List Str} {XP : (Str → Option Value) → Heap → Prop} {YP : World → Heap → Prop} {d : DefRec} {K : Params → PySem.W.Frag} (hn : l.most = some 63) (hdf : d.params.defaults = []) (hr : Room k callerA)
    (hY : ∀ (w : World) (h : Heap), YP w h → (K w.params).In h)
    (F : ∀ (w : World) (mg : Str → Option Value) (fa : Addr) (h : Heap), (K w.params).In h → h.Ns mainGlobals mg → mg d.name = some (.ref fa) →
      ∃ fd : FuncData, (∀ (s : Shared) (u : Value), BindsTo s fd ⟨[u], []⟩ [("script", u)]) ∧ ∀ base : Heap, (K w.params).In base → base.Ns mainGlobals mg → FnOk l.prog w (K w.params) mg base (L2.CX l.prog w) k fa fd ["script"] (spL (K w.params))) :
    PySem.W.WalkO q loose XP YP l.row.toRowW d [] (fun f vs => PySem.call f vs) :=
  L2.walk_of (n := 63) (k := k) (x := "script") (CX := fun w => L2.CX l.prog w) (sp := fun w => spL (K w.params)) hn (by decide) hdf hr hY F (fun _ _ a ns hl _ hS => ⟨a, ns, rfl, hS, fun _ => rfl⟩) fun _ _ _ _ _ ⟨_, _, _, _, _, _, _, _, _, _, _, _, z⟩ => z.elim
end Dn

/-! L14 -/
set_option Elab.async false
set_option linter.all false
set_option maxRecDepth 100000
set_option maxHeartbeats 4000000
namespace Dn
namespace LW
open PySem PySem.Spec L2
open PyProof.Rows hiding St
abbrev PP : Program := PySem.Challenge.pw_doneorundone_k14_papers_and_arguments_of
def top (i : Nat) : Stmt := PP.main.body.getD i (.Pass ⟨0, 0, 0, 0⟩)
theorem dbg_MAX_ODDS : (("MAX_ODDS" : Str) == ("__debug__" : Str)) = false := by decide +kernel
theorem cld_MAX_ODDS : (("MAX_ODDS" : Str) == ("__classdict__" : Str)) = false := by decide +kernel
theorem dbg_MAX_SIZE : (("MAX_SIZE" : Str) == ("__debug__" : Str)) = false := by decide +kernel
theorem cld_MAX_SIZE : (("MAX_SIZE" : Str) == ("__classdict__" : Str)) = false := by decide +kernel
theorem dbg_MAX_STEPS : (("MAX_STEPS" : Str) == ("__debug__" : Str)) = false := by decide +kernel
theorem cld_MAX_STEPS : (("MAX_STEPS" : Str) == ("__classdict__" : Str)) = false := by decide +kernel
theorem dbg_MAX_TRIES : (("MAX_TRIES" : Str) == ("__debug__" : Str)) = false := by decide +kernel
theorem cld_MAX_TRIES : (("MAX_TRIES" : Str) == ("__classdict__" : Str)) = false := by decide +kernel
theorem dbg__law_better_due : (("_law_better_due" : Str) == ("__debug__" : Str)) = false := by decide +kernel
theorem cld__law_better_due : (("_law_better_due" : Str) == ("__classdict__" : Str)) = false := by decide +kernel
theorem dbg__law_called : (("_law_called" : Str) == ("__debug__" : Str)) = false := by decide +kernel
theorem cld__law_called : (("_law_called" : Str) == ("__classdict__" : Str)) = false := by decide +kernel
theorem dbg__law_draw : (("_law_draw" : Str) == ("__debug__" : Str)) = false := by decide +kernel
theorem cld__law_draw : (("_law_draw" : Str) == ("__classdict__" : Str)) = false := by decide +kernel
theorem dbg__law_fails : (("_law_fails" : Str) == ("__debug__" : Str)) = false := by decide +kernel
theorem cld__law_fails : (("_law_fails" : Str) == ("__classdict__" : Str)) = false := by decide +kernel
theorem dbg__law_heard : (("_law_heard" : Str) == ("__debug__" : Str)) = false := by decide +kernel
theorem cld__law_heard : (("_law_heard" : Str) == ("__classdict__" : Str)) = false := by decide +kernel
theorem dbg__law_pick : (("_law_pick" : Str) == ("__debug__" : Str)) = false := by decide +kernel
theorem cld__law_pick : (("_law_pick" : Str) == ("__classdict__" : Str)) = false := by decide +kernel
theorem dbg__law_start : (("_law_start" : Str) == ("__debug__" : Str)) = false := by decide +kernel
theorem cld__law_start : (("_law_start" : Str) == ("__classdict__" : Str)) = false := by decide +kernel
theorem dbg__law_whole : (("_law_whole" : Str) == ("__debug__" : Str)) = false := by decide +kernel
theorem cld__law_whole : (("_law_whole" : Str) == ("__classdict__" : Str)) = false := by decide +kernel
theorem dbg__law_word : (("_law_word" : Str) == ("__debug__" : Str)) = false := by decide +kernel
theorem cld__law_word : (("_law_word" : Str) == ("__classdict__" : Str)) = false := by decide +kernel
theorem dbg_abs : (("abs" : Str) == ("__debug__" : Str)) = false := by decide +kernel
theorem cld_abs : (("abs" : Str) == ("__classdict__" : Str)) = false := by decide +kernel
theorem dbg_accept_better : (("accept_better" : Str) == ("__debug__" : Str)) = false := by decide +kernel
theorem cld_accept_better : (("accept_better" : Str) == ("__classdict__" : Str)) = false := by decide +kernel
theorem dbg_all : (("all" : Str) == ("__debug__" : Str)) = false := by decide +kernel
theorem cld_all : (("all" : Str) == ("__classdict__" : Str)) = false := by decide +kernel
theorem dbg_any : (("any" : Str) == ("__debug__" : Str)) = false := by decide +kernel
theorem cld_any : (("any" : Str) == ("__classdict__" : Str)) = false := by decide +kernel
theorem dbg_at : (("at" : Str) == ("__debug__" : Str)) = false := by decide +kernel
theorem cld_at : (("at" : Str) == ("__classdict__" : Str)) = false := by decide +kernel
theorem dbg_base : (("base" : Str) == ("__debug__" : Str)) = false := by decide +kernel
theorem cld_base : (("base" : Str) == ("__classdict__" : Str)) = false := by decide +kernel
theorem dbg_begins : (("begins" : Str) == ("__debug__" : Str)) = false := by decide +kernel
theorem cld_begins : (("begins" : Str) == ("__classdict__" : Str)) = false := by decide +kernel
theorem dbg_best : (("best" : Str) == ("__debug__" : Str)) = false := by decide +kernel
theorem cld_best : (("best" : Str) == ("__classdict__" : Str)) = false := by decide +kernel
theorem dbg_best_shares : (("best_shares" : Str) == ("__debug__" : Str)) = false := by decide +kernel
theorem cld_best_shares : (("best_shares" : Str) == ("__classdict__" : Str)) = false := by decide +kernel
theorem dbg_call : (("call" : Str) == ("__debug__" : Str)) = false := by decide +kernel
theorem cld_call : (("call" : Str) == ("__classdict__" : Str)) = false := by decide +kernel
theorem dbg_cell : (("cell" : Str) == ("__debug__" : Str)) = false := by decide +kernel
theorem cld_cell : (("cell" : Str) == ("__classdict__" : Str)) = false := by decide +kernel
theorem dbg_chance_at : (("chance_at" : Str) == ("__debug__" : Str)) = false := by decide +kernel
theorem cld_chance_at : (("chance_at" : Str) == ("__classdict__" : Str)) = false := by decide +kernel
theorem dbg_chance_of : (("chance_of" : Str) == ("__debug__" : Str)) = false := by decide +kernel
theorem cld_chance_of : (("chance_of" : Str) == ("__classdict__" : Str)) = false := by decide +kernel
theorem dbg_chance_of_all : (("chance_of_all" : Str) == ("__debug__" : Str)) = false := by decide +kernel
theorem cld_chance_of_all : (("chance_of_all" : Str) == ("__classdict__" : Str)) = false := by decide +kernel
theorem dbg_chance_within : (("chance_within" : Str) == ("__debug__" : Str)) = false := by decide +kernel
theorem cld_chance_within : (("chance_within" : Str) == ("__classdict__" : Str)) = false := by decide +kernel
theorem dbg_chances : (("chances" : Str) == ("__debug__" : Str)) = false := by decide +kernel
theorem cld_chances : (("chances" : Str) == ("__classdict__" : Str)) = false := by decide +kernel
theorem dbg_check_long : (("check_long" : Str) == ("__debug__" : Str)) = false := by decide +kernel
theorem cld_check_long : (("check_long" : Str) == ("__classdict__" : Str)) = false := by decide +kernel
theorem dbg_check_odds : (("check_odds" : Str) == ("__debug__" : Str)) = false := by decide +kernel
theorem cld_check_odds : (("check_odds" : Str) == ("__classdict__" : Str)) = false := by decide +kernel
theorem dbg_check_rows : (("check_rows" : Str) == ("__debug__" : Str)) = false := by decide +kernel
theorem cld_check_rows : (("check_rows" : Str) == ("__classdict__" : Str)) = false := by decide +kernel
theorem dbg_check_rule : (("check_rule" : Str) == ("__debug__" : Str)) = false := by decide +kernel
theorem cld_check_rule : (("check_rule" : Str) == ("__classdict__" : Str)) = false := by decide +kernel
theorem dbg_check_shares : (("check_shares" : Str) == ("__debug__" : Str)) = false := by decide +kernel
theorem cld_check_shares : (("check_shares" : Str) == ("__classdict__" : Str)) = false := by decide +kernel
theorem dbg_check_tries : (("check_tries" : Str) == ("__debug__" : Str)) = false := by decide +kernel
theorem cld_check_tries : (("check_tries" : Str) == ("__classdict__" : Str)) = false := by decide +kernel
theorem dbg_common : (("common" : Str) == ("__debug__" : Str)) = false := by decide +kernel
theorem cld_common : (("common" : Str) == ("__classdict__" : Str)) = false := by decide +kernel
theorem dbg_common_divisor : (("common_divisor" : Str) == ("__debug__" : Str)) = false := by decide +kernel
theorem cld_common_divisor : (("common_divisor" : Str) == ("__classdict__" : Str)) = false := by decide +kernel
theorem dbg_down : (("down" : Str) == ("__debug__" : Str)) = false := by decide +kernel
theorem cld_down : (("down" : Str) == ("__classdict__" : Str)) = false := by decide +kernel
theorem dbg_end : (("end" : Str) == ("__debug__" : Str)) = false := by decide +kernel
theorem cld_end : (("end" : Str) == ("__classdict__" : Str)) = false := by decide +kernel
theorem dbg_enumerate : (("enumerate" : Str) == ("__debug__" : Str)) = false := by decide +kernel
theorem cld_enumerate : (("enumerate" : Str) == ("__classdict__" : Str)) = false := by decide +kernel
theorem dbg_error : (("error" : Str) == ("__debug__" : Str)) = false := by decide +kernel
theorem cld_error : (("error" : Str) == ("__classdict__" : Str)) = false := by decide +kernel
theorem dbg_every : (("every" : Str) == ("__debug__" : Str)) = false := by decide +kernel
theorem cld_every : (("every" : Str) == ("__classdict__" : Str)) = false := by decide +kernel
theorem dbg_found : (("found" : Str) == ("__debug__" : Str)) = false := by decide +kernel
theorem cld_found : (("found" : Str) == ("__classdict__" : Str)) = false := by decide +kernel
theorem dbg_further : (("further" : Str) == ("__debug__" : Str)) = false := by decide +kernel
theorem cld_further : (("further" : Str) == ("__classdict__" : Str)) = false := by decide +kernel
theorem dbg_goal : (("goal" : Str) == ("__debug__" : Str)) = false := by decide +kernel
theorem cld_goal : (("goal" : Str) == ("__classdict__" : Str)) = false := by decide +kernel
theorem dbg_gone : (("gone" : Str) == ("__debug__" : Str)) = false := by decide +kernel
theorem cld_gone : (("gone" : Str) == ("__classdict__" : Str)) = false := by decide +kernel
theorem dbg_good : (("good" : Str) == ("__debug__" : Str)) = false := by decide +kernel
theorem cld_good : (("good" : Str) == ("__classdict__" : Str)) = false := by decide +kernel
theorem dbg_heads : (("heads" : Str) == ("__debug__" : Str)) = false := by decide +kernel
theorem cld_heads : (("heads" : Str) == ("__classdict__" : Str)) = false := by decide +kernel
theorem dbg_high : (("high" : Str) == ("__debug__" : Str)) = false := by decide +kernel
theorem cld_high : (("high" : Str) == ("__classdict__" : Str)) = false := by decide +kernel
theorem dbg_int : (("int" : Str) == ("__debug__" : Str)) = false := by decide +kernel
theorem cld_int : (("int" : Str) == ("__classdict__" : Str)) = false := by decide +kernel
theorem dbg_is_between : (("is_between" : Str) == ("__debug__" : Str)) = false := by decide +kernel
theorem cld_is_between : (("is_between" : Str) == ("__classdict__" : Str)) = false := by decide +kernel
theorem dbg_is_integer : (("is_integer" : Str) == ("__debug__" : Str)) = false := by decide +kernel
theorem cld_is_integer : (("is_integer" : Str) == ("__classdict__" : Str)) = false := by decide +kernel
theorem dbg_is_less : (("is_less" : Str) == ("__debug__" : Str)) = false := by decide +kernel
theorem cld_is_less : (("is_less" : Str) == ("__classdict__" : Str)) = false := by decide +kernel
theorem dbg_isinstance : (("isinstance" : Str) == ("__debug__" : Str)) = false := by decide +kernel
theorem cld_isinstance : (("isinstance" : Str) == ("__classdict__" : Str)) = false := by decide +kernel
theorem dbg_judge_shares : (("judge_shares" : Str) == ("__debug__" : Str)) = false := by decide +kernel
theorem cld_judge_shares : (("judge_shares" : Str) == ("__classdict__" : Str)) = false := by decide +kernel
theorem dbg_k : (("k" : Str) == ("__debug__" : Str)) = false := by decide +kernel
theorem cld_k : (("k" : Str) == ("__classdict__" : Str)) = false := by decide +kernel
theorem dbg_law : (("law" : Str) == ("__debug__" : Str)) = false := by decide +kernel
theorem cld_law : (("law" : Str) == ("__classdict__" : Str)) = false := by decide +kernel
theorem dbg_least_tries : (("least_tries" : Str) == ("__debug__" : Str)) = false := by decide +kernel
theorem cld_least_tries : (("least_tries" : Str) == ("__classdict__" : Str)) = false := by decide +kernel
theorem dbg_len : (("len" : Str) == ("__debug__" : Str)) = false := by decide +kernel
theorem cld_len : (("len" : Str) == ("__classdict__" : Str)) = false := by decide +kernel
theorem dbg_list : (("list" : Str) == ("__debug__" : Str)) = false := by decide +kernel
theorem cld_list : (("list" : Str) == ("__classdict__" : Str)) = false := by decide +kernel
theorem dbg_long : (("long" : Str) == ("__debug__" : Str)) = false := by decide +kernel
theorem cld_long : (("long" : Str) == ("__classdict__" : Str)) = false := by decide +kernel
theorem dbg_low : (("low" : Str) == ("__debug__" : Str)) = false := by decide +kernel
theorem cld_low : (("low" : Str) == ("__classdict__" : Str)) = false := by decide +kernel
theorem dbg_many : (("many" : Str) == ("__debug__" : Str)) = false := by decide +kernel
theorem cld_many : (("many" : Str) == ("__classdict__" : Str)) = false := by decide +kernel
theorem dbg_max : (("max" : Str) == ("__debug__" : Str)) = false := by decide +kernel
theorem cld_max : (("max" : Str) == ("__classdict__" : Str)) = false := by decide +kernel
theorem dbg_mean_tries : (("mean_tries" : Str) == ("__debug__" : Str)) = false := by decide +kernel
theorem cld_mean_tries : (("mean_tries" : Str) == ("__classdict__" : Str)) = false := by decide +kernel
theorem dbg_min : (("min" : Str) == ("__debug__" : Str)) = false := by decide +kernel
theorem cld_min : (("min" : Str) == ("__classdict__" : Str)) = false := by decide +kernel
theorem dbg_most_tries : (("most_tries" : Str) == ("__debug__" : Str)) = false := by decide +kernel
theorem cld_most_tries : (("most_tries" : Str) == ("__classdict__" : Str)) = false := by decide +kernel
theorem dbg_moved_try : (("moved_try" : Str) == ("__debug__" : Str)) = false := by decide +kernel
theorem cld_moved_try : (("moved_try" : Str) == ("__classdict__" : Str)) = false := by decide +kernel
theorem dbg_number : (("number" : Str) == ("__debug__" : Str)) = false := by decide +kernel
theorem cld_number : (("number" : Str) == ("__classdict__" : Str)) = false := by decide +kernel
theorem dbg_odds : (("odds" : Str) == ("__debug__" : Str)) = false := by decide +kernel
theorem cld_odds : (("odds" : Str) == ("__classdict__" : Str)) = false := by decide +kernel
theorem dbg_one : (("one" : Str) == ("__debug__" : Str)) = false := by decide +kernel
theorem cld_one : (("one" : Str) == ("__classdict__" : Str)) = false := by decide +kernel
theorem dbg_other : (("other" : Str) == ("__debug__" : Str)) = false := by decide +kernel
theorem cld_other : (("other" : Str) == ("__classdict__" : Str)) = false := by decide +kernel
theorem dbg_own : (("own" : Str) == ("__debug__" : Str)) = false := by decide +kernel
theorem cld_own : (("own" : Str) == ("__classdict__" : Str)) = false := by decide +kernel
theorem dbg_power : (("power" : Str) == ("__debug__" : Str)) = false := by decide +kernel
theorem cld_power : (("power" : Str) == ("__classdict__" : Str)) = false := by decide +kernel
theorem dbg_product_of : (("product_of" : Str) == ("__debug__" : Str)) = false := by decide +kernel
theorem cld_product_of : (("product_of" : Str) == ("__classdict__" : Str)) = false := by decide +kernel
theorem dbg_quotient : (("quotient" : Str) == ("__debug__" : Str)) = false := by decide +kernel
theorem cld_quotient : (("quotient" : Str) == ("__classdict__" : Str)) = false := by decide +kernel
theorem dbg_range : (("range" : Str) == ("__debug__" : Str)) = false := by decide +kernel
theorem cld_range : (("range" : Str) == ("__classdict__" : Str)) = false := by decide +kernel
theorem dbg_reason : (("reason" : Str) == ("__debug__" : Str)) = false := by decide +kernel
theorem cld_reason : (("reason" : Str) == ("__classdict__" : Str)) = false := by decide +kernel
theorem dbg_row : (("row" : Str) == ("__debug__" : Str)) = false := by decide +kernel
theorem cld_row : (("row" : Str) == ("__classdict__" : Str)) = false := by decide +kernel
theorem dbg_rows : (("rows" : Str) == ("__debug__" : Str)) = false := by decide +kernel
theorem cld_rows : (("rows" : Str) == ("__classdict__" : Str)) = false := by decide +kernel
theorem dbg_rule : (("rule" : Str) == ("__debug__" : Str)) = false := by decide +kernel
theorem cld_rule : (("rule" : Str) == ("__classdict__" : Str)) = false := by decide +kernel
theorem dbg_script : (("script" : Str) == ("__debug__" : Str)) = false := by decide +kernel
theorem cld_script : (("script" : Str) == ("__classdict__" : Str)) = false := by decide +kernel
theorem dbg_seed : (("seed" : Str) == ("__debug__" : Str)) = false := by decide +kernel
theorem cld_seed : (("seed" : Str) == ("__classdict__" : Str)) = false := by decide +kernel
theorem dbg_shares : (("shares" : Str) == ("__debug__" : Str)) = false := by decide +kernel
theorem cld_shares : (("shares" : Str) == ("__classdict__" : Str)) = false := by decide +kernel
theorem dbg_some : (("some" : Str) == ("__debug__" : Str)) = false := by decide +kernel
theorem cld_some : (("some" : Str) == ("__classdict__" : Str)) = false := by decide +kernel
theorem dbg_sorted : (("sorted" : Str) == ("__debug__" : Str)) = false := by decide +kernel
theorem cld_sorted : (("sorted" : Str) == ("__classdict__" : Str)) = false := by decide +kernel
theorem dbg_state : (("state" : Str) == ("__debug__" : Str)) = false := by decide +kernel
theorem cld_state : (("state" : Str) == ("__classdict__" : Str)) = false := by decide +kernel
theorem dbg_str : (("str" : Str) == ("__debug__" : Str)) = false := by decide +kernel
theorem cld_str : (("str" : Str) == ("__classdict__" : Str)) = false := by decide +kernel
theorem dbg_sum : (("sum" : Str) == ("__debug__" : Str)) = false := by decide +kernel
theorem cld_sum : (("sum" : Str) == ("__classdict__" : Str)) = false := by decide +kernel
theorem dbg_told : (("told" : Str) == ("__debug__" : Str)) = false := by decide +kernel
theorem cld_told : (("told" : Str) == ("__classdict__" : Str)) = false := by decide +kernel
theorem dbg_tries : (("tries" : Str) == ("__debug__" : Str)) = false := by decide +kernel
theorem cld_tries : (("tries" : Str) == ("__classdict__" : Str)) = false := by decide +kernel
theorem dbg_tuple : (("tuple" : Str) == ("__debug__" : Str)) = false := by decide +kernel
theorem cld_tuple : (("tuple" : Str) == ("__classdict__" : Str)) = false := by decide +kernel
theorem dbg_turn : (("turn" : Str) == ("__debug__" : Str)) = false := by decide +kernel
theorem cld_turn : (("turn" : Str) == ("__classdict__" : Str)) = false := by decide +kernel
theorem dbg_up : (("up" : Str) == ("__debug__" : Str)) = false := by decide +kernel
theorem cld_up : (("up" : Str) == ("__classdict__" : Str)) = false := by decide +kernel
theorem dbg_value : (("value" : Str) == ("__debug__" : Str)) = false := by decide +kernel
theorem cld_value : (("value" : Str) == ("__classdict__" : Str)) = false := by decide +kernel
theorem dbg_wait : (("wait" : Str) == ("__debug__" : Str)) = false := by decide +kernel
theorem cld_wait : (("wait" : Str) == ("__classdict__" : Str)) = false := by decide +kernel
theorem dbg_waits_of : (("waits_of" : Str) == ("__debug__" : Str)) = false := by decide +kernel
theorem cld_waits_of : (("waits_of" : Str) == ("__classdict__" : Str)) = false := by decide +kernel
theorem dbg_way : (("way" : Str) == ("__debug__" : Str)) = false := by decide +kernel
theorem cld_way : (("way" : Str) == ("__classdict__" : Str)) = false := by decide +kernel
theorem dbg_whole : (("whole" : Str) == ("__debug__" : Str)) = false := by decide +kernel
theorem cld_whole : (("whole" : Str) == ("__classdict__" : Str)) = false := by decide +kernel
theorem dbg_wholes : (("wholes" : Str) == ("__debug__" : Str)) = false := by decide +kernel
theorem cld_wholes : (("wholes" : Str) == ("__classdict__" : Str)) = false := by decide +kernel
theorem dbg_zip : (("zip" : Str) == ("__debug__" : Str)) = false := by decide +kernel
theorem cld_zip : (("zip" : Str) == ("__classdict__" : Str)) = false := by decide +kernel
def wposL : List Pos := [⟨194, 4, 194, 9⟩, ⟨194, 13, 194, 20⟩, ⟨194, 22, 194, 33⟩, ⟨194, 35, 194, 43⟩, ⟨194, 45, 194, 52⟩, ⟨194, 12, 194, 53⟩, ⟨194, 4, 194, 53⟩, ⟨195, 4, 195, 9⟩, ⟨195, 13, 195, 23⟩, ⟨195, 24, 195, 29⟩, ⟨195, 31, 195, 40⟩, ⟨195, 13, 195, 41⟩, ⟨195, 43, 195, 53⟩, ⟨195, 54, 195, 59⟩, ⟨195, 61, 195, 74⟩, ⟨195, 43, 195, 75⟩, ⟨195, 77, 195, 87⟩, ⟨195, 88, 195, 93⟩, ⟨195, 95, 195, 105⟩, ⟨195, 77, 195, 106⟩, ⟨195, 108, 195, 118⟩, ⟨195, 119, 195, 124⟩, ⟨195, 126, 195, 133⟩, ⟨195, 108, 195, 134⟩, ⟨195, 12, 195, 135⟩, ⟨195, 4, 195, 135⟩, ⟨196, 54, 196, 59⟩, ⟨196, 54, 196, 65⟩, ⟨196, 66, 196, 70⟩, ⟨196, 54, 196, 71⟩, ⟨196, 75, 196, 76⟩, ⟨196, 54, 196, 76⟩, ⟨196, 81, 196, 91⟩, ⟨196, 92, 196, 97⟩, ⟨196, 99, 196, 109⟩, ⟨196, 81, 196, 110⟩, ⟨196, 54, 196, 110⟩, ⟨196, 11, 196, 16⟩, ⟨196, 17, 196, 22⟩, ⟨196, 17, 196, 28⟩, ⟨196, 29, 196, 33⟩, ⟨196, 17, 196, 34⟩, ⟨196, 11, 196, 35⟩, ⟨196, 38, 196, 43⟩, ⟨196, 38, 196, 50⟩, ⟨196, 11, 196, 50⟩, ⟨196, 116, 196, 123⟩, ⟨196, 11, 196, 123⟩, ⟨196, 4, 196, 123⟩]
def wpos (i : Nat) : Pos := wposL.getD i ⟨0, 0, 0, 0⟩
theorem mgn {nn bk : Bool} {X : Cx} {W : WX} {P : Program} {w : World} {K : PySem.W.Frag} {mg : Str → Option Value} {base : Heap} {N : List Str} {sc : Scope} {k : Nat} {x : Str} (C : Cok nn X W P w K mg base N sc k bk) (h : mg x = none) : X.mg x = none := by rw [C.em]; exact h
-- _law_start: script, seed, cell
abbrev N__law_start : List Str := ["script", "seed", "cell"]
def b__law_start : Sv := bSeq (sSet 1 (dC (.int 7)))
  (bSeq (sFor (dItems (dVar 0)) (gSet 2) (sSet 1 (dBin dAdd (dBin dMod (dCall bInt (dCons (dBin dAdd (dBin dMul (dVar 1) (dC (.int 48271))) (dVar 2)) (dNil))) (dC (.int 2147483629))) (dC (.int 1)))))
  (sRetF (dLst (dCons (dCall bList (dCons (dVar 0) (dNil))) (dCons (dC (.int 0)) (dCons (dC (.int 0)) (dCons (dVar 1) (dNil))))))))
def m__law_start : List D → M D := fun ds => finF (b__law_start (enter 3 ds))
-- _law_draw: state, many, value
abbrev N__law_draw : List Str := ["state", "many", "value"]
def b__law_draw : Sv := bSeq (sIf (dTAnd (dTb (dBin dEq (dBin dIx (dVarO 0) (dC (.int 1))) (dC (.int 0)))) (dTb (dBin dGe (dBin dIx (dVarO 0) (dC (.int 2))) (dCall bLen (dCons (dBin dIx (dVarO 0) (dC (.int 0))) (dNil)))))) (bSeq (sSub 0 (dC (.int 3)) (dBin dMod (dCall bInt (dCons (dBin dAdd (dBin dMul (dBin dIx (dVarO 0) (dC (.int 3))) (dC (.int 48271))) (dC (.int 69621))) (dNil))) (dC (.int 2147483629))))
  (sRet (dBin dMod (dCall bInt (dCons (dBin dFdiv (dBin dIx (dVarO 0) (dC (.int 3))) (dC (.int 13))) (dNil))) (dVar 1)))) (bNil))
  (bSeq (sIf (dTb (dBin dEq (dBin dIx (dVarO 0) (dC (.int 1))) (dC (.int 0)))) (bSeq (sSub 0 (dC (.int 1)) (dCall bAbs (dCons (dBin dIx (dBin dIx (dVarO 0) (dC (.int 0))) (dBin dIx (dVarO 0) (dC (.int 2)))) (dNil))))
  (sSub 0 (dC (.int 2)) (dBin dAdd (dBin dIx (dVarO 0) (dC (.int 2))) (dC (.int 1))))) (bNil))
  (bSeq (sSet 2 (dBin dMod (dCall bInt (dCons (dBin dIx (dVarO 0) (dC (.int 1))) (dNil))) (dVar 1)))
  (bSeq (sSub 0 (dC (.int 1)) (dBin dFdiv (dBin dIx (dVarO 0) (dC (.int 1))) (dVar 1)))
  (sRet (dVar 2)))))
def m__law_draw : D → List D → M (D × D) := fun s ds => finO (b__law_draw (enterO 3 s ds))
-- _law_pick: state, some
abbrev N__law_pick : List Str := ["state", "some"]
def b__law_pick : Sv := sRet (dBin dIx (dVar 1) (dCallO m__law_draw 0 (dCons (dCall bLen (dCons (dVar 1) (dNil))) (dNil))))
def m__law_pick : D → List D → M (D × D) := fun s ds => finO (b__law_pick (enterO 2 s ds))
-- is_integer: value
abbrev N_is_integer : List Str := ["value"]
def b_is_integer : Sv := sRet (dAndV (dIsi "int" (dVar 0)) (dNotV (dIsi "bool" (dVar 0))))
def m_is_integer : List D → M D := fun ds => fin (b_is_integer (enter 1 ds))
-- is_between: value, low, high
abbrev N_is_between : List Str := ["value", "low", "high"]
def b_is_between : Sv := sRet (dAndV (dCall m_is_integer (dCons (dVar 0) (dNil))) (dChain dLe dLe (dVar 1) (dVar 0) (dVar 2)))
def m_is_between : List D → M D := fun ds => fin (b_is_between (enter 3 ds))
-- check_odds: odds, reason
abbrev N_check_odds : List Str := ["odds", "reason"]
def b_check_odds : Sv := bSeq (sIf (dTOr (dTNot (dTr (dIsi "tuple" (dVar 0)))) (dTOr (dTb (dBin dNe (dCall bLen (dCons (dVar 0) (dNil))) (dC (.int 2)))) (dTNot (dTr (dCall m_is_between (dCons (dBin dIx (dVar 0) (dC (.int 1))) (dCons (dC (.int 1)) (dCons (dC (.int 1000)) (dNil))))))))) (sRaise 1 (dVar 1)) (bNil))
  (sIf (dTNot (dTr (dCall m_is_between (dCons (dBin dIx (dVar 0) (dC (.int 0))) (dCons (dC (.int 0)) (dCons (dBin dIx (dVar 0) (dC (.int 1))) (dNil))))))) (sRaise 1 (dVar 1)) (bNil))
def m_check_odds : List D → M D := fun ds => fin (b_check_odds (enter 2 ds))
-- least_tries: odds, goal, good, tries
abbrev N_least_tries : List Str := ["odds", "goal", "good", "tries"]
def b_least_tries : Sv := bSeq (sDrop (dCall m_check_odds (dCons (dVar 0) (dCons (dC (.str "odds")) (dNil)))))
  (bSeq (sDrop (dCall m_check_odds (dCons (dVar 1) (dCons (dC (.str "goal")) (dNil)))))
  (sNever))
def m_least_tries : List D → M D := fun ds => fin (b_least_tries (enter 4 ds))
-- check_tries: tries
abbrev N_check_tries : List Str := ["tries"]
def b_check_tries : Sv := sIf (dTNot (dTr (dCall m_is_between (dCons (dVar 0) (dCons (dC (.int 0)) (dCons (dC (.int 60)) (dNil))))))) (sRaise 1 (dC (.str "tries"))) (bNil)
def m_check_tries : List D → M D := fun ds => fin (b_check_tries (enter 1 ds))
-- chance_within: odds, tries, own
abbrev N_chance_within : List Str := ["odds", "tries", "own"]
def b_chance_within : Sv := bSeq (sDrop (dCall m_check_odds (dCons (dVar 0) (dCons (dC (.str "odds")) (dNil)))))
  (bSeq (sDrop (dCall m_check_tries (dCons (dVar 1) (dNil))))
  (sNever))
def m_chance_within : List D → M D := fun ds => fin (b_chance_within (enter 3 ds))
-- chance_at: odds, number
abbrev N_chance_at : List Str := ["odds", "number"]
def b_chance_at : Sv := bSeq (sDrop (dCall m_check_odds (dCons (dVar 0) (dCons (dC (.str "odds")) (dNil)))))
  (bSeq (sIf (dTNot (dTr (dCall m_is_between (dCons (dVar 1) (dCons (dC (.int 1)) (dCons (dC (.int 60)) (dNil))))))) (sRaise 1 (dC (.str "number"))) (bNil))
  (sNever))
def m_chance_at : List D → M D := fun ds => fin (b_chance_at (enter 2 ds))
-- mean_tries: odds, tries, turn, up, down
abbrev N_mean_tries : List Str := ["odds", "tries", "turn", "up", "down"]
def b_mean_tries : Sv := bSeq (sDrop (dCall m_check_odds (dCons (dVar 0) (dCons (dC (.str "odds")) (dNil)))))
  (bSeq (sDrop (dCall m_check_tries (dCons (dVar 1) (dNil))))
  (sNever))
def m_mean_tries : List D → M D := fun ds => fin (b_mean_tries (enter 5 ds))
-- check_rows: rows, own
abbrev N_check_rows : List Str := ["rows", "own"]
def b_check_rows : Sv := bSeq (sIf (dTOr (dTNot (dTr (dIsi "tuple" (dVar 0)))) (dTNot (dTb (dChain dLe dLe (dC (.int 1)) (dCall bLen (dCons (dVar 0) (dNil))) (dC (.int 20)))))) (sRaise 0 (dC (.str "odds"))) (bNil))
  (sFor (dItems (dVar 0)) (gSet 1) (sReraise (sDrop (dCall m_check_odds (dCons (dVar 1) (dCons (dC (.str "odds")) (dNil))))) (fun i => i == 1) 0 "odds"))
def m_check_rows : List D → M D := fun ds => fin (b_check_rows (enter 2 ds))
-- best_shares: rows, tries, best, at, chances, further, many, odds, shares, own, told
abbrev N_best_shares : List Str := ["rows", "tries", "best", "at", "chances", "further", "many", "odds", "shares", "own", "told"]
def b_best_shares : Sv := bSeq (sDrop (dCall m_check_rows (dCons (dVar 0) (dNil))))
  (bSeq (sDrop (dCall m_check_tries (dCons (dVar 1) (dNil))))
  (bSeq (sIf (dTb (dBin dLt (dVar 1) (dCall bLen (dCons (dVar 0) (dNil))))) (sRet (dC .non)) (bNil))
  (sNever)))
def m_best_shares : List D → M D := fun ds => fin (b_best_shares (enter 11 ds))
-- check_rule: rule, own
abbrev N_check_rule : List Str := ["rule", "own"]
def b_check_rule : Sv := bSeq (sIf (dTOr (dTNot (dTr (dIsi "tuple" (dVar 0)))) (dTOr (dTb (dBin dNe (dCall bLen (dCons (dVar 0) (dNil))) (dC (.int 3)))) (dTNot (dTr (dCall bAll (dCons (dLc (dItems (dVar 0)) (gSet 1) (dYes) (dCall m_is_between (dCons (dVar 1) (dCons (dC (.int 0)) (dCons (dC (.int 1000000000000)) (dNil))))) [1]) (dNil))))))) (sRaise 1 (dC (.str "rule"))) (bNil))
  (sIf (dTOr (dTb (dBin dLt (dBin dIx (dVar 0) (dC (.int 1))) (dC (.int 1)))) (dTb (dBin dGt (dBin dIx (dVar 0) (dC (.int 0))) (dBin dIx (dVar 0) (dC (.int 2)))))) (sRaise 1 (dC (.str "rule"))) (bNil))
def m_check_rule : List D → M D := fun ds => fin (b_check_rule (enter 2 ds))
-- check_long: long
abbrev N_check_long : List Str := ["long"]
def b_check_long : Sv := sIf (dTNot (dTr (dCall m_is_between (dCons (dVar 0) (dCons (dC (.int 0)) (dCons (dC (.int 1000000000000)) (dNil))))))) (sRaise 1 (dC (.str "long"))) (bNil)
def m_check_long : List D → M D := fun ds => fin (b_check_long (enter 1 ds))
-- waits_of: rule, many, found, turn
abbrev N_waits_of : List Str := ["rule", "many", "found", "turn"]
def b_waits_of : Sv := bSeq (sSetO 2 (dLst (dNil)))
  (bSeq (sFor (dRng (dCons (dVar 1) (dNil))) (gSet 3) (sDrop (dMeth fApp 2 (dCons (dIf (dTb (dBin dEq (dVar 3) (dC (.int 0)))) (dBin dIx (dVar 0) (dC (.int 0))) (dCall bMin (dCons (dBin dIx (dVar 0) (dC (.int 2))) (dCons (dBin dMul (dBin dIx (dVarO 2) (dNeg (dC (.int 1)))) (dBin dIx (dVar 0) (dC (.int 1)))) (dNil))))) (dNil)))))
  (sRetO 2))
def m_waits_of : List D → M D := fun ds => fin (b_waits_of (enter 4 ds))
-- begins: rule, long, tries, found, wait
abbrev N_begins : List Str := ["rule", "long", "tries", "found", "wait"]
def b_begins : Sv := bSeq (sDrop (dCall m_check_rule (dCons (dVar 0) (dNil))))
  (bSeq (sDrop (dCall m_check_long (dCons (dVar 1) (dNil))))
  (bSeq (sDrop (dCall m_check_tries (dCons (dVar 2) (dNil))))
  (bSeq (sSetO 3 (dLst (dNil)))
  (bSeq (sFor (dItems (dIf (dTb (dBin dGt (dVar 2) (dC (.int 0)))) (dBin dAdd (dLst (dCons (dC (.int 0)) (dNil))) (dCall m_waits_of (dCons (dVar 0) (dCons (dBin dSub (dVar 2) (dC (.int 1))) (dNil))))) (dLst (dNil)))) (gSet 4) (sDrop (dMeth fApp 3 (dCons (dIf (dTr (dVarO 3)) (dBin dAdd (dBin dAdd (dBin dIx (dVarO 3) (dNeg (dC (.int 1)))) (dVar 1)) (dVar 4)) (dC (.int 0))) (dNil)))))
  (sRet (dCall bTuple (dCons (dVarO 3) (dNil))))))))
def m_begins : List D → M D := fun ds => fin (b_begins (enter 5 ds))
-- most_tries: rule, long, end, own
abbrev N_most_tries : List Str := ["rule", "long", "end", "own"]
def b_most_tries : Sv := bSeq (sDrop (dCall m_check_rule (dCons (dVar 0) (dNil))))
  (bSeq (sDrop (dCall m_check_long (dCons (dVar 1) (dNil))))
  (bSeq (sIf (dTNot (dTr (dCall m_is_between (dCons (dVar 2) (dCons (dC (.int 0)) (dCons (dC (.int 1000000000000)) (dNil))))))) (sRaise 1 (dC (.str "end"))) (bNil))
  (sNever)))
def m_most_tries : List D → M D := fun ds => fin (b_most_tries (enter 4 ds))
-- check_shares: rows, shares, own
abbrev N_check_shares : List Str := ["rows", "shares", "own"]
def b_check_shares : Sv := bSeq (sIf (dTOr (dTNot (dTr (dIsi "tuple" (dVar 1)))) (dTOr (dTb (dBin dNe (dCall bLen (dCons (dVar 1) (dNil))) (dCall bLen (dCons (dVar 0) (dNil))))) (dTNot (dTr (dCall bAll (dCons (dLc (dItems (dVar 1)) (gSet 2) (dYes) (dCall m_is_integer (dCons (dVar 2) (dNil))) [2]) (dNil))))))) (sRaise 1 (dC (.str "shares"))) (bNil))
  (sIf (dTOr (dTb (dBin dLt (dCall bMin (dCons (dVar 1) (dNil))) (dC (.int 1)))) (dTb (dBin dGt (dCall bSum (dCons (dVar 1) (dNil))) (dC (.int 60))))) (sRaise 1 (dC (.str "shares"))) (bNil))
def m_check_shares : List D → M D := fun ds => fin (b_check_shares (enter 3 ds))
-- is_less: one, other
abbrev N_is_less : List Str := ["one", "other"]
def b_is_less : Sv := sRet (dBin dLt (dBin dMul (dBin dIx (dVar 0) (dC (.int 0))) (dBin dIx (dVar 1) (dC (.int 1)))) (dBin dMul (dBin dIx (dVar 1) (dC (.int 0))) (dBin dIx (dVar 0) (dC (.int 1)))))
def m_is_less : List D → M D := fun ds => fin (b_is_less (enter 2 ds))
-- power: base, many, found, turn
abbrev N_power : List Str := ["base", "many", "found", "turn"]
def b_power : Sv := bSeq (sSet 2 (dC (.int 1)))
  (bSeq (sFor (dRng (dCons (dVar 1) (dNil))) (gSet 3) (sAug 2 aMul (dVar 0)))
  (sRet (dVar 2)))
def m_power : List D → M D := fun ds => fin (b_power (enter 4 ds))
-- chance_of: odds, tries, whole
abbrev N_chance_of : List Str := ["odds", "tries", "whole"]
def b_chance_of : Sv := bSeq (sSet 2 (dCall m_power (dCons (dBin dIx (dVar 0) (dC (.int 1))) (dCons (dVar 1) (dNil)))))
  (sRet (dTup (dCons (dBin dSub (dVar 2) (dCall m_power (dCons (dBin dSub (dBin dIx (dVar 0) (dC (.int 1))) (dBin dIx (dVar 0) (dC (.int 0)))) (dCons (dVar 1) (dNil))))) (dCons (dVar 2) (dNil)))))
def m_chance_of : List D → M D := fun ds => fin (b_chance_of (enter 3 ds))
-- product_of: rows, shares, up, down, odds, tries, own
abbrev N_product_of : List Str := ["rows", "shares", "up", "down", "odds", "tries", "own"]
def b_product_of : Sv := bSeq (sAsg (dTup (dCons (dC (.int 1)) (dCons (dC (.int 1)) (dNil)))) (gTupD (lenOf 2 (gsCons (gSet 2) (gsCons (gSet 3) (gsNil))))))
  (bSeq (sFor (dZip (dCons (dVar 0) (dCons (dVar 1) (dNil)))) (gTupD (lenOf 2 (gsCons (gSet 4) (gsCons (gSet 5) (gsNil))))) (bSeq (sSet 6 (dCall m_chance_of (dCons (dVar 4) (dCons (dVar 5) (dNil)))))
  (sPar 2 3 (dCons (dBin dMul (dVar 2) (dBin dIx (dVar 6) (dC (.int 0)))) (dCons (dBin dMul (dVar 3) (dBin dIx (dVar 6) (dC (.int 1)))) (dNil))))))
  (sRet (dTup (dCons (dVar 2) (dCons (dVar 3) (dNil))))))
def m_product_of : List D → M D := fun ds => fin (b_product_of (enter 7 ds))
-- moved_try: shares, one, other, at, own
abbrev N_moved_try : List Str := ["shares", "one", "other", "at", "own"]
def b_moved_try : Sv := sRet (dCall bTuple (dCons (dLc (dEnum (dVar 0)) (gTupD (lenOf 2 (gsCons (gSet 3) (gsCons (gSet 4) (gsNil))))) (dYes) (dBin dAdd (dBin dSub (dVar 4) (dCall bInt (dCons (dBin dEq (dVar 3) (dVar 1)) (dNil)))) (dCall bInt (dCons (dBin dEq (dVar 3) (dVar 2)) (dNil)))) [3, 4]) (dNil)))
def m_moved_try : List D → M D := fun ds => fin (b_moved_try (enter 5 ds))
-- accept_better: rows, shares, one, other
abbrev N_accept_better : List Str := ["rows", "shares", "one", "other"]
def b_accept_better : Sv := bSeq (sDrop (dCall m_check_rows (dCons (dVar 0) (dNil))))
  (bSeq (sDrop (dCall m_check_shares (dCons (dVar 0) (dCons (dVar 1) (dNil)))))
  (bSeq (sIf (dTOr (dTNot (dTr (dCall m_is_between (dCons (dVar 2) (dCons (dC (.int 0)) (dCons (dBin dSub (dCall bLen (dCons (dVar 0) (dNil))) (dC (.int 1))) (dNil))))))) (dTOr (dTNot (dTr (dCall m_is_between (dCons (dVar 3) (dCons (dC (.int 0)) (dCons (dBin dSub (dCall bLen (dCons (dVar 0) (dNil))) (dC (.int 1))) (dNil))))))) (dTb (dBin dEq (dVar 2) (dVar 3))))) (sRaise 2 (dC (.str "form"))) (bNil))
  (bSeq (sIf (dTb (dBin dLt (dBin dIx (dVar 1) (dVar 2)) (dC (.int 2)))) (sRaise 2 (dC (.str "tries"))) (bNil))
  (sIf (dTNot (dTr (dCall m_is_less (dCons (dCall m_product_of (dCons (dVar 0) (dCons (dVar 1) (dNil)))) (dCons (dCall m_product_of (dCons (dVar 0) (dCons (dCall m_moved_try (dCons (dVar 1) (dCons (dVar 2) (dCons (dVar 3) (dNil))))) (dNil)))) (dNil)))))) (sRaise 2 (dC (.str "odds"))) (bNil)))))
def m_accept_better : List D → M D := fun ds => fin (b_accept_better (enter 4 ds))
-- common_divisor: one, other
abbrev N_common_divisor : List Str := ["one", "other"]
def b_common_divisor : Sv := bSeq (sPar 0 1 (dCons (dCall bAbs (dCons (dVar 0) (dNil))) (dCons (dCall bAbs (dCons (dVar 1) (dNil))) (dNil))))
  (bSeq (sWhile (dTr (dVar 1)) (sPar 0 1 (dCons (dVar 1) (dCons (dBin dSub (dVar 0) (dBin dMul (dBin dFdiv (dVar 0) (dVar 1)) (dVar 1))) (dNil)))))
  (sRet (dVar 0)))
def m_common_divisor : List D → M D := fun ds => fin (b_common_divisor (enter 2 ds))
-- quotient: up, down, common
abbrev N_quotient : List Str := ["up", "down", "common"]
def b_quotient : Sv := bSeq (sSet 2 (dCall m_common_divisor (dCons (dVar 0) (dCons (dVar 1) (dNil)))))
  (sRet (dTup (dCons (dBin dFdiv (dVar 0) (dVar 2)) (dCons (dBin dFdiv (dVar 1) (dVar 2)) (dNil)))))
def m_quotient : List D → M D := fun ds => fin (b_quotient (enter 3 ds))
-- chance_of_all: rows, shares, own
abbrev N_chance_of_all : List Str := ["rows", "shares", "own"]
def b_chance_of_all : Sv := bSeq (sDrop (dCall m_check_rows (dCons (dVar 0) (dNil))))
  (bSeq (sDrop (dCall m_check_shares (dCons (dVar 0) (dCons (dVar 1) (dNil)))))
  (bSeq (sSet 2 (dCall m_product_of (dCons (dVar 0) (dCons (dVar 1) (dNil)))))
  (sRet (dCall m_quotient (dCons (dBin dIx (dVar 2) (dC (.int 0))) (dCons (dBin dIx (dVar 2) (dC (.int 1))) (dNil)))))))
def m_chance_of_all : List D → M D := fun ds => fin (b_chance_of_all (enter 3 ds))
-- judge_shares: rows, shares, own, one, other
abbrev N_judge_shares : List Str := ["rows", "shares", "own", "one", "other"]
def b_judge_shares : Sv := bSeq (sDrop (dCall m_check_rows (dCons (dVar 0) (dNil))))
  (bSeq (sDrop (dCall m_check_shares (dCons (dVar 0) (dCons (dVar 1) (dNil)))))
  (sNever))
def m_judge_shares : List D → M D := fun ds => fin (b_judge_shares (enter 5 ds))
-- _law_called: call, some
abbrev N__law_called : List Str := ["call", "some"]
def tbl : Tbl
  | 0 => some (2, m_least_tries)
  | 1 => some (2, m_chance_within)
  | 2 => some (2, m_chance_at)
  | 3 => some (2, m_mean_tries)
  | 4 => some (2, m_best_shares)
  | 5 => some (3, m_begins)
  | 6 => some (3, m_most_tries)
  | 7 => some (4, m_accept_better)
  | 8 => some (2, m_chance_of_all)
  | 9 => some (2, m_judge_shares)
  | _ => none
def b__law_called : Sv := bSeq (sIf (dTb (dBin dLt (dCall bLen (dCons (dVar 1) (dNil))) (dC (.int 3)))) (sRet (dIf (dTb (dBin dEq (dCall bLen (dCons (dVar 1) (dNil))) (dC (.int 1)))) (dCallV tbl 0 (dCons (dBin dIx (dVar 1) (dC (.int 0))) (dNil))) (dCallV tbl 0 (dCons (dBin dIx (dVar 1) (dC (.int 0))) (dCons (dBin dIx (dVar 1) (dC (.int 1))) (dNil)))))) (bNil))
  (bSeq (sIf (dTb (dBin dLt (dCall bLen (dCons (dVar 1) (dNil))) (dC (.int 5)))) (sRet (dIf (dTb (dBin dEq (dCall bLen (dCons (dVar 1) (dNil))) (dC (.int 3)))) (dCallV tbl 0 (dCons (dBin dIx (dVar 1) (dC (.int 0))) (dCons (dBin dIx (dVar 1) (dC (.int 1))) (dCons (dBin dIx (dVar 1) (dC (.int 2))) (dNil))))) (dCallV tbl 0 (dCons (dBin dIx (dVar 1) (dC (.int 0))) (dCons (dBin dIx (dVar 1) (dC (.int 1))) (dCons (dBin dIx (dVar 1) (dC (.int 2))) (dCons (dBin dIx (dVar 1) (dC (.int 3))) (dNil)))))))) (bNil))
  (sNever))
def m__law_called : List D → M D := fun ds => fin (b__law_called (enter 2 ds))
-- _law_word: error, heads, found
abbrev N__law_word : List Str := ["error", "heads", "found"]
-- _law_heard: call, some, error
abbrev N__law_heard : List Str := ["call", "some", "error"]
def b__law_heard : Sv := sHeard (sRet (dLst (dCons (dCall m__law_called (dCons (dVar 0) (dCons (dVar 1) (dNil)))) (dNil)))) 2
def m__law_heard : List D → M D := fun ds => fin (b__law_heard (enter 3 ds))
-- _law_whole: value
abbrev N__law_whole : List Str := ["value"]
def b__law_whole : Sv := sRet (dAndV (dIsi "int" (dVar 0)) (dNotV (dIsi "bool" (dVar 0))))
def m__law_whole : List D → M D := fun ds => fin (b__law_whole (enter 1 ds))
-- _law_fails: odds, tries, k, up, down
abbrev N__law_fails : List Str := ["odds", "tries", "k", "up", "down"]
def b__law_fails : Sv := bSeq (sAsg (dTup (dCons (dC (.int 1)) (dCons (dC (.int 1)) (dNil)))) (gTupD (lenOf 2 (gsCons (gSet 3) (gsCons (gSet 4) (gsNil))))))
  (bSeq (sFor (dRng (dCons (dVar 1) (dNil))) (gSet 2) (sPar 3 4 (dCons (dBin dMul (dVar 3) (dBin dSub (dBin dIx (dVar 0) (dC (.int 1))) (dBin dIx (dVar 0) (dC (.int 0))))) (dCons (dBin dMul (dVar 4) (dBin dIx (dVar 0) (dC (.int 1)))) (dNil)))))
  (sRet (dTup (dCons (dVar 3) (dCons (dVar 4) (dNil))))))
def m__law_fails : List D → M D := fun ds => fin (b__law_fails (enter 5 ds))
-- _law_better_due: rows, shares, one, other, many, wholes, row, k, up, down, gone, every
abbrev N__law_better_due : List Str := ["rows", "shares", "one", "other", "many", "wholes", "row", "k", "up", "down", "gone", "every"]
def b__law_better_due : Sv := bSeq (sSet 4 (dCall bLen (dCons (dVar 0) (dNil))))
  (bSeq (sIf (dTOr (dTNot (dTr (dCall m__law_whole (dCons (dVar 2) (dNil))))) (dTOr (dTNot (dTr (dCall m__law_whole (dCons (dVar 3) (dNil))))) (dTOr (dTNot (dTb (dChain dLe dLt (dC (.int 0)) (dVar 2) (dVar 4)))) (dTOr (dTNot (dTb (dChain dLe dLt (dC (.int 0)) (dVar 3) (dVar 4)))) (dTb (dBin dEq (dVar 2) (dVar 3))))))) (sRet (dC (.str "paper form"))) (bNil))
  (bSeq (sIf (dTb (dBin dLt (dBin dIx (dVar 1) (dVar 2)) (dC (.int 2)))) (sRet (dC (.str "paper tries"))) (bNil))
  (bSeq (sSetO 5 (dLst (dNil)))
  (bSeq (sFor (dItems (dLst (dCons (dVar 1) (dCons (dCall bTuple (dCons (dLc (dRng (dCons (dVar 4) (dNil))) (gSet 7) (dYes) (dBin dAdd (dBin dSub (dBin dIx (dVar 1) (dVar 7)) (dCall bInt (dCons (dBin dEq (dVar 7) (dVar 2)) (dNil)))) (dCall bInt (dCons (dBin dEq (dVar 7) (dVar 3)) (dNil)))) [7]) (dNil))) (dNil))))) (gSet 6) (bSeq (sAsg (dTup (dCons (dC (.int 1)) (dCons (dC (.int 1)) (dNil)))) (gTupD (lenOf 2 (gsCons (gSet 8) (gsCons (gSet 9) (gsNil))))))
  (bSeq (sFor (dItems (dLst (dCons (dVar 2) (dCons (dVar 3) (dNil))))) (gSet 7) (bSeq (sAsg (dCall m__law_fails (dCons (dBin dIx (dVar 0) (dVar 7)) (dCons (dBin dIx (dVar 6) (dVar 7)) (dNil)))) (gTupD (lenOf 2 (gsCons (gSet 10) (gsCons (gSet 11) (gsNil))))))
  (sPar 8 9 (dCons (dBin dMul (dVar 8) (dBin dSub (dVar 11) (dVar 10))) (dCons (dBin dMul (dVar 9) (dVar 11)) (dNil))))))
  (sDrop (dMeth fApp 5 (dCons (dTup (dCons (dVar 8) (dCons (dVar 9) (dNil)))) (dNil)))))))
  (bSeq (sIf (dTr (dLc (dRng (dCons (dVar 4) (dNil))) (gSet 7) (dTAnd (dTb (dBin dNe (dVar 7) (dVar 2))) (dTAnd (dTb (dBin dNe (dVar 7) (dVar 3))) (dTb (dBin dEq (dBin dIx (dBin dIx (dVar 0) (dVar 7)) (dC (.int 0))) (dC (.int 0)))))) (dVar 7) [7])) (sRet (dC (.str "paper odds"))) (bNil))
  (sRet (dIf (dTb (dBin dLt (dBin dMul (dBin dIx (dBin dIx (dVarO 5) (dC (.int 0))) (dC (.int 0))) (dBin dIx (dBin dIx (dVarO 5) (dC (.int 1))) (dC (.int 1)))) (dBin dMul (dBin dIx (dBin dIx (dVarO 5) (dC (.int 1))) (dC (.int 0))) (dBin dIx (dBin dIx (dVarO 5) (dC (.int 0))) (dC (.int 1)))))) (dLst (dCons (dC .non) (dNil))) (dC (.str "paper odds")))))))))
def m__law_better_due : List D → M D := fun ds => fin (b__law_better_due (enter 12 ds))
-- law: script, state, turn, odds, told, tries, rule, long, rows, shares, good, many, k, down, one, other, way
abbrev N_law : List Str := ["script", "state", "turn", "odds", "told", "tries", "rule", "long", "rows", "shares", "good", "many", "k", "down", "one", "other", "way"]
def b_law : Sv := bSeq (sSetO 1 (dCall m__law_start (dCons (dVar 0) (dNil))))
  (bSeq (sFor (dRng (dCons (dC (.int 6)) (dNil))) (gSet 2) (bSeq (sSet 11 (dCallO m__law_pick 1 (dCons (dLst (dCons (dC (.int 1)) (dCons (dC (.int 2)) (dCons (dC (.int 3)) (dCons (dC (.int 5)) (dCons (dC (.int 20)) (dNil))))))) (dNil))))
  (bSeq (sSetO 8 (dLst (dNil)))
  (bSeq (sFor (dRng (dCons (dVar 11) (dNil))) (gSet 12) (bSeq (sSet 13 (dBin dAdd (dC (.int 1)) (dCallO m__law_draw 1 (dCons (dCallO m__law_pick 1 (dCons (dLst (dCons (dC (.int 2)) (dCons (dC (.int 9)) (dCons (dC (.int 1000)) (dNil))))) (dNil))) (dNil)))))
  (sDrop (dMeth fApp 8 (dCons (dTup (dCons (dCallO m__law_pick 1 (dCons (dLst (dCons (dCall bMin (dCons (dLst (dCons (dC (.int 1)) (dCons (dVar 13) (dNil)))) (dNil))) (dCons (dCallO m__law_draw 1 (dCons (dBin dAdd (dVar 13) (dC (.int 1))) (dNil))) (dCons (dBin dSub (dVar 13) (dC (.int 1))) (dNil))))) (dNil))) (dCons (dVar 13) (dNil)))) (dNil))))))
  (bSeq (sAsg (dTup (dCons (dCall bTuple (dCons (dVarO 8) (dNil))) (dCons (dCall bTuple (dCons (dLc (dRng (dCons (dVar 11) (dNil))) (gSet 12) (dYes) (dBin dAdd (dC (.int 1)) (dCallO m__law_draw 1 (dCons (dC (.int 3)) (dNil)))) [12]) (dNil))) (dNil)))) (gTupD (lenOf 2 (gsCons (gSet 8) (gsCons (gSet 9) (gsNil))))))
  (sFor (dRng (dCons (dC (.int 3)) (dNil))) (gSet 12) (bSeq (sSet 14 (dCallO m__law_pick 1 (dCons (dLst (dCons (dCallO m__law_draw 1 (dCons (dVar 11) (dNil))) (dCons (dBin dSub (dVar 11) (dC (.int 1))) (dCons (dNeg (dC (.int 1))) (dCons (dVar 11) (dCons (dC .non) (dCons (dC (.bl true)) (dCons (dC (.str "0")) (dNil))))))))) (dNil))))
  (bSeq (sSet 15 (dCallO m__law_pick 1 (dCons (dLst (dCons (dCallO m__law_draw 1 (dCons (dVar 11) (dNil))) (dCons (dCallO m__law_draw 1 (dCons (dVar 11) (dNil))) (dCons (dC (.int 0)) (dCons (dBin dSub (dVar 11) (dC (.int 1))) (dCons (dC .non) (dCons (dTup (dCons (dC (.int 0)) (dNil))) (dNil)))))))) (dNil))))
  (sIf (dTb (dBin dNe (dCall m__law_heard (dCons (dC (.fn 7)) (dCons (dLst (dCons (dVar 8) (dCons (dVar 9) (dCons (dVar 14) (dCons (dVar 15) (dNil)))))) (dNil)))) (dCall m__law_better_due (dCons (dVar 8) (dCons (dVar 9) (dCons (dVar 14) (dCons (dVar 15) (dNil)))))))) (sNever) (bNil))))))))))
  (bSeq (sSet 3 (dCallO m__law_pick 1 (dCons (dLst (dCons (dC .non) (dCons (dTup (dNil)) (dCons (dTup (dCons (dC (.int 1)) (dNil))) (dCons (dTup (dCons (dC (.int 2)) (dCons (dC (.int 1)) (dNil)))) (dCons (dTup (dCons (dNeg (dC (.int 1))) (dCons (dC (.int 1)) (dNil)))) (dCons (dTup (dCons (dC (.int 0)) (dCons (dC (.int 0)) (dNil)))) (dCons (dTup (dCons (dC (.int 1)) (dCons (dC (.int 1001)) (dNil)))) (dCons (dTup (dCons (dC (.bl true)) (dCons (dC (.int 1)) (dNil)))) (dCons (dTup (dCons (dC (.int 1)) (dCons (dC (.bl true)) (dNil)))) (dCons (dTup (dCons (dC (.str "1")) (dCons (dC (.int 2)) (dNil)))) (dCons (dTup (dCons (dC (.int 1)) (dCons (dC (.int 2)) (dCons (dC (.int 3)) (dNil))))) (dCons (dC (.int 5)) (dCons (dLst (dCons (dC (.int 1)) (dCons (dC (.int 2)) (dNil)))) (dNil))))))))))))))) (dNil))))
  (bSeq (sSet 4 (dLc (dItems (dLst (dCons (dC (.fn 1)) (dCons (dC (.fn 2)) (dCons (dC (.fn 3)) (dCons (dC (.fn 0)) (dNil))))))) (gSet 16) (dYes) (dCall m__law_heard (dCons (dVar 16) (dCons (dLst (dCons (dVar 3) (dCons (dC .non) (dNil)))) (dNil)))) [16]))
  (bSeq (sIf (dTb (dBin dNe (dVar 4) (dBin dMul (dLst (dCons (dC (.str "argument odds")) (dNil))) (dC (.int 4))))) (sNever) (bNil))
  (bSeq (sSet 5 (dCallO m__law_pick 1 (dCons (dLst (dCons (dC .non) (dCons (dNeg (dC (.int 1))) (dCons (dC (.int 61)) (dCons (dC (.bl true)) (dCons (dC (.str "1")) (dCons (dTup (dCons (dC (.int 1)) (dNil))) (dNil)))))))) (dNil))))
  (bSeq (sSet 4 (dBin dAdd (dLc (dItems (dLst (dCons (dC (.fn 1)) (dCons (dC (.fn 3)) (dNil))))) (gSet 16) (dYes) (dCall m__law_heard (dCons (dVar 16) (dCons (dLst (dCons (dTup (dCons (dC (.int 1)) (dCons (dC (.int 2)) (dNil)))) (dCons (dVar 5) (dNil)))) (dNil)))) [16]) (dLst (dCons (dCall m__law_heard (dCons (dC (.fn 4)) (dCons (dLst (dCons (dTup (dCons (dTup (dCons (dC (.int 1)) (dCons (dC (.int 2)) (dNil)))) (dNil))) (dCons (dVar 5) (dNil)))) (dNil)))) (dCons (dCall m__law_heard (dCons (dC (.fn 5)) (dCons (dLst (dCons (dTup (dCons (dC (.int 1)) (dCons (dC (.int 1)) (dCons (dC (.int 1)) (dNil))))) (dCons (dC (.int 0)) (dCons (dVar 5) (dNil))))) (dNil)))) (dNil))))))
  (bSeq (sIf (dTOr (dTb (dBin dNe (dVar 4) (dBin dMul (dLst (dCons (dC (.str "argument tries")) (dNil))) (dC (.int 4))))) (dTb (dBin dNe (dCall m__law_heard (dCons (dC (.fn 2)) (dCons (dLst (dCons (dTup (dCons (dC (.int 1)) (dCons (dC (.int 2)) (dNil)))) (dCons (dCallO m__law_pick 1 (dCons (dLst (dCons (dC .non) (dCons (dC (.int 0)) (dCons (dNeg (dC (.int 1))) (dCons (dC (.int 61)) (dCons (dC (.bl true)) (dCons (dC (.str "1")) (dNil)))))))) (dNil))) (dNil)))) (dNil)))) (dC (.str "argument number"))))) (sNever) (bNil))
  (bSeq (sIf (dTb (dBin dNe (dCall m__law_heard (dCons (dC (.fn 0)) (dCons (dLst (dCons (dTup (dCons (dC (.int 1)) (dCons (dC (.int 2)) (dNil)))) (dCons (dVar 3) (dNil)))) (dNil)))) (dC (.str "argument goal")))) (sNever) (bNil))
  (bSeq (sSet 6 (dCallO m__law_pick 1 (dCons (dLst (dCons (dC .non) (dCons (dTup (dNil)) (dCons (dTup (dCons (dC (.int 1)) (dCons (dC (.int 1)) (dNil)))) (dCons (dTup (dCons (dC (.int 1)) (dCons (dC (.int 0)) (dCons (dC (.int 1)) (dNil))))) (dCons (dTup (dCons (dC (.int 2)) (dCons (dC (.int 1)) (dCons (dC (.int 1)) (dNil))))) (dCons (dTup (dCons (dNeg (dC (.int 1))) (dCons (dC (.int 1)) (dCons (dC (.int 1)) (dNil))))) (dCons (dTup (dCons (dC (.int 1)) (dCons (dC (.int 1)) (dCons (dBin dAdd (dBin dPow (dC (.int 10)) (dC (.int 12))) (dC (.int 1))) (dNil))))) (dCons (dTup (dCons (dC (.int 1)) (dCons (dBin dAdd (dBin dPow (dC (.int 10)) (dC (.int 12))) (dC (.int 1))) (dCons (dC (.int 1)) (dNil))))) (dCons (dTup (dCons (dC (.bl true)) (dCons (dC (.int 1)) (dCons (dC (.int 1)) (dNil))))) (dCons (dTup (dCons (dC (.int 1)) (dCons (dC (.int 1)) (dCons (dC (.bl true)) (dNil))))) (dCons (dTup (dCons (dC (.int 1)) (dCons (dC (.bl true)) (dCons (dC (.int 1)) (dNil))))) (dCons (dC (.int 5)) (dCons (dLst (dCons (dC (.int 1)) (dCons (dC (.int 1)) (dCons (dC (.int 1)) (dNil))))) (dCons (dTup (dCons (dC (.int 0)) (dCons (dC (.int 1)) (dCons (dC (.int 1)) (dCons (dC (.int 1)) (dNil)))))) (dNil)))))))))))))))) (dNil))))
  (bSeq (sSet 7 (dCallO m__law_pick 1 (dCons (dLst (dCons (dC .non) (dCons (dNeg (dC (.int 1))) (dCons (dBin dAdd (dBin dPow (dC (.int 10)) (dC (.int 12))) (dC (.int 1))) (dCons (dC (.bl true)) (dCons (dC (.str "1")) (dNil))))))) (dNil))))
  (bSeq (sSet 4 (dBin dAdd (dLc (dItems (dLst (dCons (dC (.fn 5)) (dCons (dC (.fn 6)) (dNil))))) (gSet 16) (dYes) (dCall m__law_heard (dCons (dVar 16) (dCons (dLst (dCons (dVar 6) (dCons (dVar 7) (dCons (dC .non) (dNil))))) (dNil)))) [16]) (dLc (dItems (dLst (dCons (dC (.fn 5)) (dCons (dC (.fn 6)) (dNil))))) (gSet 16) (dYes) (dCall m__law_heard (dCons (dVar 16) (dCons (dLst (dCons (dTup (dCons (dC (.int 1)) (dCons (dC (.int 1)) (dCons (dC (.int 1)) (dNil))))) (dCons (dVar 7) (dCons (dC .non) (dNil))))) (dNil)))) [16])))
  (bSeq (sIf (dTOr (dTb (dBin dNe (dVar 4) (dBin dAdd (dBin dMul (dLst (dCons (dC (.str "argument rule")) (dNil))) (dC (.int 2))) (dBin dMul (dLst (dCons (dC (.str "argument long")) (dNil))) (dC (.int 2)))))) (dTb (dBin dNe (dCall m__law_heard (dCons (dC (.fn 6)) (dCons (dLst (dCons (dTup (dCons (dC (.int 1)) (dCons (dC (.int 1)) (dCons (dC (.int 1)) (dNil))))) (dCons (dC (.int 0)) (dCons (dVar 7) (dNil))))) (dNil)))) (dC (.str "argument end"))))) (sNever) (bNil))
  (bSeq (sSet 8 (dCallO m__law_pick 1 (dCons (dLst (dCons (dC .non) (dCons (dTup (dNil)) (dCons (dBin dMul (dTup (dCons (dTup (dCons (dC (.int 1)) (dCons (dC (.int 2)) (dNil)))) (dNil))) (dC (.int 21))) (dCons (dTup (dCons (dTup (dCons (dC (.int 1)) (dCons (dC (.int 2)) (dNil)))) (dCons (dVar 3) (dNil)))) (dCons (dTup (dCons (dVar 3) (dNil))) (dCons (dC (.int 5)) (dCons (dLst (dCons (dTup (dCons (dC (.int 1)) (dCons (dC (.int 2)) (dNil)))) (dNil))) (dCons (dTup (dCons (dC (.int 1)) (dCons (dC (.int 2)) (dNil)))) (dNil)))))))))) (dNil))))
  (bSeq (sSet 4 (dBin dAdd (dLc (dItems (dLst (dCons (dC (.fn 8)) (dCons (dC (.fn 9)) (dCons (dC (.fn 4)) (dNil)))))) (gSet 16) (dYes) (dCall m__law_heard (dCons (dVar 16) (dCons (dLst (dCons (dVar 8) (dCons (dC .non) (dNil)))) (dNil)))) [16]) (dLst (dCons (dCall m__law_heard (dCons (dC (.fn 7)) (dCons (dLst (dCons (dVar 8) (dCons (dC .non) (dCons (dC .non) (dCons (dC .non) (dNil)))))) (dNil)))) (dNil)))))
  (bSeq (sIf (dTb (dBin dNe (dVar 4) (dBin dMul (dLst (dCons (dC (.str "flow odds")) (dNil))) (dC (.int 4))))) (sNever) (bNil))
  (bSeq (sSet 9 (dCallO m__law_pick 1 (dCons (dLst (dCons (dC .non) (dCons (dTup (dCons (dC (.int 1)) (dNil))) (dCons (dTup (dCons (dC (.int 1)) (dCons (dC (.int 1)) (dCons (dC (.int 1)) (dNil))))) (dCons (dTup (dCons (dC (.int 1)) (dCons (dC (.int 0)) (dNil)))) (dCons (dTup (dCons (dC (.int 1)) (dCons (dNeg (dC (.int 1))) (dNil)))) (dCons (dTup (dCons (dC (.int 1)) (dCons (dC (.bl true)) (dNil)))) (dCons (dTup (dCons (dC (.int 30)) (dCons (dC (.int 31)) (dNil)))) (dCons (dTup (dCons (dC (.str "1")) (dCons (dC (.int 1)) (dNil)))) (dCons (dC (.int 5)) (dCons (dLst (dCons (dC (.int 1)) (dCons (dC (.int 1)) (dNil)))) (dNil)))))))))))) (dNil))))
  (bSeq (sSet 10 (dTup (dCons (dTup (dCons (dC (.int 1)) (dCons (dC (.int 2)) (dNil)))) (dCons (dTup (dCons (dC (.int 1)) (dCons (dC (.int 3)) (dNil)))) (dNil)))))
  (bSeq (sSet 4 (dBin dAdd (dLc (dItems (dLst (dCons (dC (.fn 8)) (dCons (dC (.fn 9)) (dNil))))) (gSet 16) (dYes) (dCall m__law_heard (dCons (dVar 16) (dCons (dLst (dCons (dVar 10) (dCons (dVar 9) (dNil)))) (dNil)))) [16]) (dLst (dCons (dCall m__law_heard (dCons (dC (.fn 7)) (dCons (dLst (dCons (dVar 10) (dCons (dVar 9) (dCons (dC .non) (dCons (dC .non) (dNil)))))) (dNil)))) (dNil)))))
  (bSeq (sIf (dTb (dBin dNe (dVar 4) (dBin dMul (dLst (dCons (dC (.str "argument shares")) (dNil))) (dC (.int 3))))) (sNever) (bNil))
  (bSeq (sSet 4 (dBin dAdd (dLst (dCons (dCall m__law_heard (dCons (dC (.fn 8)) (dCons (dLst (dCons (dVar 10) (dCons (dTup (dCons (dC (.int 1)) (dCons (dC (.int 59)) (dNil)))) (dNil)))) (dNil)))) (dNil))) (dLst (dCons (dCall m__law_heard (dCons (dC (.fn 5)) (dCons (dLst (dCons (dTup (dCons (dBin dPow (dC (.int 10)) (dC (.int 12))) (dCons (dBin dPow (dC (.int 10)) (dC (.int 12))) (dCons (dBin dPow (dC (.int 10)) (dC (.int 12))) (dNil))))) (dCons (dBin dPow (dC (.int 10)) (dC (.int 12))) (dCons (dC (.int 3)) (dNil))))) (dNil)))) (dCons (dCall m__law_heard (dCons (dC (.fn 4)) (dCons (dLst (dCons (dVar 10) (dCons (dC (.int 1)) (dNil)))) (dNil)))) (dNil))))))
  (sRet (dAndV (dIsi "list" (dBin dIx (dVar 4) (dC (.int 0)))) (dBin dEq (dSlice (dVar 4) (dOSome (dC (.int 1))) (dONone)) (dLst (dCons (dLst (dCons (dTup (dCons (dC (.int 0)) (dCons (dBin dMul (dC (.int 2)) (dBin dPow (dC (.int 10)) (dC (.int 12)))) (dCons (dBin dMul (dC (.int 4)) (dBin dPow (dC (.int 10)) (dC (.int 12)))) (dNil))))) (dNil))) (dCons (dLst (dCons (dC .non) (dNil))) (dNil)))))))))))))))))))))))))))
def m_law : List D → M D := fun ds => fin (b_law (enter 17 ds))
structure TF (K : PySem.W.Frag) (mg : Str → Option Value) (g : Ce) (Ca Ci : Nat → Addr) (AW : Addr) : Prop where
  f__law_start : FunAt K mg "_law_start" (top 40) ["script"]
  f__law_draw : FunAt K mg "_law_draw" (top 41) ["state", "many"]
  f__law_pick : FunAt K mg "_law_pick" (top 42) ["state", "some"]
  f_is_integer : FunAt K mg "is_integer" (top 11) ["value"]
  f_is_between : FunAt K mg "is_between" (top 12) ["value", "low", "high"]
  f_check_odds : FunAt K mg "check_odds" (top 16) ["odds", "reason"]
  f_least_tries : FunAt K mg "least_tries" (top 25) ["odds", "goal"]
  f_check_tries : FunAt K mg "check_tries" (top 17) ["tries"]
  f_chance_within : FunAt K mg "chance_within" (top 21) ["odds", "tries"]
  f_chance_at : FunAt K mg "chance_at" (top 22) ["odds", "number"]
  f_mean_tries : FunAt K mg "mean_tries" (top 23) ["odds", "tries"]
  f_check_rows : FunAt K mg "check_rows" (top 31) ["rows"]
  f_best_shares : FunAt K mg "best_shares" (top 35) ["rows", "tries"]
  f_check_rule : FunAt K mg "check_rule" (top 26) ["rule"]
  f_check_long : FunAt K mg "check_long" (top 27) ["long"]
  f_waits_of : FunAt K mg "waits_of" (top 28) ["rule", "many"]
  f_begins : FunAt K mg "begins" (top 29) ["rule", "long", "tries"]
  f_most_tries : FunAt K mg "most_tries" (top 30) ["rule", "long", "end"]
  f_check_shares : FunAt K mg "check_shares" (top 32) ["rows", "shares"]
  f_is_less : FunAt K mg "is_less" (top 24) ["one", "other"]
  f_power : FunAt K mg "power" (top 19) ["base", "many"]
  f_chance_of : FunAt K mg "chance_of" (top 20) ["odds", "tries"]
  f_product_of : FunAt K mg "product_of" (top 33) ["rows", "shares"]
  f_moved_try : FunAt K mg "moved_try" (top 36) ["shares", "one", "other"]
  f_accept_better : FunAt K mg "accept_better" (top 38) ["rows", "shares", "one", "other"]
  f_common_divisor : FunAt K mg "common_divisor" (top 14) ["one", "other"]
  f_quotient : FunAt K mg "quotient" (top 18) ["up", "down"]
  f_chance_of_all : FunAt K mg "chance_of_all" (top 34) ["rows", "shares"]
  f_judge_shares : FunAt K mg "judge_shares" (top 37) ["rows", "shares"]
  f__law_called : FunAt K mg "_law_called" (top 44) ["call", "some"]
  f__law_word : FunAt K mg "_law_word" (top 43) ["error"]
  f__law_heard : FunAt K mg "_law_heard" (top 45) ["call", "some"]
  f__law_whole : FunAt K mg "_law_whole" (top 46) ["value"]
  f__law_fails : FunAt K mg "_law_fails" (top 47) ["odds", "tries"]
  f__law_better_due : FunAt K mg "_law_better_due" (top 48) ["rows", "shares", "one", "other"]
  f_law : FunAt K mg "law" (top 49) ["script"]
  k_MAX_ODDS : ∃ t, mg "MAX_ODDS" = some (.int 1000 t)
  k_MAX_SIZE : ∃ t, mg "MAX_SIZE" = some (.int 1000000000000 t)
  k_MAX_STEPS : ∃ t, mg "MAX_STEPS" = some (.int 20 t)
  k_MAX_TRIES : ∃ t, mg "MAX_TRIES" = some (.int 60 t)
  b_abs : mg "abs" = none
  b_all : mg "all" = none
  b_bool : mg "bool" = none
  b_enumerate : mg "enumerate" = none
  b_int : mg "int" = none
  b_isinstance : mg "isinstance" = none
  b_len : mg "len" = none
  b_list : mg "list" = none
  b_min : mg "min" = none
  b_range : mg "range" = none
  b_sum : mg "sum" = none
  b_tuple : mg "tuple" = none
  b_zip : mg "zip" = none
  v_least_tries : ∃ f, mg "least_tries" = some (.ref f) ∧ g.fa 0 = some f
  v_chance_within : ∃ f, mg "chance_within" = some (.ref f) ∧ g.fa 1 = some f
  v_chance_at : ∃ f, mg "chance_at" = some (.ref f) ∧ g.fa 2 = some f
  v_mean_tries : ∃ f, mg "mean_tries" = some (.ref f) ∧ g.fa 3 = some f
  v_best_shares : ∃ f, mg "best_shares" = some (.ref f) ∧ g.fa 4 = some f
  v_begins : ∃ f, mg "begins" = some (.ref f) ∧ g.fa 5 = some f
  v_most_tries : ∃ f, mg "most_tries" = some (.ref f) ∧ g.fa 6 = some f
  v_accept_better : ∃ f, mg "accept_better" = some (.ref f) ∧ g.fa 7 = some f
  v_chance_of_all : ∃ f, mg "chance_of_all" = some (.ref f) ∧ g.fa 8 = some f
  v_judge_shares : ∃ f, mg "judge_shares" = some (.ref f) ∧ g.fa 9 = some f
  w : WCls K mg g Ca
  wk : mg "WorkError" = some (.ref AW)
  x0 : Sup.Txt PP K mg (Ca 0) (Ci 0)
  x1 : Sup.Txt PP K mg (Ca 1) (Ci 1)
  x2 : Sup.Txt PP K mg (Ca 2) (Ci 2)
  x3 : Sup.Txt PP K mg (Ca 3) (Ci 3)
  en : ∀ i, g.en i = "reason"
  hx : ∀ i, i < 4 → PySem.W.exmOne K (.ref (Ca i)) (.ref AW) = some true
  xm : ∀ i j, i < 4 → j < 4 → PySem.W.exmOne K (.ref (Ca i)) (.ref (Ca j)) = some (i == j)
section
variable {w : World} {K : PySem.W.Frag} {mg : Str → Option Value} {base : Heap} {g : Ce} {Ca Ci : Nat → Addr} {AW : Addr}
theorem sc__law_start : FnScope N__law_start ["script"] (defScope (top 40)) := ⟨rfl, rfl, rfl, by decide +kernel, rfl, by decide +kernel, by decide +kernel⟩
theorem ok__law_start (nn : Bool) (T : TF K mg g Ca Ci AW) : Fok nn PP w K mg base 1 "_law_start" (spF (ck K g) 1 m__law_start) := by
  have b_int := T.b_int
  have b_list := T.b_list
  refine fok_fresh (k := 0) (N := N__law_start) (body := b__law_start) T.f__law_start sc__law_start rfl (by decide) (fun _ => rfl) fun X W C pa => ?_
  unfold b__law_start
  exact ss_cons (s_set C 1 rfl (by decide +kernel) (e_int))
      (ss_cons (s_for (vs := [2]) C (i_items (n_var C 0 "script" rfl (by decide +kernel) dbg_script cld_script)) (g_name (n_pg C 2 "cell" rfl (by decide +kernel)) (by decide)) (ss_one (s_set C 1 rfl (by decide +kernel) (eAdd (.inl rfl) (eMod (.inl rfl) (e_callT call_int1 vc_int bInt_nr (gloB_of C (by decide +kernel)) (mgn C b_int) rfl (a_cons (.inl rfl) (eAdd (.inl rfl) (eMul (.inl rfl) (n_var C 1 "seed" rfl (by decide +kernel) dbg_seed cld_seed) (e_int)) (n_var C 2 "cell" rfl (by decide +kernel) dbg_cell cld_cell)) (a_nil))) (e_int)) (e_int)))))
      (ss_one (s_retF (f_lst rfl (a_cons (.inl rfl) (DF.val (f_callT call_list_of vcf_list bList_nr (gloB_of C (by decide +kernel)) (mgn C b_list) rfl (a_cons (.inl rfl) (n_var C 0 "script" rfl (by decide +kernel) dbg_script cld_script) (a_nil)))) (a_cons (.inl rfl) (e_int) (a_cons (.inl rfl) (e_int) (a_cons (.inl rfl) (n_var C 1 "seed" rfl (by decide +kernel) dbg_seed cld_seed) (a_nil)))))))))
theorem sc__law_draw : FnScope N__law_draw ["state", "many"] (defScope (top 41)) := ⟨rfl, rfl, rfl, by decide +kernel, rfl, by decide +kernel, by decide +kernel⟩
theorem ok__law_draw (nn : Bool) (T : TF K mg g Ca Ci AW) : Fok nn PP w K mg base 1 "_law_draw" (spO (ck K g) 1 m__law_draw) := by
  have b_abs := T.b_abs
  have b_int := T.b_int
  have b_len := T.b_len
  refine fok_own (k := 0) (N := N__law_draw) (body := b__law_draw) T.f__law_draw sc__law_draw rfl (by decide) (fun _ _ => rfl) fun X W C pa => ?_
  unfold b__law_draw
  exact ss_cons (s_if (t_w (w_and (tEq C (.inl rfl) (eIx (.inr rfl) (n_varO C 0 "state" rfl (by decide +kernel) dbg_state cld_state) (e_int)) (e_int)) (w_and1 (tGe (.inl rfl) (eIx (.inr rfl) (n_varO C 0 "state" rfl (by decide +kernel) dbg_state cld_state) (e_int)) (e_callB call_len vc_len bLen_nr (gloB_of C (by decide +kernel)) (mgn C b_len) rfl (a_cons (.inl rfl) (eIx (.inr rfl) (n_varO C 0 "state" rfl (by decide +kernel) dbg_state cld_state) (e_int)) (a_nil))))))) (ss_cons (s_sub (n_pe C 0 "state" rfl (by decide +kernel) dbg_state cld_state) (e_int) (eMod (.inl rfl) (e_callT call_int1 vc_int bInt_nr (gloB_of C (by decide +kernel)) (mgn C b_int) rfl (a_cons (.inl rfl) (eAdd (.inl rfl) (eMul (.inl rfl) (eIx (.inr rfl) (n_varO C 0 "state" rfl (by decide +kernel) dbg_state cld_state) (e_int)) (e_int)) (e_int)) (a_nil))) (e_int)))
      (ss_one (s_ret (eMod (.inl rfl) (e_callT call_int1 vc_int bInt_nr (gloB_of C (by decide +kernel)) (mgn C b_int) rfl (a_cons (.inl rfl) (eFdiv (.inl rfl) (eIx (.inr rfl) (n_varO C 0 "state" rfl (by decide +kernel) dbg_state cld_state) (e_int)) (e_int)) (a_nil))) (n_var C 1 "many" rfl (by decide +kernel) dbg_many cld_many))))) (ss_nil))
      (ss_cons (s_if (tEq C (.inl rfl) (eIx (.inr rfl) (n_varO C 0 "state" rfl (by decide +kernel) dbg_state cld_state) (e_int)) (e_int)) (ss_cons (s_sub (n_pe C 0 "state" rfl (by decide +kernel) dbg_state cld_state) (e_int) (e_callB call_abs vc_abs bAbs_nr (gloB_of C (by decide +kernel)) (mgn C b_abs) rfl (a_cons (.inl rfl) (eIx (.inl rfl) (eIx (.inr rfl) (n_varO C 0 "state" rfl (by decide +kernel) dbg_state cld_state) (e_int)) (eIx (.inr rfl) (n_varO C 0 "state" rfl (by decide +kernel) dbg_state cld_state) (e_int))) (a_nil))))
      (ss_one (s_sub (n_pe C 0 "state" rfl (by decide +kernel) dbg_state cld_state) (e_int) (eAdd (.inl rfl) (eIx (.inr rfl) (n_varO C 0 "state" rfl (by decide +kernel) dbg_state cld_state) (e_int)) (e_int))))) (ss_nil))
      (ss_cons (s_set C 2 rfl (by decide +kernel) (eMod (.inl rfl) (e_callT call_int1 vc_int bInt_nr (gloB_of C (by decide +kernel)) (mgn C b_int) rfl (a_cons (.inl rfl) (eIx (.inr rfl) (n_varO C 0 "state" rfl (by decide +kernel) dbg_state cld_state) (e_int)) (a_nil))) (n_var C 1 "many" rfl (by decide +kernel) dbg_many cld_many)))
      (ss_cons (s_sub (n_pe C 0 "state" rfl (by decide +kernel) dbg_state cld_state) (e_int) (eFdiv (.inl rfl) (eIx (.inr rfl) (n_varO C 0 "state" rfl (by decide +kernel) dbg_state cld_state) (e_int)) (n_var C 1 "many" rfl (by decide +kernel) dbg_many cld_many)))
      (ss_one (s_ret (n_var C 2 "value" rfl (by decide +kernel) dbg_value cld_value))))))
theorem sc__law_pick : FnScope N__law_pick ["state", "some"] (defScope (top 42)) := ⟨rfl, rfl, rfl, by decide +kernel, rfl, by decide +kernel, by decide +kernel⟩
theorem ok__law_pick (nn : Bool) (T : TF K mg g Ca Ci AW) : Fok nn PP w K mg base 2 "_law_pick" (spO (ck K g) 1 m__law_pick) := by
  have b_len := T.b_len
  have F__law_draw := ok__law_draw (w := w) (base := base) nn T
  refine fok_own (k := 1) (N := N__law_pick) (body := b__law_pick) T.f__law_pick sc__law_pick rfl (by decide) (fun _ _ => rfl) fun X W C pa => ?_
  unfold b__law_pick
  exact ss_one (s_ret (eIx (.inl rfl) (n_var C 1 "some" rfl (by decide +kernel) dbg_some cld_some) (e_callO C F__law_draw (by decide) (by decide +kernel) rfl 0 (n_pe C 0 "state" rfl (by decide +kernel) dbg_state cld_state) (a_cons (.inl rfl) (e_callB call_len vc_len bLen_nr (gloB_of C (by decide +kernel)) (mgn C b_len) rfl (a_cons (.inl rfl) (n_var C 1 "some" rfl (by decide +kernel) dbg_some cld_some) (a_nil))) (a_nil)) dbg__law_draw)))
theorem sc_is_integer : FnScope N_is_integer ["value"] (defScope (top 11)) := ⟨rfl, rfl, rfl, by decide +kernel, rfl, by decide +kernel, by decide +kernel⟩
theorem ok_is_integer (nn : Bool) (T : TF K mg g Ca Ci AW) : Fok nn PP w K mg base 1 "is_integer" (spP (ck K g) 1 m_is_integer) := by
  have b_bool := T.b_bool
  have b_int := T.b_int
  have b_isinstance := T.b_isinstance
  refine fok_pure (k := 0) (N := N_is_integer) (body := b_is_integer) T.f_is_integer sc_is_integer rfl (by decide) (fun _ => rfl) fun X W C pa => ?_
  unfold b_is_integer
  exact ss_one (s_ret (e_and (e_isi kitT_int (gloB_of C (by decide +kernel)) (mgn C b_isinstance) (gloB_of C (by decide +kernel)) (mgn C b_int) rfl (n_var C 0 "value" rfl (by decide +kernel) dbg_value cld_value)) (e_one (e_not (e_isi kitT_bool (gloB_of C (by decide +kernel)) (mgn C b_isinstance) (gloB_of C (by decide +kernel)) (mgn C b_bool) rfl (n_var C 0 "value" rfl (by decide +kernel) dbg_value cld_value))))))
theorem sc_is_between : FnScope N_is_between ["value", "low", "high"] (defScope (top 12)) := ⟨rfl, rfl, rfl, by decide +kernel, rfl, by decide +kernel, by decide +kernel⟩
theorem ok_is_between (nn : Bool) (T : TF K mg g Ca Ci AW) : Fok nn PP w K mg base 2 "is_between" (spP (ck K g) 3 m_is_between) := by
  have F_is_integer := ok_is_integer (w := w) (base := base) nn T
  refine fok_pure (k := 1) (N := N_is_between) (body := b_is_between) T.f_is_between sc_is_between rfl (by decide) (fun _ => rfl) fun X W C pa => ?_
  unfold b_is_between
  exact ss_one (s_ret (e_and (e_call C F_is_integer (by decide) (by decide +kernel) rfl (a_cons (.inl rfl) (n_var C 0 "value" rfl (by decide +kernel) dbg_value cld_value) (a_nil)) dbg_is_integer) (e_one (e_chain op_leD op_leD vb_cmpI vb_cmpI dCmpI_nr dCmpI_nr rfl (n_var C 1 "low" rfl (by decide +kernel) dbg_low cld_low) (n_var C 0 "value" rfl (by decide +kernel) dbg_value cld_value) (n_var C 2 "high" rfl (by decide +kernel) dbg_high cld_high)))))
theorem sc_check_odds : FnScope N_check_odds ["odds", "reason"] (defScope (top 16)) := ⟨rfl, rfl, rfl, by decide +kernel, rfl, by decide +kernel, by decide +kernel⟩
theorem ok_check_odds (nn : Bool) (T : TF K mg g Ca Ci AW) : Fok nn PP w K mg base 3 "check_odds" (spP (ck K g) 2 m_check_odds) := by
  obtain ⟨t_MAX_ODDS, k_MAX_ODDS⟩ := T.k_MAX_ODDS
  have b_isinstance := T.b_isinstance
  have b_len := T.b_len
  have b_tuple := T.b_tuple
  have F_is_between := ok_is_between (w := w) (base := base) nn T
  refine fok_pure (k := 2) (N := N_check_odds) (body := b_check_odds) T.f_check_odds sc_check_odds rfl (by decide) (fun _ => rfl) fun X W C pa => ?_
  unfold b_check_odds
  exact ss_cons (s_if (t_w (w_or (t_not (tTruth (e_isi kitT_tuple (gloB_of C (by decide +kernel)) (mgn C b_isinstance) (gloB_of C (by decide +kernel)) (mgn C b_tuple) rfl (n_var C 0 "odds" rfl (by decide +kernel) dbg_odds cld_odds)))) (w_or (tNe C (.inl rfl) (e_callB call_len vc_len bLen_nr (gloB_of C (by decide +kernel)) (mgn C b_len) rfl (a_cons (.inl rfl) (n_var C 0 "odds" rfl (by decide +kernel) dbg_odds cld_odds) (a_nil))) (e_int)) (w_or1 (t_not (tTruth (e_call C F_is_between (by decide) (by decide +kernel) rfl (a_cons (.inl rfl) (eIx (.inl rfl) (n_var C 0 "odds" rfl (by decide +kernel) dbg_odds cld_odds) (e_int)) (a_cons (.inl rfl) (e_int) (a_cons (.inl rfl) (n_const C (by decide +kernel) k_MAX_ODDS dbg_MAX_ODDS) (a_nil)))) dbg_is_between))))))) (ss_one (s_raise C (j := 0) T.x1 (by decide) (by decide +kernel) T.w.m1 (T.w.ec 1 (by decide)) (T.en 1) (n_var C 1 "reason" rfl (by decide +kernel) dbg_reason cld_reason))) (ss_nil))
      (ss_one (s_if (t_not (tTruth (e_call C F_is_between (by decide) (by decide +kernel) rfl (a_cons (.inl rfl) (eIx (.inl rfl) (n_var C 0 "odds" rfl (by decide +kernel) dbg_odds cld_odds) (e_int)) (a_cons (.inl rfl) (e_int) (a_cons (.inl rfl) (eIx (.inl rfl) (n_var C 0 "odds" rfl (by decide +kernel) dbg_odds cld_odds) (e_int)) (a_nil)))) dbg_is_between))) (ss_one (s_raise C (j := 0) T.x1 (by decide) (by decide +kernel) T.w.m1 (T.w.ec 1 (by decide)) (T.en 1) (n_var C 1 "reason" rfl (by decide +kernel) dbg_reason cld_reason))) (ss_nil)))
theorem sc_least_tries : FnScope N_least_tries ["odds", "goal"] (defScope (top 25)) := ⟨rfl, rfl, rfl, by decide +kernel, rfl, by decide +kernel, by decide +kernel⟩
theorem ok_least_tries (nn : Bool) (T : TF K mg g Ca Ci AW) : Fok nn PP w K mg base 4 "least_tries" (spP (ck K g) 2 m_least_tries) := by
  have F_check_odds := ok_check_odds (w := w) (base := base) nn T
  refine fok_pure (k := 3) (N := N_least_tries) (body := b_least_tries) T.f_least_tries sc_least_tries rfl (by decide) (fun _ => rfl) fun X W C pa => ?_
  unfold b_least_tries
  exact ss_cons (s_drop (e_call C F_check_odds (by decide) (by decide +kernel) rfl (a_cons (.inl rfl) (n_var C 0 "odds" rfl (by decide +kernel) dbg_odds cld_odds) (a_cons (.inl rfl) (e_str) (a_nil))) dbg_check_odds))
      (ss_cons (s_drop (e_call C F_check_odds (by decide) (by decide +kernel) rfl (a_cons (.inl rfl) (n_var C 1 "goal" rfl (by decide +kernel) dbg_goal cld_goal) (a_cons (.inl rfl) (e_str) (a_nil))) dbg_check_odds))
      (ss_never))
theorem sc_check_tries : FnScope N_check_tries ["tries"] (defScope (top 17)) := ⟨rfl, rfl, rfl, by decide +kernel, rfl, by decide +kernel, by decide +kernel⟩
theorem ok_check_tries (nn : Bool) (T : TF K mg g Ca Ci AW) : Fok nn PP w K mg base 3 "check_tries" (spP (ck K g) 1 m_check_tries) := by
  obtain ⟨t_MAX_TRIES, k_MAX_TRIES⟩ := T.k_MAX_TRIES
  have F_is_between := ok_is_between (w := w) (base := base) nn T
  refine fok_pure (k := 2) (N := N_check_tries) (body := b_check_tries) T.f_check_tries sc_check_tries rfl (by decide) (fun _ => rfl) fun X W C pa => ?_
  unfold b_check_tries
  exact ss_one (s_if (t_not (tTruth (e_call C F_is_between (by decide) (by decide +kernel) rfl (a_cons (.inl rfl) (n_var C 0 "tries" rfl (by decide +kernel) dbg_tries cld_tries) (a_cons (.inl rfl) (e_int) (a_cons (.inl rfl) (n_const C (by decide +kernel) k_MAX_TRIES dbg_MAX_TRIES) (a_nil)))) dbg_is_between))) (ss_one (s_raise C (j := 0) T.x1 (by decide) (by decide +kernel) T.w.m1 (T.w.ec 1 (by decide)) (T.en 1) (e_str))) (ss_nil))
theorem sc_chance_within : FnScope N_chance_within ["odds", "tries"] (defScope (top 21)) := ⟨rfl, rfl, rfl, by decide +kernel, rfl, by decide +kernel, by decide +kernel⟩
theorem ok_chance_within (nn : Bool) (T : TF K mg g Ca Ci AW) : Fok nn PP w K mg base 4 "chance_within" (spP (ck K g) 2 m_chance_within) := by
  have F_check_odds := ok_check_odds (w := w) (base := base) nn T
  have F_check_tries := ok_check_tries (w := w) (base := base) nn T
  refine fok_pure (k := 3) (N := N_chance_within) (body := b_chance_within) T.f_chance_within sc_chance_within rfl (by decide) (fun _ => rfl) fun X W C pa => ?_
  unfold b_chance_within
  exact ss_cons (s_drop (e_call C F_check_odds (by decide) (by decide +kernel) rfl (a_cons (.inl rfl) (n_var C 0 "odds" rfl (by decide +kernel) dbg_odds cld_odds) (a_cons (.inl rfl) (e_str) (a_nil))) dbg_check_odds))
      (ss_cons (s_drop (e_call C F_check_tries (by decide) (by decide +kernel) rfl (a_cons (.inl rfl) (n_var C 1 "tries" rfl (by decide +kernel) dbg_tries cld_tries) (a_nil)) dbg_check_tries))
      (ss_never))
theorem sc_chance_at : FnScope N_chance_at ["odds", "number"] (defScope (top 22)) := ⟨rfl, rfl, rfl, by decide +kernel, rfl, by decide +kernel, by decide +kernel⟩
theorem ok_chance_at (nn : Bool) (T : TF K mg g Ca Ci AW) : Fok nn PP w K mg base 4 "chance_at" (spP (ck K g) 2 m_chance_at) := by
  obtain ⟨t_MAX_TRIES, k_MAX_TRIES⟩ := T.k_MAX_TRIES
  have F_check_odds := ok_check_odds (w := w) (base := base) nn T
  have F_is_between := ok_is_between (w := w) (base := base) nn T
  refine fok_pure (k := 3) (N := N_chance_at) (body := b_chance_at) T.f_chance_at sc_chance_at rfl (by decide) (fun _ => rfl) fun X W C pa => ?_
  unfold b_chance_at
  exact ss_cons (s_drop (e_call C F_check_odds (by decide) (by decide +kernel) rfl (a_cons (.inl rfl) (n_var C 0 "odds" rfl (by decide +kernel) dbg_odds cld_odds) (a_cons (.inl rfl) (e_str) (a_nil))) dbg_check_odds))
      (ss_cons (s_if (t_not (tTruth (e_call C F_is_between (by decide) (by decide +kernel) rfl (a_cons (.inl rfl) (n_var C 1 "number" rfl (by decide +kernel) dbg_number cld_number) (a_cons (.inl rfl) (e_int) (a_cons (.inl rfl) (n_const C (by decide +kernel) k_MAX_TRIES dbg_MAX_TRIES) (a_nil)))) dbg_is_between))) (ss_one (s_raise C (j := 0) T.x1 (by decide) (by decide +kernel) T.w.m1 (T.w.ec 1 (by decide)) (T.en 1) (e_str))) (ss_nil))
      (ss_never))
theorem sc_mean_tries : FnScope N_mean_tries ["odds", "tries"] (defScope (top 23)) := ⟨rfl, rfl, rfl, by decide +kernel, rfl, by decide +kernel, by decide +kernel⟩
theorem ok_mean_tries (nn : Bool) (T : TF K mg g Ca Ci AW) : Fok nn PP w K mg base 4 "mean_tries" (spP (ck K g) 2 m_mean_tries) := by
  have F_check_odds := ok_check_odds (w := w) (base := base) nn T
  have F_check_tries := ok_check_tries (w := w) (base := base) nn T
  refine fok_pure (k := 3) (N := N_mean_tries) (body := b_mean_tries) T.f_mean_tries sc_mean_tries rfl (by decide) (fun _ => rfl) fun X W C pa => ?_
  unfold b_mean_tries
  exact ss_cons (s_drop (e_call C F_check_odds (by decide) (by decide +kernel) rfl (a_cons (.inl rfl) (n_var C 0 "odds" rfl (by decide +kernel) dbg_odds cld_odds) (a_cons (.inl rfl) (e_str) (a_nil))) dbg_check_odds))
      (ss_cons (s_drop (e_call C F_check_tries (by decide) (by decide +kernel) rfl (a_cons (.inl rfl) (n_var C 1 "tries" rfl (by decide +kernel) dbg_tries cld_tries) (a_nil)) dbg_check_tries))
      (ss_never))
theorem sc_check_rows : FnScope N_check_rows ["rows"] (defScope (top 31)) := ⟨rfl, rfl, rfl, by decide +kernel, rfl, by decide +kernel, by decide +kernel⟩
theorem ok_check_rows  (T : TF K mg g Ca Ci AW) : Fok false PP w K mg base 4 "check_rows" (spP (ck K g) 1 m_check_rows) := by
  obtain ⟨t_MAX_STEPS, k_MAX_STEPS⟩ := T.k_MAX_STEPS
  have b_isinstance := T.b_isinstance
  have b_len := T.b_len
  have b_tuple := T.b_tuple
  have F_check_odds := ok_check_odds (w := w) (base := base) false T
  have G_check_odds := ok_check_odds (w := w) (base := base) true T
  refine fok_pure (k := 3) (N := N_check_rows) (body := b_check_rows) T.f_check_rows sc_check_rows rfl (by decide) (fun _ => rfl) fun X W C pa => ?_
  unfold b_check_rows
  exact ss_cons (s_if (t_w (w_or (t_not (tTruth (e_isi kitT_tuple (gloB_of C (by decide +kernel)) (mgn C b_isinstance) (gloB_of C (by decide +kernel)) (mgn C b_tuple) rfl (n_var C 0 "rows" rfl (by decide +kernel) dbg_rows cld_rows)))) (w_or1 (t_not (t_chain op_leD op_leD vb_cmpI vb_cmpI dCmpI_nr dCmpI_nr rfl (e_int) (e_callB call_len vc_len bLen_nr (gloB_of C (by decide +kernel)) (mgn C b_len) rfl (a_cons (.inl rfl) (n_var C 0 "rows" rfl (by decide +kernel) dbg_rows cld_rows) (a_nil))) (n_const C (by decide +kernel) k_MAX_STEPS dbg_MAX_STEPS)))))) (ss_one (s_raise C (j := 0) T.x0 (by decide) (by decide +kernel) T.w.m0 (T.w.ec 0 (by decide)) (T.en 0) (e_str))) (ss_nil))
      (ss_one (s_for (vs := [1]) C (i_items (n_var C 0 "rows" rfl (by decide +kernel) dbg_rows cld_rows)) (g_name (n_pg C 1 "own" rfl (by decide +kernel)) (by decide)) (ss_one (s_reraise C pa T.w T.x0 (by decide +kernel) T.w.m1 (fun i h => T.xm i 1 h (by decide)) (by decide +kernel) T.w.m0 (T.w.ec 0 (by decide)) (T.en 0) (fun X1 W1 Y1 => ss_one (s_drop (e_call Y1 G_check_odds (by decide) (by decide +kernel) rfl (a_cons (.inl rfl) (n_var Y1 1 "own" rfl (by decide +kernel) dbg_own cld_own) (a_cons (.inl rfl) (e_str) (a_nil))) dbg_check_odds)))))))
theorem sc_best_shares : FnScope N_best_shares ["rows", "tries"] (defScope (top 35)) := ⟨rfl, rfl, rfl, by decide +kernel, rfl, by decide +kernel, by decide +kernel⟩
theorem ok_best_shares  (T : TF K mg g Ca Ci AW) : Fok false PP w K mg base 5 "best_shares" (spP (ck K g) 2 m_best_shares) := by
  have b_len := T.b_len
  have F_check_rows := ok_check_rows (w := w) (base := base) T
  have F_check_tries := ok_check_tries (w := w) (base := base) false T
  refine fok_pure (k := 4) (N := N_best_shares) (body := b_best_shares) T.f_best_shares sc_best_shares rfl (by decide) (fun _ => rfl) fun X W C pa => ?_
  unfold b_best_shares
  exact ss_cons (s_drop (e_call C F_check_rows (by decide) (by decide +kernel) rfl (a_cons (.inl rfl) (n_var C 0 "rows" rfl (by decide +kernel) dbg_rows cld_rows) (a_nil)) dbg_check_rows))
      (ss_cons (s_drop (e_call C F_check_tries (by decide) (by decide +kernel) rfl (a_cons (.inl rfl) (n_var C 1 "tries" rfl (by decide +kernel) dbg_tries cld_tries) (a_nil)) dbg_check_tries))
      (ss_cons (s_if (tLt (.inl rfl) (n_var C 1 "tries" rfl (by decide +kernel) dbg_tries cld_tries) (e_callB call_len vc_len bLen_nr (gloB_of C (by decide +kernel)) (mgn C b_len) rfl (a_cons (.inl rfl) (n_var C 0 "rows" rfl (by decide +kernel) dbg_rows cld_rows) (a_nil)))) (ss_one (s_ret (e_non))) (ss_nil))
      (ss_never)))
theorem sc_check_rule : FnScope N_check_rule ["rule"] (defScope (top 26)) := ⟨rfl, rfl, rfl, by decide +kernel, rfl, by decide +kernel, by decide +kernel⟩
theorem ok_check_rule (nn : Bool) (T : TF K mg g Ca Ci AW) : Fok nn PP w K mg base 3 "check_rule" (spP (ck K g) 1 m_check_rule) := by
  obtain ⟨t_MAX_SIZE, k_MAX_SIZE⟩ := T.k_MAX_SIZE
  have b_all := T.b_all
  have b_isinstance := T.b_isinstance
  have b_len := T.b_len
  have b_tuple := T.b_tuple
  have F_is_between := ok_is_between (w := w) (base := base) nn T
  refine fok_pure (k := 2) (N := N_check_rule) (body := b_check_rule) T.f_check_rule sc_check_rule rfl (by decide) (fun _ => rfl) fun X W C pa => ?_
  unfold b_check_rule
  exact ss_cons (s_if (t_w (w_or (t_not (tTruth (e_isi kitT_tuple (gloB_of C (by decide +kernel)) (mgn C b_isinstance) (gloB_of C (by decide +kernel)) (mgn C b_tuple) rfl (n_var C 0 "rule" rfl (by decide +kernel) dbg_rule cld_rule)))) (w_or (tNe C (.inl rfl) (e_callB call_len vc_len bLen_nr (gloB_of C (by decide +kernel)) (mgn C b_len) rfl (a_cons (.inl rfl) (n_var C 0 "rule" rfl (by decide +kernel) dbg_rule cld_rule) (a_nil))) (e_int)) (w_or1 (t_not (tTruth (e_callB (cr_all C.calm) vc_all bAll_nr (gloB_of C (by decide +kernel)) (mgn C b_all) rfl (a_cons (.inl rfl) (DF.val (f_lc C [("own", 1)] (by decide +kernel) (i_items (n_var C 0 "rule" rfl (by decide +kernel) dbg_rule cld_rule)) (fun s1 H1 A1 l1 p1 => g_name (n_tg C s1 H1 A1 l1 p1 1 rfl (by decide +kernel)) (by decide)) (fun s1 H1 A1 l1 p1 => c_nil) (fun s1 H1 A1 l1 p1 => e_call (C.blk s1 H1 _ A1 l1 p1) F_is_between (by decide) (by decide +kernel) rfl (a_cons (.inl rfl) (n_var (C.blk s1 H1 _ A1 l1 p1) 1 "own" rfl (by decide +kernel) dbg_own cld_own) (a_cons (.inl rfl) (e_int) (a_cons (.inl rfl) (n_const (C.blk s1 H1 _ A1 l1 p1) (by decide +kernel) k_MAX_SIZE dbg_MAX_SIZE) (a_nil)))) dbg_is_between))) (a_nil))))))))) (ss_one (s_raise C (j := 0) T.x1 (by decide) (by decide +kernel) T.w.m1 (T.w.ec 1 (by decide)) (T.en 1) (e_str))) (ss_nil))
      (ss_one (s_if (t_w (w_or (tLt (.inl rfl) (eIx (.inl rfl) (n_var C 0 "rule" rfl (by decide +kernel) dbg_rule cld_rule) (e_int)) (e_int)) (w_or1 (tGt (.inl rfl) (eIx (.inl rfl) (n_var C 0 "rule" rfl (by decide +kernel) dbg_rule cld_rule) (e_int)) (eIx (.inl rfl) (n_var C 0 "rule" rfl (by decide +kernel) dbg_rule cld_rule) (e_int)))))) (ss_one (s_raise C (j := 0) T.x1 (by decide) (by decide +kernel) T.w.m1 (T.w.ec 1 (by decide)) (T.en 1) (e_str))) (ss_nil)))
theorem sc_check_long : FnScope N_check_long ["long"] (defScope (top 27)) := ⟨rfl, rfl, rfl, by decide +kernel, rfl, by decide +kernel, by decide +kernel⟩
theorem ok_check_long (nn : Bool) (T : TF K mg g Ca Ci AW) : Fok nn PP w K mg base 3 "check_long" (spP (ck K g) 1 m_check_long) := by
  obtain ⟨t_MAX_SIZE, k_MAX_SIZE⟩ := T.k_MAX_SIZE
  have F_is_between := ok_is_between (w := w) (base := base) nn T
  refine fok_pure (k := 2) (N := N_check_long) (body := b_check_long) T.f_check_long sc_check_long rfl (by decide) (fun _ => rfl) fun X W C pa => ?_
  unfold b_check_long
  exact ss_one (s_if (t_not (tTruth (e_call C F_is_between (by decide) (by decide +kernel) rfl (a_cons (.inl rfl) (n_var C 0 "long" rfl (by decide +kernel) dbg_long cld_long) (a_cons (.inl rfl) (e_int) (a_cons (.inl rfl) (n_const C (by decide +kernel) k_MAX_SIZE dbg_MAX_SIZE) (a_nil)))) dbg_is_between))) (ss_one (s_raise C (j := 0) T.x1 (by decide) (by decide +kernel) T.w.m1 (T.w.ec 1 (by decide)) (T.en 1) (e_str))) (ss_nil))
theorem sc_waits_of : FnScope N_waits_of ["rule", "many"] (defScope (top 28)) := ⟨rfl, rfl, rfl, by decide +kernel, rfl, by decide +kernel, by decide +kernel⟩
theorem ok_waits_of (nn : Bool) (T : TF K mg g Ca Ci AW) : Fok nn PP w K mg base 1 "waits_of" (spP (ck K g) 2 m_waits_of) := by
  have b_min := T.b_min
  have b_range := T.b_range
  refine fok_pure (k := 0) (N := N_waits_of) (body := b_waits_of) T.f_waits_of sc_waits_of rfl (by decide) (fun _ => rfl) fun X W C pa => ?_
  unfold b_waits_of
  exact ss_cons (s_setO C 2 rfl (by decide +kernel) (f_lst rfl (a_nil)))
      (ss_cons (s_for (vs := [3]) C (i_rng1 (gloB_of C (by decide +kernel)) (mgn C b_range) (a_cons (.inl rfl) (n_var C 1 "many" rfl (by decide +kernel) dbg_many cld_many) (a_nil))) (g_name (n_pg C 3 "turn" rfl (by decide +kernel)) (by decide)) (ss_one (s_drop (e_meth PySem.F.plainAttrs_list PySem.F.slot_list_append PySem.F.type_list_append mt_append vm_app fApp_nr rfl (n_pe C 2 "found" rfl (by decide +kernel) dbg_found cld_found) (a_cons (.inl rfl) (e_if (tEq C (.inl rfl) (n_var C 3 "turn" rfl (by decide +kernel) dbg_turn cld_turn) (e_int)) (eIx (.inl rfl) (n_var C 0 "rule" rfl (by decide +kernel) dbg_rule cld_rule) (e_int)) (e_callB (cr_minA C.calm) vc_min bMin_nr (gloB_of C (by decide +kernel)) (mgn C b_min) rfl (a_cons (.inl rfl) (eIx (.inl rfl) (n_var C 0 "rule" rfl (by decide +kernel) dbg_rule cld_rule) (e_int)) (a_cons (.inl rfl) (eMul (.inl rfl) (eIx (.inr rfl) (n_varO C 2 "found" rfl (by decide +kernel) dbg_found cld_found) (e_neg (e_int))) (eIx (.inl rfl) (n_var C 0 "rule" rfl (by decide +kernel) dbg_rule cld_rule) (e_int))) (a_nil))))) (a_nil))))))
      (ss_one (s_retO 2 (n_pe C 2 "found" rfl (by decide +kernel) dbg_found cld_found))))
theorem sc_begins : FnScope N_begins ["rule", "long", "tries"] (defScope (top 29)) := ⟨rfl, rfl, rfl, by decide +kernel, rfl, by decide +kernel, by decide +kernel⟩
theorem ok_begins (nn : Bool) (T : TF K mg g Ca Ci AW) : Fok nn PP w K mg base 4 "begins" (spP (ck K g) 3 m_begins) := by
  have b_tuple := T.b_tuple
  have F_check_rule := ok_check_rule (w := w) (base := base) nn T
  have F_check_long := ok_check_long (w := w) (base := base) nn T
  have F_check_tries := ok_check_tries (w := w) (base := base) nn T
  have F_waits_of := ok_waits_of (w := w) (base := base) nn T
  refine fok_pure (k := 3) (N := N_begins) (body := b_begins) T.f_begins sc_begins rfl (by decide) (fun _ => rfl) fun X W C pa => ?_
  unfold b_begins
  exact ss_cons (s_drop (e_call C F_check_rule (by decide) (by decide +kernel) rfl (a_cons (.inl rfl) (n_var C 0 "rule" rfl (by decide +kernel) dbg_rule cld_rule) (a_nil)) dbg_check_rule))
      (ss_cons (s_drop (e_call C F_check_long (by decide) (by decide +kernel) rfl (a_cons (.inl rfl) (n_var C 1 "long" rfl (by decide +kernel) dbg_long cld_long) (a_nil)) dbg_check_long))
      (ss_cons (s_drop (e_call C F_check_tries (by decide) (by decide +kernel) rfl (a_cons (.inl rfl) (n_var C 2 "tries" rfl (by decide +kernel) dbg_tries cld_tries) (a_nil)) dbg_check_tries))
      (ss_cons (s_setO C 3 rfl (by decide +kernel) (f_lst rfl (a_nil)))
      (ss_cons (s_for (vs := [4]) C (i_items (e_if (tGt (.inl rfl) (n_var C 2 "tries" rfl (by decide +kernel) dbg_tries cld_tries) (e_int)) (eAdd (.inl rfl) (DF.val (f_lst rfl (a_cons (.inl rfl) (e_int) (a_nil)))) (e_call C F_waits_of (by decide) (by decide +kernel) rfl (a_cons (.inl rfl) (n_var C 0 "rule" rfl (by decide +kernel) dbg_rule cld_rule) (a_cons (.inl rfl) (eSub (.inl rfl) (n_var C 2 "tries" rfl (by decide +kernel) dbg_tries cld_tries) (e_int)) (a_nil))) dbg_waits_of)) (DF.val (f_lst rfl (a_nil))))) (g_name (n_pg C 4 "wait" rfl (by decide +kernel)) (by decide)) (ss_one (s_drop (e_meth PySem.F.plainAttrs_list PySem.F.slot_list_append PySem.F.type_list_append mt_append vm_app fApp_nr rfl (n_pe C 3 "found" rfl (by decide +kernel) dbg_found cld_found) (a_cons (.inl rfl) (e_if (tTruth (n_varO C 3 "found" rfl (by decide +kernel) dbg_found cld_found)) (eAdd (.inl rfl) (eAdd (.inl rfl) (eIx (.inr rfl) (n_varO C 3 "found" rfl (by decide +kernel) dbg_found cld_found) (e_neg (e_int))) (n_var C 1 "long" rfl (by decide +kernel) dbg_long cld_long)) (n_var C 4 "wait" rfl (by decide +kernel) dbg_wait cld_wait)) (e_int)) (a_nil))))))
      (ss_one (s_ret (e_callT call_tuple_of vc_tuple bTuple_nr (gloB_of C (by decide +kernel)) (mgn C b_tuple) rfl (a_cons (.inr rfl) (n_varO C 3 "found" rfl (by decide +kernel) dbg_found cld_found) (a_nil)))))))))
theorem sc_most_tries : FnScope N_most_tries ["rule", "long", "end"] (defScope (top 30)) := ⟨rfl, rfl, rfl, by decide +kernel, rfl, by decide +kernel, by decide +kernel⟩
theorem ok_most_tries (nn : Bool) (T : TF K mg g Ca Ci AW) : Fok nn PP w K mg base 4 "most_tries" (spP (ck K g) 3 m_most_tries) := by
  obtain ⟨t_MAX_SIZE, k_MAX_SIZE⟩ := T.k_MAX_SIZE
  have F_check_rule := ok_check_rule (w := w) (base := base) nn T
  have F_check_long := ok_check_long (w := w) (base := base) nn T
  have F_is_between := ok_is_between (w := w) (base := base) nn T
  refine fok_pure (k := 3) (N := N_most_tries) (body := b_most_tries) T.f_most_tries sc_most_tries rfl (by decide) (fun _ => rfl) fun X W C pa => ?_
  unfold b_most_tries
  exact ss_cons (s_drop (e_call C F_check_rule (by decide) (by decide +kernel) rfl (a_cons (.inl rfl) (n_var C 0 "rule" rfl (by decide +kernel) dbg_rule cld_rule) (a_nil)) dbg_check_rule))
      (ss_cons (s_drop (e_call C F_check_long (by decide) (by decide +kernel) rfl (a_cons (.inl rfl) (n_var C 1 "long" rfl (by decide +kernel) dbg_long cld_long) (a_nil)) dbg_check_long))
      (ss_cons (s_if (t_not (tTruth (e_call C F_is_between (by decide) (by decide +kernel) rfl (a_cons (.inl rfl) (n_var C 2 "end" rfl (by decide +kernel) dbg_end cld_end) (a_cons (.inl rfl) (e_int) (a_cons (.inl rfl) (n_const C (by decide +kernel) k_MAX_SIZE dbg_MAX_SIZE) (a_nil)))) dbg_is_between))) (ss_one (s_raise C (j := 0) T.x1 (by decide) (by decide +kernel) T.w.m1 (T.w.ec 1 (by decide)) (T.en 1) (e_str))) (ss_nil))
      (ss_never)))
theorem sc_check_shares : FnScope N_check_shares ["rows", "shares"] (defScope (top 32)) := ⟨rfl, rfl, rfl, by decide +kernel, rfl, by decide +kernel, by decide +kernel⟩
theorem ok_check_shares (nn : Bool) (T : TF K mg g Ca Ci AW) : Fok nn PP w K mg base 2 "check_shares" (spP (ck K g) 2 m_check_shares) := by
  obtain ⟨t_MAX_TRIES, k_MAX_TRIES⟩ := T.k_MAX_TRIES
  have b_all := T.b_all
  have b_isinstance := T.b_isinstance
  have b_len := T.b_len
  have b_min := T.b_min
  have b_sum := T.b_sum
  have b_tuple := T.b_tuple
  have F_is_integer := ok_is_integer (w := w) (base := base) nn T
  refine fok_pure (k := 1) (N := N_check_shares) (body := b_check_shares) T.f_check_shares sc_check_shares rfl (by decide) (fun _ => rfl) fun X W C pa => ?_
  unfold b_check_shares
  exact ss_cons (s_if (t_w (w_or (t_not (tTruth (e_isi kitT_tuple (gloB_of C (by decide +kernel)) (mgn C b_isinstance) (gloB_of C (by decide +kernel)) (mgn C b_tuple) rfl (n_var C 1 "shares" rfl (by decide +kernel) dbg_shares cld_shares)))) (w_or (tNe C (.inl rfl) (e_callB call_len vc_len bLen_nr (gloB_of C (by decide +kernel)) (mgn C b_len) rfl (a_cons (.inl rfl) (n_var C 1 "shares" rfl (by decide +kernel) dbg_shares cld_shares) (a_nil))) (e_callB call_len vc_len bLen_nr (gloB_of C (by decide +kernel)) (mgn C b_len) rfl (a_cons (.inl rfl) (n_var C 0 "rows" rfl (by decide +kernel) dbg_rows cld_rows) (a_nil)))) (w_or1 (t_not (tTruth (e_callB (cr_all C.calm) vc_all bAll_nr (gloB_of C (by decide +kernel)) (mgn C b_all) rfl (a_cons (.inl rfl) (DF.val (f_lc C [("own", 2)] (by decide +kernel) (i_items (n_var C 1 "shares" rfl (by decide +kernel) dbg_shares cld_shares)) (fun s1 H1 A1 l1 p1 => g_name (n_tg C s1 H1 A1 l1 p1 2 rfl (by decide +kernel)) (by decide)) (fun s1 H1 A1 l1 p1 => c_nil) (fun s1 H1 A1 l1 p1 => e_call (C.blk s1 H1 _ A1 l1 p1) F_is_integer (by decide) (by decide +kernel) rfl (a_cons (.inl rfl) (n_var (C.blk s1 H1 _ A1 l1 p1) 2 "own" rfl (by decide +kernel) dbg_own cld_own) (a_nil)) dbg_is_integer))) (a_nil))))))))) (ss_one (s_raise C (j := 0) T.x1 (by decide) (by decide +kernel) T.w.m1 (T.w.ec 1 (by decide)) (T.en 1) (e_str))) (ss_nil))
      (ss_one (s_if (t_w (w_or (tLt (.inl rfl) (e_callB (cr_minA C.calm) vc_min bMin_nr (gloB_of C (by decide +kernel)) (mgn C b_min) rfl (a_cons (.inl rfl) (n_var C 1 "shares" rfl (by decide +kernel) dbg_shares cld_shares) (a_nil))) (e_int)) (w_or1 (tGt (.inl rfl) (e_callB (cr_sumA C.calm) vc_sum bSum_nr (gloB_of C (by decide +kernel)) (mgn C b_sum) rfl (a_cons (.inl rfl) (n_var C 1 "shares" rfl (by decide +kernel) dbg_shares cld_shares) (a_nil))) (n_const C (by decide +kernel) k_MAX_TRIES dbg_MAX_TRIES))))) (ss_one (s_raise C (j := 0) T.x1 (by decide) (by decide +kernel) T.w.m1 (T.w.ec 1 (by decide)) (T.en 1) (e_str))) (ss_nil)))
theorem sc_is_less : FnScope N_is_less ["one", "other"] (defScope (top 24)) := ⟨rfl, rfl, rfl, by decide +kernel, rfl, by decide +kernel, by decide +kernel⟩
theorem ok_is_less (nn : Bool) (T : TF K mg g Ca Ci AW) : Fok nn PP w K mg base 1 "is_less" (spP (ck K g) 2 m_is_less) := by
  refine fok_pure (k := 0) (N := N_is_less) (body := b_is_less) T.f_is_less sc_is_less rfl (by decide) (fun _ => rfl) fun X W C pa => ?_
  unfold b_is_less
  exact ss_one (s_ret (eLt (.inl rfl) (eMul (.inl rfl) (eIx (.inl rfl) (n_var C 0 "one" rfl (by decide +kernel) dbg_one cld_one) (e_int)) (eIx (.inl rfl) (n_var C 1 "other" rfl (by decide +kernel) dbg_other cld_other) (e_int))) (eMul (.inl rfl) (eIx (.inl rfl) (n_var C 1 "other" rfl (by decide +kernel) dbg_other cld_other) (e_int)) (eIx (.inl rfl) (n_var C 0 "one" rfl (by decide +kernel) dbg_one cld_one) (e_int)))))
theorem sc_power : FnScope N_power ["base", "many"] (defScope (top 19)) := ⟨rfl, rfl, rfl, by decide +kernel, rfl, by decide +kernel, by decide +kernel⟩
theorem ok_power (nn : Bool) (T : TF K mg g Ca Ci AW) : Fok nn PP w K mg base 1 "power" (spP (ck K g) 2 m_power) := by
  have b_range := T.b_range
  refine fok_pure (k := 0) (N := N_power) (body := b_power) T.f_power sc_power rfl (by decide) (fun _ => rfl) fun X W C pa => ?_
  unfold b_power
  exact ss_cons (s_set C 2 rfl (by decide +kernel) (e_int))
      (ss_cons (s_for (vs := [3]) C (i_rng1 (gloB_of C (by decide +kernel)) (mgn C b_range) (a_cons (.inl rfl) (n_var C 1 "many" rfl (by decide +kernel) dbg_many cld_many) (a_nil))) (g_name (n_pg C 3 "turn" rfl (by decide +kernel)) (by decide)) (ss_one (s_aug C iop_mul va_mul aMul_nr 2 rfl (by decide +kernel) (n_var C 0 "base" rfl (by decide +kernel) dbg_base cld_base))))
      (ss_one (s_ret (n_var C 2 "found" rfl (by decide +kernel) dbg_found cld_found))))
theorem sc_chance_of : FnScope N_chance_of ["odds", "tries"] (defScope (top 20)) := ⟨rfl, rfl, rfl, by decide +kernel, rfl, by decide +kernel, by decide +kernel⟩
theorem ok_chance_of (nn : Bool) (T : TF K mg g Ca Ci AW) : Fok nn PP w K mg base 2 "chance_of" (spP (ck K g) 2 m_chance_of) := by
  have F_power := ok_power (w := w) (base := base) nn T
  refine fok_pure (k := 1) (N := N_chance_of) (body := b_chance_of) T.f_chance_of sc_chance_of rfl (by decide) (fun _ => rfl) fun X W C pa => ?_
  unfold b_chance_of
  exact ss_cons (s_set C 2 rfl (by decide +kernel) (e_call C F_power (by decide) (by decide +kernel) rfl (a_cons (.inl rfl) (eIx (.inl rfl) (n_var C 0 "odds" rfl (by decide +kernel) dbg_odds cld_odds) (e_int)) (a_cons (.inl rfl) (n_var C 1 "tries" rfl (by decide +kernel) dbg_tries cld_tries) (a_nil))) dbg_power))
      (ss_one (s_ret (e_tup rfl (a_cons (.inl rfl) (eSub (.inl rfl) (n_var C 2 "whole" rfl (by decide +kernel) dbg_whole cld_whole) (e_call C F_power (by decide) (by decide +kernel) rfl (a_cons (.inl rfl) (eSub (.inl rfl) (eIx (.inl rfl) (n_var C 0 "odds" rfl (by decide +kernel) dbg_odds cld_odds) (e_int)) (eIx (.inl rfl) (n_var C 0 "odds" rfl (by decide +kernel) dbg_odds cld_odds) (e_int))) (a_cons (.inl rfl) (n_var C 1 "tries" rfl (by decide +kernel) dbg_tries cld_tries) (a_nil))) dbg_power)) (a_cons (.inl rfl) (n_var C 2 "whole" rfl (by decide +kernel) dbg_whole cld_whole) (a_nil))))))
theorem sc_product_of : FnScope N_product_of ["rows", "shares"] (defScope (top 33)) := ⟨rfl, rfl, rfl, by decide +kernel, rfl, by decide +kernel, by decide +kernel⟩
theorem ok_product_of (nn : Bool) (T : TF K mg g Ca Ci AW) : Fok nn PP w K mg base 3 "product_of" (spP (ck K g) 2 m_product_of) := by
  have b_zip := T.b_zip
  have F_chance_of := ok_chance_of (w := w) (base := base) nn T
  refine fok_pure (k := 2) (N := N_product_of) (body := b_product_of) T.f_product_of sc_product_of rfl (by decide) (fun _ => rfl) fun X W C pa => ?_
  unfold b_product_of
  exact ss_cons (s_asg (vs := [2, 3]) (e_tup rfl (a_cons (.inl rfl) (e_int) (a_cons (.inl rfl) (e_int) (a_nil)))) (g_tup C.calm (g_cons (g_name (n_pg C 2 "up" rfl (by decide +kernel)) (by decide)) (g_cons (g_name (n_pg C 3 "down" rfl (by decide +kernel)) (by decide)) (g_nil)))) rfl ((sws_eq C.es _ _).trans (by rfl)))
      (ss_cons (s_for (vs := [4, 5]) C (i_zip (gloB_of C (by decide +kernel)) (mgn C b_zip) (a_cons (.inl rfl) (n_var C 0 "rows" rfl (by decide +kernel) dbg_rows cld_rows) (a_cons (.inl rfl) (n_var C 1 "shares" rfl (by decide +kernel) dbg_shares cld_shares) (a_nil)))) (g_tup C.calm (g_cons (g_name (n_pg C 4 "odds" rfl (by decide +kernel)) (by decide)) (g_cons (g_name (n_pg C 5 "tries" rfl (by decide +kernel)) (by decide)) (g_nil)))) (ss_cons (s_set C 6 rfl (by decide +kernel) (e_call C F_chance_of (by decide) (by decide +kernel) rfl (a_cons (.inl rfl) (n_var C 4 "odds" rfl (by decide +kernel) dbg_odds cld_odds) (a_cons (.inl rfl) (n_var C 5 "tries" rfl (by decide +kernel) dbg_tries cld_tries) (a_nil))) dbg_chance_of))
      (ss_one (s_par C 2 3 rfl rfl (by decide) (by decide +kernel) (by decide +kernel) rfl (a_cons (.inl rfl) (eMul (.inl rfl) (n_var C 2 "up" rfl (by decide +kernel) dbg_up cld_up) (eIx (.inl rfl) (n_var C 6 "own" rfl (by decide +kernel) dbg_own cld_own) (e_int))) (a_cons (.inl rfl) (eMul (.inl rfl) (n_var C 3 "down" rfl (by decide +kernel) dbg_down cld_down) (eIx (.inl rfl) (n_var C 6 "own" rfl (by decide +kernel) dbg_own cld_own) (e_int))) (a_nil))) (by rfl)))))
      (ss_one (s_ret (e_tup rfl (a_cons (.inl rfl) (n_var C 2 "up" rfl (by decide +kernel) dbg_up cld_up) (a_cons (.inl rfl) (n_var C 3 "down" rfl (by decide +kernel) dbg_down cld_down) (a_nil)))))))
theorem sc_moved_try : FnScope N_moved_try ["shares", "one", "other"] (defScope (top 36)) := ⟨rfl, rfl, rfl, by decide +kernel, rfl, by decide +kernel, by decide +kernel⟩
theorem ok_moved_try (nn : Bool) (T : TF K mg g Ca Ci AW) : Fok nn PP w K mg base 1 "moved_try" (spP (ck K g) 3 m_moved_try) := by
  have b_enumerate := T.b_enumerate
  have b_int := T.b_int
  have b_tuple := T.b_tuple
  refine fok_pure (k := 0) (N := N_moved_try) (body := b_moved_try) T.f_moved_try sc_moved_try rfl (by decide) (fun _ => rfl) fun X W C pa => ?_
  unfold b_moved_try
  exact ss_one (s_ret (e_callT call_tuple_of vc_tuple bTuple_nr (gloB_of C (by decide +kernel)) (mgn C b_tuple) rfl (a_cons (.inl rfl) (DF.val (f_lc C [("at", 3), ("own", 4)] (by decide +kernel) (i_enum (gloB_of C (by decide +kernel)) (mgn C b_enumerate) (n_var C 0 "shares" rfl (by decide +kernel) dbg_shares cld_shares)) (fun s1 H1 A1 l1 p1 => g_tup (C.blk s1 H1 _ A1 l1 p1).calm (g_cons (g_name (n_tg C s1 H1 A1 l1 p1 3 rfl (by decide +kernel)) (by decide)) (g_cons (g_name (n_tg C s1 H1 A1 l1 p1 4 rfl (by decide +kernel)) (by decide)) (g_nil)))) (fun s1 H1 A1 l1 p1 => c_nil) (fun s1 H1 A1 l1 p1 => eAdd (.inl rfl) (eSub (.inl rfl) (n_var (C.blk s1 H1 _ A1 l1 p1) 4 "own" rfl (by decide +kernel) dbg_own cld_own) (e_callT call_int1 vc_int bInt_nr (gloB_of (C.blk s1 H1 _ A1 l1 p1) (by decide +kernel)) (mgn (C.blk s1 H1 _ A1 l1 p1) b_int) rfl (a_cons (.inl rfl) (eEq (C.blk s1 H1 _ A1 l1 p1) (.inl rfl) (n_var (C.blk s1 H1 _ A1 l1 p1) 3 "at" rfl (by decide +kernel) dbg_at cld_at) (n_var (C.blk s1 H1 _ A1 l1 p1) 1 "one" rfl (by decide +kernel) dbg_one cld_one)) (a_nil)))) (e_callT call_int1 vc_int bInt_nr (gloB_of (C.blk s1 H1 _ A1 l1 p1) (by decide +kernel)) (mgn (C.blk s1 H1 _ A1 l1 p1) b_int) rfl (a_cons (.inl rfl) (eEq (C.blk s1 H1 _ A1 l1 p1) (.inl rfl) (n_var (C.blk s1 H1 _ A1 l1 p1) 3 "at" rfl (by decide +kernel) dbg_at cld_at) (n_var (C.blk s1 H1 _ A1 l1 p1) 2 "other" rfl (by decide +kernel) dbg_other cld_other)) (a_nil)))))) (a_nil))))
theorem sc_accept_better : FnScope N_accept_better ["rows", "shares", "one", "other"] (defScope (top 38)) := ⟨rfl, rfl, rfl, by decide +kernel, rfl, by decide +kernel, by decide +kernel⟩
theorem ok_accept_better  (T : TF K mg g Ca Ci AW) : Fok false PP w K mg base 5 "accept_better" (spP (ck K g) 4 m_accept_better) := by
  have b_len := T.b_len
  have F_check_rows := ok_check_rows (w := w) (base := base) T
  have F_check_shares := ok_check_shares (w := w) (base := base) false T
  have F_is_between := ok_is_between (w := w) (base := base) false T
  have F_is_less := ok_is_less (w := w) (base := base) false T
  have F_product_of := ok_product_of (w := w) (base := base) false T
  have F_moved_try := ok_moved_try (w := w) (base := base) false T
  refine fok_pure (k := 4) (N := N_accept_better) (body := b_accept_better) T.f_accept_better sc_accept_better rfl (by decide) (fun _ => rfl) fun X W C pa => ?_
  unfold b_accept_better
  exact ss_cons (s_drop (e_call C F_check_rows (by decide) (by decide +kernel) rfl (a_cons (.inl rfl) (n_var C 0 "rows" rfl (by decide +kernel) dbg_rows cld_rows) (a_nil)) dbg_check_rows))
      (ss_cons (s_drop (e_call C F_check_shares (by decide) (by decide +kernel) rfl (a_cons (.inl rfl) (n_var C 0 "rows" rfl (by decide +kernel) dbg_rows cld_rows) (a_cons (.inl rfl) (n_var C 1 "shares" rfl (by decide +kernel) dbg_shares cld_shares) (a_nil))) dbg_check_shares))
      (ss_cons (s_if (t_w (w_or (t_not (tTruth (e_call C F_is_between (by decide) (by decide +kernel) rfl (a_cons (.inl rfl) (n_var C 2 "one" rfl (by decide +kernel) dbg_one cld_one) (a_cons (.inl rfl) (e_int) (a_cons (.inl rfl) (eSub (.inl rfl) (e_callB call_len vc_len bLen_nr (gloB_of C (by decide +kernel)) (mgn C b_len) rfl (a_cons (.inl rfl) (n_var C 0 "rows" rfl (by decide +kernel) dbg_rows cld_rows) (a_nil))) (e_int)) (a_nil)))) dbg_is_between))) (w_or (t_not (tTruth (e_call C F_is_between (by decide) (by decide +kernel) rfl (a_cons (.inl rfl) (n_var C 3 "other" rfl (by decide +kernel) dbg_other cld_other) (a_cons (.inl rfl) (e_int) (a_cons (.inl rfl) (eSub (.inl rfl) (e_callB call_len vc_len bLen_nr (gloB_of C (by decide +kernel)) (mgn C b_len) rfl (a_cons (.inl rfl) (n_var C 0 "rows" rfl (by decide +kernel) dbg_rows cld_rows) (a_nil))) (e_int)) (a_nil)))) dbg_is_between))) (w_or1 (tEq C (.inl rfl) (n_var C 2 "one" rfl (by decide +kernel) dbg_one cld_one) (n_var C 3 "other" rfl (by decide +kernel) dbg_other cld_other)))))) (ss_one (s_raise C (j := 0) T.x2 (by decide) (by decide +kernel) T.w.m2 (T.w.ec 2 (by decide)) (T.en 2) (e_str))) (ss_nil))
      (ss_cons (s_if (tLt (.inl rfl) (eIx (.inl rfl) (n_var C 1 "shares" rfl (by decide +kernel) dbg_shares cld_shares) (n_var C 2 "one" rfl (by decide +kernel) dbg_one cld_one)) (e_int)) (ss_one (s_raise C (j := 0) T.x2 (by decide) (by decide +kernel) T.w.m2 (T.w.ec 2 (by decide)) (T.en 2) (e_str))) (ss_nil))
      (ss_one (s_if (t_not (tTruth (e_call C F_is_less (by decide) (by decide +kernel) rfl (a_cons (.inl rfl) (e_call C F_product_of (by decide) (by decide +kernel) rfl (a_cons (.inl rfl) (n_var C 0 "rows" rfl (by decide +kernel) dbg_rows cld_rows) (a_cons (.inl rfl) (n_var C 1 "shares" rfl (by decide +kernel) dbg_shares cld_shares) (a_nil))) dbg_product_of) (a_cons (.inl rfl) (e_call C F_product_of (by decide) (by decide +kernel) rfl (a_cons (.inl rfl) (n_var C 0 "rows" rfl (by decide +kernel) dbg_rows cld_rows) (a_cons (.inl rfl) (e_call C F_moved_try (by decide) (by decide +kernel) rfl (a_cons (.inl rfl) (n_var C 1 "shares" rfl (by decide +kernel) dbg_shares cld_shares) (a_cons (.inl rfl) (n_var C 2 "one" rfl (by decide +kernel) dbg_one cld_one) (a_cons (.inl rfl) (n_var C 3 "other" rfl (by decide +kernel) dbg_other cld_other) (a_nil)))) dbg_moved_try) (a_nil))) dbg_product_of) (a_nil))) dbg_is_less))) (ss_one (s_raise C (j := 0) T.x2 (by decide) (by decide +kernel) T.w.m2 (T.w.ec 2 (by decide)) (T.en 2) (e_str))) (ss_nil))))))
theorem sc_common_divisor : FnScope N_common_divisor ["one", "other"] (defScope (top 14)) := ⟨rfl, rfl, rfl, by decide +kernel, rfl, by decide +kernel, by decide +kernel⟩
theorem ok_common_divisor (nn : Bool) (T : TF K mg g Ca Ci AW) : Fok nn PP w K mg base 1 "common_divisor" (spP (ck K g) 2 m_common_divisor) := by
  have b_abs := T.b_abs
  refine fok_pure (k := 0) (N := N_common_divisor) (body := b_common_divisor) T.f_common_divisor sc_common_divisor rfl (by decide) (fun _ => rfl) fun X W C pa => ?_
  unfold b_common_divisor
  exact ss_cons (s_par C 0 1 rfl rfl (by decide) (by decide +kernel) (by decide +kernel) rfl (a_cons (.inl rfl) (e_callB call_abs vc_abs bAbs_nr (gloB_of C (by decide +kernel)) (mgn C b_abs) rfl (a_cons (.inl rfl) (n_var C 0 "one" rfl (by decide +kernel) dbg_one cld_one) (a_nil))) (a_cons (.inl rfl) (e_callB call_abs vc_abs bAbs_nr (gloB_of C (by decide +kernel)) (mgn C b_abs) rfl (a_cons (.inl rfl) (n_var C 1 "other" rfl (by decide +kernel) dbg_other cld_other) (a_nil))) (a_nil))) (by rfl))
      (ss_cons (s_while C (tTruth (n_var C 1 "other" rfl (by decide +kernel) dbg_other cld_other)) (ss_one (s_par C 0 1 rfl rfl (by decide) (by decide +kernel) (by decide +kernel) rfl (a_cons (.inl rfl) (n_var C 1 "other" rfl (by decide +kernel) dbg_other cld_other) (a_cons (.inl rfl) (eSub (.inl rfl) (n_var C 0 "one" rfl (by decide +kernel) dbg_one cld_one) (eMul (.inl rfl) (eFdiv (.inl rfl) (n_var C 0 "one" rfl (by decide +kernel) dbg_one cld_one) (n_var C 1 "other" rfl (by decide +kernel) dbg_other cld_other)) (n_var C 1 "other" rfl (by decide +kernel) dbg_other cld_other))) (a_nil))) (by rfl))))
      (ss_one (s_ret (n_var C 0 "one" rfl (by decide +kernel) dbg_one cld_one))))
theorem sc_quotient : FnScope N_quotient ["up", "down"] (defScope (top 18)) := ⟨rfl, rfl, rfl, by decide +kernel, rfl, by decide +kernel, by decide +kernel⟩
theorem ok_quotient (nn : Bool) (T : TF K mg g Ca Ci AW) : Fok nn PP w K mg base 2 "quotient" (spP (ck K g) 2 m_quotient) := by
  have F_common_divisor := ok_common_divisor (w := w) (base := base) nn T
  refine fok_pure (k := 1) (N := N_quotient) (body := b_quotient) T.f_quotient sc_quotient rfl (by decide) (fun _ => rfl) fun X W C pa => ?_
  unfold b_quotient
  exact ss_cons (s_set C 2 rfl (by decide +kernel) (e_call C F_common_divisor (by decide) (by decide +kernel) rfl (a_cons (.inl rfl) (n_var C 0 "up" rfl (by decide +kernel) dbg_up cld_up) (a_cons (.inl rfl) (n_var C 1 "down" rfl (by decide +kernel) dbg_down cld_down) (a_nil))) dbg_common_divisor))
      (ss_one (s_ret (e_tup rfl (a_cons (.inl rfl) (eFdiv (.inl rfl) (n_var C 0 "up" rfl (by decide +kernel) dbg_up cld_up) (n_var C 2 "common" rfl (by decide +kernel) dbg_common cld_common)) (a_cons (.inl rfl) (eFdiv (.inl rfl) (n_var C 1 "down" rfl (by decide +kernel) dbg_down cld_down) (n_var C 2 "common" rfl (by decide +kernel) dbg_common cld_common)) (a_nil))))))
theorem sc_chance_of_all : FnScope N_chance_of_all ["rows", "shares"] (defScope (top 34)) := ⟨rfl, rfl, rfl, by decide +kernel, rfl, by decide +kernel, by decide +kernel⟩
theorem ok_chance_of_all  (T : TF K mg g Ca Ci AW) : Fok false PP w K mg base 5 "chance_of_all" (spP (ck K g) 2 m_chance_of_all) := by
  have F_check_rows := ok_check_rows (w := w) (base := base) T
  have F_check_shares := ok_check_shares (w := w) (base := base) false T
  have F_product_of := ok_product_of (w := w) (base := base) false T
  have F_quotient := ok_quotient (w := w) (base := base) false T
  refine fok_pure (k := 4) (N := N_chance_of_all) (body := b_chance_of_all) T.f_chance_of_all sc_chance_of_all rfl (by decide) (fun _ => rfl) fun X W C pa => ?_
  unfold b_chance_of_all
  exact ss_cons (s_drop (e_call C F_check_rows (by decide) (by decide +kernel) rfl (a_cons (.inl rfl) (n_var C 0 "rows" rfl (by decide +kernel) dbg_rows cld_rows) (a_nil)) dbg_check_rows))
      (ss_cons (s_drop (e_call C F_check_shares (by decide) (by decide +kernel) rfl (a_cons (.inl rfl) (n_var C 0 "rows" rfl (by decide +kernel) dbg_rows cld_rows) (a_cons (.inl rfl) (n_var C 1 "shares" rfl (by decide +kernel) dbg_shares cld_shares) (a_nil))) dbg_check_shares))
      (ss_cons (s_set C 2 rfl (by decide +kernel) (e_call C F_product_of (by decide) (by decide +kernel) rfl (a_cons (.inl rfl) (n_var C 0 "rows" rfl (by decide +kernel) dbg_rows cld_rows) (a_cons (.inl rfl) (n_var C 1 "shares" rfl (by decide +kernel) dbg_shares cld_shares) (a_nil))) dbg_product_of))
      (ss_one (s_ret (e_call C F_quotient (by decide) (by decide +kernel) rfl (a_cons (.inl rfl) (eIx (.inl rfl) (n_var C 2 "own" rfl (by decide +kernel) dbg_own cld_own) (e_int)) (a_cons (.inl rfl) (eIx (.inl rfl) (n_var C 2 "own" rfl (by decide +kernel) dbg_own cld_own) (e_int)) (a_nil))) dbg_quotient)))))
theorem sc_judge_shares : FnScope N_judge_shares ["rows", "shares"] (defScope (top 37)) := ⟨rfl, rfl, rfl, by decide +kernel, rfl, by decide +kernel, by decide +kernel⟩
theorem ok_judge_shares  (T : TF K mg g Ca Ci AW) : Fok false PP w K mg base 5 "judge_shares" (spP (ck K g) 2 m_judge_shares) := by
  have F_check_rows := ok_check_rows (w := w) (base := base) T
  have F_check_shares := ok_check_shares (w := w) (base := base) false T
  refine fok_pure (k := 4) (N := N_judge_shares) (body := b_judge_shares) T.f_judge_shares sc_judge_shares rfl (by decide) (fun _ => rfl) fun X W C pa => ?_
  unfold b_judge_shares
  exact ss_cons (s_drop (e_call C F_check_rows (by decide) (by decide +kernel) rfl (a_cons (.inl rfl) (n_var C 0 "rows" rfl (by decide +kernel) dbg_rows cld_rows) (a_nil)) dbg_check_rows))
      (ss_cons (s_drop (e_call C F_check_shares (by decide) (by decide +kernel) rfl (a_cons (.inl rfl) (n_var C 0 "rows" rfl (by decide +kernel) dbg_rows cld_rows) (a_cons (.inl rfl) (n_var C 1 "shares" rfl (by decide +kernel) dbg_shares cld_shares) (a_nil))) dbg_check_shares))
      (ss_never))
theorem tblOk (T : TF K mg g Ca Ci AW) : TblOk false PP w K mg base 5 g tbl := fun i n mf h => by
  match i, h with
  | 0, h => cases h; obtain ⟨f, h1, h2⟩ := T.v_least_tries; exact tbl_of ((ok_least_tries false T).mono (by decide)) h1 h2
  | 1, h => cases h; obtain ⟨f, h1, h2⟩ := T.v_chance_within; exact tbl_of ((ok_chance_within false T).mono (by decide)) h1 h2
  | 2, h => cases h; obtain ⟨f, h1, h2⟩ := T.v_chance_at; exact tbl_of ((ok_chance_at false T).mono (by decide)) h1 h2
  | 3, h => cases h; obtain ⟨f, h1, h2⟩ := T.v_mean_tries; exact tbl_of ((ok_mean_tries false T).mono (by decide)) h1 h2
  | 4, h => cases h; obtain ⟨f, h1, h2⟩ := T.v_best_shares; exact tbl_of ((ok_best_shares T).mono (by decide)) h1 h2
  | 5, h => cases h; obtain ⟨f, h1, h2⟩ := T.v_begins; exact tbl_of ((ok_begins false T).mono (by decide)) h1 h2
  | 6, h => cases h; obtain ⟨f, h1, h2⟩ := T.v_most_tries; exact tbl_of ((ok_most_tries false T).mono (by decide)) h1 h2
  | 7, h => cases h; obtain ⟨f, h1, h2⟩ := T.v_accept_better; exact tbl_of ((ok_accept_better T).mono (by decide)) h1 h2
  | 8, h => cases h; obtain ⟨f, h1, h2⟩ := T.v_chance_of_all; exact tbl_of ((ok_chance_of_all T).mono (by decide)) h1 h2
  | 9, h => cases h; obtain ⟨f, h1, h2⟩ := T.v_judge_shares; exact tbl_of ((ok_judge_shares T).mono (by decide)) h1 h2
theorem sc__law_called : FnScope N__law_called ["call", "some"] (defScope (top 44)) := ⟨rfl, rfl, rfl, by decide +kernel, rfl, by decide +kernel, by decide +kernel⟩
theorem ok__law_called  (T : TF K mg g Ca Ci AW) : Fok false PP w K mg base 6 "_law_called" (spP (ck K g) 2 m__law_called) := by
  have b_len := T.b_len
  have TB : TblOk false PP w K mg base 5 g tbl := tblOk T
  refine fok_pure (k := 5) (N := N__law_called) (body := b__law_called) T.f__law_called sc__law_called rfl (by decide) (fun _ => rfl) fun X W C pa => ?_
  unfold b__law_called
  exact ss_cons (s_if (tLt (.inl rfl) (e_callB call_len vc_len bLen_nr (gloB_of C (by decide +kernel)) (mgn C b_len) rfl (a_cons (.inl rfl) (n_var C 1 "some" rfl (by decide +kernel) dbg_some cld_some) (a_nil))) (e_int)) (ss_one (s_ret (e_if (tEq C (.inl rfl) (e_callB call_len vc_len bLen_nr (gloB_of C (by decide +kernel)) (mgn C b_len) rfl (a_cons (.inl rfl) (n_var C 1 "some" rfl (by decide +kernel) dbg_some cld_some) (a_nil))) (e_int)) (e_callV C TB (by decide) rfl (by decide +kernel) rfl (a_cons (.inl rfl) (eIx (.inl rfl) (n_var C 1 "some" rfl (by decide +kernel) dbg_some cld_some) (e_int)) (a_nil)) dbg_call cld_call) (e_callV C TB (by decide) rfl (by decide +kernel) rfl (a_cons (.inl rfl) (eIx (.inl rfl) (n_var C 1 "some" rfl (by decide +kernel) dbg_some cld_some) (e_int)) (a_cons (.inl rfl) (eIx (.inl rfl) (n_var C 1 "some" rfl (by decide +kernel) dbg_some cld_some) (e_int)) (a_nil))) dbg_call cld_call)))) (ss_nil))
      (ss_cons (s_if (tLt (.inl rfl) (e_callB call_len vc_len bLen_nr (gloB_of C (by decide +kernel)) (mgn C b_len) rfl (a_cons (.inl rfl) (n_var C 1 "some" rfl (by decide +kernel) dbg_some cld_some) (a_nil))) (e_int)) (ss_one (s_ret (e_if (tEq C (.inl rfl) (e_callB call_len vc_len bLen_nr (gloB_of C (by decide +kernel)) (mgn C b_len) rfl (a_cons (.inl rfl) (n_var C 1 "some" rfl (by decide +kernel) dbg_some cld_some) (a_nil))) (e_int)) (e_callV C TB (by decide) rfl (by decide +kernel) rfl (a_cons (.inl rfl) (eIx (.inl rfl) (n_var C 1 "some" rfl (by decide +kernel) dbg_some cld_some) (e_int)) (a_cons (.inl rfl) (eIx (.inl rfl) (n_var C 1 "some" rfl (by decide +kernel) dbg_some cld_some) (e_int)) (a_cons (.inl rfl) (eIx (.inl rfl) (n_var C 1 "some" rfl (by decide +kernel) dbg_some cld_some) (e_int)) (a_nil)))) dbg_call cld_call) (e_callV C TB (by decide) rfl (by decide +kernel) rfl (a_cons (.inl rfl) (eIx (.inl rfl) (n_var C 1 "some" rfl (by decide +kernel) dbg_some cld_some) (e_int)) (a_cons (.inl rfl) (eIx (.inl rfl) (n_var C 1 "some" rfl (by decide +kernel) dbg_some cld_some) (e_int)) (a_cons (.inl rfl) (eIx (.inl rfl) (n_var C 1 "some" rfl (by decide +kernel) dbg_some cld_some) (e_int)) (a_cons (.inl rfl) (eIx (.inl rfl) (n_var C 1 "some" rfl (by decide +kernel) dbg_some cld_some) (e_int)) (a_nil))))) dbg_call cld_call)))) (ss_nil))
      (ss_never))
theorem sc__law_word : FnScope N__law_word ["error"] (defScope (top 43)) := ⟨rfl, rfl, rfl, by decide +kernel, rfl, by decide +kernel, by decide +kernel⟩
theorem ok__law_word (T : TF K mg g Ca Ci AW) : WordOk PP w K mg base 1 Ca "_law_word" := by
  obtain ⟨f, fd, h1, h2, h3, h4⟩ := T.f__law_word
  refine ⟨f, fd, h1, ?_, h3, h4⟩
  exact word_ok (k := 0) (j0 := 0) (j1 := 0) (j2 := 0) (j3 := 0) (j4 := 0) (j5 := 0) (j6 := 0) (j7 := 0) (p := wpos) T.w h2 (by rfl) (by rfl) rfl rfl sc__law_word
theorem sc__law_heard : FnScope N__law_heard ["call", "some"] (defScope (top 45)) := ⟨rfl, rfl, rfl, by decide +kernel, rfl, by decide +kernel, by decide +kernel⟩
theorem ok__law_heard  (T : TF K mg g Ca Ci AW) : Fok false PP w K mg base 7 "_law_heard" (spP (ck K g) 2 m__law_heard) := by
  have F__law_called := ok__law_called (w := w) (base := base) T
  have F__law_word : WordOk PP w K mg base 1 Ca "_law_word" := ok__law_word T
  refine fok_pure (k := 6) (N := N__law_heard) (body := b__law_heard) T.f__law_heard sc__law_heard rfl (by decide) (fun _ => rfl) fun X W C pa => ?_
  unfold b__law_heard
  exact ss_one (s_heard C T.w (fun i _ => T.en i) F__law_word (by decide) rfl (by decide +kernel) (by decide +kernel) T.wk T.hx (by decide +kernel) (fun X1 W1 Y1 => ss_one (s_ret (DF.val (f_lst rfl (a_cons (.inl rfl) (e_call Y1 F__law_called (by decide) (by decide +kernel) rfl (a_cons (.inl rfl) (n_var Y1 0 "call" rfl (by decide +kernel) dbg_call cld_call) (a_cons (.inl rfl) (n_var Y1 1 "some" rfl (by decide +kernel) dbg_some cld_some) (a_nil))) dbg__law_called) (a_nil)))))))
theorem sc__law_whole : FnScope N__law_whole ["value"] (defScope (top 46)) := ⟨rfl, rfl, rfl, by decide +kernel, rfl, by decide +kernel, by decide +kernel⟩
theorem ok__law_whole (nn : Bool) (T : TF K mg g Ca Ci AW) : Fok nn PP w K mg base 1 "_law_whole" (spP (ck K g) 1 m__law_whole) := by
  have b_bool := T.b_bool
  have b_int := T.b_int
  have b_isinstance := T.b_isinstance
  refine fok_pure (k := 0) (N := N__law_whole) (body := b__law_whole) T.f__law_whole sc__law_whole rfl (by decide) (fun _ => rfl) fun X W C pa => ?_
  unfold b__law_whole
  exact ss_one (s_ret (e_and (e_isi kitT_int (gloB_of C (by decide +kernel)) (mgn C b_isinstance) (gloB_of C (by decide +kernel)) (mgn C b_int) rfl (n_var C 0 "value" rfl (by decide +kernel) dbg_value cld_value)) (e_one (e_not (e_isi kitT_bool (gloB_of C (by decide +kernel)) (mgn C b_isinstance) (gloB_of C (by decide +kernel)) (mgn C b_bool) rfl (n_var C 0 "value" rfl (by decide +kernel) dbg_value cld_value))))))
theorem sc__law_fails : FnScope N__law_fails ["odds", "tries"] (defScope (top 47)) := ⟨rfl, rfl, rfl, by decide +kernel, rfl, by decide +kernel, by decide +kernel⟩
theorem ok__law_fails (nn : Bool) (T : TF K mg g Ca Ci AW) : Fok nn PP w K mg base 1 "_law_fails" (spP (ck K g) 2 m__law_fails) := by
  have b_range := T.b_range
  refine fok_pure (k := 0) (N := N__law_fails) (body := b__law_fails) T.f__law_fails sc__law_fails rfl (by decide) (fun _ => rfl) fun X W C pa => ?_
  unfold b__law_fails
  exact ss_cons (s_asg (vs := [3, 4]) (e_tup rfl (a_cons (.inl rfl) (e_int) (a_cons (.inl rfl) (e_int) (a_nil)))) (g_tup C.calm (g_cons (g_name (n_pg C 3 "up" rfl (by decide +kernel)) (by decide)) (g_cons (g_name (n_pg C 4 "down" rfl (by decide +kernel)) (by decide)) (g_nil)))) rfl ((sws_eq C.es _ _).trans (by rfl)))
      (ss_cons (s_for (vs := [2]) C (i_rng1 (gloB_of C (by decide +kernel)) (mgn C b_range) (a_cons (.inl rfl) (n_var C 1 "tries" rfl (by decide +kernel) dbg_tries cld_tries) (a_nil))) (g_name (n_pg C 2 "k" rfl (by decide +kernel)) (by decide)) (ss_one (s_par C 3 4 rfl rfl (by decide) (by decide +kernel) (by decide +kernel) rfl (a_cons (.inl rfl) (eMul (.inl rfl) (n_var C 3 "up" rfl (by decide +kernel) dbg_up cld_up) (eSub (.inl rfl) (eIx (.inl rfl) (n_var C 0 "odds" rfl (by decide +kernel) dbg_odds cld_odds) (e_int)) (eIx (.inl rfl) (n_var C 0 "odds" rfl (by decide +kernel) dbg_odds cld_odds) (e_int)))) (a_cons (.inl rfl) (eMul (.inl rfl) (n_var C 4 "down" rfl (by decide +kernel) dbg_down cld_down) (eIx (.inl rfl) (n_var C 0 "odds" rfl (by decide +kernel) dbg_odds cld_odds) (e_int))) (a_nil))) (by rfl))))
      (ss_one (s_ret (e_tup rfl (a_cons (.inl rfl) (n_var C 3 "up" rfl (by decide +kernel) dbg_up cld_up) (a_cons (.inl rfl) (n_var C 4 "down" rfl (by decide +kernel) dbg_down cld_down) (a_nil)))))))
theorem sc__law_better_due : FnScope N__law_better_due ["rows", "shares", "one", "other"] (defScope (top 48)) := ⟨rfl, rfl, rfl, by decide +kernel, rfl, by decide +kernel, by decide +kernel⟩
theorem ok__law_better_due (nn : Bool) (T : TF K mg g Ca Ci AW) : Fok nn PP w K mg base 2 "_law_better_due" (spP (ck K g) 4 m__law_better_due) := by
  have b_int := T.b_int
  have b_len := T.b_len
  have b_range := T.b_range
  have b_tuple := T.b_tuple
  have F__law_whole := ok__law_whole (w := w) (base := base) nn T
  have F__law_fails := ok__law_fails (w := w) (base := base) nn T
  refine fok_pure (k := 1) (N := N__law_better_due) (body := b__law_better_due) T.f__law_better_due sc__law_better_due rfl (by decide) (fun _ => rfl) fun X W C pa => ?_
  unfold b__law_better_due
  exact ss_cons (s_set C 4 rfl (by decide +kernel) (e_callB call_len vc_len bLen_nr (gloB_of C (by decide +kernel)) (mgn C b_len) rfl (a_cons (.inl rfl) (n_var C 0 "rows" rfl (by decide +kernel) dbg_rows cld_rows) (a_nil))))
      (ss_cons (s_if (t_w (w_or (t_not (tTruth (e_call C F__law_whole (by decide) (by decide +kernel) rfl (a_cons (.inl rfl) (n_var C 2 "one" rfl (by decide +kernel) dbg_one cld_one) (a_nil)) dbg__law_whole))) (w_or (t_not (tTruth (e_call C F__law_whole (by decide) (by decide +kernel) rfl (a_cons (.inl rfl) (n_var C 3 "other" rfl (by decide +kernel) dbg_other cld_other) (a_nil)) dbg__law_whole))) (w_or (t_not (t_chain op_leD op_ltD vb_cmpI vb_cmpI dCmpI_nr dCmpI_nr rfl (e_int) (n_var C 2 "one" rfl (by decide +kernel) dbg_one cld_one) (n_var C 4 "many" rfl (by decide +kernel) dbg_many cld_many))) (w_or (t_not (t_chain op_leD op_ltD vb_cmpI vb_cmpI dCmpI_nr dCmpI_nr rfl (e_int) (n_var C 3 "other" rfl (by decide +kernel) dbg_other cld_other) (n_var C 4 "many" rfl (by decide +kernel) dbg_many cld_many))) (w_or1 (tEq C (.inl rfl) (n_var C 2 "one" rfl (by decide +kernel) dbg_one cld_one) (n_var C 3 "other" rfl (by decide +kernel) dbg_other cld_other)))))))) (ss_one (s_ret (e_str))) (ss_nil))
      (ss_cons (s_if (tLt (.inl rfl) (eIx (.inl rfl) (n_var C 1 "shares" rfl (by decide +kernel) dbg_shares cld_shares) (n_var C 2 "one" rfl (by decide +kernel) dbg_one cld_one)) (e_int)) (ss_one (s_ret (e_str))) (ss_nil))
      (ss_cons (s_setO C 5 rfl (by decide +kernel) (f_lst rfl (a_nil)))
      (ss_cons (s_for (vs := [6]) C (i_items (DF.val (f_lst rfl (a_cons (.inl rfl) (n_var C 1 "shares" rfl (by decide +kernel) dbg_shares cld_shares) (a_cons (.inl rfl) (e_callT call_tuple_of vc_tuple bTuple_nr (gloB_of C (by decide +kernel)) (mgn C b_tuple) rfl (a_cons (.inl rfl) (DF.val (f_lc C [("k", 7)] (by decide +kernel) (i_rng1 (gloB_of C (by decide +kernel)) (mgn C b_range) (a_cons (.inl rfl) (n_var C 4 "many" rfl (by decide +kernel) dbg_many cld_many) (a_nil))) (fun s1 H1 A1 l1 p1 => g_name (n_tg C s1 H1 A1 l1 p1 7 rfl (by decide +kernel)) (by decide)) (fun s1 H1 A1 l1 p1 => c_nil) (fun s1 H1 A1 l1 p1 => eAdd (.inl rfl) (eSub (.inl rfl) (eIx (.inl rfl) (n_var (C.blk s1 H1 _ A1 l1 p1) 1 "shares" rfl (by decide +kernel) dbg_shares cld_shares) (n_var (C.blk s1 H1 _ A1 l1 p1) 7 "k" rfl (by decide +kernel) dbg_k cld_k)) (e_callT call_int1 vc_int bInt_nr (gloB_of (C.blk s1 H1 _ A1 l1 p1) (by decide +kernel)) (mgn (C.blk s1 H1 _ A1 l1 p1) b_int) rfl (a_cons (.inl rfl) (eEq (C.blk s1 H1 _ A1 l1 p1) (.inl rfl) (n_var (C.blk s1 H1 _ A1 l1 p1) 7 "k" rfl (by decide +kernel) dbg_k cld_k) (n_var (C.blk s1 H1 _ A1 l1 p1) 2 "one" rfl (by decide +kernel) dbg_one cld_one)) (a_nil)))) (e_callT call_int1 vc_int bInt_nr (gloB_of (C.blk s1 H1 _ A1 l1 p1) (by decide +kernel)) (mgn (C.blk s1 H1 _ A1 l1 p1) b_int) rfl (a_cons (.inl rfl) (eEq (C.blk s1 H1 _ A1 l1 p1) (.inl rfl) (n_var (C.blk s1 H1 _ A1 l1 p1) 7 "k" rfl (by decide +kernel) dbg_k cld_k) (n_var (C.blk s1 H1 _ A1 l1 p1) 3 "other" rfl (by decide +kernel) dbg_other cld_other)) (a_nil)))))) (a_nil))) (a_nil)))))) (g_name (n_pg C 6 "row" rfl (by decide +kernel)) (by decide)) (ss_cons (s_asg (vs := [8, 9]) (e_tup rfl (a_cons (.inl rfl) (e_int) (a_cons (.inl rfl) (e_int) (a_nil)))) (g_tup C.calm (g_cons (g_name (n_pg C 8 "up" rfl (by decide +kernel)) (by decide)) (g_cons (g_name (n_pg C 9 "down" rfl (by decide +kernel)) (by decide)) (g_nil)))) rfl ((sws_eq C.es _ _).trans (by rfl)))
      (ss_cons (s_for (vs := [7]) C (i_items (DF.val (f_lst rfl (a_cons (.inl rfl) (n_var C 2 "one" rfl (by decide +kernel) dbg_one cld_one) (a_cons (.inl rfl) (n_var C 3 "other" rfl (by decide +kernel) dbg_other cld_other) (a_nil)))))) (g_name (n_pg C 7 "k" rfl (by decide +kernel)) (by decide)) (ss_cons (s_asg (vs := [10, 11]) (e_call C F__law_fails (by decide) (by decide +kernel) rfl (a_cons (.inl rfl) (eIx (.inl rfl) (n_var C 0 "rows" rfl (by decide +kernel) dbg_rows cld_rows) (n_var C 7 "k" rfl (by decide +kernel) dbg_k cld_k)) (a_cons (.inl rfl) (eIx (.inl rfl) (n_var C 6 "row" rfl (by decide +kernel) dbg_row cld_row) (n_var C 7 "k" rfl (by decide +kernel) dbg_k cld_k)) (a_nil))) dbg__law_fails) (g_tup C.calm (g_cons (g_name (n_pg C 10 "gone" rfl (by decide +kernel)) (by decide)) (g_cons (g_name (n_pg C 11 "every" rfl (by decide +kernel)) (by decide)) (g_nil)))) rfl ((sws_eq C.es _ _).trans (by rfl)))
      (ss_one (s_par C 8 9 rfl rfl (by decide) (by decide +kernel) (by decide +kernel) rfl (a_cons (.inl rfl) (eMul (.inl rfl) (n_var C 8 "up" rfl (by decide +kernel) dbg_up cld_up) (eSub (.inl rfl) (n_var C 11 "every" rfl (by decide +kernel) dbg_every cld_every) (n_var C 10 "gone" rfl (by decide +kernel) dbg_gone cld_gone))) (a_cons (.inl rfl) (eMul (.inl rfl) (n_var C 9 "down" rfl (by decide +kernel) dbg_down cld_down) (n_var C 11 "every" rfl (by decide +kernel) dbg_every cld_every)) (a_nil))) (by rfl)))))
      (ss_one (s_drop (e_meth PySem.F.plainAttrs_list PySem.F.slot_list_append PySem.F.type_list_append mt_append vm_app fApp_nr rfl (n_pe C 5 "wholes" rfl (by decide +kernel) dbg_wholes cld_wholes) (a_cons (.inl rfl) (e_tup rfl (a_cons (.inl rfl) (n_var C 8 "up" rfl (by decide +kernel) dbg_up cld_up) (a_cons (.inl rfl) (n_var C 9 "down" rfl (by decide +kernel) dbg_down cld_down) (a_nil)))) (a_nil))))))))
      (ss_cons (s_if (tTruth (DF.val (f_lc C [("k", 7)] (by decide +kernel) (i_rng1 (gloB_of C (by decide +kernel)) (mgn C b_range) (a_cons (.inl rfl) (n_var C 4 "many" rfl (by decide +kernel) dbg_many cld_many) (a_nil))) (fun s2 H2 A2 l2 p2 => g_name (n_tg C s2 H2 A2 l2 p2 7 rfl (by decide +kernel)) (by decide)) (fun s2 H2 A2 l2 p2 => c_one (t_w (w_and (tNe (C.blk s2 H2 _ A2 l2 p2) (.inl rfl) (n_var (C.blk s2 H2 _ A2 l2 p2) 7 "k" rfl (by decide +kernel) dbg_k cld_k) (n_var (C.blk s2 H2 _ A2 l2 p2) 2 "one" rfl (by decide +kernel) dbg_one cld_one)) (w_and (tNe (C.blk s2 H2 _ A2 l2 p2) (.inl rfl) (n_var (C.blk s2 H2 _ A2 l2 p2) 7 "k" rfl (by decide +kernel) dbg_k cld_k) (n_var (C.blk s2 H2 _ A2 l2 p2) 3 "other" rfl (by decide +kernel) dbg_other cld_other)) (w_and1 (tEq (C.blk s2 H2 _ A2 l2 p2) (.inl rfl) (eIx (.inl rfl) (eIx (.inl rfl) (n_var (C.blk s2 H2 _ A2 l2 p2) 0 "rows" rfl (by decide +kernel) dbg_rows cld_rows) (n_var (C.blk s2 H2 _ A2 l2 p2) 7 "k" rfl (by decide +kernel) dbg_k cld_k)) (e_int)) (e_int))))))) (fun s2 H2 A2 l2 p2 => n_var (C.blk s2 H2 _ A2 l2 p2) 7 "k" rfl (by decide +kernel) dbg_k cld_k)))) (ss_one (s_ret (e_str))) (ss_nil))
      (ss_one (s_ret (e_if (tLt (.inl rfl) (eMul (.inl rfl) (eIx (.inl rfl) (eIx (.inr rfl) (n_varO C 5 "wholes" rfl (by decide +kernel) dbg_wholes cld_wholes) (e_int)) (e_int)) (eIx (.inl rfl) (eIx (.inr rfl) (n_varO C 5 "wholes" rfl (by decide +kernel) dbg_wholes cld_wholes) (e_int)) (e_int))) (eMul (.inl rfl) (eIx (.inl rfl) (eIx (.inr rfl) (n_varO C 5 "wholes" rfl (by decide +kernel) dbg_wholes cld_wholes) (e_int)) (e_int)) (eIx (.inl rfl) (eIx (.inr rfl) (n_varO C 5 "wholes" rfl (by decide +kernel) dbg_wholes cld_wholes) (e_int)) (e_int)))) (DF.val (f_lst rfl (a_cons (.inl rfl) (e_non) (a_nil)))) (e_str)))))))))
theorem sc_law : FnScope N_law ["script"] (defScope (top 49)) := ⟨rfl, rfl, rfl, by decide +kernel, rfl, by decide +kernel, by decide +kernel⟩
theorem fn_law (T : TF K mg g Ca Ci AW) {f : Addr} {fd : FuncData} (h2 : Fun K "law" "law" (top 49) f fd) : FnOk PP w K mg base (CXn false PP w) 8 f fd ["script"] (spP (ck K g) 1 m_law) := by
  have b_isinstance := T.b_isinstance
  have b_list := T.b_list
  have b_min := T.b_min
  have b_range := T.b_range
  have b_tuple := T.b_tuple
  obtain ⟨a_least_tries, v_least_tries⟩ := T.v_least_tries
  obtain ⟨a_chance_within, v_chance_within⟩ := T.v_chance_within
  obtain ⟨a_chance_at, v_chance_at⟩ := T.v_chance_at
  obtain ⟨a_mean_tries, v_mean_tries⟩ := T.v_mean_tries
  obtain ⟨a_best_shares, v_best_shares⟩ := T.v_best_shares
  obtain ⟨a_begins, v_begins⟩ := T.v_begins
  obtain ⟨a_most_tries, v_most_tries⟩ := T.v_most_tries
  obtain ⟨a_accept_better, v_accept_better⟩ := T.v_accept_better
  obtain ⟨a_chance_of_all, v_chance_of_all⟩ := T.v_chance_of_all
  obtain ⟨a_judge_shares, v_judge_shares⟩ := T.v_judge_shares
  have F__law_start := ok__law_start (w := w) (base := base) false T
  have F__law_pick := ok__law_pick (w := w) (base := base) false T
  have F__law_draw := ok__law_draw (w := w) (base := base) false T
  have F__law_heard := ok__law_heard (w := w) (base := base) T
  have F__law_better_due := ok__law_better_due (w := w) (base := base) false T
  refine def_pure (k := 7) (N := N_law) (body := b_law) h2 sc_law (by decide) (fun _ => rfl) fun X W C pa => ?_
  unfold b_law
  exact ss_cons (s_setO C 1 rfl (by decide +kernel) (f_call C F__law_start (by decide) (by decide +kernel) rfl (a_cons (.inl rfl) (n_var C 0 "script" rfl (by decide +kernel) dbg_script cld_script) (a_nil)) dbg__law_start))
      (ss_cons (s_for (vs := [2]) C (i_rng1 (gloB_of C (by decide +kernel)) (mgn C b_range) (a_cons (.inl rfl) (e_int) (a_nil))) (g_name (n_pg C 2 "turn" rfl (by decide +kernel)) (by decide)) (ss_cons (s_set C 11 rfl (by decide +kernel) (e_callO C F__law_pick (by decide) (by decide +kernel) rfl 1 (n_pe C 1 "state" rfl (by decide +kernel) dbg_state cld_state) (a_cons (.inl rfl) (DF.val (f_lst rfl (a_cons (.inl rfl) (e_int) (a_cons (.inl rfl) (e_int) (a_cons (.inl rfl) (e_int) (a_cons (.inl rfl) (e_int) (a_cons (.inl rfl) (e_int) (a_nil)))))))) (a_nil)) dbg__law_pick))
      (ss_cons (s_setO C 8 rfl (by decide +kernel) (f_lst rfl (a_nil)))
      (ss_cons (s_for (vs := [12]) C (i_rng1 (gloB_of C (by decide +kernel)) (mgn C b_range) (a_cons (.inl rfl) (n_var C 11 "many" rfl (by decide +kernel) dbg_many cld_many) (a_nil))) (g_name (n_pg C 12 "k" rfl (by decide +kernel)) (by decide)) (ss_cons (s_set C 13 rfl (by decide +kernel) (eAdd (.inl rfl) (e_int) (e_callO C F__law_draw (by decide) (by decide +kernel) rfl 1 (n_pe C 1 "state" rfl (by decide +kernel) dbg_state cld_state) (a_cons (.inl rfl) (e_callO C F__law_pick (by decide) (by decide +kernel) rfl 1 (n_pe C 1 "state" rfl (by decide +kernel) dbg_state cld_state) (a_cons (.inl rfl) (DF.val (f_lst rfl (a_cons (.inl rfl) (e_int) (a_cons (.inl rfl) (e_int) (a_cons (.inl rfl) (e_int) (a_nil)))))) (a_nil)) dbg__law_pick) (a_nil)) dbg__law_draw)))
      (ss_one (s_drop (e_meth PySem.F.plainAttrs_list PySem.F.slot_list_append PySem.F.type_list_append mt_append vm_app fApp_nr rfl (n_pe C 8 "rows" rfl (by decide +kernel) dbg_rows cld_rows) (a_cons (.inl rfl) (e_tup rfl (a_cons (.inl rfl) (e_callO C F__law_pick (by decide) (by decide +kernel) rfl 1 (n_pe C 1 "state" rfl (by decide +kernel) dbg_state cld_state) (a_cons (.inl rfl) (DF.val (f_lst rfl (a_cons (.inl rfl) (e_callB (cr_minA C.calm) vc_min bMin_nr (gloB_of C (by decide +kernel)) (mgn C b_min) rfl (a_cons (.inl rfl) (DF.val (f_lst rfl (a_cons (.inl rfl) (e_int) (a_cons (.inl rfl) (n_var C 13 "down" rfl (by decide +kernel) dbg_down cld_down) (a_nil))))) (a_nil))) (a_cons (.inl rfl) (e_callO C F__law_draw (by decide) (by decide +kernel) rfl 1 (n_pe C 1 "state" rfl (by decide +kernel) dbg_state cld_state) (a_cons (.inl rfl) (eAdd (.inl rfl) (n_var C 13 "down" rfl (by decide +kernel) dbg_down cld_down) (e_int)) (a_nil)) dbg__law_draw) (a_cons (.inl rfl) (eSub (.inl rfl) (n_var C 13 "down" rfl (by decide +kernel) dbg_down cld_down) (e_int)) (a_nil)))))) (a_nil)) dbg__law_pick) (a_cons (.inl rfl) (n_var C 13 "down" rfl (by decide +kernel) dbg_down cld_down) (a_nil)))) (a_nil)))))))
      (ss_cons (s_asg (vs := [8, 9]) (e_tup rfl (a_cons (.inl rfl) (e_callT call_tuple_of vc_tuple bTuple_nr (gloB_of C (by decide +kernel)) (mgn C b_tuple) rfl (a_cons (.inr rfl) (n_varO C 8 "rows" rfl (by decide +kernel) dbg_rows cld_rows) (a_nil))) (a_cons (.inl rfl) (e_callT call_tuple_of vc_tuple bTuple_nr (gloB_of C (by decide +kernel)) (mgn C b_tuple) rfl (a_cons (.inl rfl) (DF.val (f_lc C [("k", 12)] (by decide +kernel) (i_rng1 (gloB_of C (by decide +kernel)) (mgn C b_range) (a_cons (.inl rfl) (n_var C 11 "many" rfl (by decide +kernel) dbg_many cld_many) (a_nil))) (fun s1 H1 A1 l1 p1 => g_name (n_tg C s1 H1 A1 l1 p1 12 rfl (by decide +kernel)) (by decide)) (fun s1 H1 A1 l1 p1 => c_nil) (fun s1 H1 A1 l1 p1 => eAdd (.inl rfl) (e_int) (e_callO (C.blk s1 H1 _ A1 l1 p1) F__law_draw (by decide) (by decide +kernel) rfl 1 (n_pe (C.blk s1 H1 _ A1 l1 p1) 1 "state" rfl (by decide +kernel) dbg_state cld_state) (a_cons (.inl rfl) (e_int) (a_nil)) dbg__law_draw)))) (a_nil))) (a_nil)))) (g_tup C.calm (g_cons (g_name (n_pg C 8 "rows" rfl (by decide +kernel)) (by decide)) (g_cons (g_name (n_pg C 9 "shares" rfl (by decide +kernel)) (by decide)) (g_nil)))) rfl ((sws_eq C.es _ _).trans (by rfl)))
      (ss_one (s_for (vs := [12]) C (i_rng1 (gloB_of C (by decide +kernel)) (mgn C b_range) (a_cons (.inl rfl) (e_int) (a_nil))) (g_name (n_pg C 12 "k" rfl (by decide +kernel)) (by decide)) (ss_cons (s_set C 14 rfl (by decide +kernel) (e_callO C F__law_pick (by decide) (by decide +kernel) rfl 1 (n_pe C 1 "state" rfl (by decide +kernel) dbg_state cld_state) (a_cons (.inl rfl) (DF.val (f_lst rfl (a_cons (.inl rfl) (e_callO C F__law_draw (by decide) (by decide +kernel) rfl 1 (n_pe C 1 "state" rfl (by decide +kernel) dbg_state cld_state) (a_cons (.inl rfl) (n_var C 11 "many" rfl (by decide +kernel) dbg_many cld_many) (a_nil)) dbg__law_draw) (a_cons (.inl rfl) (eSub (.inl rfl) (n_var C 11 "many" rfl (by decide +kernel) dbg_many cld_many) (e_int)) (a_cons (.inl rfl) (e_neg (e_int)) (a_cons (.inl rfl) (n_var C 11 "many" rfl (by decide +kernel) dbg_many cld_many) (a_cons (.inl rfl) (e_non) (a_cons (.inl rfl) (e_bl) (a_cons (.inl rfl) (e_str) (a_nil)))))))))) (a_nil)) dbg__law_pick))
      (ss_cons (s_set C 15 rfl (by decide +kernel) (e_callO C F__law_pick (by decide) (by decide +kernel) rfl 1 (n_pe C 1 "state" rfl (by decide +kernel) dbg_state cld_state) (a_cons (.inl rfl) (DF.val (f_lst rfl (a_cons (.inl rfl) (e_callO C F__law_draw (by decide) (by decide +kernel) rfl 1 (n_pe C 1 "state" rfl (by decide +kernel) dbg_state cld_state) (a_cons (.inl rfl) (n_var C 11 "many" rfl (by decide +kernel) dbg_many cld_many) (a_nil)) dbg__law_draw) (a_cons (.inl rfl) (e_callO C F__law_draw (by decide) (by decide +kernel) rfl 1 (n_pe C 1 "state" rfl (by decide +kernel) dbg_state cld_state) (a_cons (.inl rfl) (n_var C 11 "many" rfl (by decide +kernel) dbg_many cld_many) (a_nil)) dbg__law_draw) (a_cons (.inl rfl) (e_int) (a_cons (.inl rfl) (eSub (.inl rfl) (n_var C 11 "many" rfl (by decide +kernel) dbg_many cld_many) (e_int)) (a_cons (.inl rfl) (e_non) (a_cons (.inl rfl) (e_tup rfl (a_cons (.inl rfl) (e_int) (a_nil))) (a_nil))))))))) (a_nil)) dbg__law_pick))
      (ss_one (s_if (tNe C (.inl rfl) (e_call C F__law_heard (by decide) (by decide +kernel) rfl (a_cons (.inl rfl) (n_fn C (by decide +kernel) v_accept_better.1 v_accept_better.2 dbg_accept_better) (a_cons (.inl rfl) (DF.val (f_lst rfl (a_cons (.inl rfl) (n_var C 8 "rows" rfl (by decide +kernel) dbg_rows cld_rows) (a_cons (.inl rfl) (n_var C 9 "shares" rfl (by decide +kernel) dbg_shares cld_shares) (a_cons (.inl rfl) (n_var C 14 "one" rfl (by decide +kernel) dbg_one cld_one) (a_cons (.inl rfl) (n_var C 15 "other" rfl (by decide +kernel) dbg_other cld_other) (a_nil))))))) (a_nil))) dbg__law_heard) (e_call C F__law_better_due (by decide) (by decide +kernel) rfl (a_cons (.inl rfl) (n_var C 8 "rows" rfl (by decide +kernel) dbg_rows cld_rows) (a_cons (.inl rfl) (n_var C 9 "shares" rfl (by decide +kernel) dbg_shares cld_shares) (a_cons (.inl rfl) (n_var C 14 "one" rfl (by decide +kernel) dbg_one cld_one) (a_cons (.inl rfl) (n_var C 15 "other" rfl (by decide +kernel) dbg_other cld_other) (a_nil))))) dbg__law_better_due)) (ss_never) (ss_nil))))))))))))
      (ss_cons (s_set C 3 rfl (by decide +kernel) (e_callO C F__law_pick (by decide) (by decide +kernel) rfl 1 (n_pe C 1 "state" rfl (by decide +kernel) dbg_state cld_state) (a_cons (.inl rfl) (DF.val (f_lst rfl (a_cons (.inl rfl) (e_non) (a_cons (.inl rfl) (e_tup rfl (a_nil)) (a_cons (.inl rfl) (e_tup rfl (a_cons (.inl rfl) (e_int) (a_nil))) (a_cons (.inl rfl) (e_tup rfl (a_cons (.inl rfl) (e_int) (a_cons (.inl rfl) (e_int) (a_nil)))) (a_cons (.inl rfl) (e_tup rfl (a_cons (.inl rfl) (e_neg (e_int)) (a_cons (.inl rfl) (e_int) (a_nil)))) (a_cons (.inl rfl) (e_tup rfl (a_cons (.inl rfl) (e_int) (a_cons (.inl rfl) (e_int) (a_nil)))) (a_cons (.inl rfl) (e_tup rfl (a_cons (.inl rfl) (e_int) (a_cons (.inl rfl) (e_int) (a_nil)))) (a_cons (.inl rfl) (e_tup rfl (a_cons (.inl rfl) (e_bl) (a_cons (.inl rfl) (e_int) (a_nil)))) (a_cons (.inl rfl) (e_tup rfl (a_cons (.inl rfl) (e_int) (a_cons (.inl rfl) (e_bl) (a_nil)))) (a_cons (.inl rfl) (e_tup rfl (a_cons (.inl rfl) (e_str) (a_cons (.inl rfl) (e_int) (a_nil)))) (a_cons (.inl rfl) (e_tup rfl (a_cons (.inl rfl) (e_int) (a_cons (.inl rfl) (e_int) (a_cons (.inl rfl) (e_int) (a_nil))))) (a_cons (.inl rfl) (e_int) (a_cons (.inl rfl) (DF.val (f_lst rfl (a_cons (.inl rfl) (e_int) (a_cons (.inl rfl) (e_int) (a_nil))))) (a_nil)))))))))))))))) (a_nil)) dbg__law_pick))
      (ss_cons (s_setLc C [("way", 16)] (by decide +kernel) rfl 4 rfl (by decide +kernel) (i_items (DF.val (f_lst rfl (a_cons (.inl rfl) (n_fn C (by decide +kernel) v_chance_within.1 v_chance_within.2 dbg_chance_within) (a_cons (.inl rfl) (n_fn C (by decide +kernel) v_chance_at.1 v_chance_at.2 dbg_chance_at) (a_cons (.inl rfl) (n_fn C (by decide +kernel) v_mean_tries.1 v_mean_tries.2 dbg_mean_tries) (a_cons (.inl rfl) (n_fn C (by decide +kernel) v_least_tries.1 v_least_tries.2 dbg_least_tries) (a_nil)))))))) (fun s2 H2 A2 l2 p2 => g_name (n_tg C s2 H2 A2 l2 p2 16 rfl (by decide +kernel)) (by decide)) (fun s2 H2 A2 l2 p2 => c_nil) (fun s2 H2 A2 l2 p2 => e_call (C.blk s2 H2 _ A2 l2 p2) F__law_heard (by decide) (by decide +kernel) rfl (a_cons (.inl rfl) (n_var (C.blk s2 H2 _ A2 l2 p2) 16 "way" rfl (by decide +kernel) dbg_way cld_way) (a_cons (.inl rfl) (DF.val (f_lst rfl (a_cons (.inl rfl) (n_var (C.blk s2 H2 _ A2 l2 p2) 3 "odds" rfl (by decide +kernel) dbg_odds cld_odds) (a_cons (.inl rfl) (e_non) (a_nil))))) (a_nil))) dbg__law_heard))
      (ss_cons (s_if (tNe C (.inl rfl) (n_var C 4 "told" rfl (by decide +kernel) dbg_told cld_told) (eMul (.inl rfl) (DF.val (f_lst rfl (a_cons (.inl rfl) (e_str) (a_nil)))) (e_int))) (ss_never) (ss_nil))
      (ss_cons (s_set C 5 rfl (by decide +kernel) (e_callO C F__law_pick (by decide) (by decide +kernel) rfl 1 (n_pe C 1 "state" rfl (by decide +kernel) dbg_state cld_state) (a_cons (.inl rfl) (DF.val (f_lst rfl (a_cons (.inl rfl) (e_non) (a_cons (.inl rfl) (e_neg (e_int)) (a_cons (.inl rfl) (e_int) (a_cons (.inl rfl) (e_bl) (a_cons (.inl rfl) (e_str) (a_cons (.inl rfl) (e_tup rfl (a_cons (.inl rfl) (e_int) (a_nil))) (a_nil))))))))) (a_nil)) dbg__law_pick))
      (ss_cons (s_set C 4 rfl (by decide +kernel) (eAdd (.inl rfl) (DF.val (f_lc C [("way", 16)] (by decide +kernel) (i_items (DF.val (f_lst rfl (a_cons (.inl rfl) (n_fn C (by decide +kernel) v_chance_within.1 v_chance_within.2 dbg_chance_within) (a_cons (.inl rfl) (n_fn C (by decide +kernel) v_mean_tries.1 v_mean_tries.2 dbg_mean_tries) (a_nil)))))) (fun s3 H3 A3 l3 p3 => g_name (n_tg C s3 H3 A3 l3 p3 16 rfl (by decide +kernel)) (by decide)) (fun s3 H3 A3 l3 p3 => c_nil) (fun s3 H3 A3 l3 p3 => e_call (C.blk s3 H3 _ A3 l3 p3) F__law_heard (by decide) (by decide +kernel) rfl (a_cons (.inl rfl) (n_var (C.blk s3 H3 _ A3 l3 p3) 16 "way" rfl (by decide +kernel) dbg_way cld_way) (a_cons (.inl rfl) (DF.val (f_lst rfl (a_cons (.inl rfl) (e_tup rfl (a_cons (.inl rfl) (e_int) (a_cons (.inl rfl) (e_int) (a_nil)))) (a_cons (.inl rfl) (n_var (C.blk s3 H3 _ A3 l3 p3) 5 "tries" rfl (by decide +kernel) dbg_tries cld_tries) (a_nil))))) (a_nil))) dbg__law_heard))) (DF.val (f_lst rfl (a_cons (.inl rfl) (e_call C F__law_heard (by decide) (by decide +kernel) rfl (a_cons (.inl rfl) (n_fn C (by decide +kernel) v_best_shares.1 v_best_shares.2 dbg_best_shares) (a_cons (.inl rfl) (DF.val (f_lst rfl (a_cons (.inl rfl) (e_tup rfl (a_cons (.inl rfl) (e_tup rfl (a_cons (.inl rfl) (e_int) (a_cons (.inl rfl) (e_int) (a_nil)))) (a_nil))) (a_cons (.inl rfl) (n_var C 5 "tries" rfl (by decide +kernel) dbg_tries cld_tries) (a_nil))))) (a_nil))) dbg__law_heard) (a_cons (.inl rfl) (e_call C F__law_heard (by decide) (by decide +kernel) rfl (a_cons (.inl rfl) (n_fn C (by decide +kernel) v_begins.1 v_begins.2 dbg_begins) (a_cons (.inl rfl) (DF.val (f_lst rfl (a_cons (.inl rfl) (e_tup rfl (a_cons (.inl rfl) (e_int) (a_cons (.inl rfl) (e_int) (a_cons (.inl rfl) (e_int) (a_nil))))) (a_cons (.inl rfl) (e_int) (a_cons (.inl rfl) (n_var C 5 "tries" rfl (by decide +kernel) dbg_tries cld_tries) (a_nil)))))) (a_nil))) dbg__law_heard) (a_nil)))))))
      (ss_cons (s_if (t_w (w_or (tNe C (.inl rfl) (n_var C 4 "told" rfl (by decide +kernel) dbg_told cld_told) (eMul (.inl rfl) (DF.val (f_lst rfl (a_cons (.inl rfl) (e_str) (a_nil)))) (e_int))) (w_or1 (tNe C (.inl rfl) (e_call C F__law_heard (by decide) (by decide +kernel) rfl (a_cons (.inl rfl) (n_fn C (by decide +kernel) v_chance_at.1 v_chance_at.2 dbg_chance_at) (a_cons (.inl rfl) (DF.val (f_lst rfl (a_cons (.inl rfl) (e_tup rfl (a_cons (.inl rfl) (e_int) (a_cons (.inl rfl) (e_int) (a_nil)))) (a_cons (.inl rfl) (e_callO C F__law_pick (by decide) (by decide +kernel) rfl 1 (n_pe C 1 "state" rfl (by decide +kernel) dbg_state cld_state) (a_cons (.inl rfl) (DF.val (f_lst rfl (a_cons (.inl rfl) (e_non) (a_cons (.inl rfl) (e_int) (a_cons (.inl rfl) (e_neg (e_int)) (a_cons (.inl rfl) (e_int) (a_cons (.inl rfl) (e_bl) (a_cons (.inl rfl) (e_str) (a_nil))))))))) (a_nil)) dbg__law_pick) (a_nil))))) (a_nil))) dbg__law_heard) (e_str))))) (ss_never) (ss_nil))
      (ss_cons (s_if (tNe C (.inl rfl) (e_call C F__law_heard (by decide) (by decide +kernel) rfl (a_cons (.inl rfl) (n_fn C (by decide +kernel) v_least_tries.1 v_least_tries.2 dbg_least_tries) (a_cons (.inl rfl) (DF.val (f_lst rfl (a_cons (.inl rfl) (e_tup rfl (a_cons (.inl rfl) (e_int) (a_cons (.inl rfl) (e_int) (a_nil)))) (a_cons (.inl rfl) (n_var C 3 "odds" rfl (by decide +kernel) dbg_odds cld_odds) (a_nil))))) (a_nil))) dbg__law_heard) (e_str)) (ss_never) (ss_nil))
      (ss_cons (s_set C 6 rfl (by decide +kernel) (e_callO C F__law_pick (by decide) (by decide +kernel) rfl 1 (n_pe C 1 "state" rfl (by decide +kernel) dbg_state cld_state) (a_cons (.inl rfl) (DF.val (f_lst rfl (a_cons (.inl rfl) (e_non) (a_cons (.inl rfl) (e_tup rfl (a_nil)) (a_cons (.inl rfl) (e_tup rfl (a_cons (.inl rfl) (e_int) (a_cons (.inl rfl) (e_int) (a_nil)))) (a_cons (.inl rfl) (e_tup rfl (a_cons (.inl rfl) (e_int) (a_cons (.inl rfl) (e_int) (a_cons (.inl rfl) (e_int) (a_nil))))) (a_cons (.inl rfl) (e_tup rfl (a_cons (.inl rfl) (e_int) (a_cons (.inl rfl) (e_int) (a_cons (.inl rfl) (e_int) (a_nil))))) (a_cons (.inl rfl) (e_tup rfl (a_cons (.inl rfl) (e_neg (e_int)) (a_cons (.inl rfl) (e_int) (a_cons (.inl rfl) (e_int) (a_nil))))) (a_cons (.inl rfl) (e_tup rfl (a_cons (.inl rfl) (e_int) (a_cons (.inl rfl) (e_int) (a_cons (.inl rfl) (eAdd (.inl rfl) (ePow (.inl rfl) (e_int) (e_int)) (e_int)) (a_nil))))) (a_cons (.inl rfl) (e_tup rfl (a_cons (.inl rfl) (e_int) (a_cons (.inl rfl) (eAdd (.inl rfl) (ePow (.inl rfl) (e_int) (e_int)) (e_int)) (a_cons (.inl rfl) (e_int) (a_nil))))) (a_cons (.inl rfl) (e_tup rfl (a_cons (.inl rfl) (e_bl) (a_cons (.inl rfl) (e_int) (a_cons (.inl rfl) (e_int) (a_nil))))) (a_cons (.inl rfl) (e_tup rfl (a_cons (.inl rfl) (e_int) (a_cons (.inl rfl) (e_int) (a_cons (.inl rfl) (e_bl) (a_nil))))) (a_cons (.inl rfl) (e_tup rfl (a_cons (.inl rfl) (e_int) (a_cons (.inl rfl) (e_bl) (a_cons (.inl rfl) (e_int) (a_nil))))) (a_cons (.inl rfl) (e_int) (a_cons (.inl rfl) (DF.val (f_lst rfl (a_cons (.inl rfl) (e_int) (a_cons (.inl rfl) (e_int) (a_cons (.inl rfl) (e_int) (a_nil)))))) (a_cons (.inl rfl) (e_tup rfl (a_cons (.inl rfl) (e_int) (a_cons (.inl rfl) (e_int) (a_cons (.inl rfl) (e_int) (a_cons (.inl rfl) (e_int) (a_nil)))))) (a_nil))))))))))))))))) (a_nil)) dbg__law_pick))
      (ss_cons (s_set C 7 rfl (by decide +kernel) (e_callO C F__law_pick (by decide) (by decide +kernel) rfl 1 (n_pe C 1 "state" rfl (by decide +kernel) dbg_state cld_state) (a_cons (.inl rfl) (DF.val (f_lst rfl (a_cons (.inl rfl) (e_non) (a_cons (.inl rfl) (e_neg (e_int)) (a_cons (.inl rfl) (eAdd (.inl rfl) (ePow (.inl rfl) (e_int) (e_int)) (e_int)) (a_cons (.inl rfl) (e_bl) (a_cons (.inl rfl) (e_str) (a_nil)))))))) (a_nil)) dbg__law_pick))
      (ss_cons (s_set C 4 rfl (by decide +kernel) (eAdd (.inl rfl) (DF.val (f_lc C [("way", 16)] (by decide +kernel) (i_items (DF.val (f_lst rfl (a_cons (.inl rfl) (n_fn C (by decide +kernel) v_begins.1 v_begins.2 dbg_begins) (a_cons (.inl rfl) (n_fn C (by decide +kernel) v_most_tries.1 v_most_tries.2 dbg_most_tries) (a_nil)))))) (fun s4 H4 A4 l4 p4 => g_name (n_tg C s4 H4 A4 l4 p4 16 rfl (by decide +kernel)) (by decide)) (fun s4 H4 A4 l4 p4 => c_nil) (fun s4 H4 A4 l4 p4 => e_call (C.blk s4 H4 _ A4 l4 p4) F__law_heard (by decide) (by decide +kernel) rfl (a_cons (.inl rfl) (n_var (C.blk s4 H4 _ A4 l4 p4) 16 "way" rfl (by decide +kernel) dbg_way cld_way) (a_cons (.inl rfl) (DF.val (f_lst rfl (a_cons (.inl rfl) (n_var (C.blk s4 H4 _ A4 l4 p4) 6 "rule" rfl (by decide +kernel) dbg_rule cld_rule) (a_cons (.inl rfl) (n_var (C.blk s4 H4 _ A4 l4 p4) 7 "long" rfl (by decide +kernel) dbg_long cld_long) (a_cons (.inl rfl) (e_non) (a_nil)))))) (a_nil))) dbg__law_heard))) (DF.val (f_lc C [("way", 16)] (by decide +kernel) (i_items (DF.val (f_lst rfl (a_cons (.inl rfl) (n_fn C (by decide +kernel) v_begins.1 v_begins.2 dbg_begins) (a_cons (.inl rfl) (n_fn C (by decide +kernel) v_most_tries.1 v_most_tries.2 dbg_most_tries) (a_nil)))))) (fun s5 H5 A5 l5 p5 => g_name (n_tg C s5 H5 A5 l5 p5 16 rfl (by decide +kernel)) (by decide)) (fun s5 H5 A5 l5 p5 => c_nil) (fun s5 H5 A5 l5 p5 => e_call (C.blk s5 H5 _ A5 l5 p5) F__law_heard (by decide) (by decide +kernel) rfl (a_cons (.inl rfl) (n_var (C.blk s5 H5 _ A5 l5 p5) 16 "way" rfl (by decide +kernel) dbg_way cld_way) (a_cons (.inl rfl) (DF.val (f_lst rfl (a_cons (.inl rfl) (e_tup rfl (a_cons (.inl rfl) (e_int) (a_cons (.inl rfl) (e_int) (a_cons (.inl rfl) (e_int) (a_nil))))) (a_cons (.inl rfl) (n_var (C.blk s5 H5 _ A5 l5 p5) 7 "long" rfl (by decide +kernel) dbg_long cld_long) (a_cons (.inl rfl) (e_non) (a_nil)))))) (a_nil))) dbg__law_heard)))))
      (ss_cons (s_if (t_w (w_or (tNe C (.inl rfl) (n_var C 4 "told" rfl (by decide +kernel) dbg_told cld_told) (eAdd (.inl rfl) (eMul (.inl rfl) (DF.val (f_lst rfl (a_cons (.inl rfl) (e_str) (a_nil)))) (e_int)) (eMul (.inl rfl) (DF.val (f_lst rfl (a_cons (.inl rfl) (e_str) (a_nil)))) (e_int)))) (w_or1 (tNe C (.inl rfl) (e_call C F__law_heard (by decide) (by decide +kernel) rfl (a_cons (.inl rfl) (n_fn C (by decide +kernel) v_most_tries.1 v_most_tries.2 dbg_most_tries) (a_cons (.inl rfl) (DF.val (f_lst rfl (a_cons (.inl rfl) (e_tup rfl (a_cons (.inl rfl) (e_int) (a_cons (.inl rfl) (e_int) (a_cons (.inl rfl) (e_int) (a_nil))))) (a_cons (.inl rfl) (e_int) (a_cons (.inl rfl) (n_var C 7 "long" rfl (by decide +kernel) dbg_long cld_long) (a_nil)))))) (a_nil))) dbg__law_heard) (e_str))))) (ss_never) (ss_nil))
      (ss_cons (s_set C 8 rfl (by decide +kernel) (e_callO C F__law_pick (by decide) (by decide +kernel) rfl 1 (n_pe C 1 "state" rfl (by decide +kernel) dbg_state cld_state) (a_cons (.inl rfl) (DF.val (f_lst rfl (a_cons (.inl rfl) (e_non) (a_cons (.inl rfl) (e_tup rfl (a_nil)) (a_cons (.inl rfl) (eMul (.inl rfl) (e_tup rfl (a_cons (.inl rfl) (e_tup rfl (a_cons (.inl rfl) (e_int) (a_cons (.inl rfl) (e_int) (a_nil)))) (a_nil))) (e_int)) (a_cons (.inl rfl) (e_tup rfl (a_cons (.inl rfl) (e_tup rfl (a_cons (.inl rfl) (e_int) (a_cons (.inl rfl) (e_int) (a_nil)))) (a_cons (.inl rfl) (n_var C 3 "odds" rfl (by decide +kernel) dbg_odds cld_odds) (a_nil)))) (a_cons (.inl rfl) (e_tup rfl (a_cons (.inl rfl) (n_var C 3 "odds" rfl (by decide +kernel) dbg_odds cld_odds) (a_nil))) (a_cons (.inl rfl) (e_int) (a_cons (.inl rfl) (DF.val (f_lst rfl (a_cons (.inl rfl) (e_tup rfl (a_cons (.inl rfl) (e_int) (a_cons (.inl rfl) (e_int) (a_nil)))) (a_nil)))) (a_cons (.inl rfl) (e_tup rfl (a_cons (.inl rfl) (e_int) (a_cons (.inl rfl) (e_int) (a_nil)))) (a_nil))))))))))) (a_nil)) dbg__law_pick))
      (ss_cons (s_set C 4 rfl (by decide +kernel) (eAdd (.inl rfl) (DF.val (f_lc C [("way", 16)] (by decide +kernel) (i_items (DF.val (f_lst rfl (a_cons (.inl rfl) (n_fn C (by decide +kernel) v_chance_of_all.1 v_chance_of_all.2 dbg_chance_of_all) (a_cons (.inl rfl) (n_fn C (by decide +kernel) v_judge_shares.1 v_judge_shares.2 dbg_judge_shares) (a_cons (.inl rfl) (n_fn C (by decide +kernel) v_best_shares.1 v_best_shares.2 dbg_best_shares) (a_nil))))))) (fun s6 H6 A6 l6 p6 => g_name (n_tg C s6 H6 A6 l6 p6 16 rfl (by decide +kernel)) (by decide)) (fun s6 H6 A6 l6 p6 => c_nil) (fun s6 H6 A6 l6 p6 => e_call (C.blk s6 H6 _ A6 l6 p6) F__law_heard (by decide) (by decide +kernel) rfl (a_cons (.inl rfl) (n_var (C.blk s6 H6 _ A6 l6 p6) 16 "way" rfl (by decide +kernel) dbg_way cld_way) (a_cons (.inl rfl) (DF.val (f_lst rfl (a_cons (.inl rfl) (n_var (C.blk s6 H6 _ A6 l6 p6) 8 "rows" rfl (by decide +kernel) dbg_rows cld_rows) (a_cons (.inl rfl) (e_non) (a_nil))))) (a_nil))) dbg__law_heard))) (DF.val (f_lst rfl (a_cons (.inl rfl) (e_call C F__law_heard (by decide) (by decide +kernel) rfl (a_cons (.inl rfl) (n_fn C (by decide +kernel) v_accept_better.1 v_accept_better.2 dbg_accept_better) (a_cons (.inl rfl) (DF.val (f_lst rfl (a_cons (.inl rfl) (n_var C 8 "rows" rfl (by decide +kernel) dbg_rows cld_rows) (a_cons (.inl rfl) (e_non) (a_cons (.inl rfl) (e_non) (a_cons (.inl rfl) (e_non) (a_nil))))))) (a_nil))) dbg__law_heard) (a_nil))))))
      (ss_cons (s_if (tNe C (.inl rfl) (n_var C 4 "told" rfl (by decide +kernel) dbg_told cld_told) (eMul (.inl rfl) (DF.val (f_lst rfl (a_cons (.inl rfl) (e_str) (a_nil)))) (e_int))) (ss_never) (ss_nil))
      (ss_cons (s_set C 9 rfl (by decide +kernel) (e_callO C F__law_pick (by decide) (by decide +kernel) rfl 1 (n_pe C 1 "state" rfl (by decide +kernel) dbg_state cld_state) (a_cons (.inl rfl) (DF.val (f_lst rfl (a_cons (.inl rfl) (e_non) (a_cons (.inl rfl) (e_tup rfl (a_cons (.inl rfl) (e_int) (a_nil))) (a_cons (.inl rfl) (e_tup rfl (a_cons (.inl rfl) (e_int) (a_cons (.inl rfl) (e_int) (a_cons (.inl rfl) (e_int) (a_nil))))) (a_cons (.inl rfl) (e_tup rfl (a_cons (.inl rfl) (e_int) (a_cons (.inl rfl) (e_int) (a_nil)))) (a_cons (.inl rfl) (e_tup rfl (a_cons (.inl rfl) (e_int) (a_cons (.inl rfl) (e_neg (e_int)) (a_nil)))) (a_cons (.inl rfl) (e_tup rfl (a_cons (.inl rfl) (e_int) (a_cons (.inl rfl) (e_bl) (a_nil)))) (a_cons (.inl rfl) (e_tup rfl (a_cons (.inl rfl) (e_int) (a_cons (.inl rfl) (e_int) (a_nil)))) (a_cons (.inl rfl) (e_tup rfl (a_cons (.inl rfl) (e_str) (a_cons (.inl rfl) (e_int) (a_nil)))) (a_cons (.inl rfl) (e_int) (a_cons (.inl rfl) (DF.val (f_lst rfl (a_cons (.inl rfl) (e_int) (a_cons (.inl rfl) (e_int) (a_nil))))) (a_nil))))))))))))) (a_nil)) dbg__law_pick))
      (ss_cons (s_set C 10 rfl (by decide +kernel) (e_tup rfl (a_cons (.inl rfl) (e_tup rfl (a_cons (.inl rfl) (e_int) (a_cons (.inl rfl) (e_int) (a_nil)))) (a_cons (.inl rfl) (e_tup rfl (a_cons (.inl rfl) (e_int) (a_cons (.inl rfl) (e_int) (a_nil)))) (a_nil)))))
      (ss_cons (s_set C 4 rfl (by decide +kernel) (eAdd (.inl rfl) (DF.val (f_lc C [("way", 16)] (by decide +kernel) (i_items (DF.val (f_lst rfl (a_cons (.inl rfl) (n_fn C (by decide +kernel) v_chance_of_all.1 v_chance_of_all.2 dbg_chance_of_all) (a_cons (.inl rfl) (n_fn C (by decide +kernel) v_judge_shares.1 v_judge_shares.2 dbg_judge_shares) (a_nil)))))) (fun s7 H7 A7 l7 p7 => g_name (n_tg C s7 H7 A7 l7 p7 16 rfl (by decide +kernel)) (by decide)) (fun s7 H7 A7 l7 p7 => c_nil) (fun s7 H7 A7 l7 p7 => e_call (C.blk s7 H7 _ A7 l7 p7) F__law_heard (by decide) (by decide +kernel) rfl (a_cons (.inl rfl) (n_var (C.blk s7 H7 _ A7 l7 p7) 16 "way" rfl (by decide +kernel) dbg_way cld_way) (a_cons (.inl rfl) (DF.val (f_lst rfl (a_cons (.inl rfl) (n_var (C.blk s7 H7 _ A7 l7 p7) 10 "good" rfl (by decide +kernel) dbg_good cld_good) (a_cons (.inl rfl) (n_var (C.blk s7 H7 _ A7 l7 p7) 9 "shares" rfl (by decide +kernel) dbg_shares cld_shares) (a_nil))))) (a_nil))) dbg__law_heard))) (DF.val (f_lst rfl (a_cons (.inl rfl) (e_call C F__law_heard (by decide) (by decide +kernel) rfl (a_cons (.inl rfl) (n_fn C (by decide +kernel) v_accept_better.1 v_accept_better.2 dbg_accept_better) (a_cons (.inl rfl) (DF.val (f_lst rfl (a_cons (.inl rfl) (n_var C 10 "good" rfl (by decide +kernel) dbg_good cld_good) (a_cons (.inl rfl) (n_var C 9 "shares" rfl (by decide +kernel) dbg_shares cld_shares) (a_cons (.inl rfl) (e_non) (a_cons (.inl rfl) (e_non) (a_nil))))))) (a_nil))) dbg__law_heard) (a_nil))))))
      (ss_cons (s_if (tNe C (.inl rfl) (n_var C 4 "told" rfl (by decide +kernel) dbg_told cld_told) (eMul (.inl rfl) (DF.val (f_lst rfl (a_cons (.inl rfl) (e_str) (a_nil)))) (e_int))) (ss_never) (ss_nil))
      (ss_cons (s_set C 4 rfl (by decide +kernel) (eAdd (.inl rfl) (DF.val (f_lst rfl (a_cons (.inl rfl) (e_call C F__law_heard (by decide) (by decide +kernel) rfl (a_cons (.inl rfl) (n_fn C (by decide +kernel) v_chance_of_all.1 v_chance_of_all.2 dbg_chance_of_all) (a_cons (.inl rfl) (DF.val (f_lst rfl (a_cons (.inl rfl) (n_var C 10 "good" rfl (by decide +kernel) dbg_good cld_good) (a_cons (.inl rfl) (e_tup rfl (a_cons (.inl rfl) (e_int) (a_cons (.inl rfl) (e_int) (a_nil)))) (a_nil))))) (a_nil))) dbg__law_heard) (a_nil)))) (DF.val (f_lst rfl (a_cons (.inl rfl) (e_call C F__law_heard (by decide) (by decide +kernel) rfl (a_cons (.inl rfl) (n_fn C (by decide +kernel) v_begins.1 v_begins.2 dbg_begins) (a_cons (.inl rfl) (DF.val (f_lst rfl (a_cons (.inl rfl) (e_tup rfl (a_cons (.inl rfl) (ePow (.inl rfl) (e_int) (e_int)) (a_cons (.inl rfl) (ePow (.inl rfl) (e_int) (e_int)) (a_cons (.inl rfl) (ePow (.inl rfl) (e_int) (e_int)) (a_nil))))) (a_cons (.inl rfl) (ePow (.inl rfl) (e_int) (e_int)) (a_cons (.inl rfl) (e_int) (a_nil)))))) (a_nil))) dbg__law_heard) (a_cons (.inl rfl) (e_call C F__law_heard (by decide) (by decide +kernel) rfl (a_cons (.inl rfl) (n_fn C (by decide +kernel) v_best_shares.1 v_best_shares.2 dbg_best_shares) (a_cons (.inl rfl) (DF.val (f_lst rfl (a_cons (.inl rfl) (n_var C 10 "good" rfl (by decide +kernel) dbg_good cld_good) (a_cons (.inl rfl) (e_int) (a_nil))))) (a_nil))) dbg__law_heard) (a_nil)))))))
      (ss_one (s_ret (e_and (e_isi kitT_list (gloB_of C (by decide +kernel)) (mgn C b_isinstance) (gloB_of C (by decide +kernel)) (mgn C b_list) rfl (eIx (.inl rfl) (n_var C 4 "told" rfl (by decide +kernel) dbg_told cld_told) (e_int))) (e_one (eEq C (.inl rfl) (e_slice ⟨.inl rfl, .inl rfl⟩ (n_var C 4 "told" rfl (by decide +kernel) dbg_told cld_told) (o_some (e_int)) (o_none)) (DF.val (f_lst rfl (a_cons (.inl rfl) (DF.val (f_lst rfl (a_cons (.inl rfl) (e_tup rfl (a_cons (.inl rfl) (e_int) (a_cons (.inl rfl) (eMul (.inl rfl) (e_int) (ePow (.inl rfl) (e_int) (e_int))) (a_cons (.inl rfl) (eMul (.inl rfl) (e_int) (ePow (.inl rfl) (e_int) (e_int))) (a_nil))))) (a_nil)))) (a_cons (.inl rfl) (DF.val (f_lst rfl (a_cons (.inl rfl) (e_non) (a_nil)))) (a_nil))))))))))))))))))))))))))))))
end
end LW
end Dn

/-! P14a -/
set_option Elab.async false
set_option linter.all false
set_option maxRecDepth 100000
set_option maxHeartbeats 1000000
namespace Dn
namespace LW
open PySem
/-! ### the drawing -/
/-- a state of the drawing that may come -/
def Good (s : D) : Prop := ∃ (ns : List Int) (v p c : Int), s = .lst [.lst (ns.map D.int), .int v, .int p, .int c] ∧ 0 ≤ v ∧ 0 ≤ p ∧ 0 ≤ c ∧ c < 4294967296
theorem start_ok (ns : List Int) : ∃ s, m__law_start [.scr ns] = .ok s ∧ Good s := by
  have key : ∀ (ms : List Int) (c : Int), 0 ≤ c → c < 4294967296 → ∃ c', 0 ≤ c' ∧ c' < 4294967296 ∧ ∀ o, ∃ o', forL (gSet 2) (sSet 1 (dBin dAdd (dBin dMod (dCall bInt (dCons (dBin dAdd (dBin dMul (dVar 1) (dC (.int 48271))) (dVar 2)) (dNil))) (dC (.int 2147483629))) (dC (.int 1)))) (ms.map D.int) [.va (.scr ns), .va (.int c), o] = .ok (.nx, [.va (.scr ns), .va (.int c'), o']) := by
    intro ms
    induction ms with
    | nil => exact fun c h1 h2 => ⟨c, h1, h2, fun o => ⟨o, rfl⟩⟩
    | cons m ms ih =>
      intro c h1 h2
      have hm : mulOk c 48271 = true := mulOk_of (m := 32) (n := 16) (by omega) (by decide) (by decide)
      have h3 : 0 ≤ (c * 48271 + m) % 2147483629 + 1 := by omega
      have h4 : (c * 48271 + m) % 2147483629 + 1 < 4294967296 := by omega
      obtain ⟨c', q1, q2, q3⟩ := ih _ h3 h4
      refine ⟨c', q1, q2, fun o => ?_⟩
      obtain ⟨o', q4⟩ := q3 (.va (.int m))
      refine ⟨o', ?_⟩
      rw [← q4, List.map_cons, forL]
      simp [gSet, put, Dn.ns, sSet, dBin, dVar, dC, dCall, dCons, dNil, dMul, hm, dAdd, bInt, dIntOp, isOw]
  obtain ⟨c, h1, h2, h3⟩ := key ns 7 (by decide) (by decide)
  obtain ⟨o, h3⟩ := h3 .un
  refine ⟨.lst [.lst (ns.map D.int), .int 0, .int 0, .int c], ?_, ns, 0, 0, c, rfl, by decide, by decide, h1, h2⟩
  unfold m__law_start b__law_start
  simp [enter, bSeq, sSet, dC, put, isOw, sFor, dItems, dVar, h3, sRetF, dLst, dCons, dCall, bList, dNil, maxSeq, finF]
theorem draw_ok {s : D} {n : Int} (h : Good s) (hn : 0 < n) (hn2 : n < 1099511627776) : wm (m__law_draw s [.int n]) fun q => ∃ k, q.1 = .int k ∧ 0 ≤ k ∧ k < n ∧ Good q.2 := by
  obtain ⟨cs, v, p, c, rfl, hv, hp, hc, hc2⟩ := h
  have hm : mulOk c 48271 = true := mulOk_of (m := 32) (n := 16) (by omega) (by decide) (by decide)
  have hd : ∀ i, divOk i n = true := fun i => divOk_of (n := 40) hn (by omega) (by decide)
  have hd13 : ∀ i, divOk i 13 = true := fun i => divOk_of (n := 40) (by decide) (by decide) (by decide)
  have nn0 := Int.emod_nonneg
  unfold m__law_draw b__law_draw
  by_cases h0 : v = 0
  · subst h0
    by_cases hl : (cs.length : Int) ≤ p
    · simp [bSeq, bNil, sIf, dTAnd, dTb, dBin, dIx, dVarO, dVar, dC, enterO, enter, dEq, D.eqv, D.ok, D.lay, D.dep, L2.atI, L2.ixN, dCall, dCons, dNil, bLen, hl, sSub, dMul, hm, dAdd, bInt, dIntOp, hd13, hn, sRet, finO, dCmpI]
      refine ⟨Int.emod_nonneg _ (by omega), Int.emod_lt_of_pos _ hn, cs, 0, p, _, rfl, by decide, hp, by omega, by omega⟩
    · have hp2 : p.toNat < cs.length := by omega
      have hp3 : p < (cs.length : Int) := by omega
      simp [bSeq, bNil, sIf, dTAnd, dTb, dBin, dIx, dVarO, dVar, dC, enterO, enter, dEq, D.eqv, D.ok, D.lay, D.dep, L2.atI, L2.ixN, dCall, dCons, dNil, bLen, hl, hp, hp2, hp3, sSub, dMul, hm, dAdd, bInt, bAbs, dIntOp, hd13, hd, hn, sRet, finO, dCmpI, sSet]
      refine ⟨Int.emod_nonneg _ (by omega), Int.emod_lt_of_pos _ hn, cs, _, p + 1, c, rfl, ?_, by omega, hc, hc2⟩
      refine Int.ediv_nonneg ?_ (by omega)
      split <;> omega
  · simp [bSeq, bNil, sIf, dTAnd, dTb, dBin, dIx, dVarO, dVar, dC, enterO, enter, dEq, D.eqv, D.ok, D.lay, D.dep, L2.atI, L2.ixN, dCall, dCons, dNil, bLen, h0, sSub, dMul, hm, dAdd, bInt, bAbs, dIntOp, hd13, hd, hn, sRet, finO, dCmpI, sSet]
    refine ⟨Int.emod_nonneg _ (by omega), Int.emod_lt_of_pos _ hn, cs, _, p, c, rfl, Int.ediv_nonneg hv (by omega), hp, hc, hc2⟩
theorem pick_ok {s : D} {xs : List D} (h : Good s) (h0 : xs ≠ []) (h1 : xs.length < 1000000) : wm (m__law_pick s [.lst xs]) fun q => q.1 ∈ xs ∧ Good q.2 := by
  have hl : 0 < (xs.length : Int) := by
    cases xs with
    | nil => exact absurd rfl h0
    | cons x r => exact Int.ofNat_lt.mpr (Nat.succ_pos _)
  have hd := draw_ok (n := xs.length) h hl (by omega)
  obtain ⟨⟨q1, q2⟩, hq, k, e1, k0, k1, hg⟩ := wm_out hd
  cases e1
  have hk : k.toNat < xs.length := by omega
  unfold m__law_pick b__law_pick
  simp [enterO, enter, sRet, dBin, dVar, dCallO, dCons, dCall, dNil, bLen, hq, dIx, L2.atI, L2.ixN, k0, k1, hk, finO, hg]
end LW
end Dn

/-! P14b -/
set_option Elab.async false
set_option linter.all false
set_option maxRecDepth 100000
set_option maxHeartbeats 1000000
namespace Dn
namespace LW
open PySem
/-! ### k14: the parts -/
theorem dEq_int (i j : Int) : dEq (.int i) (.int j) = .ok (.bl (decide (i = j))) := rfl
theorem dNe_int (i j : Int) : dNe (.int i) (.int j) = .ok (.bl (!decide (i = j))) := rfl
theorem is_integer_ok (d : D) (h : d.ty ≠ none) : m_is_integer [d] = .ok (.bl (match d with | .int _ => true | _ => false)) := by
  cases d <;> first | rfl | exact absurd rfl h
theorem whole_ok (d : D) (h : d.ty ≠ none) : m__law_whole [d] = .ok (.bl (match d with | .int _ => true | _ => false)) := by
  cases d <;> first | rfl | exact absurd rfl h
@[simp] theorem is_integer_int (i : Int) : m_is_integer [.int i] = .ok (.bl true) := rfl
@[simp] theorem whole_int (i : Int) : m__law_whole [.int i] = .ok (.bl true) := rfl
theorem between_int (i lo hi : Int) : m_is_between [.int i, .int lo, .int hi] = .ok (.bl (decide (lo ≤ i) && decide (i ≤ hi))) := by
  unfold m_is_between b_is_between
  by_cases h : lo ≤ i
  · simp [enter, sRet, dAndV, dCall, dCons, dNil, dVar, dChain, dLe, dCmpI, h, fin]
  · simp [enter, sRet, dAndV, dCall, dCons, dNil, dVar, dChain, dLe, dCmpI, h, fin]
theorem between_no (d : D) (a b : D) (h : d.ty ≠ none) (h2 : ∀ i, d ≠ .int i) : m_is_between [d, a, b] = .ok (.bl false) := by
  unfold m_is_between b_is_between
  simp only [enter, sRet, dAndV, dCall, dCons, dNil, dVar, List.map_cons, List.map_nil, List.length_cons, List.length_nil, List.cons_append, List.nil_append, List.getElem?_cons_zero, bnd_ok, is_integer_ok d h]
  cases d <;> first | rfl | exact absurd rfl (h2 _)
/-- a row -/
def oddsD (p : Int × Int) : D := .tup [.int p.1, .int p.2]
def GoodP (p : Int × Int) : Prop := 0 ≤ p.1 ∧ p.1 ≤ p.2 ∧ 1 ≤ p.2 ∧ p.2 ≤ 1000
theorem check_odds_ok {p : Int × Int} (h : GoodP p) (r : D) : m_check_odds [oddsD p, r] = .ok .non := by
  obtain ⟨h1, h2, h3, h4⟩ := h
  unfold m_check_odds b_check_odds oddsD
  simp [enter, bSeq, bNil, sIf, dTOr, dTNot, dTr, dTb, dIsi, dVar, D.ty, isTy, truth, dBin, dNe, D.eqv, D.ok, D.lay, D.dep, dCall, dCons, dNil, bLen, dC, dIx, L2.atI, L2.ixN, between_int, h1, h2, h3, h4, fin]
def rowsD (rs : List (Int × Int)) : D := .tup (rs.map oddsD)
def intsD (ss : List Int) : D := .tup (ss.map D.int)
theorem check_rows_ok {rs : List (Int × Int)} (h : ∀ p, p ∈ rs → GoodP p) (h1 : 1 ≤ rs.length) (h2 : rs.length ≤ 20) : m_check_rows [rowsD rs] = .ok .non := by
  have key : ∀ (qs : List (Int × Int)) (x : D) (o : Sl), (∀ p, p ∈ qs → GoodP p) → ∃ o', forL (gSet 1) (sReraise (sDrop (dCall m_check_odds (dCons (dVar 1) (dCons (dC (.str "odds")) (dNil))))) (fun i => i == 1) 0 "odds") (qs.map oddsD) [.va x, o] = .ok (.nx, [.va x, o']) := by
    intro qs x
    induction qs with
    | nil => exact fun o _ => ⟨o, rfl⟩
    | cons p qs ih =>
      intro o hq
      obtain ⟨o', e⟩ := ih (.va (oddsD p)) fun z hz => hq z (List.mem_cons_of_mem _ hz)
      refine ⟨o', ?_⟩
      rw [← e, List.map_cons, forL]
      simp [gSet, put, isOw, sReraise, sDrop, dCall, dCons, dNil, dVar, dC, check_odds_ok (hq p List.mem_cons_self)]
  obtain ⟨o', e⟩ := key rs (rowsD rs) .un h
  unfold m_check_rows b_check_rows
  have h3 : (1 : Int) ≤ rs.length := by omega
  have h4 : (rs.length : Int) ≤ 20 := by omega
  unfold rowsD at *
  simp [enter, bSeq, bNil, sIf, dTOr, dTNot, dTr, dTb, dIsi, dVar, D.ty, isTy, truth, dCall, dCons, dNil, bLen, dC, dChain, dLe, dCmpI, h3, h4, sFor, dItems, e, fin]
theorem lcL_map {mt : Gv} {te : Ev} {vs : List Nat} {f : D → D} {env : En} : ∀ (ds : List D), (∀ d, d ∈ ds → ∃ e1 e2, mt d env = .ok e1 ∧ te e1 = .ok (f d, e2) ∧ wipeE e2 vs = env) → lcL mt dYes te vs ds env = .ok (ds.map f, env)
  | [], _ => rfl
  | d :: r, h => by
    obtain ⟨e1, e2, q1, q2, q3⟩ := h d List.mem_cons_self
    unfold lcL
    rw [q1, bnd_ok]
    simp only [dYes, bnd_ok, if_true, q2, q3]
    rw [lcL_map r fun d' hd => h d' (List.mem_cons_of_mem _ hd)]
    rfl
theorem bools_true : ∀ (n : Nat), bools (List.replicate n (.bl true)) = some (List.replicate n true)
  | 0 => rfl
  | n + 1 => by
    rw [List.replicate_succ]
    unfold bools
    rw [bools_true n]
    rfl
theorem intsOf_map : ∀ (ss : List Int), intsOf (ss.map D.int) = some ss
  | [] => rfl
  | s :: r => by
    rw [List.map_cons]
    unfold intsOf
    rw [intsOf_map r]
    rfl
end LW
end Dn

/-! P14c -/
set_option Elab.async false
set_option linter.all false
set_option maxRecDepth 100000
set_option maxHeartbeats 1000000
namespace Dn
namespace LW
open PySem
theorem leastOf_some : ∀ {ss : List Int}, ss ≠ [] → ∃ m, leastOf ss = some m
  | [], h => absurd rfl h
  | s :: r, _ => by
    unfold leastOf
    cases leastOf r <;> exact ⟨_, rfl⟩
theorem sum_bound : ∀ {ss : List Int}, (∀ s, s ∈ ss → s ≤ 3) → ss.sum ≤ 3 * ss.length
  | [], _ => by simp
  | s :: r, h => by
    have := sum_bound fun z hz => h z (List.mem_cons_of_mem s hz)
    have := h s List.mem_cons_self
    simp only [List.sum_cons, List.length_cons]
    omega
theorem check_shares_ok {rs : List (Int × Int)} {ss : List Int} (hl : ss.length = rs.length) (h1 : 1 ≤ rs.length) (h2 : rs.length ≤ 20) (hs : ∀ s, s ∈ ss → 1 ≤ s ∧ s ≤ 3) : m_check_shares [rowsD rs, intsD ss] = .ok .non := by
  have hne : ss ≠ [] := by intro e; rw [e] at hl; simp at hl; omega
  obtain ⟨m, hm⟩ := leastOf_some hne
  have hm1 := (hs m (leastOf_le hm).1).1
  have hsum := sum_bound fun s h => (hs s h).2
  have hsum2 : ss.sum ≤ 60 := by omega
  have hm2 : ¬ m < 1 := by omega
  have hs2 : ¬ (60 < ss.sum) := by omega
  have lc : lcL (gSet 2) dYes (dCall m_is_integer (dCons (dVar 2) (dNil))) [2] (ss.map D.int) [.va (rowsD rs), .va (intsD ss), .un] = .ok (List.replicate rs.length (D.bl true), [.va (rowsD rs), .va (intsD ss), .un]) := by
    rw [← hl, show List.replicate ss.length (D.bl true) = (ss.map D.int).map fun _ => D.bl true by rw [List.map_map, ← List.map_const']; rfl]
    exact lcL_map (f := fun _ => D.bl true) _ fun d hd => by
      obtain ⟨s, _, rfl⟩ := List.mem_map.mp hd
      exact ⟨_, _, rfl, rfl, rfl⟩
  have hle : rs.length ≤ maxSeq := by unfold maxSeq; omega
  unfold m_check_shares b_check_shares
  unfold rowsD intsD at *
  simp [enter, bSeq, bNil, sIf, dTOr, dTNot, dTr, dTb, dIsi, dVar, D.ty, isTy, truth, dCall, dCons, dNil, bLen, dC, dBin, dNe_int, hl, dLc, dItems, noOw, isOw, wipeE, lc, hle, bAll, bools_true, resE, bMin, intsOf_map, hm, dLt, dGt, dCmpI, hm2, bSum, hs2, fin]
theorem power_ok {b n : Int} (hb : b.natAbs < 2 ^ 20) (h0 : 0 ≤ n) (hn : n ≤ 4) : m_power [.int b, .int n] = .ok (.int (b ^ n.toNat)) := by
  have hb2 : b.natAbs < 18446744073709551616 := by omega
  have key : ∀ (ds : List D) (c : Int) (o : Sl), ∃ o', forL (gSet 3) (sAug 2 aMul (dVar 0)) ds [.va (.int b), .va (.int n), .va (.int c), o] = .ok (.nx, [.va (.int b), .va (.int n), .va (.int (c * b ^ ds.length)), o']) := by
    intro ds
    induction ds with
    | nil => exact fun c o => ⟨o, by simp [forL]⟩
    | cons d r ih =>
      intro c o
      obtain ⟨o', e⟩ := ih (c * b) (.va d)
      refine ⟨o', ?_⟩
      rw [forL, List.length_cons, Int.pow_succ', ← Int.mul_assoc, ← e]
      simp [gSet, put, isOw, sAug, dVar, aMul, dIntOp, hb2]
  obtain ⟨o', e⟩ := key (rngD 0 1 n.toNat) 1 .un
  have hs : smallI n = true := by unfold smallI; simp; omega
  have hr : (rngD 0 1 n.toNat).length = n.toNat := by unfold rngD; simp
  rw [hr] at e
  unfold m_power b_power
  simp [enter, bSeq, sSet, dC, put, isOw, sFor, dRng, dCons, dNil, dVar, hs, e, sRet, fin]
theorem chance_of_ok {p : Int × Int} (h : GoodP p) {n : Int} (h0 : 0 ≤ n) (hn : n ≤ 4) : m_chance_of [oddsD p, .int n] = .ok (oddsD (p.2 ^ n.toNat - (p.2 - p.1) ^ n.toNat, p.2 ^ n.toNat)) := by
  obtain ⟨h1, h2, h3, h4⟩ := h
  have e1 := power_ok (b := p.2) (n := n) (by omega) h0 hn
  have e2 := power_ok (b := p.2 - p.1) (n := n) (by omega) h0 hn
  unfold m_chance_of b_chance_of oddsD
  simp [enter, bSeq, sSet, dC, put, isOw, dCons, dNil, dVar, dCall, dBin, dIx, L2.atI, L2.ixN, e1, e2, dSub, dIntOp, sRet, dTup, maxSeq, fin]
/-! the factors -/
def fU (p : Int × Int) (n : Int) : Int := p.2 ^ n.toNat - (p.2 - p.1) ^ n.toNat
def fD (p : Int × Int) (n : Int) : Int := p.2 ^ n.toNat
theorem pow_bound {x : Int} (h0 : 0 ≤ x) (h : x ≤ 1000) {n : Nat} (hn : n ≤ 4) : 0 ≤ x ^ n ∧ x ^ n ≤ 1000000000000 := by
  refine ⟨Int.pow_nonneg h0, ?_⟩
  have a1 : x * x ≤ 1000000 := Int.le_trans (Int.mul_le_mul h h h0 (by decide)) (by decide)
  have z1 : 0 ≤ x * x := Int.mul_nonneg h0 h0
  have a2 : x * x * x ≤ 1000000000 := Int.le_trans (Int.mul_le_mul a1 h h0 (by decide)) (by decide)
  have a3 : x * x * (x * x) ≤ 1000000000000 := Int.le_trans (Int.mul_le_mul a1 a1 z1 (by decide)) (by decide)
  match n, hn with
  | 0, _ => simp
  | 1, _ => rw [Int.pow_succ, Int.pow_zero, Int.one_mul]; omega
  | 2, _ => rw [show x ^ 2 = x * x by rw [Int.pow_succ, Int.pow_succ, Int.pow_zero, Int.one_mul]]; omega
  | 3, _ => rw [show x ^ 3 = x * x * x by rw [Int.pow_succ, Int.pow_succ, Int.pow_succ, Int.pow_zero, Int.one_mul]]; omega
  | 4, _ => rw [show x ^ 4 = x * x * (x * x) by rw [Int.pow_succ, Int.pow_succ, Int.pow_succ, Int.pow_succ, Int.pow_zero, Int.one_mul, Int.mul_assoc]]; exact a3
theorem f_bound {p : Int × Int} (h : GoodP p) {n : Int} (h0 : 0 ≤ n) (hn : n ≤ 4) : (fU p n).natAbs < 2 ^ 40 ∧ (fD p n).natAbs < 2 ^ 40 := by
  obtain ⟨h1, h2, h3, h4⟩ := h
  have a := pow_bound (x := p.2) (by omega) h4 (n := n.toNat) (by omega)
  have b := pow_bound (x := p.2 - p.1) (by omega) (by omega) (n := n.toNat) (by omega)
  unfold fU fD
  omega
def pU : List (Int × Int) → List Int → Int
  | p :: rs, s :: ss => fU p s * pU rs ss
  | _, _ => 1
def pD : List (Int × Int) → List Int → Int
  | p :: rs, s :: ss => fD p s * pD rs ss
  | _, _ => 1
theorem natAbs_mul_lt {a b : Int} {m n : Nat} (h1 : a.natAbs < 2 ^ m) (h2 : b.natAbs < 2 ^ n) : (a * b).natAbs < 2 ^ (m + n) := by
  rw [Int.natAbs_mul, Nat.pow_add]
  have h3 : 0 < 2 ^ n := Nat.two_pow_pos n
  by_cases z : b.natAbs = 0
  · rw [z, Nat.mul_zero]; exact Nat.mul_pos (Nat.two_pow_pos m) h3
  · exact Nat.lt_of_lt_of_le (Nat.mul_lt_mul_of_pos_right h1 (Nat.pos_of_ne_zero z)) (Nat.mul_le_mul_left _ (Nat.le_of_lt h2))
theorem product_ok {rs : List (Int × Int)} {ss : List Int} (hl : rs.length ≤ 20) (hr : ∀ p, p ∈ rs → GoodP p) (hs : ∀ s, s ∈ ss → 0 ≤ s ∧ s ≤ 4) : m_product_of [rowsD rs, intsD ss] = .ok (oddsD (pU rs ss, pD rs ss)) := by
  have key : ∀ (R S : D) (rs : List (Int × Int)) (ss : List Int) (u d : Int) (m : Nat) (o4 o5 o6 : Sl), (∀ p, p ∈ rs → GoodP p) → (∀ s, s ∈ ss → 0 ≤ s ∧ s ≤ 4) → u.natAbs < 2 ^ m → d.natAbs < 2 ^ m → m + 40 * rs.length < 10000 →
      ∃ o4' o5' o6', forL (gTupD (lenOf 2 (gsCons (gSet 4) (gsCons (gSet 5) (gsNil))))) (bSeq (sSet 6 (dCall m_chance_of (dCons (dVar 4) (dCons (dVar 5) (dNil)))))
        (sPar 2 3 (dCons (dBin dMul (dVar 2) (dBin dIx (dVar 6) (dC (.int 0)))) (dCons (dBin dMul (dVar 3) (dBin dIx (dVar 6) (dC (.int 1)))) (dNil))))) (zipD (rs.map oddsD) (ss.map D.int)) [.va R, .va S, .va (.int u), .va (.int d), o4, o5, o6] = .ok (.nx, [.va R, .va S, .va (.int (u * pU rs ss)), .va (.int (d * pD rs ss)), o4', o5', o6']) := by
    intro R S rs
    induction rs with
    | nil => intro ss u d m o4 o5 o6 _ _ _ _ _; exact ⟨o4, o5, o6, by simp [zipD, forL, pU, pD]⟩
    | cons p rs ih =>
      intro ss u d m o4 o5 o6 hr hs hu hd hm
      cases ss with
      | nil => exact ⟨o4, o5, o6, by simp [zipD, forL, pU, pD]⟩
      | cons s ss =>
        have hp := hr p List.mem_cons_self
        have hs0 := hs s List.mem_cons_self
        have fb := f_bound hp hs0.1 hs0.2
        simp only [List.length_cons] at hm
        obtain ⟨o4', o5', o6', e⟩ := ih ss (u * fU p s) (d * fD p s) (m + 40) (.va (oddsD p)) (.va (.int s)) (.va (oddsD (fU p s, fD p s))) (fun z hz => hr z (List.mem_cons_of_mem _ hz)) (fun z hz => hs z (List.mem_cons_of_mem _ hz)) (natAbs_mul_lt hu fb.1) (natAbs_mul_lt hd fb.2) (by omega)
        refine ⟨o4', o5', o6', ?_⟩
        rw [pU, pD, ← Int.mul_assoc, ← Int.mul_assoc, ← e]
        have m1 : mulOk u (fU p s) = true := mulOk_of hu fb.1 (by omega)
        have m2 : mulOk d (fD p s) = true := mulOk_of hd fb.2 (by omega)
        have ec := chance_of_ok hp hs0.1 hs0.2
        change m_chance_of [.tup [.int p.1, .int p.2], .int s] = .ok (.tup [.int (fU p s), .int (fD p s)]) at ec
        unfold zipD
        rw [List.map_cons, List.map_cons, List.zipWith_cons_cons, forL]
        simp [gTupD, lenOf, gsCons, gsNil, gSet, put, isOw, bSeq, sSet, dCall, dCons, dNil, dVar, ec, sPar, dBin, dIx, L2.atI, L2.ixN, dC, dMul, m1, m2, oddsD]
  obtain ⟨o4', o5', o6', e⟩ := key (rowsD rs) (intsD ss) rs ss 1 1 1 .un .un .un hr hs (by decide) (by decide) (by omega)
  unfold m_product_of b_product_of
  unfold rowsD intsD at *
  simp [enter, bSeq, sAsg, dTup, dCons, dC, dNil, maxSeq, gTupD, lenOf, gsCons, gsNil, gSet, put, isOw, sFor, dZip, dVar, e, sRet, fin, oddsD]
theorem is_less_ok {a b : Int × Int} {n : Nat} (h1 : a.1.natAbs < 2 ^ n) (h2 : a.2.natAbs < 2 ^ n) (h3 : b.1.natAbs < 2 ^ n) (h4 : b.2.natAbs < 2 ^ n) (hn : n < 400000) : m_is_less [oddsD a, oddsD b] = .ok (.bl (decide (a.1 * b.2 < b.1 * a.2))) := by
  have m1 : mulOk a.1 b.2 = true := mulOk_of h1 h4 (by omega)
  have m2 : mulOk b.1 a.2 = true := mulOk_of h3 h2 (by omega)
  unfold m_is_less b_is_less oddsD
  simp [enter, sRet, dBin, dIx, L2.atI, L2.ixN, dVar, dC, dMul, m1, m2, dLt, dCmpI, fin]
theorem p_bound : ∀ {rs : List (Int × Int)} {ss : List Int}, (∀ p, p ∈ rs → GoodP p) → (∀ s, s ∈ ss → 0 ≤ s ∧ s ≤ 4) → (pU rs ss).natAbs < 2 ^ (1 + 40 * rs.length) ∧ (pD rs ss).natAbs < 2 ^ (1 + 40 * rs.length)
  | [], ss, _, _ => by simp [pU, pD]
  | p :: rs, [], _, _ => by
    simp only [pU, pD]
    have : 2 ^ 1 ≤ 2 ^ (1 + 40 * (p :: rs).length) := Nat.pow_le_pow_right (by decide) (by omega)
    simp only [Int.natAbs_one]
    omega
  | p :: rs, s :: ss, hr, hs => by
    have ih := p_bound (rs := rs) (ss := ss) (fun z hz => hr z (List.mem_cons_of_mem _ hz)) (fun z hz => hs z (List.mem_cons_of_mem _ hz))
    have hs0 := hs s List.mem_cons_self
    have fb := f_bound (hr p List.mem_cons_self) hs0.1 hs0.2
    simp only [pU, pD, List.length_cons]
    rw [show 1 + 40 * (rs.length + 1) = 40 + (1 + 40 * rs.length) by omega]
    exact ⟨natAbs_mul_lt fb.1 ih.1, natAbs_mul_lt fb.2 ih.2⟩
end LW
end Dn

/-! P14d -/
set_option Elab.async false
set_option linter.all false
set_option maxRecDepth 100000
set_option maxHeartbeats 1000000
namespace Dn
namespace LW
open PySem
/-- the shares, one try moved -/
def mvL (one other : Int) : Nat → List Int → List Int
  | _, [] => []
  | i, s :: r => (s - (if (i : Int) = one then 1 else 0) + (if (i : Int) = other then 1 else 0)) :: mvL one other (i + 1) r
theorem mvL_len (a b : Int) : ∀ (i : Nat) (ss : List Int), (mvL a b i ss).length = ss.length
  | _, [] => rfl
  | i, s :: r => by simp [mvL, mvL_len a b (i + 1) r]
theorem mvL_get (a b : Int) : ∀ (i : Nat) (ss : List Int) (j : Nat), (mvL a b i ss)[j]? = (ss[j]?).map fun s => s - (if ((i + j : Nat) : Int) = a then 1 else 0) + (if ((i + j : Nat) : Int) = b then 1 else 0)
  | _, [], j => by simp [mvL]
  | i, s :: r, 0 => by simp [mvL]
  | i, s :: r, j + 1 => by
    simp only [mvL, List.getElem?_cons_succ]
    rw [mvL_get a b (i + 1) r j, show i + 1 + j = i + (j + 1) by omega]
theorem bInt_bl (b : Bool) : bInt [.bl b] = .ok (.int (if b = true then 1 else 0)) := by cases b <;> rfl
theorem moved_ok {ss : List Int} {one other : Int} (hl : ss.length ≤ 20) : m_moved_try [intsD ss, .int one, .int other] = .ok (intsD (mvL one other 0 ss)) := by
  have key : ∀ (S : D) (o3 o4 : Sl) (ss : List Int) (i : Nat), lcL (gTupD (lenOf 2 (gsCons (gSet 3) (gsCons (gSet 4) (gsNil))))) (dYes) (dBin dAdd (dBin dSub (dVar 4) (dCall bInt (dCons (dBin dEq (dVar 3) (dVar 1)) (dNil)))) (dCall bInt (dCons (dBin dEq (dVar 3) (dVar 2)) (dNil)))) [3, 4]
      (((ss.map D.int).zipIdx i).map fun p => .tup [.int (p.2 : Nat), p.1]) [.va S, .va (.int one), .va (.int other), .un, .un] = .ok ((mvL one other i ss).map D.int, [.va S, .va (.int one), .va (.int other), .un, .un]) := by
    intro S o3 o4 ss
    induction ss with
    | nil => intro i; rfl
    | cons s r ih =>
      intro i
      rw [List.map_cons, List.zipIdx_cons, List.map_cons, lcL]
      simp [gTupD, lenOf, gsCons, gsNil, gSet, put, isOw, dYes, dBin, dVar, dEq_int, dCall, dCons, dNil, bInt_bl, dSub, dAdd, dIntOp, wipeE, ih, mvL]
  have e := key (intsD ss) .un .un ss 0
  have hm : ss.length ≤ maxSeq := by unfold maxSeq; omega
  unfold m_moved_try b_moved_try
  unfold intsD at *
  simp [enter, sRet, dCall, dCons, dNil, dLc, dEnum, enumD, dVar, noOw, isOw, wipeE, e, mvL_len, hm, resE, bTuple, fin]
theorem fails_ok {p : Int × Int} (h : GoodP p) {n : Int} (h0 : 0 ≤ n) (hn : n ≤ 4) : m__law_fails [oddsD p, .int n] = .ok (oddsD ((p.2 - p.1) ^ n.toNat, p.2 ^ n.toNat)) := by
  obtain ⟨h1, h2, h3, h4⟩ := h
  have key : ∀ (ds : List D) (u d : Int) (m : Nat) (o : Sl), u.natAbs < 2 ^ m → d.natAbs < 2 ^ m → m + 20 * ds.length < 10000 → ∃ o', forL (gSet 2) (sPar 3 4 (dCons (dBin dMul (dVar 3) (dBin dSub (dBin dIx (dVar 0) (dC (.int 1))) (dBin dIx (dVar 0) (dC (.int 0))))) (dCons (dBin dMul (dVar 4) (dBin dIx (dVar 0) (dC (.int 1)))) (dNil)))) ds
      [.va (oddsD p), .va (.int n), o, .va (.int u), .va (.int d)] = .ok (.nx, [.va (oddsD p), .va (.int n), o', .va (.int (u * (p.2 - p.1) ^ ds.length)), .va (.int (d * p.2 ^ ds.length))]) := by
    intro ds
    induction ds with
    | nil => exact fun u d m o _ _ _ => ⟨o, by simp [forL]⟩
    | cons x r ih =>
      intro u d m o hu hd hm
      have b1 : (p.2 - p.1).natAbs < 2 ^ 20 := by omega
      have b2 : p.2.natAbs < 2 ^ 20 := by omega
      simp only [List.length_cons] at hm
      obtain ⟨o', e⟩ := ih (u * (p.2 - p.1)) (d * p.2) (m + 20) (.va x) (natAbs_mul_lt hu b1) (natAbs_mul_lt hd b2) (by omega)
      refine ⟨o', ?_⟩
      have m1 : mulOk u (p.2 - p.1) = true := mulOk_of hu b1 (by omega)
      have m2 : mulOk d p.2 = true := mulOk_of hd b2 (by omega)
      rw [forL, List.length_cons, Int.pow_succ', Int.pow_succ', ← Int.mul_assoc, ← Int.mul_assoc, ← e]
      simp [gSet, put, isOw, sPar, dCons, dNil, dVar, dBin, dC, oddsD, dIx, L2.atI, L2.ixN, dSub, dIntOp, dMul, m1, m2]
  have hr : (rngD 0 1 n.toNat).length = n.toNat := by unfold rngD; simp
  obtain ⟨o', e⟩ := key (rngD 0 1 n.toNat) 1 1 1 .un (by decide) (by decide) (by omega)
  rw [hr] at e
  have hs : smallI n = true := by unfold smallI; simp; omega
  unfold m__law_fails b__law_fails
  unfold oddsD at *
  simp [enter, bSeq, sAsg, dTup, dCons, dC, dNil, maxSeq, gTupD, lenOf, gsCons, gsNil, gSet, put, isOw, sFor, dRng, dVar, hs, e, sRet, fin]
/-! ### the better -/
/-- a share's place -/
def plc (n : Nat) : D → Option Nat
  | .int i => if 0 ≤ i ∧ i < n then some i.toNat else none
  | _ => none
/-- a value that may be asked for -/
def Asked (d : D) : Prop := d.ty ≠ none ∧ d.ok = true
theorem between_plc {d : D} (h : d.ty ≠ none) {n : Nat} : m_is_between [d, .int 0, .int (n - 1)] = .ok (.bl (plc n d).isSome) := by
  cases d with
  | int i =>
    rw [between_int]
    unfold plc
    by_cases z : 0 ≤ i ∧ i < n
    · simp [z]; omega
    · simp only [z, if_false]
      have : (decide (0 ≤ i) && decide (i ≤ (n : Int) - 1)) = false := by
        simp only [Bool.and_eq_false_iff, decide_eq_false_iff_not]; omega
      rw [this]; rfl
  | _ => rw [between_no _ _ _ h (fun i e => by cases e)]; rfl
theorem plc_some {n i : Nat} {d : D} (h : plc n d = some i) : d = .int i ∧ i < n := by
  cases d with
  | int k =>
    unfold plc at h
    by_cases hk : 0 ≤ k ∧ k < n
    · simp only [hk, and_self, if_true] at h
      have h' := Option.some.inj h
      exact ⟨by rw [← h', Int.toNat_of_nonneg hk.1], by omega⟩
    · simp only [if_neg hk] at h; cases h
  | _ => cases h
/-- what accepting comes to -/
def vBetter (rs : List (Int × Int)) (ss : List Int) (one other : D) : Option Str := match plc rs.length one, plc rs.length other with
  | some i, some j => if i = j then some "paper form" else if (ss[i]?).getD 0 < 2 then some "paper tries"
    else if pU rs ss * pD rs (mvL i j 0 ss) < pU rs (mvL i j 0 ss) * pD rs ss then none else some "paper odds"
  | _, _ => some "paper form"
theorem mvL_rng {ss : List Int} {i j : Nat} (hs : ∀ s, s ∈ ss → 1 ≤ s ∧ s ≤ 3) : ∀ s, s ∈ mvL i j 0 ss → 0 ≤ s ∧ s ≤ 4 := by
  intro s hm
  obtain ⟨k, hk⟩ := List.getElem?_of_mem hm
  rw [mvL_get] at hk
  cases e : ss[k]? with
  | none => rw [e] at hk; cases hk
  | some t =>
    rw [e] at hk
    have := hs t (List.mem_of_getElem? e)
    simp only [Option.map_some, Option.some.injEq] at hk
    subst hk
    split <;> split <;> omega
theorem heard4 (f : Nat) (mf : List D → M D) (a b c d : D) (ht : tbl f = some (4, mf)) : m__law_heard [.fn f, .lst [a, b, c, d]] = match mf [a, b, c, d] with
    | .ok r => .ok (.lst [r])
    | .error (.raise k p) => wordOf k p
    | .error .stuck => stuck := by
  unfold m__law_heard b__law_heard m__law_called b__law_called
  simp [enter, sHeard, noOwE, sRet, dLst, dCons, dCall, dNil, dVar, bSeq, bNil, sIf, dTb, dBin, bLen, dC, dLt, dCmpI, dIf, dEq_int, dCallV, ht, dIx, L2.atI, L2.ixN]
  cases h : mf [a, b, c, d] with
  | ok r => simp [fin, maxSeq]
  | error x => cases x with
    | stuck => rfl
    | raise k p =>
      simp [fin]
      cases wordOf k p <;> rfl
theorem accept_ok {rs : List (Int × Int)} {ss : List Int} {one other : D} (hl : ss.length = rs.length) (h1 : 1 ≤ rs.length) (h2 : rs.length ≤ 20) (hr : ∀ p, p ∈ rs → GoodP p) (hs : ∀ s, s ∈ ss → 1 ≤ s ∧ s ≤ 3) (ho : Asked one) (ho2 : Asked other) :
    m__law_heard [.fn 7, .lst [rowsD rs, intsD ss, one, other]] = .ok (match vBetter rs ss one other with | none => .lst [.non] | some x => .str x) := by
  rw [heard4 7 m_accept_better _ _ _ _ rfl]
  have c1 := check_rows_ok hr h1 h2
  have c2 := check_shares_ok hl h1 h2 hs
  have b1 := between_plc (d := one) ho.1 (n := rs.length)
  have b2 := between_plc (d := other) ho2.1 (n := rs.length)
  have lr : bLen [rowsD rs] = .ok (.int rs.length) := by unfold rowsD; simp [bLen]
  unfold m_accept_better b_accept_better vBetter
  cases p1 : plc rs.length one with
  | none =>
    rw [p1] at b1
    simp [enter, bSeq, bNil, sDrop, dCall, dCons, dNil, dVar, c1, c2, sIf, dTOr, dTNot, dTr, lr, dBin, dSub, dIntOp, dC, b1, truth, sRaise, fin]
    rfl
  | some i =>
    obtain ⟨e1, hi⟩ := plc_some p1
    cases p2 : plc rs.length other with
    | none =>
      rw [p1] at b1
      rw [p2] at b2
      simp [enter, bSeq, bNil, sDrop, dCall, dCons, dNil, dVar, c1, c2, sIf, dTOr, dTNot, dTr, lr, dBin, dSub, dIntOp, dC, b1, b2, truth, sRaise, fin]
      rfl
    | some j =>
      obtain ⟨e2, hj⟩ := plc_some p2
      subst e1 e2
      rw [p1] at b1
      rw [p2] at b2
      by_cases hij : i = j
      · subst hij
        simp [enter, bSeq, bNil, sDrop, dCall, dCons, dNil, dVar, c1, c2, sIf, dTOr, dTNot, dTr, lr, dBin, dSub, dIntOp, dC, b1, b2, truth, sRaise, fin, dTb, dEq_int]
        rfl
      · have hi2 : i < ss.length := by omega
        have ix : dIx (intsD ss) (.int i) = .ok (.int ((ss[i]?).getD 0)) := by
          unfold intsD
          simp [dIx, L2.atI, L2.ixN, hi2]
        have hij2 : ¬ ((i : Int) = j) := by omega
        by_cases hs2 : (ss[i]?).getD 0 < 2
        · simp [enter, bSeq, bNil, sDrop, dCall, dCons, dNil, dVar, c1, c2, sIf, dTOr, dTNot, dTr, lr, dBin, dSub, dIntOp, dC, b1, b2, truth, sRaise, fin, dTb, dEq_int, hij2, hij, ix, dLt, dCmpI, hs2]
          rfl
        · have mo := moved_ok (ss := ss) (one := i) (other := j) (by omega)
          have hs0 : ∀ s, s ∈ ss → 0 ≤ s ∧ s ≤ 4 := fun s hm => by have := hs s hm; omega
          have pr1 := product_ok h2 hr hs0
          have pr2 := product_ok h2 hr (mvL_rng (i := i) (j := j) hs)
          have q1 := p_bound hr hs0
          have q2 := p_bound hr (mvL_rng (i := i) (j := j) hs)
          have il := is_less_ok (a := (pU rs ss, pD rs ss)) (b := (pU rs (mvL i j 0 ss), pD rs (mvL i j 0 ss))) q1.1 q1.2 q2.1 q2.2 (by omega)
          by_cases hlt : pU rs ss * pD rs (mvL i j 0 ss) < pU rs (mvL i j 0 ss) * pD rs ss
          · simp [enter, bSeq, bNil, sDrop, dCall, dCons, dNil, dVar, c1, c2, sIf, dTOr, dTNot, dTr, lr, dBin, dSub, dIntOp, dC, b1, b2, truth, sRaise, fin, dTb, dEq_int, hij2, hij, ix, dLt, dCmpI, hs2, mo, pr1, pr2, il, hlt]
          · simp [enter, bSeq, bNil, sDrop, dCall, dCons, dNil, dVar, c1, c2, sIf, dTOr, dTNot, dTr, lr, dBin, dSub, dIntOp, dC, b1, b2, truth, sRaise, fin, dTb, dEq_int, hij2, hij, ix, dLt, dCmpI, hs2, mo, pr1, pr2, il, hlt]
            rfl
end LW
end Dn

/-! P14e -/
set_option Elab.async false
set_option linter.all false
set_option maxRecDepth 100000
set_option maxHeartbeats 1000000
namespace Dn
namespace LW
open PySem
/-! ### the plain arithmetic -/
def prd : List Int → Int
  | [] => 1
  | x :: r => x * prd r
theorem prd_set : ∀ (xs : List Int) (i : Nat) (x : Int), xs[i]? = some x → prd xs = x * prd (xs.set i 1)
  | [], i, x, h => by cases h
  | y :: r, 0, x, h => by
    simp only [List.getElem?_cons_zero, Option.some.injEq] at h
    subst h
    simp [prd]
  | y :: r, i + 1, x, h => by
    simp only [List.getElem?_cons_succ] at h
    simp only [prd, List.set_cons_succ]
    rw [prd_set r i x h, ← Int.mul_assoc, Int.mul_comm y x, Int.mul_assoc]
theorem prd_two {xs : List Int} {i j : Nat} {x y : Int} (hi : xs[i]? = some x) (hj : xs[j]? = some y) (h : i ≠ j) : prd xs = x * y * prd ((xs.set i 1).set j 1) := by
  rw [prd_set xs i x hi, prd_set (xs.set i 1) j y (by rw [List.getElem?_set_ne h]; exact hj), Int.mul_assoc]
theorem prd_nn : ∀ {xs : List Int}, (∀ x, x ∈ xs → 0 ≤ x) → 0 ≤ prd xs
  | [], _ => by decide
  | x :: r, h => Int.mul_nonneg (h x List.mem_cons_self) (prd_nn fun z hz => h z (List.mem_cons_of_mem _ hz))
theorem prd_zero : ∀ {xs : List Int}, prd xs = 0 ↔ 0 ∈ xs
  | [] => by simp [prd]
  | x :: r => by
    simp only [prd, Int.mul_eq_zero, List.mem_cons, prd_zero (xs := r)]
    constructor
    · rintro (h | h)
      · exact .inl h.symm
      · exact .inr h
    · rintro (h | h)
      · exact .inl h.symm
      · exact .inr h
theorem pU_prd : ∀ (rs : List (Int × Int)) (ss : List Int), pU rs ss = prd (List.zipWith fU rs ss)
  | [], _ => by simp [pU, prd]
  | _ :: _, [] => by simp [pU, prd]
  | p :: rs, s :: ss => by simp [pU, prd, pU_prd rs ss]
theorem pD_prd : ∀ (rs : List (Int × Int)) (ss : List Int), pD rs ss = prd (List.zipWith fD rs ss)
  | [], _ => by simp [pD, prd]
  | _ :: _, [] => by simp [pD, prd]
  | p :: rs, s :: ss => by simp [pD, prd, pD_prd rs ss]
theorem fD_pos {p : Int × Int} (h : GoodP p) (n : Int) : 0 < fD p n := Int.pow_pos (by have := h.2.2.1; omega)
theorem pow_lt {x y : Int} (h0 : 0 ≤ x) (h : x < y) : ∀ {n : Nat}, n ≠ 0 → x ^ n < y ^ n
  | 0, hn => absurd rfl hn
  | 1, _ => by rw [Int.pow_succ, Int.pow_succ, Int.pow_zero, Int.pow_zero, Int.one_mul, Int.one_mul]; exact h
  | n + 2, _ => by
    have ih := pow_lt h0 h (n := n + 1) (Nat.succ_ne_zero n)
    rw [Int.pow_succ x (n + 1), Int.pow_succ y (n + 1)]
    have a : x ^ (n + 1) * x ≤ x ^ (n + 1) * y := Int.mul_le_mul_of_nonneg_left (Int.le_of_lt h) (Int.pow_nonneg h0)
    have b : x ^ (n + 1) * y < y ^ (n + 1) * y := Int.mul_lt_mul_of_pos_right ih (by omega)
    exact Int.lt_of_le_of_lt a b
theorem pow_le {x y : Int} (h0 : 0 ≤ x) (h : x ≤ y) (n : Nat) : x ^ n ≤ y ^ n := by
  by_cases e : x = y
  · rw [e]; exact Int.le_refl _
  · by_cases hn : n = 0
    · subst hn; simp
    · exact Int.le_of_lt (pow_lt h0 (by omega) hn)
theorem fU_nn {p : Int × Int} (h : GoodP p) (n : Int) : 0 ≤ fU p n := by
  obtain ⟨h1, h2, h3, h4⟩ := h
  have := pow_le (x := p.2 - p.1) (y := p.2) (by omega) (by omega) n.toNat
  unfold fU; omega
theorem fU_zero {p : Int × Int} (h : GoodP p) {n : Int} (hn : 1 ≤ n) : fU p n = 0 ↔ p.1 = 0 := by
  obtain ⟨h1, h2, h3, h4⟩ := h
  constructor
  · intro e
    by_cases z : p.1 = 0
    · exact z
    · have := pow_lt (x := p.2 - p.1) (y := p.2) (by omega) (by omega) (n := n.toNat) (by omega)
      unfold fU at e; omega
  · intro e
    unfold fU
    rw [e, Int.sub_zero, Int.sub_self]
theorem rest_eq (f : Int × Int → Int → Int) (rs : List (Int × Int)) (ss : List Int) {i j : Nat} (h : i ≠ j) : ((List.zipWith f rs (mvL i j 0 ss)).set i 1).set j 1 = ((List.zipWith f rs ss).set i 1).set j 1 := by
  apply List.ext_getElem?
  intro k
  have hl : (List.zipWith f rs (mvL i j 0 ss)).length = (List.zipWith f rs ss).length := by simp [mvL_len]
  by_cases hj : j = k
  · subst hj
    simp only [List.getElem?_set, List.length_set, hl, if_true]
  · by_cases hi : i = k
    · subst hi
      simp only [List.getElem?_set, List.length_set, hl, if_true, hj, if_false]
    · rw [List.getElem?_set_ne hj, List.getElem?_set_ne hi, List.getElem?_set_ne hj, List.getElem?_set_ne hi, List.getElem?_zipWith, List.getElem?_zipWith, mvL_get]
      have e1 : ¬ (((0 + k : Nat) : Int) = (i : Int)) := by omega
      have e2 : ¬ (((0 + k : Nat) : Int) = (j : Int)) := by omega
      simp only [e1, e2, if_false, Int.sub_zero, Int.add_zero, Option.map_id']
/-- the comparison, of two places alone -/
theorem less_iff {rs : List (Int × Int)} {ss : List Int} {i j : Nat} {p q : Int × Int} {a b : Int} (hr : ∀ p, p ∈ rs → GoodP p) (hs : ∀ s, s ∈ ss → 1 ≤ s ∧ s ≤ 3) (hl : ss.length = rs.length) (h : i ≠ j) (hp : rs[i]? = some p) (hq : rs[j]? = some q) (ha : ss[i]? = some a) (hb : ss[j]? = some b) :
    (pU rs ss * pD rs (mvL i j 0 ss) < pU rs (mvL i j 0 ss) * pD rs ss) ↔ ((¬ ∃ k r, k ≠ i ∧ k ≠ j ∧ rs[k]? = some r ∧ r.1 = 0) ∧ (fU p a * fU q b) * (fD p (a - 1) * fD q (b + 1)) < (fU p (a - 1) * fU q (b + 1)) * (fD p a * fD q b)) := by
  have hne : ¬ (((0 + i : Nat) : Int) = (j : Int)) := by omega
  have hne2 : ¬ (((0 + j : Nat) : Int) = (i : Int)) := by omega
  have ma : (mvL i j 0 ss)[i]? = some (a - 1) := by rw [mvL_get, ha]; simp [hne] ; omega
  have mb : (mvL i j 0 ss)[j]? = some (b + 1) := by rw [mvL_get, hb]; simp [hne2]; omega
  have z : ∀ {f : Int × Int → Int → Int} {ss : List Int} {k : Nat} {p : Int × Int} {a : Int}, rs[k]? = some p → ss[k]? = some a → (List.zipWith f rs ss)[k]? = some (f p a) := fun h1 h2 => by rw [List.getElem?_zipWith, h1, h2]
  rw [pU_prd, pD_prd, pU_prd, pD_prd, prd_two (xs := List.zipWith fU rs ss) (z hp ha) (z hq hb) h, prd_two (xs := List.zipWith fU rs (mvL i j 0 ss)) (z hp ma) (z hq mb) h, prd_two (xs := List.zipWith fD rs ss) (z hp ha) (z hq hb) h, prd_two (xs := List.zipWith fD rs (mvL i j 0 ss)) (z hp ma) (z hq mb) h, rest_eq _ _ _ h, rest_eq _ _ _ h]
  generalize hR : prd (((List.zipWith fU rs ss).set i 1).set j 1) = R
  generalize hS : prd (((List.zipWith fD rs ss).set i 1).set j 1) = S
  have gu : ∀ x, x ∈ ((List.zipWith fU rs ss).set i 1).set j 1 → 0 ≤ x := by
    intro x hx
    rcases List.mem_or_eq_of_mem_set hx with hx | rfl
    · rcases List.mem_or_eq_of_mem_set hx with hx | rfl
      · obtain ⟨k, hk⟩ := List.getElem?_of_mem hx
        rw [List.getElem?_zipWith] at hk
        split at hk
        · rename_i r s h1 h2
          cases hk
          exact fU_nn (hr _ (List.mem_of_getElem? h1)) _
        · cases hk
      · decide
    · decide
  have gd : ∀ x, x ∈ ((List.zipWith fD rs ss).set i 1).set j 1 → 0 < x := by
    intro x hx
    rcases List.mem_or_eq_of_mem_set hx with hx | rfl
    · rcases List.mem_or_eq_of_mem_set hx with hx | rfl
      · obtain ⟨k, hk⟩ := List.getElem?_of_mem hx
        rw [List.getElem?_zipWith] at hk
        split at hk
        · rename_i r s h1 h2
          cases hk
          exact fD_pos (hr _ (List.mem_of_getElem? h1)) _
        · cases hk
      · decide
    · decide
  have R0 : 0 ≤ R := hR ▸ prd_nn gu
  have S0 : 0 ≤ S := hS ▸ prd_nn fun x hx => Int.le_of_lt (gd x hx)
  have S1 : S ≠ 0 := by
    intro e
    rw [← hS] at e
    exact absurd (gd 0 (prd_zero.mp e)) (by decide)
  have Rz : R = 0 ↔ ∃ k r, k ≠ i ∧ k ≠ j ∧ rs[k]? = some r ∧ r.1 = 0 := by
    rw [← hR, prd_zero]
    constructor
    · intro hx
      obtain ⟨k, hk⟩ := List.getElem?_of_mem hx
      by_cases ej : j = k
      · subst ej
        rw [List.getElem?_set] at hk
        simp at hk
      · rw [List.getElem?_set_ne ej] at hk
        by_cases ei : i = k
        · subst ei
          rw [List.getElem?_set] at hk
          simp at hk
        · rw [List.getElem?_set_ne ei, List.getElem?_zipWith] at hk
          split at hk
          · rename_i r s h1 h2
            have e0 := Option.some.inj hk
            exact ⟨k, r, fun e => ei e.symm, fun e => ej e.symm, h1, (fU_zero (hr _ (List.mem_of_getElem? h1)) (hs _ (List.mem_of_getElem? h2)).1).mp e0⟩
          · cases hk
    · rintro ⟨k, r, k1, k2, k3, k4⟩
      have hk : k < ss.length := by
        rw [hl]
        exact (List.getElem?_eq_some_iff.mp k3).1
      apply List.mem_of_getElem? (i := k)
      rw [List.getElem?_set_ne (fun e => k2 e.symm), List.getElem?_set_ne (fun e => k1 e.symm), List.getElem?_zipWith, k3, List.getElem?_eq_getElem hk]
      exact congrArg some ((fU_zero (hr _ (List.mem_of_getElem? k3)) (hs _ (List.getElem_mem hk)).1).mpr k4)
  rw [← Rz]
  generalize fU p a * fU q b = A
  generalize fD p (a - 1) * fD q (b + 1) = B
  generalize fU p (a - 1) * fU q (b + 1) = C
  generalize fD p a * fD q b = D'
  rw [show A * R * (B * S) = (A * B) * (R * S) by rw [Int.mul_assoc, Int.mul_assoc, Int.mul_left_comm R B S], show C * R * (D' * S) = (C * D') * (R * S) by rw [Int.mul_assoc, Int.mul_assoc, Int.mul_left_comm R D' S]]
  by_cases z0 : R = 0
  · rw [z0]; simp
  · have RS : 0 < R * S := Int.mul_pos (by omega) (by omega)
    constructor
    · exact fun hlt => ⟨z0, Int.lt_of_mul_lt_mul_right hlt (Int.le_of_lt RS)⟩
    · exact fun hlt => Int.mul_lt_mul_of_pos_right hlt.2 RS
end LW
end Dn

/-! P14f -/
set_option Elab.async false
set_option linter.all false
set_option maxRecDepth 100000
set_option maxHeartbeats 2000000
namespace Dn
namespace LW
open PySem
theorem lcL_filter {mt : Gv} {tt : Tv} {te : Ev} {vs : List Nat} {P : D → Bool} {env : En} : ∀ (ds : List D), (∀ d, d ∈ ds → ∃ e1 e2 e3, mt d env = .ok e1 ∧ tt e1 = .ok (P d, e2) ∧ wipeE e2 vs = env ∧ te e2 = .ok (d, e3) ∧ wipeE e3 vs = env) → lcL mt tt te vs ds env = .ok (ds.filter P, env)
  | [], _ => rfl
  | d :: r, h => by
    obtain ⟨e1, e2, e3, q1, q2, q3, q4, q5⟩ := h d List.mem_cons_self
    unfold lcL
    rw [q1, bnd_ok, q2, bnd_ok]
    have ih := lcL_filter (P := P) r fun d' hd => h d' (List.mem_cons_of_mem _ hd)
    cases hp : P d with
    | true => simp only [if_true, q4, bnd_ok, q5, ih, List.filter_cons, hp]
    | false =>
      simp only [Bool.false_eq_true, if_false, q3, ih, List.filter_cons, hp]
theorem ix_rows {rs : List (Int × Int)} {i : Nat} {p : Int × Int} (h : rs[i]? = some p) : dIx (rowsD rs) (.int i) = .ok (oddsD p) := by
  have hi := (List.getElem?_eq_some_iff.mp h).1
  have e : rs[i] = p := by rw [List.getElem?_eq_getElem hi] at h; exact Option.some.inj h
  unfold rowsD
  simp [dIx, L2.atI, L2.ixN, hi, e]
theorem ix_ints {ss : List Int} {i : Nat} {a : Int} (h : ss[i]? = some a) : dIx (intsD ss) (.int i) = .ok (.int a) := by
  have hi := (List.getElem?_eq_some_iff.mp h).1
  have e : ss[i] = a := by rw [List.getElem?_eq_getElem hi] at h; exact Option.some.inj h
  unfold intsD
  simp [dIx, L2.atI, L2.ixN, hi, e]
theorem dRng_ok {ms : Av} {env env' : En} {n : Int} (h : ms env = .ok ([.int n], env')) (h0 : smallI n = true) : dRng ms env = .ok (rngD 0 1 n.toNat, env') := by
  unfold dRng
  rw [h, bnd_ok]
  simp only [h0, if_true]
theorem mx2 : 2 ≤ maxSeq := by decide
theorem dLst2 {m1 m2 : Ev} {env e1 e2 : En} {a b : D} (h1 : m1 env = .ok (a, e1)) (h2 : m2 e1 = .ok (b, e2)) : dItems (dLst (dCons m1 (dCons m2 dNil))) env = .ok ([a, b], e2) := by
  simp [dItems, dLst, dCons, dNil, h1, h2, mx2]
theorem dCall1 {f : List D → M D} {m : Ev} {env env' : En} {a r : D} (h : m env = .ok (a, env')) (hf : f [a] = .ok r) : dCall f (dCons m dNil) env = .ok (r, env') := by
  simp [dCall, dCons, dNil, h, hf]
theorem dLc_ok {mi : Iv} {mt : Gv} {tt : Tv} {te : Ev} {v : Nat} {env : En} {ds rs : List D} (h : mi env = .ok (ds, env)) (h0 : isOw env v = false) (h1 : env[v]? = some .un) (h2 : lcL mt tt te [v] ds env = .ok (rs, env)) (h3 : rs.length ≤ maxSeq) : dLc mi mt tt te [v] env = .ok (.lst rs, env) := by
  have w : env.set v .un = env := by
    apply List.ext_getElem?
    intro k
    by_cases e : v = k
    · subst e
      rw [List.getElem?_set, h1]
      have := (List.getElem?_eq_some_iff.mp h1).1
      simp [this]
    · rw [List.getElem?_set_ne e]
  unfold dLc
  rw [h, bnd_ok]
  simp only [noOw, List.all_cons, List.all_nil, h0, Bool.not_false, Bool.and_self, if_true, wipeE, w, h2, ns_ok, bnd_ok, h3, resE, h1, Option.getD_some]
theorem dLc_ok2 {mi : Iv} {mt : Gv} {tt : Tv} {te : Ev} {v : Nat} {env : En} {s : Sl} {ds rs : List D} (h : mi env = .ok (ds, env)) (h0 : isOw env v = false) (h1 : env[v]? = some s) (h2 : lcL mt tt te [v] ds (env.set v .un) = .ok (rs, env.set v .un)) (h3 : rs.length ≤ maxSeq) : dLc mi mt tt te [v] env = .ok (.lst rs, env) := by
  have w : env.set v s = env := by
    apply List.ext_getElem?
    intro k
    by_cases e : v = k
    · subst e
      rw [List.getElem?_set, h1]
      have := (List.getElem?_eq_some_iff.mp h1).1
      simp [this]
    · rw [List.getElem?_set_ne e]
  unfold dLc
  rw [h, bnd_ok]
  simp only [noOw, List.all_cons, List.all_nil, h0, Bool.not_false, Bool.and_self, if_true, wipeE, h2, ns_ok, bnd_ok, h3, resE, h1, Option.getD_some, List.set_set, w]
theorem dTr_lst {m : Ev} {env env' : En} {rs : List D} (h : m env = .ok (.lst rs, env')) : dTr m env = .ok (!rs.isEmpty, env') := by
  unfold dTr
  rw [h]
  rfl
theorem ixl (x y : D) : dIx (.lst [x, y]) (.int 0) = .ok x ∧ dIx (.lst [x, y]) (.int 1) = .ok y := ⟨rfl, rfl⟩
theorem ixt (x y : D) : dIx (.tup [x, y]) (.int 0) = .ok x ∧ dIx (.tup [x, y]) (.int 1) = .ok y := ⟨rfl, rfl⟩
theorem mx : 0 < maxSeq ∧ 1 < maxSeq ∧ 1 ≤ maxSeq ∧ 2 ≤ maxSeq := by decide
theorem len_rows (rs : List (Int × Int)) : bLen [rowsD rs] = .ok (.int rs.length) := by unfold rowsD; simp [bLen]
theorem ix_odds (p : Int × Int) : dIx (oddsD p) (.int 0) = .ok (.int p.1) ∧ dIx (oddsD p) (.int 1) = .ok (.int p.2) := ⟨rfl, rfl⟩
theorem mem_rng {n : Nat} {d : D} (h : d ∈ rngD 0 1 n) : ∃ k : Nat, k < n ∧ d = .int k := by
  unfold rngD at h
  obtain ⟨k, h1, h2⟩ := List.mem_map.mp h
  exact ⟨k, List.mem_range.mp h1, by rw [← h2]; congr 1; omega⟩
theorem due_form {rs : List (Int × Int)} {ss : List Int} {one other : D} (h2 : rs.length ≤ 20) (ho : Asked one) (ho2 : Asked other) (h : plc rs.length one = none ∨ plc rs.length other = none ∨ plc rs.length one = plc rs.length other) :
    m__law_better_due [rowsD rs, intsD ss, one, other] = .ok (.str "paper form") := by
  have lr := len_rows rs
  have w1 := whole_ok one ho.1
  have w2 := whole_ok other ho2.1
  unfold m__law_better_due b__law_better_due
  by_cases k1 : ∃ i, one = .int i
  · obtain ⟨i, rfl⟩ := k1
    by_cases k2 : ∃ j, other = .int j
    · obtain ⟨j, rfl⟩ := k2
      by_cases z1 : 0 ≤ i
      · by_cases z2 : i < rs.length
        · by_cases z3 : 0 ≤ j
          · by_cases z4 : j < rs.length
            · have e : i = j := by
                simp only [plc, z1, z2, z3, z4, and_self, if_true, Option.some.injEq, reduceCtorEq, false_or] at h
                omega
              subst e
              simp [enter, bSeq, bNil, sSet, dCall, dCons, dNil, dVar, lr, put, isOw, sIf, dTOr, dTNot, dTr, truth, dTb, dChain, dLe, dLt, dCmpI, dC, dBin, dEq_int, sRet, fin, z1, z2]
            · simp [enter, bSeq, bNil, sSet, dCall, dCons, dNil, dVar, lr, put, isOw, sIf, dTOr, dTNot, dTr, truth, dTb, dChain, dLe, dLt, dCmpI, dC, dBin, dEq_int, sRet, fin, z1, z2, z3, z4]
          · simp [enter, bSeq, bNil, sSet, dCall, dCons, dNil, dVar, lr, put, isOw, sIf, dTOr, dTNot, dTr, truth, dTb, dChain, dLe, dLt, dCmpI, dC, dBin, dEq_int, sRet, fin, z1, z2, z3]
        · simp [enter, bSeq, bNil, sSet, dCall, dCons, dNil, dVar, lr, put, isOw, sIf, dTOr, dTNot, dTr, truth, dTb, dChain, dLe, dLt, dCmpI, dC, dBin, dEq_int, sRet, fin, z1, z2]
      · simp [enter, bSeq, bNil, sSet, dCall, dCons, dNil, dVar, lr, put, isOw, sIf, dTOr, dTNot, dTr, truth, dTb, dChain, dLe, dLt, dCmpI, dC, dBin, dEq_int, sRet, fin, z1]
    · have w3 : m__law_whole [other] = .ok (.bl false) := by
        rw [w2]
        cases other <;> first | rfl | exact absurd ⟨_, rfl⟩ k2
      simp [enter, bSeq, bNil, sSet, dCall, dCons, dNil, dVar, lr, put, isOw, sIf, dTOr, dTNot, dTr, truth, w3, dC, sRet, fin]
  · have w3 : m__law_whole [one] = .ok (.bl false) := by
      rw [w1]
      cases one <;> first | rfl | exact absurd ⟨_, rfl⟩ k1
    simp [enter, bSeq, bNil, sSet, dCall, dCons, dNil, dVar, lr, put, isOw, sIf, dTOr, dTNot, dTr, truth, w3, dC, sRet, fin]
theorem due_tries {rs : List (Int × Int)} {ss : List Int} {i j : Nat} {a : Int} (hi : i < rs.length) (hj : j < rs.length) (hij : i ≠ j) (ha : ss[i]? = some a) (h : a < 2) :
    m__law_better_due [rowsD rs, intsD ss, .int i, .int j] = .ok (.str "paper tries") := by
  have lr := len_rows rs
  have ia := ix_ints ha
  have hij2 : ¬ ((i : Int) = j) := by omega
  unfold m__law_better_due b__law_better_due
  simp [enter, bSeq, bNil, sSet, dCall, dCons, dNil, dVar, lr, put, isOw, sIf, dTOr, dTNot, dTr, truth, dTb, dChain, dLe, dLt, dCmpI, dC, dBin, dEq_int, sRet, fin, hi, hj, hij2, ia, h]
/-- a row with no chance, but at the two places -/
def deadP (rs : List (Int × Int)) (i j : Nat) : D → Bool
  | .int k => !decide (k = i) && (!decide (k = j) && decide (((rs[k.toNat]?).getD (0, 0)).1 = 0))
  | _ => false
theorem dead_iff {rs : List (Int × Int)} {i j : Nat} : (rngD 0 1 rs.length).filter (deadP rs i j) ≠ [] ↔ ∃ k r, k ≠ i ∧ k ≠ j ∧ rs[k]? = some r ∧ r.1 = 0 := by
  rw [ne_eq, List.filter_eq_nil_iff]
  constructor
  · intro h
    by_cases g : ∃ k r, k ≠ i ∧ k ≠ j ∧ rs[k]? = some r ∧ r.1 = 0
    · exact g
    · refine absurd (fun d hd hP => g ?_) h
      obtain ⟨k, hk, rfl⟩ := mem_rng hd
      unfold deadP at hP
      simp only [Bool.and_eq_true, Bool.not_eq_true', decide_eq_false_iff_not, decide_eq_true_eq, Int.toNat_natCast, List.getElem?_eq_getElem hk, Option.getD_some] at hP
      exact ⟨k, rs[k], by omega, by omega, List.getElem?_eq_getElem hk, hP.2.2⟩
  · rintro ⟨k, r, k1, k2, k3, k4⟩ h
    have hk := (List.getElem?_eq_some_iff.mp k3).1
    refine h (.int k) ?_ ?_
    · unfold rngD
      exact List.mem_map.mpr ⟨k, List.mem_range.mpr hk, by congr 1; omega⟩
    · unfold deadP
      simp only [Bool.and_eq_true, Bool.not_eq_true', decide_eq_false_iff_not, decide_eq_true_eq, Int.toNat_natCast, k3, Option.getD_some]
      exact ⟨by omega, by omega, k4⟩
theorem moved_rng {ss : List Int} {a b : Int} : (rngD 0 1 ss.length).map (fun d => match d with | .int k => D.int ((ss[k.toNat]?).getD 0 - (if k = a then 1 else 0) + (if k = b then 1 else 0)) | _ => .non) = (mvL a b 0 ss).map D.int := by
  apply List.ext_getElem?
  intro k
  unfold rngD
  rw [List.map_map, List.getElem?_map, List.getElem?_map, mvL_get]
  by_cases hk : k < ss.length
  · rw [List.getElem?_range hk, List.getElem?_eq_getElem hk]
    have : (0 : Int) + (k : Int) * 1 = k := by omega
    simp [this, hk]
  · rw [List.getElem?_eq_none (by simp; omega), List.getElem?_eq_none (by omega)]
    rfl
theorem due_row {R S W N : D} {i j : Nat} {g e g' e' : Int} {P Q A B : D} {acc : List D} {x7 x8 x9 x10 x11 : Sl} (ha : acc.length < maxSeq) (ip : dIx R (.int i) = .ok P) (iq : dIx R (.int j) = .ok Q) (ia : dIx W (.int i) = .ok A) (ib : dIx W (.int j) = .ok B) (f1 : m__law_fails [P, A] = .ok (.tup [.int g, .int e])) (f2 : m__law_fails [Q, B] = .ok (.tup [.int g', .int e']))
    (n1 : (e - g).natAbs < 2 ^ 40 ∧ e.natAbs < 2 ^ 40) (n2 : (e' - g').natAbs < 2 ^ 40 ∧ e'.natAbs < 2 ^ 40) :
    (bSeq (sAsg (dTup (dCons (dC (.int 1)) (dCons (dC (.int 1)) (dNil)))) (gTupD (lenOf 2 (gsCons (gSet 8) (gsCons (gSet 9) (gsNil))))))
  (bSeq (sFor (dItems (dLst (dCons (dVar 2) (dCons (dVar 3) (dNil))))) (gSet 7) (bSeq (sAsg (dCall m__law_fails (dCons (dBin dIx (dVar 0) (dVar 7)) (dCons (dBin dIx (dVar 6) (dVar 7)) (dNil)))) (gTupD (lenOf 2 (gsCons (gSet 10) (gsCons (gSet 11) (gsNil))))))
  (sPar 8 9 (dCons (dBin dMul (dVar 8) (dBin dSub (dVar 11) (dVar 10))) (dCons (dBin dMul (dVar 9) (dVar 11)) (dNil))))))
  (sDrop (dMeth fApp 5 (dCons (dTup (dCons (dVar 8) (dCons (dVar 9) (dNil)))) (dNil))))))
      [.va R, .va S, .va (.int i), .va (.int j), .va N, .ow (.lst acc), .va W, x7, x8, x9, x10, x11] = .ok (.nx, [.va R, .va S, .va (.int i), .va (.int j), .va N, .ow (.lst (acc ++ [.tup [.int ((e - g) * (e' - g')), .int (e * e')]])), .va W, .va (.int j), .va (.int ((e - g) * (e' - g'))), .va (.int (e * e')), .va (.int g'), .va (.int e')]) := by
  have one : (1 : Int).natAbs < 2 ^ 1 := by decide
  have t1 : mulOk 1 (e - g) = true := mulOk_of one n1.1 (by decide)
  have t2 : mulOk 1 e = true := mulOk_of one n1.2 (by decide)
  have t5 : mulOk (e - g) (e' - g') = true := mulOk_of n1.1 n2.1 (by decide)
  have t6 : mulOk e e' = true := mulOk_of n1.2 n2.2 (by decide)
  simp [bSeq, bNil, sSet, dCall, dCons, dNil, dVar, put, isOw, dC, dBin, dLst, mx.1, mx.2.1, mx.2.2.1, mx.2.2.2, sFor, dItems, forL, gSet, sAsg, dTup, gTupD, lenOf, gsCons, gsNil, ip, iq, ia, ib, f1, f2, sPar, dSub, dIntOp, dMul, t1, t2, t5, t6, sDrop, dMeth, fApp, ha]
theorem due_main {rs : List (Int × Int)} {ss : List Int} {i j : Nat} {p q : Int × Int} {a b : Int} (hl : ss.length = rs.length) (h2 : rs.length ≤ 20) (hij : i ≠ j) (hp : rs[i]? = some p) (hq : rs[j]? = some q) (ha : ss[i]? = some a) (hb : ss[j]? = some b) (gp : GoodP p) (gq : GoodP q) (a1 : 2 ≤ a) (a2 : a ≤ 3) (b1 : 1 ≤ b) (b2 : b ≤ 3) :
    m__law_better_due [rowsD rs, intsD ss, .int i, .int j] = .ok (if ((rngD 0 1 rs.length).filter (deadP rs i j) = []) ∧ (fU p a * fU q b) * (fD p (a - 1) * fD q (b + 1)) < (fU p (a - 1) * fU q (b + 1)) * (fD p a * fD q b) then .lst [.non] else .str "paper odds") := by
  have lr := len_rows rs
  have ia := ix_ints ha
  have ib := ix_ints hb
  have ip := ix_rows hp
  have iq := ix_rows hq
  have hi := (List.getElem?_eq_some_iff.mp hp).1
  have hj := (List.getElem?_eq_some_iff.mp hq).1
  have hij2 : ¬ ((i : Int) = j) := by omega
  have hij3 : ¬ ((j : Int) = i) := by omega
  have ma : (mvL i j 0 ss)[i]? = some (a - 1) := by
    rw [mvL_get, ha]; simp [hij2]
  have mb : (mvL i j 0 ss)[j]? = some (b + 1) := by rw [mvL_get, hb]; simp [hij3]
  have ja := ix_ints ma
  have jb := ix_ints mb
  have f1 := fails_ok gp (n := a) (by omega) (by omega)
  have f2 := fails_ok gq (n := b) (by omega) (by omega)
  have f3 := fails_ok gp (n := a - 1) (by omega) (by omega)
  have f4 := fails_ok gq (n := b + 1) (by omega) (by omega)
  have n1 := f_bound gp (n := a) (by omega) (by omega)
  have n2 := f_bound gq (n := b) (by omega) (by omega)
  have n3 := f_bound gp (n := a - 1) (by omega) (by omega)
  have n4 := f_bound gq (n := b + 1) (by omega) (by omega)
  unfold fU fD at *
  generalize (p.2 - p.1) ^ a.toNat = g1 at *
  generalize (q.2 - q.1) ^ b.toNat = g2 at *
  generalize (p.2 - p.1) ^ (a - 1).toNat = g3 at *
  generalize (q.2 - q.1) ^ (b + 1).toNat = g4 at *
  generalize p.2 ^ a.toNat = e1 at *
  generalize q.2 ^ b.toNat = e2 at *
  generalize p.2 ^ (a - 1).toNat = e3 at *
  generalize q.2 ^ (b + 1).toNat = e4 at *
  have t9 : mulOk ((e1 - g1) * (e2 - g2)) (e3 * e4) = true := mulOk_of (natAbs_mul_lt n1.1 n2.1) (natAbs_mul_lt n3.2 n4.2) (by decide)
  have t10 : mulOk ((e3 - g3) * (e4 - g4)) (e1 * e2) = true := mulOk_of (natAbs_mul_lt n3.1 n4.1) (natAbs_mul_lt n1.2 n2.2) (by decide)
  have hm : rs.length ≤ maxSeq := by unfold maxSeq; omega
  have hsm : smallI (rs.length : Int) = true := by unfold smallI; simp; omega
  have lc : lcL (gSet 7) dYes (dBin dAdd (dBin dSub (dBin dIx (dVar 1) (dVar 7)) (dCall bInt (dCons (dBin dEq (dVar 7) (dVar 2)) (dNil)))) (dCall bInt (dCons (dBin dEq (dVar 7) (dVar 3)) (dNil)))) [7] (rngD 0 1 rs.length)
      [.va (rowsD rs), .va (intsD ss), .va (.int i), .va (.int j), .va (.int rs.length), .ow (.lst []), .un, .un, .un, .un, .un, .un] = .ok ((mvL i j 0 ss).map D.int, [.va (rowsD rs), .va (intsD ss), .va (.int i), .va (.int j), .va (.int rs.length), .ow (.lst []), .un, .un, .un, .un, .un, .un]) := by
    rw [← moved_rng, hl]
    refine lcL_map _ fun d hd => ?_
    obtain ⟨k, hk, rfl⟩ := mem_rng hd
    have hk2 : k < ss.length := by omega
    have ik := ix_ints (List.getElem?_eq_getElem hk2)
    refine ⟨[.va (rowsD rs), .va (intsD ss), .va (.int i), .va (.int j), .va (.int rs.length), .ow (.lst []), .un, .va (.int k), .un, .un, .un, .un], [.va (rowsD rs), .va (intsD ss), .va (.int i), .va (.int j), .va (.int rs.length), .ow (.lst []), .un, .va (.int k), .un, .un, .un, .un], rfl, ?_, rfl⟩
    simp [dBin, dVar, dCall, dCons, dNil, ik, dEq_int, bInt_bl, dSub, dAdd, dIntOp, hk2]
  have lc2 : ∀ s5 s6 s8 s9 s10 s11 : Sl, lcL (gSet 7) (dTAnd (dTb (dBin dNe (dVar 7) (dVar 2))) (dTAnd (dTb (dBin dNe (dVar 7) (dVar 3))) (dTb (dBin dEq (dBin dIx (dBin dIx (dVar 0) (dVar 7)) (dC (.int 0))) (dC (.int 0)))))) (dVar 7) [7] (rngD 0 1 rs.length)
      [.va (rowsD rs), .va (intsD ss), .va (.int i), .va (.int j), .va (.int rs.length), s5, s6, .un, s8, s9, s10, s11] = .ok ((rngD 0 1 rs.length).filter (deadP rs i j), [.va (rowsD rs), .va (intsD ss), .va (.int i), .va (.int j), .va (.int rs.length), s5, s6, .un, s8, s9, s10, s11]) := by
    intro s5 s6 s8 s9 s10 s11
    refine lcL_filter _ fun d hd => ?_
    obtain ⟨k, hk, rfl⟩ := mem_rng hd
    have ik := ix_rows (List.getElem?_eq_getElem hk)
    have ik2 := (ix_odds rs[k]).1
    refine ⟨[.va (rowsD rs), .va (intsD ss), .va (.int i), .va (.int j), .va (.int rs.length), s5, s6, .va (.int k), s8, s9, s10, s11], [.va (rowsD rs), .va (intsD ss), .va (.int i), .va (.int j), .va (.int rs.length), s5, s6, .va (.int k), s8, s9, s10, s11], [.va (rowsD rs), .va (intsD ss), .va (.int i), .va (.int j), .va (.int rs.length), s5, s6, .va (.int k), s8, s9, s10, s11], rfl, ?_, rfl, rfl, rfl⟩
    unfold deadP
    by_cases z1 : (k : Int) = i
    · simp [dTAnd, dTb, dBin, dVar, dNe_int, z1]
    · by_cases z2 : (k : Int) = j
      · simp [dTAnd, dTb, dBin, dVar, dNe_int, z1, z2]
      · simp [dTAnd, dTb, dBin, dVar, dNe_int, z1, z2, ik, ik2, dEq_int, dC, hk]
  have hlf : ((rngD 0 1 rs.length).filter (deadP rs i j)).length ≤ maxSeq := Nat.le_trans (List.length_filter_le _ _) (by unfold rngD; simp; exact hm)
  have hem : ((rngD 0 1 rs.length).filter (deadP rs i j)).isEmpty = decide ((rngD 0 1 rs.length).filter (deadP rs i j) = []) := by
    cases (rngD 0 1 rs.length).filter (deadP rs i j) <;> simp
  unfold m__law_better_due b__law_better_due
  generalize hF : (rngD 0 1 rs.length).filter (deadP rs i j) = F at *
  have hA : ¬ (a < 2) := by omega
  have bt : bTuple [.lst ((mvL i j 0 ss).map D.int)] = .ok (intsD (mvL i j 0 ss)) := by
    unfold intsD; simp [bTuple]
  have hml : (mvL i j 0 ss).length ≤ maxSeq := by rw [mvL_len, hl]; exact hm
  unfold oddsD at *
  have r1 := fun {x7 x8 x9 x10 x11 : Sl} => due_row (S := intsD ss) (N := .int rs.length) (acc := []) (x7 := x7) (x8 := x8) (x9 := x9) (x10 := x10) (x11 := x11) mx.1 ip iq ia ib f1 f2 n1 n2
  have r2 := fun {x7 x8 x9 x10 x11 : Sl} => due_row (S := intsD ss) (N := .int rs.length) (acc := [.tup [.int ((e1 - g1) * (e2 - g2)), .int (e1 * e2)]]) (x7 := x7) (x8 := x8) (x9 := x9) (x10 := x10) (x11 := x11) mx.2.1 ip iq ja jb f3 f4 n3 n4
  rw [show enter 12 [rowsD rs, intsD ss, .int i, .int j] = [.va (rowsD rs), .va (intsD ss), .va (.int i), .va (.int j), .un, .un, .un, .un, .un, .un, .un, .un] from rfl]
  have s1 : sSet 4 (dCall bLen (dCons (dVar 0) (dNil))) [.va (rowsD rs), .va (intsD ss), .va (.int i), .va (.int j), .un, .un, .un, .un, .un, .un, .un, .un] = .ok (.nx, [.va (rowsD rs), .va (intsD ss), .va (.int i), .va (.int j), .va (.int rs.length), .un, .un, .un, .un, .un, .un, .un]) := by
    simp [sSet, dCall, dCons, dNil, dVar, lr, put, isOw]
  have hrg : dRng (dCons (dVar 4) (dNil)) [.va (rowsD rs), .va (intsD ss), .va (.int i), .va (.int j), .va (.int rs.length), .ow (.lst []), .un, .un, .un, .un, .un, .un] = .ok (rngD 0 1 rs.length, [.va (rowsD rs), .va (intsD ss), .va (.int i), .va (.int j), .va (.int rs.length), .ow (.lst []), .un, .un, .un, .un, .un, .un]) := by
    exact dRng_ok (by simp [dCons, dNil, dVar]) hsm
  have hrg2 : ∀ s5 s6 s7 s8 s9 s10 s11 : Sl, dRng (dCons (dVar 4) (dNil)) [.va (rowsD rs), .va (intsD ss), .va (.int i), .va (.int j), .va (.int rs.length), s5, s6, s7, s8, s9, s10, s11] = .ok (rngD 0 1 rs.length, [.va (rowsD rs), .va (intsD ss), .va (.int i), .va (.int j), .va (.int rs.length), s5, s6, s7, s8, s9, s10, s11]) := fun s5 s6 s7 s8 s9 s10 s11 => dRng_ok (by simp [dCons, dNil, dVar]) hsm
  have q1 : (dLc (dRng (dCons (dVar 4) (dNil))) (gSet 7) (dYes) (dBin dAdd (dBin dSub (dBin dIx (dVar 1) (dVar 7)) (dCall bInt (dCons (dBin dEq (dVar 7) (dVar 2)) (dNil)))) (dCall bInt (dCons (dBin dEq (dVar 7) (dVar 3)) (dNil)))) [7]) [.va (rowsD rs), .va (intsD ss), .va (.int i), .va (.int j), .va (.int rs.length), .ow (.lst []), .un, .un, .un, .un, .un, .un] = .ok (.lst ((mvL i j 0 ss).map D.int), [.va (rowsD rs), .va (intsD ss), .va (.int i), .va (.int j), .va (.int rs.length), .ow (.lst []), .un, .un, .un, .un, .un, .un]) := by
    unfold dLc
    rw [hrg, bnd_ok]
    simp only []
    rw [if_pos (show noOw [.va (rowsD rs), .va (intsD ss), .va (.int i), .va (.int j), .va (.int rs.length), .ow (.lst []), .un, .un, .un, .un, .un, .un] [7] = true from rfl), show wipeE [.va (rowsD rs), .va (intsD ss), .va (.int i), .va (.int j), .va (.int rs.length), .ow (.lst []), .un, .un, .un, .un, .un, .un] [7] = [.va (rowsD rs), .va (intsD ss), .va (.int i), .va (.int j), .va (.int rs.length), .ow (.lst []), .un, .un, .un, .un, .un, .un] from rfl, lc, ns_ok, bnd_ok]
    simp only []
    rw [if_pos (by rw [List.length_map]; exact hml)]
    rfl
  have s2 : (dItems (dLst (dCons (dVar 1) (dCons (dCall bTuple (dCons (dLc (dRng (dCons (dVar 4) (dNil))) (gSet 7) (dYes) (dBin dAdd (dBin dSub (dBin dIx (dVar 1) (dVar 7)) (dCall bInt (dCons (dBin dEq (dVar 7) (dVar 2)) (dNil)))) (dCall bInt (dCons (dBin dEq (dVar 7) (dVar 3)) (dNil)))) [7]) (dNil))) (dNil))))) [.va (rowsD rs), .va (intsD ss), .va (.int i), .va (.int j), .va (.int rs.length), .ow (.lst []), .un, .un, .un, .un, .un, .un] = .ok ([intsD ss, intsD (mvL i j 0 ss)], [.va (rowsD rs), .va (intsD ss), .va (.int i), .va (.int j), .va (.int rs.length), .ow (.lst []), .un, .un, .un, .un, .un, .un]) :=
    dLst2 (by simp [dVar]) (dCall1 q1 bt)
  rw [bSeq, s1, bnd_ok]
  simp only []
  rw [bSeq]
  have s3 : ∀ (t : Tv) (x y : Sv) (env : En), t env = .ok (false, env) → sIf t x y env = y env := fun t x y env h => by unfold sIf; rw [h]; rfl
  rw [s3 _ _ _ _ (by simp [dTOr, dTNot, dTr, truth, dCall, dCons, dNil, dVar, dTb, dChain, dLe, dLt, dCmpI, dC, dBin, dEq_int, hi, hj, hij2])]
  rw [bNil, bnd_ok]
  simp only []
  rw [bSeq, s3 _ _ _ _ (by simp [dTb, dBin, dVar, ia, dC, dLt, dCmpI, hA]), bNil, bnd_ok]
  simp only []
  rw [bSeq, show sSetO 5 (dLst (dNil)) [.va (rowsD rs), .va (intsD ss), .va (.int i), .va (.int j), .va (.int rs.length), .un, .un, .un, .un, .un, .un, .un] = .ok (.nx, [.va (rowsD rs), .va (intsD ss), .va (.int i), .va (.int j), .va (.int rs.length), .ow (.lst []), .un, .un, .un, .un, .un, .un]) from (by simp [sSetO, dLst, dNil, put, isOw]), bnd_ok]
  simp only []
  rw [bSeq, sFor, s2, bnd_ok, forL]
  simp only [gSet, put, isOw, ns_ok, bnd_ok, List.set_cons_zero, List.set_cons_succ, List.getElem?_cons_zero, beq_iff_eq, Nat.reduceEqDiff, Bool.false_and, Bool.false_eq_true, if_false, Nat.add_one_ne_zero, decide_false, reduceCtorEq, Bool.and_self, Bool.and_false]
  rw [r1, bnd_ok, forL]
  simp only [gSet, put, isOw, ns_ok, bnd_ok, List.set_cons_zero, List.set_cons_succ, List.getElem?_cons_zero, beq_iff_eq, Nat.reduceEqDiff, Bool.false_and, Bool.false_eq_true, if_false, Nat.add_one_ne_zero, decide_false, reduceCtorEq, Bool.and_self, Bool.and_false, List.nil_append]
  rw [r2, bnd_ok, forL, bnd_ok]
  simp only [List.cons_append, List.nil_append]
  rw [bSeq]
  have q2 := fun (s5 s6 s8 s9 s10 s11 : Sl) => dTr_lst (dLc_ok2 (env := [.va (rowsD rs), .va (intsD ss), .va (.int i), .va (.int j), .va (.int rs.length), s5, s6, .va (.int j), s8, s9, s10, s11]) (v := 7) (hrg2 s5 s6 (.va (.int j)) s8 s9 s10 s11) rfl rfl (lc2 s5 s6 s8 s9 s10 s11) hlf)
  have s4 : ∀ (t : Tv) (x y : Sv) (env : En), t env = .ok (true, env) → sIf t x y env = x env := fun t x y env h => by unfold sIf; rw [h]; rfl
  by_cases hF0 : F = []
  · rw [s3 _ _ _ _ (by rw [q2]; rw [hF0]; rfl), bNil, bnd_ok]
    simp only []
    by_cases hlt : (e1 - g1) * (e2 - g2) * (e3 * e4) < (e3 - g3) * (e4 - g4) * (e1 * e2)
    · simp [dCons, dNil, dVar, dTb, dLt, dCmpI, dC, dBin, sRet, dMul, t9, t10, dIf, dVarO, dLst, mx.2.2.1, (ixl _ _).1, (ixl _ _).2, (ixt _ _).1, (ixt _ _).2, fin, hF0, hlt]
    · simp [dCons, dNil, dVar, dTb, dLt, dCmpI, dC, dBin, sRet, dMul, t9, t10, dIf, dVarO, dLst, mx.2.2.1, (ixl _ _).1, (ixl _ _).2, (ixt _ _).1, (ixt _ _).2, fin, hF0, hlt]
  · have hF1 : (!F.isEmpty) = true := by rw [hem]; simp [hF0]
    rw [s4 _ _ _ _ (by rw [q2, hF1])]
    simp [sRet, dC, fin, hF0]
end LW
end Dn

/-! P14g -/
set_option Elab.async false
set_option linter.all false
set_option maxRecDepth 100000
set_option maxHeartbeats 1000000
namespace Dn
namespace LW
open PySem
theorem ne_lit {x : Str} (h : x.cps.all (· < 0x110000) = true) : dNe (.str x) (.str x) = .ok (.bl false) := by
  have e : (x == x) = true := beq_self_eq_true x
  unfold dNe D.ok
  simp only [D.lay, D.dep, D.eqv, h, e, Nat.zero_le, decide_true, Bool.and_self, if_true, Bool.not_true]
/-- both sides of the comparison -/
theorem better_eq {rs : List (Int × Int)} {ss : List Int} {one other : D} (hl : ss.length = rs.length) (h1 : 1 ≤ rs.length) (h2 : rs.length ≤ 20) (hr : ∀ p, p ∈ rs → GoodP p) (hs : ∀ s, s ∈ ss → 1 ≤ s ∧ s ≤ 3) (ho : Asked one) (ho2 : Asked other) :
    ∃ r, m__law_heard [.fn 7, .lst [rowsD rs, intsD ss, one, other]] = .ok r ∧ m__law_better_due [rowsD rs, intsD ss, one, other] = .ok r ∧ dNe r r = .ok (.bl false) := by
  have A := accept_ok hl h1 h2 hr hs ho ho2
  have e1 : dNe (.str "paper form") (.str "paper form") = .ok (.bl false) := ne_lit (by decide +kernel)
  have e2 : dNe (.str "paper tries") (.str "paper tries") = .ok (.bl false) := ne_lit (by decide +kernel)
  have e3 : dNe (.str "paper odds") (.str "paper odds") = .ok (.bl false) := ne_lit (by decide +kernel)
  have e4 : dNe (.lst [.non]) (.lst [.non]) = .ok (.bl false) := by simp [dNe, D.ok, D.lay, D.lays, D.dep, D.deps, D.eqv, D.eqvs]
  unfold vBetter at A
  cases p1 : plc rs.length one with
  | none =>
    rw [p1] at A
    exact ⟨_, A, due_form h2 ho ho2 (.inl p1), e1⟩
  | some i =>
    cases p2 : plc rs.length other with
    | none =>
      rw [p1, p2] at A
      exact ⟨_, A, due_form h2 ho ho2 (.inr (.inl p2)), e1⟩
    | some j =>
      rw [p1, p2] at A
      by_cases hij : i = j
      · simp only [hij, if_true] at A
        exact ⟨_, A, due_form h2 ho ho2 (.inr (.inr (by rw [p1, p2, hij]))), e1⟩
      · simp only [hij, if_false] at A
        obtain ⟨q1, hi⟩ := plc_some p1
        obtain ⟨q2, hj⟩ := plc_some p2
        subst q1 q2
        have hi2 : i < ss.length := by omega
        have hj2 : j < ss.length := by omega
        have ga := List.getElem?_eq_getElem hi2
        have gb := List.getElem?_eq_getElem hj2
        have gp := List.getElem?_eq_getElem hi
        have gq := List.getElem?_eq_getElem hj
        by_cases ht : ss[i] < 2
        · rw [ga] at A
          simp only [Option.getD_some, ht, if_true] at A
          exact ⟨_, A, due_tries hi hj hij ga ht, e2⟩
        · rw [ga] at A
          simp only [Option.getD_some, ht, if_false] at A
          have sa := hs _ (List.getElem_mem hi2)
          have sb := hs _ (List.getElem_mem hj2)
          have B := due_main hl h2 hij gp gq ga gb (hr _ (List.getElem_mem hi)) (hr _ (List.getElem_mem hj)) (by omega) sa.2 sb.1 sb.2
          have L := less_iff hr hs hl hij gp gq ga gb
          have Z := dead_iff (rs := rs) (i := i) (j := j)
          by_cases c1 : (rngD 0 1 rs.length).filter (deadP rs i j) = []
          · have c2 : ¬ ∃ k r, k ≠ i ∧ k ≠ j ∧ rs[k]? = some r ∧ r.1 = 0 := fun z => Z.mpr z c1
            by_cases c3 : (fU rs[i] ss[i] * fU rs[j] ss[j]) * (fD rs[i] (ss[i] - 1) * fD rs[j] (ss[j] + 1)) < (fU rs[i] (ss[i] - 1) * fU rs[j] (ss[j] + 1)) * (fD rs[i] ss[i] * fD rs[j] ss[j])
            · rw [if_pos (L.mpr ⟨c2, c3⟩)] at A
              rw [if_pos ⟨c1, c3⟩] at B
              exact ⟨_, A, B, e4⟩
            · rw [if_neg (fun z => c3 (L.mp z).2)] at A
              rw [if_neg (fun z => c3 z.2)] at B
              exact ⟨_, A, B, e3⟩
          · rw [if_neg (fun z => (L.mp z).1 (Z.mp c1))] at A
            rw [if_neg (fun z => c1 z.1)] at B
            exact ⟨_, A, B, e3⟩
end LW
end Dn

/-! P14h -/
set_option Elab.async false
set_option linter.all false
set_option maxRecDepth 100000
set_option maxHeartbeats 2000000
namespace Dn
namespace LW
open PySem
/-! ### the tail -/
theorem bw_non (a b : D) : m_is_between [.non, a, b] = .ok (.bl false) := between_no _ _ _ (fun e => by cases e) (fun i e => by cases e)
theorem bw_bl (x : Bool) (a b : D) : m_is_between [.bl x, a, b] = .ok (.bl false) := between_no _ _ _ (fun e => by cases e) (fun i e => by cases e)
theorem bw_str (x : Str) (a b : D) : m_is_between [.str x, a, b] = .ok (.bl false) := between_no _ _ _ (fun e => by cases e) (fun i e => by cases e)
theorem bw_tup (x : List D) (a b : D) : m_is_between [.tup x, a, b] = .ok (.bl false) := between_no _ _ _ (fun e => by cases e) (fun i e => by cases e)
theorem bw_lst (x : List D) (a b : D) : m_is_between [.lst x, a, b] = .ok (.bl false) := between_no _ _ _ (fun e => by cases e) (fun i e => by cases e)
theorem heard2 (f : Nat) (mf : List D → M D) (a b : D) (ht : tbl f = some (2, mf)) : m__law_heard [.fn f, .lst [a, b]] = match mf [a, b] with
    | .ok r => .ok (.lst [r])
    | .error (.raise k p) => wordOf k p
    | .error .stuck => stuck := by
  unfold m__law_heard b__law_heard m__law_called b__law_called
  simp [enter, sHeard, noOwE, sRet, dLst, dCons, dCall, dNil, dVar, bSeq, bNil, sIf, dTb, dBin, bLen, dC, dLt, dCmpI, dIf, dEq_int, dCallV, ht, dIx, L2.atI, L2.ixN]
  cases h : mf [a, b] with
  | ok r => simp [fin, maxSeq]
  | error x => cases x with
    | stuck => rfl
    | raise k p =>
      simp [fin]
      cases wordOf k p <;> rfl
theorem heard3 (f : Nat) (mf : List D → M D) (a b c : D) (ht : tbl f = some (3, mf)) : m__law_heard [.fn f, .lst [a, b, c]] = match mf [a, b, c] with
    | .ok r => .ok (.lst [r])
    | .error (.raise k p) => wordOf k p
    | .error .stuck => stuck := by
  unfold m__law_heard b__law_heard m__law_called b__law_called
  simp [enter, sHeard, noOwE, sRet, dLst, dCons, dCall, dNil, dVar, bSeq, bNil, sIf, dTb, dBin, bLen, dC, dLt, dCmpI, dIf, dEq_int, dCallV, ht, dIx, L2.atI, L2.ixN]
  cases h : mf [a, b, c] with
  | ok r => simp [fin, maxSeq]
  | error x => cases x with
    | stuck => rfl
    | raise k p =>
      simp [fin]
      cases wordOf k p <;> rfl
theorem h2e {f : Nat} {mf : List D → M D} {a b p d : D} {k : Nat} (ht : tbl f = some (2, mf)) (h : mf [a, b] = .error (.raise k p)) (hw : wordOf k p = .ok d) : m__law_heard [.fn f, .lst [a, b]] = .ok d := by rw [heard2 f mf a b ht, h]; exact hw
theorem h3e {f : Nat} {mf : List D → M D} {a b c p d : D} {k : Nat} (ht : tbl f = some (3, mf)) (h : mf [a, b, c] = .error (.raise k p)) (hw : wordOf k p = .ok d) : m__law_heard [.fn f, .lst [a, b, c]] = .ok d := by rw [heard3 f mf a b c ht, h]; exact hw
theorem h4e {f : Nat} {mf : List D → M D} {a b c e p d : D} {k : Nat} (ht : tbl f = some (4, mf)) (h : mf [a, b, c, e] = .error (.raise k p)) (hw : wordOf k p = .ok d) : m__law_heard [.fn f, .lst [a, b, c, e]] = .ok d := by rw [heard4 f mf a b c e ht, h]; exact hw
abbrev oddsL : List D := [.non, .tup [], .tup [.int 1], .tup [.int 2, .int 1], .tup [.int (-1), .int 1], .tup [.int 0, .int 0], .tup [.int 1, .int 1001], .tup [.bl true, .int 1], .tup [.int 1, .bl true], .tup [.str "1", .int 2], .tup [.int 1, .int 2, .int 3], .int 5, .lst [.int 1, .int 2]]
theorem odds_no {d : D} (h : d ∈ oddsL) (r : D) : m_check_odds [d, r] = .error (.raise 1 r) := by
  ((simp only [List.mem_cons, List.not_mem_nil, or_false] at h))
  rcases h with rfl | rfl | rfl | rfl | rfl | rfl | rfl | rfl | rfl | rfl | rfl | rfl | rfl <;>
  (simp [enter, bSeq, bNil, sIf, dTOr, dTNot, dTr, dTb, dIsi, dVar, D.ty, isTy, truth, dBin, dNe_int, dEq_int, dCall, dCons, dNil, bLen, dC, dIx, L2.atI, L2.ixN, sRaise, fin, sDrop, between_int, m_check_odds, b_check_odds, bw_bl, bw_str])
theorem w_odds : wordOf 1 (.str "odds") = .ok (.str "argument odds") := rfl
theorem heard_odds {d : D} (h : d ∈ oddsL) : m__law_heard [.fn 0, .lst [d, .non]] = .ok (.str "argument odds") ∧ m__law_heard [.fn 1, .lst [d, .non]] = .ok (.str "argument odds") ∧ m__law_heard [.fn 2, .lst [d, .non]] = .ok (.str "argument odds") ∧ m__law_heard [.fn 3, .lst [d, .non]] = .ok (.str "argument odds") := by
  have e := odds_no h
  refine ⟨h2e rfl ?_ w_odds, h2e rfl ?_ w_odds, h2e rfl ?_ w_odds, h2e rfl ?_ w_odds⟩
  · (simp [enter, bSeq, bNil, sIf, dTOr, dTNot, dTr, dTb, dIsi, dVar, D.ty, isTy, truth, dBin, dNe_int, dEq_int, dCall, dCons, dNil, bLen, dC, dIx, L2.atI, L2.ixN, sRaise, fin, sDrop, between_int, m_least_tries, b_least_tries, e])
  · (simp [enter, bSeq, bNil, sIf, dTOr, dTNot, dTr, dTb, dIsi, dVar, D.ty, isTy, truth, dBin, dNe_int, dEq_int, dCall, dCons, dNil, bLen, dC, dIx, L2.atI, L2.ixN, sRaise, fin, sDrop, between_int, m_chance_within, b_chance_within, e])
  · (simp [enter, bSeq, bNil, sIf, dTOr, dTNot, dTr, dTb, dIsi, dVar, D.ty, isTy, truth, dBin, dNe_int, dEq_int, dCall, dCons, dNil, bLen, dC, dIx, L2.atI, L2.ixN, sRaise, fin, sDrop, between_int, m_chance_at, b_chance_at, e])
  · (simp [enter, bSeq, bNil, sIf, dTOr, dTNot, dTr, dTb, dIsi, dVar, D.ty, isTy, truth, dBin, dNe_int, dEq_int, dCall, dCons, dNil, bLen, dC, dIx, L2.atI, L2.ixN, sRaise, fin, sDrop, between_int, m_mean_tries, b_mean_tries, e])
abbrev triesL : List D := [.non, .int (-1), .int 61, .bl true, .str "1", .tup [.int 1]]
theorem tries_no {d : D} (h : d ∈ triesL) : m_check_tries [d] = .error (.raise 1 (.str "tries")) := by
  ((simp only [List.mem_cons, List.not_mem_nil, or_false] at h))
  rcases h with rfl | rfl | rfl | rfl | rfl | rfl <;>
  (simp [enter, bSeq, bNil, sIf, dTOr, dTNot, dTr, dTb, dIsi, dVar, D.ty, isTy, truth, dBin, dNe_int, dEq_int, dCall, dCons, dNil, bLen, dC, dIx, L2.atI, L2.ixN, sRaise, fin, sDrop, between_int, m_check_tries, b_check_tries, bw_non, bw_bl, bw_str, bw_tup])
theorem w_tries : wordOf 1 (.str "tries") = .ok (.str "argument tries") := rfl
theorem half_ok (r : D) : m_check_odds [.tup [.int 1, .int 2], r] = .ok .non := check_odds_ok (p := (1, 2)) ⟨by decide, by decide, by decide, by decide⟩ r
theorem rows1_ok : m_check_rows [.tup [.tup [.int 1, .int 2]]] = .ok .non := check_rows_ok (rs := [(1, 2)]) (fun p h => by rw [List.mem_singleton.mp h]; exact ⟨by decide, by decide, by decide, by decide⟩) (by decide) (by decide)
theorem rule1_ok : m_check_rule [.tup [.int 1, .int 1, .int 1]] = .ok .non := by
  (simp [enter, bSeq, bNil, sIf, dTOr, dTNot, dTr, dTb, dIsi, dVar, D.ty, isTy, truth, dBin, dNe_int, dEq_int, dCall, dCons, dNil, bLen, dC, dIx, L2.atI, L2.ixN, sRaise, fin, sDrop, between_int, m_check_rule, b_check_rule, dLc, dItems, noOw, isOw, wipeE, lcL, gSet, put, dYes, bAll, bools, resE, dLt, dGt, dCmpI, maxSeq])
theorem heard_tries {d : D} (h : d ∈ triesL) : m__law_heard [.fn 1, .lst [.tup [.int 1, .int 2], d]] = .ok (.str "argument tries") ∧ m__law_heard [.fn 3, .lst [.tup [.int 1, .int 2], d]] = .ok (.str "argument tries") ∧ m__law_heard [.fn 4, .lst [.tup [.tup [.int 1, .int 2]], d]] = .ok (.str "argument tries")
    ∧ m__law_heard [.fn 5, .lst [.tup [.int 1, .int 1, .int 1], .int 0, d]] = .ok (.str "argument tries") := by
  have e := tries_no h
  refine ⟨h2e rfl ?_ w_tries, h2e rfl ?_ w_tries, h2e rfl ?_ w_tries, h3e rfl ?_ w_tries⟩
  · (simp [enter, bSeq, bNil, sIf, dTOr, dTNot, dTr, dTb, dIsi, dVar, D.ty, isTy, truth, dBin, dNe_int, dEq_int, dCall, dCons, dNil, bLen, dC, dIx, L2.atI, L2.ixN, sRaise, fin, sDrop, between_int, m_chance_within, b_chance_within, half_ok, e])
  · (simp [enter, bSeq, bNil, sIf, dTOr, dTNot, dTr, dTb, dIsi, dVar, D.ty, isTy, truth, dBin, dNe_int, dEq_int, dCall, dCons, dNil, bLen, dC, dIx, L2.atI, L2.ixN, sRaise, fin, sDrop, between_int, m_mean_tries, b_mean_tries, half_ok, e])
  · (simp [enter, bSeq, bNil, sIf, dTOr, dTNot, dTr, dTb, dIsi, dVar, D.ty, isTy, truth, dBin, dNe_int, dEq_int, dCall, dCons, dNil, bLen, dC, dIx, L2.atI, L2.ixN, sRaise, fin, sDrop, between_int, m_best_shares, b_best_shares, rows1_ok, e])
  · (simp [enter, bSeq, bNil, sIf, dTOr, dTNot, dTr, dTb, dIsi, dVar, D.ty, isTy, truth, dBin, dNe_int, dEq_int, dCall, dCons, dNil, bLen, dC, dIx, L2.atI, L2.ixN, sRaise, fin, sDrop, between_int, m_begins, b_begins, rule1_ok, m_check_long, b_check_long, e])
abbrev numL : List D := [.non, .int 0, .int (-1), .int 61, .bl true, .str "1"]
theorem heard_num {d : D} (h : d ∈ numL) : m__law_heard [.fn 2, .lst [.tup [.int 1, .int 2], d]] = .ok (.str "argument number") := by
  refine h2e (k := 1) (p := .str "number") rfl ?_ rfl
  ((simp only [List.mem_cons, List.not_mem_nil, or_false] at h))
  rcases h with rfl | rfl | rfl | rfl | rfl | rfl <;> (simp [enter, bSeq, bNil, sIf, dTOr, dTNot, dTr, dTb, dIsi, dVar, D.ty, isTy, truth, dBin, dNe_int, dEq_int, dCall, dCons, dNil, bLen, dC, dIx, L2.atI, L2.ixN, sRaise, fin, sDrop, between_int, m_chance_at, b_chance_at, half_ok, bw_non, bw_bl, bw_str])
theorem heard_goal {d : D} (h : d ∈ oddsL) : m__law_heard [.fn 0, .lst [.tup [.int 1, .int 2], d]] = .ok (.str "argument goal") := by
  have e := odds_no h
  refine h2e (k := 1) (p := .str "goal") rfl ?_ rfl
  (simp [enter, bSeq, bNil, sIf, dTOr, dTNot, dTr, dTb, dIsi, dVar, D.ty, isTy, truth, dBin, dNe_int, dEq_int, dCall, dCons, dNil, bLen, dC, dIx, L2.atI, L2.ixN, sRaise, fin, sDrop, between_int, m_least_tries, b_least_tries, half_ok, e])
end LW
end Dn

/-! P14i -/
set_option Elab.async false
set_option linter.all false
set_option maxRecDepth 100000
set_option maxHeartbeats 2000000
namespace Dn
namespace LW
open PySem
abbrev ruleL : List D := [.non, .tup [], .tup [.int 1, .int 1], .tup [.int 1, .int 0, .int 1], .tup [.int 2, .int 1, .int 1], .tup [.int (-1), .int 1, .int 1], .tup [.int 1, .int 1, .int 1000000000001], .tup [.int 1, .int 1000000000001, .int 1], .tup [.bl true, .int 1, .int 1], .tup [.int 1, .int 1, .bl true], .tup [.int 1, .bl true, .int 1], .int 5, .lst [.int 1, .int 1, .int 1], .tup [.int 0, .int 1, .int 1, .int 1]]
theorem rule_no {d : D} (h : d ∈ ruleL) : m_check_rule [d] = .error (.raise 1 (.str "rule")) := by
  ((simp only [List.mem_cons, List.not_mem_nil, or_false] at h))
  rcases h with rfl | rfl | rfl | rfl | rfl | rfl | rfl | rfl | rfl | rfl | rfl | rfl | rfl | rfl <;>
  ((simp [enter, bSeq, bNil, sIf, dTOr, dTNot, dTr, dTb, dIsi, dVar, D.ty, isTy, truth, dBin, dNe_int, dEq_int, dCall, dCons, dNil, bLen, dC, dIx, L2.atI, L2.ixN, sRaise, fin, sDrop, between_int, dLc, dItems, noOw, isOw, wipeE, lcL, gSet, put, dYes, bAll, bools, resE, dLt, dGt, dCmpI, maxSeq, dMul, repD, m_check_rule, b_check_rule, bw_bl]))
theorem w_rule : wordOf 1 (.str "rule") = .ok (.str "argument rule") := rfl
theorem w_long : wordOf 1 (.str "long") = .ok (.str "argument long") := rfl
abbrev longL : List D := [.non, .int (-1), .int 1000000000001, .bl true, .str "1"]
theorem long_no {d : D} (h : d ∈ longL) : m_check_long [d] = .error (.raise 1 (.str "long")) := by
  ((simp only [List.mem_cons, List.not_mem_nil, or_false] at h))
  rcases h with rfl | rfl | rfl | rfl | rfl <;> (simp [enter, bSeq, bNil, sIf, dTOr, dTNot, dTr, dTb, dIsi, dVar, D.ty, isTy, truth, dBin, dNe_int, dEq_int, dCall, dCons, dNil, bLen, dC, dIx, L2.atI, L2.ixN, sRaise, fin, sDrop, between_int, m_check_long, b_check_long, bw_non, bw_bl, bw_str])
theorem heard_rule {d : D} (h : d ∈ ruleL) (x : D) : m__law_heard [.fn 5, .lst [d, x, .non]] = .ok (.str "argument rule") ∧ m__law_heard [.fn 6, .lst [d, x, .non]] = .ok (.str "argument rule") := by
  have e := rule_no h
  refine ⟨h3e rfl ?_ w_rule, h3e rfl ?_ w_rule⟩
  · (simp [enter, bSeq, bNil, sIf, dTOr, dTNot, dTr, dTb, dIsi, dVar, D.ty, isTy, truth, dBin, dNe_int, dEq_int, dCall, dCons, dNil, bLen, dC, dIx, L2.atI, L2.ixN, sRaise, fin, sDrop, between_int, m_begins, b_begins, e])
  · (simp [enter, bSeq, bNil, sIf, dTOr, dTNot, dTr, dTb, dIsi, dVar, D.ty, isTy, truth, dBin, dNe_int, dEq_int, dCall, dCons, dNil, bLen, dC, dIx, L2.atI, L2.ixN, sRaise, fin, sDrop, between_int, m_most_tries, b_most_tries, e])
theorem heard_long {d : D} (h : d ∈ longL) : m__law_heard [.fn 5, .lst [.tup [.int 1, .int 1, .int 1], d, .non]] = .ok (.str "argument long") ∧ m__law_heard [.fn 6, .lst [.tup [.int 1, .int 1, .int 1], d, .non]] = .ok (.str "argument long") := by
  have e := long_no h
  refine ⟨h3e rfl ?_ w_long, h3e rfl ?_ w_long⟩
  · (simp [enter, bSeq, bNil, sIf, dTOr, dTNot, dTr, dTb, dIsi, dVar, D.ty, isTy, truth, dBin, dNe_int, dEq_int, dCall, dCons, dNil, bLen, dC, dIx, L2.atI, L2.ixN, sRaise, fin, sDrop, between_int, m_begins, b_begins, rule1_ok, e])
  · (simp [enter, bSeq, bNil, sIf, dTOr, dTNot, dTr, dTb, dIsi, dVar, D.ty, isTy, truth, dBin, dNe_int, dEq_int, dCall, dCons, dNil, bLen, dC, dIx, L2.atI, L2.ixN, sRaise, fin, sDrop, between_int, m_most_tries, b_most_tries, rule1_ok, e])
theorem heard_end {d : D} (h : d ∈ longL) : m__law_heard [.fn 6, .lst [.tup [.int 1, .int 1, .int 1], .int 0, d]] = .ok (.str "argument end") := by
  refine h3e (k := 1) (p := .str "end") rfl ?_ rfl
  ((simp only [List.mem_cons, List.not_mem_nil, or_false] at h))
  rcases h with rfl | rfl | rfl | rfl | rfl <;> (simp [enter, bSeq, bNil, sIf, dTOr, dTNot, dTr, dTb, dIsi, dVar, D.ty, isTy, truth, dBin, dNe_int, dEq_int, dCall, dCons, dNil, bLen, dC, dIx, L2.atI, L2.ixN, sRaise, fin, sDrop, between_int, m_most_tries, b_most_tries, rule1_ok, m_check_long, b_check_long, bw_non, bw_bl, bw_str])
abbrev rowsL (o : D) : List D := [.non, .tup [], .tup (repD 21 [.tup [.int 1, .int 2]]), .tup [.tup [.int 1, .int 2], o], .tup [o], .int 5, .lst [.tup [.int 1, .int 2]], .tup [.int 1, .int 2]]
theorem int_no (i : Int) (r : D) : m_check_odds [.int i, r] = .error (.raise 1 r) := by (simp [enter, bSeq, bNil, sIf, dTOr, dTNot, dTr, dTb, dIsi, dVar, D.ty, isTy, truth, dBin, dNe_int, dEq_int, dCall, dCons, dNil, bLen, dC, dIx, L2.atI, L2.ixN, sRaise, fin, sDrop, between_int, m_check_odds, b_check_odds])
theorem rows_no {o d : D} (ho : o ∈ oddsL) (h : d ∈ rowsL o) : m_check_rows [d] = .error (.raise 0 (.str "odds")) := by
  have e := odds_no ho
  have i1 := int_no 1
  ((simp only [List.mem_cons, List.not_mem_nil, or_false] at h))
  rcases h with rfl | rfl | rfl | rfl | rfl | rfl | rfl | rfl
  · ((simp [enter, bSeq, bNil, sIf, dTOr, dTNot, dTr, dTb, dIsi, dVar, D.ty, isTy, truth, dBin, dNe_int, dEq_int, dCall, dCons, dNil, bLen, dC, dIx, L2.atI, L2.ixN, sRaise, fin, sDrop, between_int, dLc, dItems, noOw, isOw, wipeE, lcL, gSet, put, dYes, bAll, bools, resE, dLt, dGt, dCmpI, maxSeq, dMul, repD, m_check_rows, b_check_rows]))
  · ((simp [enter, bSeq, bNil, sIf, dTOr, dTNot, dTr, dTb, dIsi, dVar, D.ty, isTy, truth, dBin, dNe_int, dEq_int, dCall, dCons, dNil, bLen, dC, dIx, L2.atI, L2.ixN, sRaise, fin, sDrop, between_int, dLc, dItems, noOw, isOw, wipeE, lcL, gSet, put, dYes, bAll, bools, resE, dLt, dGt, dCmpI, maxSeq, dMul, repD, m_check_rows, b_check_rows, dChain, dLe]))
  · ((simp [enter, bSeq, bNil, sIf, dTOr, dTNot, dTr, dTb, dIsi, dVar, D.ty, isTy, truth, dBin, dNe_int, dEq_int, dCall, dCons, dNil, bLen, dC, dIx, L2.atI, L2.ixN, sRaise, fin, sDrop, between_int, dLc, dItems, noOw, isOw, wipeE, lcL, gSet, put, dYes, bAll, bools, resE, dLt, dGt, dCmpI, maxSeq, dMul, repD, m_check_rows, b_check_rows, dChain, dLe]))
  · ((simp [enter, bSeq, bNil, sIf, dTOr, dTNot, dTr, dTb, dIsi, dVar, D.ty, isTy, truth, dBin, dNe_int, dEq_int, dCall, dCons, dNil, bLen, dC, dIx, L2.atI, L2.ixN, sRaise, fin, sDrop, between_int, dLc, dItems, noOw, isOw, wipeE, lcL, gSet, put, dYes, bAll, bools, resE, dLt, dGt, dCmpI, maxSeq, dMul, repD, m_check_rows, b_check_rows, dChain, dLe, sFor, forL, sReraise, half_ok, e]))
  · ((simp [enter, bSeq, bNil, sIf, dTOr, dTNot, dTr, dTb, dIsi, dVar, D.ty, isTy, truth, dBin, dNe_int, dEq_int, dCall, dCons, dNil, bLen, dC, dIx, L2.atI, L2.ixN, sRaise, fin, sDrop, between_int, dLc, dItems, noOw, isOw, wipeE, lcL, gSet, put, dYes, bAll, bools, resE, dLt, dGt, dCmpI, maxSeq, dMul, repD, m_check_rows, b_check_rows, dChain, dLe, sFor, forL, sReraise, half_ok, e]))
  · ((simp [enter, bSeq, bNil, sIf, dTOr, dTNot, dTr, dTb, dIsi, dVar, D.ty, isTy, truth, dBin, dNe_int, dEq_int, dCall, dCons, dNil, bLen, dC, dIx, L2.atI, L2.ixN, sRaise, fin, sDrop, between_int, dLc, dItems, noOw, isOw, wipeE, lcL, gSet, put, dYes, bAll, bools, resE, dLt, dGt, dCmpI, maxSeq, dMul, repD, m_check_rows, b_check_rows]))
  · ((simp [enter, bSeq, bNil, sIf, dTOr, dTNot, dTr, dTb, dIsi, dVar, D.ty, isTy, truth, dBin, dNe_int, dEq_int, dCall, dCons, dNil, bLen, dC, dIx, L2.atI, L2.ixN, sRaise, fin, sDrop, between_int, dLc, dItems, noOw, isOw, wipeE, lcL, gSet, put, dYes, bAll, bools, resE, dLt, dGt, dCmpI, maxSeq, dMul, repD, m_check_rows, b_check_rows]))
  · ((simp [enter, bSeq, bNil, sIf, dTOr, dTNot, dTr, dTb, dIsi, dVar, D.ty, isTy, truth, dBin, dNe_int, dEq_int, dCall, dCons, dNil, bLen, dC, dIx, L2.atI, L2.ixN, sRaise, fin, sDrop, between_int, dLc, dItems, noOw, isOw, wipeE, lcL, gSet, put, dYes, bAll, bools, resE, dLt, dGt, dCmpI, maxSeq, dMul, repD, m_check_rows, b_check_rows, dChain, dLe, sFor, forL, sReraise, i1]))
theorem w_flow : wordOf 0 (.str "odds") = .ok (.str "flow odds") := rfl
theorem heard_rows {o d : D} (ho : o ∈ oddsL) (h : d ∈ rowsL o) : m__law_heard [.fn 8, .lst [d, .non]] = .ok (.str "flow odds") ∧ m__law_heard [.fn 9, .lst [d, .non]] = .ok (.str "flow odds") ∧ m__law_heard [.fn 4, .lst [d, .non]] = .ok (.str "flow odds")
    ∧ m__law_heard [.fn 7, .lst [d, .non, .non, .non]] = .ok (.str "flow odds") := by
  have e := rows_no ho h
  refine ⟨h2e rfl ?_ w_flow, h2e rfl ?_ w_flow, h2e rfl ?_ w_flow, h4e rfl ?_ w_flow⟩
  · (simp [enter, bSeq, bNil, sIf, dTOr, dTNot, dTr, dTb, dIsi, dVar, D.ty, isTy, truth, dBin, dNe_int, dEq_int, dCall, dCons, dNil, bLen, dC, dIx, L2.atI, L2.ixN, sRaise, fin, sDrop, between_int, m_chance_of_all, b_chance_of_all, e])
  · (simp [enter, bSeq, bNil, sIf, dTOr, dTNot, dTr, dTb, dIsi, dVar, D.ty, isTy, truth, dBin, dNe_int, dEq_int, dCall, dCons, dNil, bLen, dC, dIx, L2.atI, L2.ixN, sRaise, fin, sDrop, between_int, m_judge_shares, b_judge_shares, e])
  · (simp [enter, bSeq, bNil, sIf, dTOr, dTNot, dTr, dTb, dIsi, dVar, D.ty, isTy, truth, dBin, dNe_int, dEq_int, dCall, dCons, dNil, bLen, dC, dIx, L2.atI, L2.ixN, sRaise, fin, sDrop, between_int, m_best_shares, b_best_shares, e])
  · (simp [enter, bSeq, bNil, sIf, dTOr, dTNot, dTr, dTb, dIsi, dVar, D.ty, isTy, truth, dBin, dNe_int, dEq_int, dCall, dCons, dNil, bLen, dC, dIx, L2.atI, L2.ixN, sRaise, fin, sDrop, between_int, m_accept_better, b_accept_better, e])
abbrev sharesL : List D := [.non, .tup [.int 1], .tup [.int 1, .int 1, .int 1], .tup [.int 1, .int 0], .tup [.int 1, .int (-1)], .tup [.int 1, .bl true], .tup [.int 30, .int 31], .tup [.str "1", .int 1], .int 5, .lst [.int 1, .int 1]]
abbrev goodD : D := .tup [.tup [.int 1, .int 2], .tup [.int 1, .int 3]]
theorem good_ok : m_check_rows [goodD] = .ok .non := check_rows_ok (rs := [(1, 2), (1, 3)]) (fun p h => by
  simp only [List.mem_cons, List.not_mem_nil, or_false] at h
  rcases h with rfl | rfl <;> exact ⟨by decide, by decide, by decide, by decide⟩) (by decide) (by decide)
theorem ii_no : m_is_integer [.bl true] = .ok (.bl false) ∧ m_is_integer [.str "1"] = .ok (.bl false) := ⟨rfl, rfl⟩
theorem shares_no {d : D} (h : d ∈ sharesL) : m_check_shares [goodD, d] = .error (.raise 1 (.str "shares")) := by
  ((simp only [List.mem_cons, List.not_mem_nil, or_false] at h))
  rcases h with rfl | rfl | rfl | rfl | rfl | rfl | rfl | rfl | rfl | rfl <;>
  ((simp [enter, bSeq, bNil, sIf, dTOr, dTNot, dTr, dTb, dIsi, dVar, D.ty, isTy, truth, dBin, dNe_int, dEq_int, dCall, dCons, dNil, bLen, dC, dIx, L2.atI, L2.ixN, sRaise, fin, sDrop, between_int, dLc, dItems, noOw, isOw, wipeE, lcL, gSet, put, dYes, bAll, bools, resE, dLt, dGt, dCmpI, maxSeq, dMul, repD, m_check_shares, b_check_shares, ii_no.1, ii_no.2, bMin, bSum, intsOf, leastOf]))
theorem w_shares : wordOf 1 (.str "shares") = .ok (.str "argument shares") := rfl
theorem heard_shares {d : D} (h : d ∈ sharesL) : m__law_heard [.fn 8, .lst [goodD, d]] = .ok (.str "argument shares") ∧ m__law_heard [.fn 9, .lst [goodD, d]] = .ok (.str "argument shares")
    ∧ m__law_heard [.fn 7, .lst [goodD, d, .non, .non]] = .ok (.str "argument shares") := by
  have e := shares_no h
  refine ⟨h2e rfl ?_ w_shares, h2e rfl ?_ w_shares, h4e rfl ?_ w_shares⟩
  · (simp [enter, bSeq, bNil, sIf, dTOr, dTNot, dTr, dTb, dIsi, dVar, D.ty, isTy, truth, dBin, dNe_int, dEq_int, dCall, dCons, dNil, bLen, dC, dIx, L2.atI, L2.ixN, sRaise, fin, sDrop, between_int, m_chance_of_all, b_chance_of_all, good_ok, e])
  · (simp [enter, bSeq, bNil, sIf, dTOr, dTNot, dTr, dTb, dIsi, dVar, D.ty, isTy, truth, dBin, dNe_int, dEq_int, dCall, dCons, dNil, bLen, dC, dIx, L2.atI, L2.ixN, sRaise, fin, sDrop, between_int, m_judge_shares, b_judge_shares, good_ok, e])
  · (simp [enter, bSeq, bNil, sIf, dTOr, dTNot, dTr, dTb, dIsi, dVar, D.ty, isTy, truth, dBin, dNe_int, dEq_int, dCall, dCons, dNil, bLen, dC, dIx, L2.atI, L2.ixN, sRaise, fin, sDrop, between_int, m_accept_better, b_accept_better, good_ok, e])
end LW
end Dn

/-! P14j -/
set_option Elab.async false
set_option linter.all false
set_option maxRecDepth 100000
set_option maxHeartbeats 2000000
namespace Dn
namespace LW
open PySem
abbrev gcdB : Sv := sPar 0 1 (dCons (dVar 1) (dCons (dBin dSub (dVar 0) (dBin dMul (dBin dFdiv (dVar 0) (dVar 1)) (dVar 1))) (dNil)))
theorem gcd_step {a b : Int} (h0 : 0 ≤ a) (hb : 0 < b) (ha : a.natAbs < 2 ^ 1000) (hb2 : b.natAbs < 2 ^ 1000) : dTr (dVar 1) [.va (.int a), .va (.int b)] = .ok (true, [.va (.int a), .va (.int b)]) ∧ gcdB [.va (.int a), .va (.int b)] = .ok (.nx, [.va (.int b), .va (.int (a % b))]) := by
  have hne : b ≠ 0 := by omega
  have d1 : divOk a b = true := divOk_of hb hb2 (by decide)
  have q0 : 0 ≤ a / b := Int.ediv_nonneg h0 (by omega)
  have q1 : a / b ≤ a := Int.ediv_le_self b h0
  have q2 : (a / b).natAbs < 2 ^ 1000 := by omega
  have m1 : mulOk (a / b) b = true := mulOk_of q2 hb2 (by decide)
  have e : a - a / b * b = a % b := by rw [Int.emod_def, Int.mul_comm]
  constructor
  · simp [dTr, dVar, truth, hne]
  · simp [sPar, dCons, dNil, dVar, dBin, dIntOp, d1, dMul, m1, dSub, put, isOw, e]
theorem gcd_loop : ∀ (k f : Nat) (a b : Int), 0 ≤ b → b ≤ a → 0 < a → a * b < 2 ^ k → a.natAbs < 2 ^ 1000 → k < f → ∃ g, whileN (dTr (dVar 1)) gcdB f [.va (.int a), .va (.int b)] = .ok (.nx, [.va (.int g), .va (.int 0)]) ∧ 0 < g ∧ g.natAbs < 2 ^ 1000 := by
  intro k
  induction k with
  | zero =>
    intro f a b h0 h1 h2 h3 h4 h5
    have hb : b = 0 := by
      by_cases z : b = 0
      · exact z
      · have : 0 < a * b := Int.mul_pos h2 (by omega)
        simp at h3; omega
    subst hb
    obtain ⟨f, rfl⟩ : ∃ f', f = f' + 1 := ⟨f - 1, by omega⟩
    refine ⟨a, ?_, h2, h4⟩
    rw [whileN]
    simp [dTr, dVar, truth]
  | succ k ih =>
    intro f a b h0 h1 h2 h3 h4 h5
    obtain ⟨f, rfl⟩ : ∃ f', f = f' + 1 := ⟨f - 1, by omega⟩
    by_cases z : b = 0
    · subst z
      refine ⟨a, ?_, h2, h4⟩
      rw [whileN]
      simp [dTr, dVar, truth]
    · have hb : 0 < b := by omega
      obtain ⟨s1, s2⟩ := gcd_step (by omega : 0 ≤ a) hb h4 (by omega)
      have r0 : 0 ≤ a % b := Int.emod_nonneg _ (by omega)
      have r1 : a % b < b := Int.emod_lt_of_pos _ hb
      have q1 : 1 ≤ a / b := (Int.le_ediv_iff_mul_le hb).mpr (by omega)
      have r2 : 2 * (a % b) < a := by
        have e := Int.emod_add_mul_ediv a b
        have : b * 1 ≤ b * (a / b) := Int.mul_le_mul_of_nonneg_left q1 (by omega)
        omega
      have p1 : b * (a % b) < 2 ^ k := by
        have : b * (2 * (a % b)) < b * a := Int.mul_lt_mul_of_pos_left r2 hb
        rw [Int.mul_comm b a, Int.mul_left_comm] at this
        rw [Int.pow_succ] at h3
        omega
      obtain ⟨g, e1, e2, e3⟩ := ih f b (a % b) r0 (by omega) hb p1 (by omega) (by omega)
      refine ⟨g, ?_, e2, e3⟩
      rw [whileN, s1, bnd_ok]
      simp only [if_true]
      rw [s2, bnd_ok]
      exact e1
theorem gcd_ok {a b : Int} (h0 : 0 ≤ a) (hb : 0 < b) (ha : a.natAbs < 2 ^ 400) (hb2 : b.natAbs < 2 ^ 400) : ∃ g, m_common_divisor [.int a, .int b] = .ok (.int g) ∧ 0 < g ∧ g.natAbs < 2 ^ 1000 := by
  have w : (2 : Nat) ^ 400 ≤ 2 ^ 1000 := Nat.pow_le_pow_right (by decide) (by decide)
  obtain ⟨s1, s2⟩ := gcd_step h0 hb (by omega) (by omega)
  have r0 : 0 ≤ a % b := Int.emod_nonneg _ (by omega)
  have r1 : a % b < b := Int.emod_lt_of_pos _ hb
  have p : b * (a % b) < 2 ^ 800 := by
    have h1 := natAbs_mul_lt (a := b) (b := a % b) (m := 400) (n := 400) hb2 (by omega)
    have h2 : (2 : Nat) ^ (400 + 400) = 2 ^ 800 := rfl
    have h3 : ((2 ^ 800 : Nat) : Int) = 2 ^ 800 := by norm_cast
    rw [h2] at h1
    rw [← h3]
    omega
  obtain ⟨m, hm, hm2⟩ : ∃ m, manyTurns = m + 1 ∧ 800 < m := ⟨999999999, by decide, by decide⟩
  obtain ⟨g, e1, e2, e3⟩ := gcd_loop 800 m b (a % b) r0 (by omega) hb p (by omega) hm2
  refine ⟨g, ?_, e2, e3⟩
  have wl : sWhile (dTr (dVar 1)) gcdB [.va (.int a), .va (.int b)] = .ok (.nx, [.va (.int g), .va (.int 0)]) := by
    unfold sWhile
    rw [hm, whileN, s1, bnd_ok]
    simp only [if_true]
    rw [s2, bnd_ok]
    exact e1
  have a1 : ¬ a < 0 := by omega
  have a2 : ¬ b < 0 := by omega
  have ab : bAbs [.int a] = .ok (.int a) := by unfold bAbs; simp [a1]; try omega
  have bb : bAbs [.int b] = .ok (.int b) := by unfold bAbs; simp [a2]; try omega
  unfold m_common_divisor b_common_divisor
  simp [enter, bSeq, sPar, dCons, dNil, dVar, dCall, ab, bb, put, isOw, wl, sRet, fin]
theorem quotient_ok {a b : Int} (h0 : 0 ≤ a) (hb : 0 < b) (ha : a.natAbs < 2 ^ 400) (hb2 : b.natAbs < 2 ^ 400) : ∃ r, m_quotient [.int a, .int b] = .ok r := by
  obtain ⟨g, e1, e2, e3⟩ := gcd_ok h0 hb ha hb2
  have d1 : divOk a g = true := divOk_of e2 e3 (by decide)
  have d2 : divOk b g = true := divOk_of e2 e3 (by decide)
  refine ⟨.tup [.int (a / g), .int (b / g)], ?_⟩
  unfold m_quotient b_quotient
  simp [enter, bSeq, sSet, dCall, dCons, dNil, dVar, e1, put, isOw, sRet, dTup, dBin, dIntOp, d1, d2, mx2, fin]
end LW
end Dn

/-! P14k -/
set_option Elab.async false
set_option linter.all false
set_option maxRecDepth 100000
set_option maxHeartbeats 2000000
namespace Dn
namespace LW
open PySem
theorem h2o {f : Nat} {mf : List D → M D} {a b d : D} (ht : tbl f = some (2, mf)) (h : mf [a, b] = .ok d) : m__law_heard [.fn f, .lst [a, b]] = .ok (.lst [d]) := by rw [heard2 f mf a b ht, h]
theorem h3o {f : Nat} {mf : List D → M D} {a b c d : D} (ht : tbl f = some (3, mf)) (h : mf [a, b, c] = .ok d) : m__law_heard [.fn f, .lst [a, b, c]] = .ok (.lst [d]) := by rw [heard3 f mf a b c ht, h]
theorem power_ok2 {b n : Int} (hb : b.natAbs < 2 ^ 20) (h0 : 0 ≤ n) (hn : n ≤ 100) : m_power [.int b, .int n] = .ok (.int (b ^ n.toNat)) := by
  have hb2 : b.natAbs < 18446744073709551616 := by omega
  have key : ∀ (ds : List D) (c : Int) (o : Sl), ∃ o', forL (gSet 3) (sAug 2 aMul (dVar 0)) ds [.va (.int b), .va (.int n), .va (.int c), o] = .ok (.nx, [.va (.int b), .va (.int n), .va (.int (c * b ^ ds.length)), o']) := by
    intro ds
    induction ds with
    | nil => exact fun c o => ⟨o, by simp [forL]⟩
    | cons d r ih =>
      intro c o
      obtain ⟨o', e⟩ := ih (c * b) (.va d)
      refine ⟨o', ?_⟩
      rw [forL, List.length_cons, Int.pow_succ', ← Int.mul_assoc, ← e]
      simp [gSet, put, isOw, sAug, dVar, aMul, dIntOp, hb2]
  obtain ⟨o', e⟩ := key (rngD 0 1 n.toNat) 1 .un
  have hs : smallI n = true := by unfold smallI; simp; omega
  have hr : (rngD 0 1 n.toNat).length = n.toNat := by unfold rngD; simp
  rw [hr] at e
  unfold m_power b_power
  simp [enter, bSeq, sSet, dC, put, isOw, sFor, dRng, dCons, dNil, dVar, hs, e, sRet, fin]
theorem c1_ok : m_chance_of [.tup [.int 1, .int 2], .int 1] = .ok (.tup [.int 1, .int 2]) := chance_of_ok (p := (1, 2)) ⟨by decide, by decide, by decide, by decide⟩ (by decide) (by decide)
theorem c2_ok : ∃ u d : Int, m_chance_of [.tup [.int 1, .int 3], .int 59] = .ok (.tup [.int u, .int d]) ∧ 0 ≤ u ∧ 0 < d ∧ u.natAbs < 2 ^ 200 ∧ d.natAbs < 2 ^ 200 := by
  have e1 := power_ok2 (b := 3) (n := 59) (by decide) (by decide) (by decide)
  have e2 := power_ok2 (b := 2) (n := 59) (by decide) (by decide) (by decide)
  refine ⟨3 ^ 59 - 2 ^ 59, 3 ^ 59, ?_, by decide, by decide, by decide, by decide⟩
  have t : (59 : Int).toNat = 59 := rfl
  rw [t] at e1 e2
  unfold m_chance_of b_chance_of
  simp [enter, bSeq, sSet, dC, put, isOw, dCons, dNil, dVar, dCall, dBin, dIx, L2.atI, L2.ixN, dSub, dIntOp, sRet, dTup, mx2, fin, e1, e2]
theorem prod_ok : ∃ u d : Int, m_product_of [goodD, .tup [.int 1, .int 59]] = .ok (.tup [.int u, .int d]) ∧ 0 ≤ u ∧ 0 < d ∧ u.natAbs < 2 ^ 400 ∧ d.natAbs < 2 ^ 400 := by
  obtain ⟨u, d, e, h1, h2, h3, h4⟩ := c2_ok
  have w : (2 : Nat) ^ (2 + 200) ≤ 2 ^ 400 := Nat.pow_le_pow_right (by decide) (by decide)
  have m1 : mulOk 1 u = true := mulOk_of (m := 1) (by decide) h3 (by decide)
  have m2 : mulOk 2 d = true := mulOk_of (m := 2) (by decide) h4 (by decide)
  have m3 : mulOk 1 1 = true := by decide +kernel
  have m4 : mulOk 1 2 = true := by decide +kernel
  have n2 := natAbs_mul_lt (a := 2) (b := d) (m := 2) (n := 200) (by decide) h4
  have n1 : u.natAbs < 2 ^ 400 := Nat.lt_of_lt_of_le h3 (Nat.pow_le_pow_right (by decide) (by decide))
  refine ⟨u, 2 * d, ?_, h1, by omega, n1, by omega⟩
  unfold m_product_of b_product_of
  simp [enter, bSeq, sAsg, dTup, dCons, dC, dNil, mx2, gTupD, lenOf, gsCons, gsNil, gSet, put, isOw, sFor, dZip, zipD, dVar, forL, sSet, dCall, c1_ok, e, sPar, dBin, (ixt _ _).1, (ixt _ _).2, dMul, m1, m2, m3, m4, sRet, fin]
theorem shares2_ok : m_check_shares [goodD, .tup [.int 1, .int 59]] = .ok .non := by
  ((simp [enter, bSeq, bNil, sIf, dTOr, dTNot, dTr, dTb, dIsi, dVar, D.ty, isTy, truth, dBin, dNe_int, dEq_int, dCall, dCons, dNil, bLen, dC, dIx, L2.atI, L2.ixN, sRaise, fin, sDrop, between_int, dLc, dItems, noOw, isOw, wipeE, lcL, gSet, put, dYes, bAll, bools, resE, dLt, dGt, dCmpI, maxSeq, dMul, repD, m_check_shares, b_check_shares, bMin, bSum, intsOf, leastOf]))
theorem told_a : ∃ r, m__law_heard [.fn 8, .lst [goodD, .tup [.int 1, .int 59]]] = .ok (.lst [r]) := by
  obtain ⟨u, d, e, h1, h2, h3, h4⟩ := prod_ok
  obtain ⟨r, q⟩ := quotient_ok h1 h2 h3 h4
  refine ⟨r, h2o rfl ?_⟩
  unfold m_chance_of_all b_chance_of_all
  simp [enter, bSeq, sDrop, dCall, dCons, dNil, dVar, good_ok, shares2_ok, e, sSet, put, isOw, sRet, dBin, dC, (ixt _ _).1, (ixt _ _).2, q, fin]
theorem told_c : m__law_heard [.fn 4, .lst [goodD, .int 1]] = .ok (.lst [.non]) := by
  refine h2o rfl ?_
  (simp [enter, bSeq, bNil, sIf, dTOr, dTNot, dTr, dTb, dIsi, dVar, D.ty, isTy, truth, dBin, dNe_int, dEq_int, dCall, dCons, dNil, bLen, dC, dIx, L2.atI, L2.ixN, sRaise, fin, sDrop, between_int, m_best_shares, b_best_shares, good_ok, m_check_tries, b_check_tries, dLt, dCmpI, sRet])
theorem told_b : m__law_heard [.fn 5, .lst [.tup [.int 1000000000000, .int 1000000000000, .int 1000000000000], .int 1000000000000, .int 3]] = .ok (.lst [.tup [.int 0, .int 2000000000000, .int 4000000000000]]) := by
  refine h3o rfl ?_
  have m1 : mulOk 1000000000000 1000000000000 = true := by decide +kernel
  have r2 : m_check_rule [.tup [.int 1000000000000, .int 1000000000000, .int 1000000000000]] = .ok .non := by ((simp [enter, bSeq, bNil, sIf, dTOr, dTNot, dTr, dTb, dIsi, dVar, D.ty, isTy, truth, dBin, dNe_int, dEq_int, dCall, dCons, dNil, bLen, dC, dIx, L2.atI, L2.ixN, sRaise, fin, sDrop, between_int, dLc, dItems, noOw, isOw, wipeE, lcL, gSet, put, dYes, bAll, bools, resE, dLt, dGt, dCmpI, maxSeq, dMul, repD, m_check_rule, b_check_rule]))
  have r3 : rngD 0 1 2 = [.int 0, .int 1] := rfl
  have s2 : smallI 2 = true := by decide
  have wa : m_waits_of [.tup [.int 1000000000000, .int 1000000000000, .int 1000000000000], .int 2] = .ok (.lst [.int 1000000000000, .int 1000000000000]) := by
    ((simp [enter, bSeq, bNil, sIf, dTOr, dTNot, dTr, dTb, dIsi, dVar, D.ty, isTy, truth, dBin, dNe_int, dEq_int, dCall, dCons, dNil, bLen, dC, dIx, L2.atI, L2.ixN, sRaise, fin, sDrop, between_int, dLc, dItems, noOw, isOw, wipeE, lcL, gSet, put, dYes, bAll, bools, resE, dLt, dGt, dCmpI, maxSeq, dMul, repD, m_waits_of, b_waits_of, dRng, s2, r3, sSetO, dLst, sFor, forL, dMeth, fApp, dIf, bMin, dNeg, dVarO, m1, sRetO, finF]))
  ((simp [enter, bSeq, bNil, sIf, dTOr, dTNot, dTr, dTb, dIsi, dVar, D.ty, isTy, truth, dBin, dNe_int, dEq_int, dCall, dCons, dNil, bLen, dC, dIx, L2.atI, L2.ixN, sRaise, fin, sDrop, between_int, dLc, dItems, noOw, isOw, wipeE, lcL, gSet, put, dYes, bAll, bools, resE, dLt, dGt, dCmpI, maxSeq, dMul, repD, m_begins, b_begins, r2, m_check_long, b_check_long, m_check_tries, b_check_tries, sSetO, dLst, sFor, dIf, dSub, dIntOp, wa, dAdd, forL, dMeth, fApp, dVarO, dNeg, sRet, bTuple]))
end LW
end Dn

/-! P14l -/
set_option Elab.async false
set_option linter.all false
set_option maxRecDepth 100000
set_option maxHeartbeats 2000000
namespace Dn
namespace LW
open PySem
abbrev B3 : Sv := bSeq (sSet 14 (dCallO m__law_pick 1 (dCons (dLst (dCons (dCallO m__law_draw 1 (dCons (dVar 11) (dNil))) (dCons (dBin dSub (dVar 11) (dC (.int 1))) (dCons (dNeg (dC (.int 1))) (dCons (dVar 11) (dCons (dC .non) (dCons (dC (.bl true)) (dCons (dC (.str "0")) (dNil))))))))) (dNil))))
  (bSeq (sSet 15 (dCallO m__law_pick 1 (dCons (dLst (dCons (dCallO m__law_draw 1 (dCons (dVar 11) (dNil))) (dCons (dCallO m__law_draw 1 (dCons (dVar 11) (dNil))) (dCons (dC (.int 0)) (dCons (dBin dSub (dVar 11) (dC (.int 1))) (dCons (dC .non) (dCons (dTup (dCons (dC (.int 0)) (dNil))) (dNil)))))))) (dNil))))
  (sIf (dTb (dBin dNe (dCall m__law_heard (dCons (dC (.fn 7)) (dCons (dLst (dCons (dVar 8) (dCons (dVar 9) (dCons (dVar 14) (dCons (dVar 15) (dNil)))))) (dNil)))) (dCall m__law_better_due (dCons (dVar 8) (dCons (dVar 9) (dCons (dVar 14) (dCons (dVar 15) (dNil)))))))) (sNever) (bNil)))
theorem mx7 : 7 ≤ maxSeq ∧ 6 ≤ maxSeq ∧ 4 ≤ maxSeq ∧ 3 ≤ maxSeq := by decide
theorem asked_of {d : D} (h : d.ty ≠ none ∧ d.ok = true) : Asked d := h
theorem asked_int (i : Int) : Asked (.int i) := ⟨(fun e => by cases e), rfl⟩
theorem B3_ok {sc st : D} {rs : List (Int × Int)} {ss : List Int} {x2 x3 x4 x5 x6 x7 x10 x12 x13 x14 x15 x16 : Sl} (hg : Good st) (hl : ss.length = rs.length) (h1 : 1 ≤ rs.length) (h2 : rs.length ≤ 20) (hr : ∀ p, p ∈ rs → GoodP p) (hs : ∀ s, s ∈ ss → 1 ≤ s ∧ s ≤ 3) :
    ∃ st' y14 y15, B3 [.va sc, .ow st, x2, x3, x4, x5, x6, x7, .va (rowsD rs), .va (intsD ss), x10, .va (.int rs.length), x12, x13, x14, x15, x16] = .ok (.nx, [.va sc, .ow st', x2, x3, x4, x5, x6, x7, .va (rowsD rs), .va (intsD ss), x10, .va (.int rs.length), x12, x13, .va y14, .va y15, x16]) ∧ Good st' := by
  have n0 : (0 : Int) < rs.length := by omega
  have n1 : (rs.length : Int) < 1099511627776 := by omega
  generalize hn : (rs.length : Int) = n at n0 n1
  obtain ⟨⟨k, st1⟩, e1, k0, ek, _, _, g1⟩ := wm_out (draw_ok hg n0 n1)
  obtain ⟨⟨one, st2⟩, e2, m1, g2⟩ := wm_out (pick_ok (xs := [.int k0, .int (n - 1), .int (-1), .int n, .non, .bl true, .str "0"]) g1 (by simp) (by simp))
  obtain ⟨⟨k', st3⟩, e3, k1, ek1, _, _, g3⟩ := wm_out (draw_ok g2 n0 n1)
  obtain ⟨⟨k'', st4⟩, e4, k2, ek2, _, _, g4⟩ := wm_out (draw_ok g3 n0 n1)
  obtain ⟨⟨other, st5⟩, e5, m2, g5⟩ := wm_out (pick_ok (xs := [.int k1, .int k2, .int 0, .int (n - 1), .non, .tup [.int 0]]) g4 (by simp) (by simp))
  simp only at ek ek1 ek2 m1 m2 g1 g2 g3 g4 g5
  subst ek ek1 ek2
  have A1 : Asked one := by
    ((simp only [List.mem_cons, List.not_mem_nil, or_false] at m1))
    rcases m1 with rfl | rfl | rfl | rfl | rfl | rfl | rfl
    · exact asked_int _
    · exact asked_int _
    · exact asked_int _
    · exact asked_int _
    · exact ⟨(fun e => by cases e), rfl⟩
    · exact ⟨(fun e => by cases e), rfl⟩
    · exact ⟨(fun e => by cases e), by unfold D.ok; simp only [D.dep, D.lay]; decide +kernel⟩
  have A2 : Asked other := by
    ((simp only [List.mem_cons, List.not_mem_nil, or_false] at m2))
    rcases m2 with rfl | rfl | rfl | rfl | rfl | rfl
    · exact asked_int _
    · exact asked_int _
    · exact asked_int _
    · exact asked_int _
    · exact ⟨(fun e => by cases e), rfl⟩
    · exact ⟨(fun e => by cases e), by simp [D.ok, D.lay, D.lays, D.dep, D.deps]⟩
  obtain ⟨r, q1, q2, q3⟩ := better_eq hl h1 h2 hr hs A1 A2
  refine ⟨st5, one, other, ?_, g5⟩
  simp [bSeq, bNil, sSet, dCallO, dCons, dNil, dLst, dVar, e1, dBin, dSub, dIntOp, dC, dNeg, mx7.1, mx7.2.1, mx7.2.2.1, mx.2.2.1, e2, put, isOw, e3, e4, dTup, e5, sIf, dTb, dCall, q1, q2, q3]
abbrev B1 : Sv := bSeq (sSet 13 (dBin dAdd (dC (.int 1)) (dCallO m__law_draw 1 (dCons (dCallO m__law_pick 1 (dCons (dLst (dCons (dC (.int 2)) (dCons (dC (.int 9)) (dCons (dC (.int 1000)) (dNil))))) (dNil))) (dNil)))))
  (sDrop (dMeth fApp 8 (dCons (dTup (dCons (dCallO m__law_pick 1 (dCons (dLst (dCons (dCall bMin (dCons (dLst (dCons (dC (.int 1)) (dCons (dVar 13) (dNil)))) (dNil))) (dCons (dCallO m__law_draw 1 (dCons (dBin dAdd (dVar 13) (dC (.int 1))) (dNil))) (dCons (dBin dSub (dVar 13) (dC (.int 1))) (dNil))))) (dNil))) (dCons (dVar 13) (dNil)))) (dNil))))
theorem B1_ok {sc st : D} {acc : List D} {x2 x3 x4 x5 x6 x7 x9 x10 x11 x12 x13 x14 x15 x16 : Sl} (hg : Good st) (ha : acc.length < maxSeq) :
    ∃ st' y13 p, B1 [.va sc, .ow st, x2, x3, x4, x5, x6, x7, .ow (.lst acc), x9, x10, x11, x12, x13, x14, x15, x16] = .ok (.nx, [.va sc, .ow st', x2, x3, x4, x5, x6, x7, .ow (.lst (acc ++ [oddsD p])), x9, x10, x11, x12, .va y13, x14, x15, x16]) ∧ Good st' ∧ GoodP p := by
  obtain ⟨⟨m, st1⟩, e1, m1, g1⟩ := wm_out (pick_ok (xs := [.int 2, .int 9, .int 1000]) hg (by simp) (by simp))
  have hm : ∃ j : Int, m = .int j ∧ 2 ≤ j ∧ j ≤ 1000 := by
    simp only at m1
    ((simp only [List.mem_cons, List.not_mem_nil, or_false] at m1))
    rcases m1 with rfl | rfl | rfl <;> exact ⟨_, rfl, by decide, by decide⟩
  obtain ⟨j, rfl, j1, j2⟩ := hm
  obtain ⟨⟨k, st2⟩, e2, d, ek, d1, d2, g2⟩ := wm_out (draw_ok (n := j) g1 (by omega) (by omega))
  simp only at ek
  subst ek
  have hmin : bMin [.lst [.int 1, .int (1 + d)]] = .ok (.int 1) := by
    have z : ¬ (1 + d < 1) := by omega
    simp [bMin, intsOf, leastOf, z]
    try omega
  obtain ⟨⟨k', st3⟩, e3, u, ek1, u1, u2, g3⟩ := wm_out (draw_ok (n := 1 + d + 1) g2 (by omega) (by omega))
  simp only at ek1
  subst ek1
  obtain ⟨⟨v, st4⟩, e4, m4, g4⟩ := wm_out (pick_ok (xs := [.int 1, .int u, .int (1 + d - 1)]) g3 (by simp) (by simp))
  have hv : ∃ i : Int, v = .int i ∧ 0 ≤ i ∧ i ≤ 1 + d := by
    simp only at m4
    ((simp only [List.mem_cons, List.not_mem_nil, or_false] at m4))
    rcases m4 with rfl | rfl | rfl
    · exact ⟨_, rfl, by decide, by omega⟩
    · exact ⟨_, rfl, by omega, by omega⟩
    · exact ⟨_, rfl, by omega, by omega⟩
  obtain ⟨i, rfl, i1, i2⟩ := hv
  refine ⟨st4, .int (1 + d), (i, 1 + d), ?_, g4, i1, i2, by omega, by omega⟩
  simp only at e1 e2 e3 e4
  generalize hw : 1 + d = w at *
  simp [bSeq, bNil, sSet, dCallO, dCons, dNil, dLst, dVar, e1, dBin, dSub, dAdd, dIntOp, dC, mx7.1, mx7.2.1, mx7.2.2.1, mx7.2.2.2, mx2, mx.2.2.1, e2, put, isOw, e3, dTup, e4, sDrop, dMeth, fApp, ha, dCall, hmin, hw, oddsD]
abbrev C1 : Ev := dLc (dRng (dCons (dVar 11) (dNil))) (gSet 12) (dYes) (dBin dAdd (dC (.int 1)) (dCallO m__law_draw 1 (dCons (dC (.int 3)) (dNil)))) [12]
theorem C1_loop {sc : D} {x2 x3 x4 x5 x6 x7 x8 x9 x10 x11 x13 x14 x15 x16 : Sl} : ∀ (ds : List D) (st : D), Good st →
    ∃ (st' : D) (ss : List Int), lcL (gSet 12) (dYes) (dBin dAdd (dC (.int 1)) (dCallO m__law_draw 1 (dCons (dC (.int 3)) (dNil)))) [12] ds [.va sc, .ow st, x2, x3, x4, x5, x6, x7, x8, x9, x10, x11, .un, x13, x14, x15, x16] = .ok (ss.map D.int, [.va sc, .ow st', x2, x3, x4, x5, x6, x7, x8, x9, x10, x11, .un, x13, x14, x15, x16]) ∧ Good st' ∧ ss.length = ds.length ∧ ∀ s, s ∈ ss → 1 ≤ s ∧ s ≤ 3
  | [], st, hg => ⟨st, [], rfl, hg, rfl, fun s h => by cases h⟩
  | d :: r, st, hg => by
    obtain ⟨⟨k, st1⟩, e1, j, ek, j1, j2, g1⟩ := wm_out (draw_ok (n := 3) hg (by decide) (by decide))
    simp only at ek g1
    subst ek
    obtain ⟨st', ss, q1, q2, q3, q4⟩ := C1_loop (sc := sc) (x2 := x2) (x3 := x3) (x4 := x4) (x5 := x5) (x6 := x6) (x7 := x7) (x8 := x8) (x9 := x9) (x10 := x10) (x11 := x11) (x13 := x13) (x14 := x14) (x15 := x15) (x16 := x16) r st1 g1
    refine ⟨st', (1 + j) :: ss, ?_, q2, by simp [q3], fun s h => ?_⟩
    · rw [lcL]
      simp [gSet, put, isOw, dYes, dBin, dC, dCallO, dCons, dNil, e1, dAdd, dIntOp, wipeE, q1]
    · rcases List.mem_cons.mp h with rfl | h
      · omega
      · exact q4 s h
/-- the state between turns: slots 12 and 13 hold no object of their own -/
def nOw : Sl → Prop
  | .ow _ => False
  | _ => True
theorem rows_loop {sc : D} {x2 x3 x4 x5 x6 x7 x9 x10 x11 x14 x15 x16 : Sl} : ∀ (ds : List D) (st : D) (rs : List (Int × Int)) (x12 x13 : Sl), Good st → nOw x12 → (∀ p, p ∈ rs → GoodP p) → rs.length + ds.length ≤ 20 →
    ∃ (st' : D) (rs' : List (Int × Int)) (y12 y13 : Sl), forL (gSet 12) B1 ds [.va sc, .ow st, x2, x3, x4, x5, x6, x7, .ow (.lst (rs.map oddsD)), x9, x10, x11, x12, x13, x14, x15, x16] = .ok (.nx, [.va sc, .ow st', x2, x3, x4, x5, x6, x7, .ow (.lst (rs'.map oddsD)), x9, x10, x11, y12, y13, x14, x15, x16]) ∧ Good st' ∧ nOw y12 ∧ (∀ p, p ∈ rs' → GoodP p) ∧ rs'.length = rs.length + ds.length
  | [], st, rs, x12, x13, hg, hn, hr, hl => ⟨st, rs, x12, x13, rfl, hg, hn, hr, rfl⟩
  | d :: r, st, rs, x12, x13, hg, hn, hr, hl => by
    simp only [List.length_cons] at hl
    obtain ⟨st1, y13, p, e1, g1, gp⟩ := B1_ok (sc := sc) (acc := rs.map oddsD) (x2 := x2) (x3 := x3) (x4 := x4) (x5 := x5) (x6 := x6) (x7 := x7) (x9 := x9) (x10 := x10) (x11 := x11) (x12 := .va d) (x13 := x13) (x14 := x14) (x15 := x15) (x16 := x16) hg (by rw [List.length_map]; unfold maxSeq; omega)
    obtain ⟨st', rs', y12, y13', q1, q2, q3, q4, q5⟩ := rows_loop (sc := sc) (x2 := x2) (x3 := x3) (x4 := x4) (x5 := x5) (x6 := x6) (x7 := x7) (x9 := x9) (x10 := x10) (x11 := x11) (x14 := x14) (x15 := x15) (x16 := x16) r st1 (rs ++ [p]) (.va d) (.va y13) g1 trivial (fun z hz => by
      rcases List.mem_append.mp hz with hz | hz
      · exact hr z hz
      · rw [List.mem_singleton.mp hz]; exact gp) (by simp; omega)
    refine ⟨st', rs', y12, y13', ?_, q2, q3, q4, by rw [q5]; simp; omega⟩
    rw [List.map_append] at q1
    rw [forL, show gSet 12 d [.va sc, .ow st, x2, x3, x4, x5, x6, x7, .ow (.lst (rs.map oddsD)), x9, x10, x11, x12, x13, x14, x15, x16] = .ok [.va sc, .ow st, x2, x3, x4, x5, x6, x7, .ow (.lst (rs.map oddsD)), x9, x10, x11, .va d, x13, x14, x15, x16] from rfl, ns_ok, bnd_ok, e1, bnd_ok]
    exact q1
theorem asks_loop {sc : D} {rs : List (Int × Int)} {ss : List Int} {x2 x3 x4 x5 x6 x7 x10 x13 x16 : Sl} (hl : ss.length = rs.length) (h1 : 1 ≤ rs.length) (h2 : rs.length ≤ 20) (hr : ∀ p, p ∈ rs → GoodP p) (hs : ∀ s, s ∈ ss → 1 ≤ s ∧ s ≤ 3) : ∀ (ds : List D) (st : D) (x12 x14 x15 : Sl), Good st → nOw x12 →
    ∃ (st' : D) (y12 y14 y15 : Sl), forL (gSet 12) B3 ds [.va sc, .ow st, x2, x3, x4, x5, x6, x7, .va (rowsD rs), .va (intsD ss), x10, .va (.int rs.length), x12, x13, x14, x15, x16] = .ok (.nx, [.va sc, .ow st', x2, x3, x4, x5, x6, x7, .va (rowsD rs), .va (intsD ss), x10, .va (.int rs.length), y12, x13, y14, y15, x16]) ∧ Good st' ∧ nOw y12
  | [], st, x12, x14, x15, hg, hn => ⟨st, x12, x14, x15, rfl, hg, hn⟩
  | d :: r, st, x12, x14, x15, hg, hn => by
    obtain ⟨st1, y14, y15, e1, g1⟩ := B3_ok (sc := sc) (x2 := x2) (x3 := x3) (x4 := x4) (x5 := x5) (x6 := x6) (x7 := x7) (x10 := x10) (x12 := .va d) (x13 := x13) (x14 := x14) (x15 := x15) (x16 := x16) hg hl h1 h2 hr hs
    obtain ⟨st', z12, z14, z15, q1, q2, q3⟩ := asks_loop (sc := sc) (x2 := x2) (x3 := x3) (x4 := x4) (x5 := x5) (x6 := x6) (x7 := x7) (x10 := x10) (x13 := x13) (x16 := x16) hl h1 h2 hr hs r st1 (.va d) (.va y14) (.va y15) g1 trivial
    refine ⟨st', z12, z14, z15, ?_, q2, q3⟩
    rw [forL, show gSet 12 d [.va sc, .ow st, x2, x3, x4, x5, x6, x7, .va (rowsD rs), .va (intsD ss), x10, .va (.int rs.length), x12, x13, x14, x15, x16] = .ok [.va sc, .ow st, x2, x3, x4, x5, x6, x7, .va (rowsD rs), .va (intsD ss), x10, .va (.int rs.length), .va d, x13, x14, x15, x16] from rfl, ns_ok, bnd_ok, e1, bnd_ok]
    exact q1
theorem dLc_own {sc st st' : D} {ds rs : List D} {mi : Iv} {te : Ev} {x2 x3 x4 x5 x6 x7 x8 x9 x10 x11 x12 x13 x14 x15 x16 : Sl} (hn : nOw x12) (h : mi [.va sc, .ow st, x2, x3, x4, x5, x6, x7, x8, x9, x10, x11, x12, x13, x14, x15, x16] = .ok (ds, [.va sc, .ow st, x2, x3, x4, x5, x6, x7, x8, x9, x10, x11, x12, x13, x14, x15, x16]))
    (h2 : lcL (gSet 12) dYes te [12] ds [.va sc, .ow st, x2, x3, x4, x5, x6, x7, x8, x9, x10, x11, .un, x13, x14, x15, x16] = .ok (rs, [.va sc, .ow st', x2, x3, x4, x5, x6, x7, x8, x9, x10, x11, .un, x13, x14, x15, x16])) (h3 : rs.length ≤ maxSeq) :
    dLc mi (gSet 12) dYes te [12] [.va sc, .ow st, x2, x3, x4, x5, x6, x7, x8, x9, x10, x11, x12, x13, x14, x15, x16] = .ok (.lst rs, [.va sc, .ow st', x2, x3, x4, x5, x6, x7, x8, x9, x10, x11, x12, x13, x14, x15, x16]) := by
  have z : noOw [.va sc, .ow st, x2, x3, x4, x5, x6, x7, x8, x9, x10, x11, x12, x13, x14, x15, x16] [12] = true := by
    cases x12 with
    | ow d => exact hn.elim
    | va d => rfl
    | un => rfl
  unfold dLc
  rw [h, bnd_ok]
  simp only [z, if_true]
  rw [show wipeE [.va sc, .ow st, x2, x3, x4, x5, x6, x7, x8, x9, x10, x11, x12, x13, x14, x15, x16] [12] = [.va sc, .ow st, x2, x3, x4, x5, x6, x7, x8, x9, x10, x11, .un, x13, x14, x15, x16] from rfl, h2, ns_ok, bnd_ok]
  simp only [h3, if_true]
  rfl
abbrev B0 : Sv := bSeq (sSet 11 (dCallO m__law_pick 1 (dCons (dLst (dCons (dC (.int 1)) (dCons (dC (.int 2)) (dCons (dC (.int 3)) (dCons (dC (.int 5)) (dCons (dC (.int 20)) (dNil))))))) (dNil))))
  (bSeq (sSetO 8 (dLst (dNil)))
  (bSeq (sFor (dRng (dCons (dVar 11) (dNil))) (gSet 12) B1)
  (bSeq (sAsg (dTup (dCons (dCall bTuple (dCons (dVarO 8) (dNil))) (dCons (dCall bTuple (dCons C1 (dNil))) (dNil)))) (gTupD (lenOf 2 (gsCons (gSet 8) (gsCons (gSet 9) (gsNil))))))
  (sFor (dRng (dCons (dC (.int 3)) (dNil))) (gSet 12) B3))))
theorem B0_ok {sc st : D} {x2 x3 x4 x5 x6 x7 x8 x9 x10 x11 x12 x13 x14 x15 x16 : Sl} (hg : Good st) (hn : nOw x12) :
    ∃ (st' : D) (y8 y9 y11 y12 y13 y14 y15 : Sl), B0 [.va sc, .ow st, x2, x3, x4, x5, x6, x7, x8, x9, x10, x11, x12, x13, x14, x15, x16] = .ok (.nx, [.va sc, .ow st', x2, x3, x4, x5, x6, x7, y8, y9, x10, y11, y12, y13, y14, y15, x16]) ∧ Good st' ∧ nOw y12 := by
  obtain ⟨⟨m, st1⟩, e1, m1, g1⟩ := wm_out (pick_ok (xs := [.int 1, .int 2, .int 3, .int 5, .int 20]) hg (by simp) (by simp))
  have hm : ∃ n : Nat, m = .int n ∧ 1 ≤ n ∧ n ≤ 20 := by
    simp only at m1
    ((simp only [List.mem_cons, List.not_mem_nil, or_false] at m1))
    rcases m1 with rfl | rfl | rfl | rfl | rfl
    · exact ⟨1, rfl, by decide, by decide⟩
    · exact ⟨2, rfl, by decide, by decide⟩
    · exact ⟨3, rfl, by decide, by decide⟩
    · exact ⟨5, rfl, by decide, by decide⟩
    · exact ⟨20, rfl, by decide, by decide⟩
  obtain ⟨n, rfl, n1, n2⟩ := hm
  simp only at e1 g1
  have hsm : smallI (n : Int) = true := by unfold smallI; simp; omega
  have rl : (rngD 0 1 n).length = n := by unfold rngD; simp
  obtain ⟨st2, rs, y12, y13, r1, g2, no2, gr, rlen⟩ := rows_loop (sc := sc) (x2 := x2) (x3 := x3) (x4 := x4) (x5 := x5) (x6 := x6) (x7 := x7) (x9 := x9) (x10 := x10) (x11 := .va (.int n)) (x14 := x14) (x15 := x15) (x16 := x16) (rngD 0 1 n) st1 [] x12 x13 g1 hn (fun p h => by cases h) (by rw [rl]; simpa using n2)
  rw [rl] at rlen
  simp only [List.length_nil, Nat.zero_add, List.map_nil] at rlen r1
  obtain ⟨st3, ss, c1, g3, cl, cs⟩ := C1_loop (sc := sc) (x2 := x2) (x3 := x3) (x4 := x4) (x5 := x5) (x6 := x6) (x7 := x7) (x8 := .ow (.lst (rs.map oddsD))) (x9 := x9) (x10 := x10) (x11 := .va (.int n)) (x13 := y13) (x14 := x14) (x15 := x15) (x16 := x16) (rngD 0 1 n) st2 g2
  rw [rl] at cl
  have hle : (ss.map D.int).length ≤ maxSeq := by rw [List.length_map, cl]; unfold maxSeq; omega
  have c2 := dLc_own (mi := dRng (dCons (dVar 11) (dNil))) (x12 := y12) no2 (dRng_ok (by simp [dCons, dNil, dVar]) hsm) c1 hle
  obtain ⟨st4, z12, z14, z15, a1, g4, no4⟩ := asks_loop (sc := sc) (rs := rs) (ss := ss) (x2 := x2) (x3 := x3) (x4 := x4) (x5 := x5) (x6 := x6) (x7 := x7) (x10 := x10) (x13 := y13) (x16 := x16) (by omega) (by omega) (by omega) gr cs (rngD 0 1 3) st3 y12 x14 x15 g3 no2
  rw [rlen] at a1
  refine ⟨st4, .va (rowsD rs), .va (intsD ss), .va (.int n), z12, y13, z14, z15, ?_, g4, no4⟩
  have s1 : sSet 11 (dCallO m__law_pick 1 (dCons (dLst (dCons (dC (.int 1)) (dCons (dC (.int 2)) (dCons (dC (.int 3)) (dCons (dC (.int 5)) (dCons (dC (.int 20)) (dNil))))))) (dNil))) [.va sc, .ow st, x2, x3, x4, x5, x6, x7, x8, x9, x10, x11, x12, x13, x14, x15, x16] = .ok (.nx, [.va sc, .ow st1, x2, x3, x4, x5, x6, x7, x8, x9, x10, .va (.int n), x12, x13, x14, x15, x16]) := by
    have : 5 ≤ maxSeq := by decide
    simp [sSet, dCallO, dCons, dNil, dLst, dC, this, e1, put, isOw]
  unfold B0
  rw [bSeq, s1, bnd_ok]
  simp only []
  rw [bSeq, show sSetO 8 (dLst (dNil)) [.va sc, .ow st1, x2, x3, x4, x5, x6, x7, x8, x9, x10, .va (.int n), x12, x13, x14, x15, x16] = .ok (.nx, [.va sc, .ow st1, x2, x3, x4, x5, x6, x7, .ow (.lst []), x9, x10, .va (.int n), x12, x13, x14, x15, x16]) from (by simp [sSetO, dLst, dNil, put, isOw]), bnd_ok]
  simp only []
  rw [bSeq, sFor, dRng_ok (n := n) (by simp [dCons, dNil, dVar]; rfl) hsm, bnd_ok, Int.toNat_natCast, r1, bnd_ok]
  simp only []
  have s3 : sAsg (dTup (dCons (dCall bTuple (dCons (dVarO 8) (dNil))) (dCons (dCall bTuple (dCons C1 (dNil))) (dNil)))) (gTupD (lenOf 2 (gsCons (gSet 8) (gsCons (gSet 9) (gsNil))))) [.va sc, .ow st2, x2, x3, x4, x5, x6, x7, .ow (.lst (rs.map oddsD)), x9, x10, .va (.int n), y12, y13, x14, x15, x16] = .ok (.nx, [.va sc, .ow st3, x2, x3, x4, x5, x6, x7, .va (rowsD rs), .va (intsD ss), x10, .va (.int n), y12, y13, x14, x15, x16]) := by
    have t2 : dCall bTuple (dCons C1 (dNil)) [.va sc, .ow st2, x2, x3, x4, x5, x6, x7, .ow (.lst (rs.map oddsD)), x9, x10, .va (.int n), y12, y13, x14, x15, x16] = .ok (intsD ss, [.va sc, .ow st3, x2, x3, x4, x5, x6, x7, .ow (.lst (rs.map oddsD)), x9, x10, .va (.int n), y12, y13, x14, x15, x16]) := dCall1 c2 (by unfold intsD; simp [bTuple])
    have t1 : dCall bTuple (dCons (dVarO 8) (dNil)) [.va sc, .ow st2, x2, x3, x4, x5, x6, x7, .ow (.lst (rs.map oddsD)), x9, x10, .va (.int n), y12, y13, x14, x15, x16] = .ok (rowsD rs, [.va sc, .ow st2, x2, x3, x4, x5, x6, x7, .ow (.lst (rs.map oddsD)), x9, x10, .va (.int n), y12, y13, x14, x15, x16]) := dCall1 (by simp [dVarO]; rfl) (by unfold rowsD; simp [bTuple])
    rw [sAsg, dTup, dCons, t1, bnd_ok, dCons, t2]
    simp [dNil, mx2, gTupD, lenOf, gsCons, gsNil, gSet, put, isOw]
  rw [bSeq, s3, bnd_ok]
  simp only []
  rw [sFor, dRng_ok (n := 3) (by simp [dCons, dNil, dC]; rfl) (by decide), bnd_ok]
  exact a1
theorem turns_loop {sc : D} {x3 x4 x5 x6 x7 x10 x16 : Sl} : ∀ (ds : List D) (st : D) (x2 x8 x9 x11 x12 x13 x14 x15 : Sl), Good st → nOw x12 →
    ∃ (st' : D) (y2 y8 y9 y11 y12 y13 y14 y15 : Sl), forL (gSet 2) B0 ds [.va sc, .ow st, x2, x3, x4, x5, x6, x7, x8, x9, x10, x11, x12, x13, x14, x15, x16] = .ok (.nx, [.va sc, .ow st', y2, x3, x4, x5, x6, x7, y8, y9, x10, y11, y12, y13, y14, y15, x16]) ∧ Good st'
  | [], st, x2, x8, x9, x11, x12, x13, x14, x15, hg, hn => ⟨st, x2, x8, x9, x11, x12, x13, x14, x15, rfl, hg⟩
  | d :: r, st, x2, x8, x9, x11, x12, x13, x14, x15, hg, hn => by
    obtain ⟨st1, y8, y9, y11, y12, y13, y14, y15, e1, g1, n1⟩ := B0_ok (sc := sc) (x2 := .va d) (x3 := x3) (x4 := x4) (x5 := x5) (x6 := x6) (x7 := x7) (x8 := x8) (x9 := x9) (x10 := x10) (x11 := x11) (x12 := x12) (x13 := x13) (x14 := x14) (x15 := x15) (x16 := x16) hg hn
    obtain ⟨st', z2, z8, z9, z11, z12, z13, z14, z15, q1, q2⟩ := turns_loop (sc := sc) (x3 := x3) (x4 := x4) (x5 := x5) (x6 := x6) (x7 := x7) (x10 := x10) (x16 := x16) r st1 (.va d) y8 y9 y11 y12 y13 y14 y15 g1 n1
    refine ⟨st', z2, z8, z9, z11, z12, z13, z14, z15, ?_, q2⟩
    rw [forL, show gSet 2 d [.va sc, .ow st, x2, x3, x4, x5, x6, x7, x8, x9, x10, x11, x12, x13, x14, x15, x16] = .ok [.va sc, .ow st, .va d, x3, x4, x5, x6, x7, x8, x9, x10, x11, x12, x13, x14, x15, x16] from rfl, ns_ok, bnd_ok, e1, bnd_ok]
    exact q1
end LW
end Dn

/-! P14m -/
set_option Elab.async false
set_option linter.all false
set_option maxRecDepth 100000
set_option maxHeartbeats 4000000
namespace Dn
namespace LW
open PySem
theorem stp {s rest : Sv} {env e' : En} (h : s env = .ok (.nx, e')) : bSeq s rest env = rest e' := by unfold bSeq; rw [h]; rfl
theorem ne_self {d : D} (h : d.ok = true) (e : D.eqv d d = true) : dNe d d = .ok (.bl false) := by
  unfold dNe
  simp only [h, e, Bool.and_self, if_true, Bool.not_true]
theorem eq_self {d : D} (h : d.ok = true) (e : D.eqv d d = true) : dEq d d = .ok (.bl true) := by
  unfold dEq
  simp only [h, e, Bool.and_self, if_true]
theorem okS {x : Str} (h : x.cps.all (· < 0x110000) = true) : (D.str x).ok = true ∧ (D.str x).lay = true ∧ (D.str x).dep = 0 ∧ D.eqv (.str x) (.str x) = true := by
  refine ⟨?_, ?_, ?_, ?_⟩
  · unfold D.ok; simp only [D.lay, D.dep, h, Nat.zero_le, decide_true, Bool.and_self]
  · simp only [D.lay, h]
  · simp only [D.dep]
  · simp only [D.eqv]; exact beq_self_eq_true x
theorem ne4 {a b c d : Str} (h1 : a.cps.all (· < 0x110000) = true) (h2 : b.cps.all (· < 0x110000) = true) (h3 : c.cps.all (· < 0x110000) = true) (h4 : d.cps.all (· < 0x110000) = true) : dNe (.lst [.str a, .str b, .str c, .str d]) (.lst [.str a, .str b, .str c, .str d]) = .ok (.bl false) := by
  obtain ⟨_, l1, d1, e1⟩ := okS h1
  obtain ⟨_, l2, d2, e2⟩ := okS h2
  obtain ⟨_, l3, d3, e3⟩ := okS h3
  obtain ⟨_, l4, d4, e4⟩ := okS h4
  refine ne_self ?_ ?_
  · unfold D.ok; rw [D.lay, D.lays, D.lays, D.lays, D.lays, D.lays, D.dep, D.deps, D.deps, D.deps, D.deps, D.deps, l1, l2, l3, l4, d1, d2, d3, d4]; rfl
  · rw [D.eqv, D.eqvs, D.eqvs, D.eqvs, D.eqvs, D.eqvs, e1, e2, e3, e4]; rfl
theorem ne3 {a b c : Str} (h1 : a.cps.all (· < 0x110000) = true) (h2 : b.cps.all (· < 0x110000) = true) (h3 : c.cps.all (· < 0x110000) = true) : dNe (.lst [.str a, .str b, .str c]) (.lst [.str a, .str b, .str c]) = .ok (.bl false) := by
  obtain ⟨_, l1, d1, e1⟩ := okS h1
  obtain ⟨_, l2, d2, e2⟩ := okS h2
  obtain ⟨_, l3, d3, e3⟩ := okS h3
  refine ne_self ?_ ?_
  · unfold D.ok; rw [D.lay, D.lays, D.lays, D.lays, D.lays, D.dep, D.deps, D.deps, D.deps, D.deps, l1, l2, l3, d1, d2, d3]; rfl
  · rw [D.eqv, D.eqvs, D.eqvs, D.eqvs, D.eqvs, e1, e2, e3]; rfl
theorem p12 : dPow (.int 10) (.int 12) = .ok (.int 1000000000000) := rfl
theorem rep4 (x : D) : dMul (.lst [x]) (.int 4) = .ok (.lst [x, x, x, x]) := rfl
theorem rep3 (x : D) : dMul (.lst [x]) (.int 3) = .ok (.lst [x, x, x]) := rfl
theorem rep2 (x : D) : dMul (.lst [x]) (.int 2) = .ok (.lst [x, x]) := rfl
theorem rep21 (x : D) : dMul (.tup [x]) (.int 21) = .ok (.tup (repD 21 [x])) := rfl
theorem mxs : 1 ≤ maxSeq ∧ 2 ≤ maxSeq ∧ 3 ≤ maxSeq ∧ 4 ≤ maxSeq ∧ 5 ≤ maxSeq ∧ 6 ≤ maxSeq ∧ 7 ≤ maxSeq ∧ 8 ≤ maxSeq ∧ 10 ≤ maxSeq ∧ 13 ≤ maxSeq ∧ 14 ≤ maxSeq := by decide
theorem law_true (ns : List Int) : m_law [.scr ns] = .ok (.bl true) := by
  obtain ⟨s0, e0, g0⟩ := start_ok ns
  obtain ⟨st, y2, y8, y9, y11, y12, y13, y14, y15, tl, g1⟩ := turns_loop (sc := .scr ns) (x3 := .un) (x4 := .un) (x5 := .un) (x6 := .un) (x7 := .un) (x10 := .un) (x16 := .un) (rngD 0 1 6) s0 .un .un .un .un .un .un .un .un g0 trivial
  unfold m_law b_law
  rw [show enter 17 [.scr ns] = [.va (.scr ns), .un, .un, .un, .un, .un, .un, .un, .un, .un, .un, .un, .un, .un, .un, .un, .un] from rfl]
  rw [stp (e' := [.va (.scr ns), .ow s0, .un, .un, .un, .un, .un, .un, .un, .un, .un, .un, .un, .un, .un, .un, .un]) (by simp [sSetO, dCall, dCons, dNil, dVar, e0, put, isOw])]
  rw [stp (e' := [.va (.scr ns), .ow st, y2, .un, .un, .un, .un, .un, y8, y9, .un, y11, y12, y13, y14, y15, .un]) (by rw [sFor, dRng_ok (n := 6) (by simp [dCons, dNil, dC]; rfl) (by decide), bnd_ok]; exact tl)]
  clear tl e0 g0
  obtain ⟨⟨odds, st2⟩, e2, m2, g2⟩ := wm_out (pick_ok (xs := oddsL) g1 (by simp) (by simp))
  simp only at e2 m2 g2
  obtain ⟨h0, h1, h2, h3⟩ := heard_odds m2
  have hgo := heard_goal m2
  have mo := m2
  rw [stp (e' := [.va (.scr ns), .ow st2, y2, .va odds, .un, .un, .un, .un, y8, y9, .un, y11, y12, y13, y14, y15, .un]) (by ((obtain ⟨_, _, _, _, _, _, _, _, _, _, _⟩ := mxs; simp [sSet, sSetO, dCallO, dCons, dNil, dLst, dTup, dC, dVar, dNeg, put, isOw, dBin, p12, rep4, rep3, rep2, rep21, dAdd, dIntOp, dLc, dItems, noOw, wipeE, lcL, gSet, dYes, dCall, resE, sIf, dTb, dTOr, bNil, *])))]
  rw [stp (e' := [.va (.scr ns), .ow st2, y2, .va odds, .va (.lst [.str "argument odds", .str "argument odds", .str "argument odds", .str "argument odds"]), .un, .un, .un, y8, y9, .un, y11, y12, y13, y14, y15, .un]) (by ((obtain ⟨_, _, _, _, _, _, _, _, _, _, _⟩ := mxs; simp [sSet, sSetO, dCallO, dCons, dNil, dLst, dTup, dC, dVar, dNeg, put, isOw, dBin, p12, rep4, rep3, rep2, rep21, dAdd, dIntOp, dLc, dItems, noOw, wipeE, lcL, gSet, dYes, dCall, resE, sIf, dTb, dTOr, bNil, *])))]
  rw [stp (e' := [.va (.scr ns), .ow st2, y2, .va odds, .va (.lst [.str "argument odds", .str "argument odds", .str "argument odds", .str "argument odds"]), .un, .un, .un, y8, y9, .un, y11, y12, y13, y14, y15, .un]) (by ((obtain ⟨_, _, _, _, _, _, _, _, _, _, _⟩ := mxs; simp [sSet, sSetO, dCallO, dCons, dNil, dLst, dTup, dC, dVar, dNeg, put, isOw, dBin, p12, rep4, rep3, rep2, rep21, dAdd, dIntOp, dLc, dItems, noOw, wipeE, lcL, gSet, dYes, dCall, resE, sIf, dTb, dTOr, bNil, *, ne4 (a := "argument odds") (b := "argument odds") (c := "argument odds") (d := "argument odds") (by decide +kernel) (by decide +kernel) (by decide +kernel) (by decide +kernel)])))]
  obtain ⟨⟨tries, st3⟩, e3, m3, g3⟩ := wm_out (pick_ok (xs := triesL) g2 (by simp) (by simp))
  simp only at e3 m3 g3
  obtain ⟨h4, h5, h6, h7⟩ := heard_tries m3
  rw [stp (e' := [.va (.scr ns), .ow st3, y2, .va odds, .va (.lst [.str "argument odds", .str "argument odds", .str "argument odds", .str "argument odds"]), .va tries, .un, .un, y8, y9, .un, y11, y12, y13, y14, y15, .un]) (by ((obtain ⟨_, _, _, _, _, _, _, _, _, _, _⟩ := mxs; simp [sSet, sSetO, dCallO, dCons, dNil, dLst, dTup, dC, dVar, dNeg, put, isOw, dBin, p12, rep4, rep3, rep2, rep21, dAdd, dIntOp, dLc, dItems, noOw, wipeE, lcL, gSet, dYes, dCall, resE, sIf, dTb, dTOr, bNil, *])))]
  rw [stp (e' := [.va (.scr ns), .ow st3, y2, .va odds, .va (.lst [.str "argument tries", .str "argument tries", .str "argument tries", .str "argument tries"]), .va tries, .un, .un, y8, y9, .un, y11, y12, y13, y14, y15, .un]) (by ((obtain ⟨_, _, _, _, _, _, _, _, _, _, _⟩ := mxs; simp [sSet, sSetO, dCallO, dCons, dNil, dLst, dTup, dC, dVar, dNeg, put, isOw, dBin, p12, rep4, rep3, rep2, rep21, dAdd, dIntOp, dLc, dItems, noOw, wipeE, lcL, gSet, dYes, dCall, resE, sIf, dTb, dTOr, bNil, *])))]
  obtain ⟨⟨num, st4⟩, e4, m4, g4⟩ := wm_out (pick_ok (xs := numL) g3 (by simp) (by simp))
  simp only at e4 m4 g4
  have hnu := heard_num m4
  rw [stp (e' := [.va (.scr ns), .ow st4, y2, .va odds, .va (.lst [.str "argument tries", .str "argument tries", .str "argument tries", .str "argument tries"]), .va tries, .un, .un, y8, y9, .un, y11, y12, y13, y14, y15, .un]) (by ((obtain ⟨_, _, _, _, _, _, _, _, _, _, _⟩ := mxs; simp [sSet, sSetO, dCallO, dCons, dNil, dLst, dTup, dC, dVar, dNeg, put, isOw, dBin, p12, rep4, rep3, rep2, rep21, dAdd, dIntOp, dLc, dItems, noOw, wipeE, lcL, gSet, dYes, dCall, resE, sIf, dTb, dTOr, bNil, *, ne4 (a := "argument tries") (b := "argument tries") (c := "argument tries") (d := "argument tries") (by decide +kernel) (by decide +kernel) (by decide +kernel) (by decide +kernel), ne_lit (x := "argument number") (by decide +kernel)])))]
  rw [stp (e' := [.va (.scr ns), .ow st4, y2, .va odds, .va (.lst [.str "argument tries", .str "argument tries", .str "argument tries", .str "argument tries"]), .va tries, .un, .un, y8, y9, .un, y11, y12, y13, y14, y15, .un]) (by ((obtain ⟨_, _, _, _, _, _, _, _, _, _, _⟩ := mxs; simp [sSet, sSetO, dCallO, dCons, dNil, dLst, dTup, dC, dVar, dNeg, put, isOw, dBin, p12, rep4, rep3, rep2, rep21, dAdd, dIntOp, dLc, dItems, noOw, wipeE, lcL, gSet, dYes, dCall, resE, sIf, dTb, dTOr, bNil, *, ne_lit (x := "argument goal") (by decide +kernel)])))]
  obtain ⟨⟨rule, st5⟩, e5, m5, g5⟩ := wm_out (pick_ok (xs := ruleL) g4 (by simp) (by simp))
  simp only at e5 m5 g5
  have hru := heard_rule m5
  rw [stp (e' := [.va (.scr ns), .ow st5, y2, .va odds, .va (.lst [.str "argument tries", .str "argument tries", .str "argument tries", .str "argument tries"]), .va tries, .va rule, .un, y8, y9, .un, y11, y12, y13, y14, y15, .un]) (by ((obtain ⟨_, _, _, _, _, _, _, _, _, _, _⟩ := mxs; simp [sSet, sSetO, dCallO, dCons, dNil, dLst, dTup, dC, dVar, dNeg, put, isOw, dBin, p12, rep4, rep3, rep2, rep21, dAdd, dIntOp, dLc, dItems, noOw, wipeE, lcL, gSet, dYes, dCall, resE, sIf, dTb, dTOr, bNil, *])))]
  obtain ⟨⟨long, st6⟩, e6, m6, g6⟩ := wm_out (pick_ok (xs := longL) g5 (by simp) (by simp))
  simp only at e6 m6 g6
  obtain ⟨r1, r2⟩ := hru long
  obtain ⟨l1, l2⟩ := heard_long m6
  have hen := heard_end m6
  rw [stp (e' := [.va (.scr ns), .ow st6, y2, .va odds, .va (.lst [.str "argument tries", .str "argument tries", .str "argument tries", .str "argument tries"]), .va tries, .va rule, .va long, y8, y9, .un, y11, y12, y13, y14, y15, .un]) (by ((obtain ⟨_, _, _, _, _, _, _, _, _, _, _⟩ := mxs; simp [sSet, sSetO, dCallO, dCons, dNil, dLst, dTup, dC, dVar, dNeg, put, isOw, dBin, p12, rep4, rep3, rep2, rep21, dAdd, dIntOp, dLc, dItems, noOw, wipeE, lcL, gSet, dYes, dCall, resE, sIf, dTb, dTOr, bNil, *])))]
  rw [stp (e' := [.va (.scr ns), .ow st6, y2, .va odds, .va (.lst [.str "argument rule", .str "argument rule", .str "argument long", .str "argument long"]), .va tries, .va rule, .va long, y8, y9, .un, y11, y12, y13, y14, y15, .un]) (by ((obtain ⟨_, _, _, _, _, _, _, _, _, _, _⟩ := mxs; simp [sSet, sSetO, dCallO, dCons, dNil, dLst, dTup, dC, dVar, dNeg, put, isOw, dBin, p12, rep4, rep3, rep2, rep21, dAdd, dIntOp, dLc, dItems, noOw, wipeE, lcL, gSet, dYes, dCall, resE, sIf, dTb, dTOr, bNil, *])))]
  rw [stp (e' := [.va (.scr ns), .ow st6, y2, .va odds, .va (.lst [.str "argument rule", .str "argument rule", .str "argument long", .str "argument long"]), .va tries, .va rule, .va long, y8, y9, .un, y11, y12, y13, y14, y15, .un]) (by ((obtain ⟨_, _, _, _, _, _, _, _, _, _, _⟩ := mxs; simp [sSet, sSetO, dCallO, dCons, dNil, dLst, dTup, dC, dVar, dNeg, put, isOw, dBin, p12, rep4, rep3, rep2, rep21, dAdd, dIntOp, dLc, dItems, noOw, wipeE, lcL, gSet, dYes, dCall, resE, sIf, dTb, dTOr, bNil, *, ne4 (a := "argument rule") (b := "argument rule") (c := "argument long") (d := "argument long") (by decide +kernel) (by decide +kernel) (by decide +kernel) (by decide +kernel), ne_lit (x := "argument end") (by decide +kernel)])))]
  obtain ⟨⟨rows, st7⟩, e7, m7, g7⟩ := wm_out (pick_ok (xs := (rowsL odds)) g6 (by simp) (by simp))
  simp only at e7 m7 g7
  obtain ⟨w1, w2, w3, w4⟩ := heard_rows mo m7
  rw [stp (e' := [.va (.scr ns), .ow st7, y2, .va odds, .va (.lst [.str "argument rule", .str "argument rule", .str "argument long", .str "argument long"]), .va tries, .va rule, .va long, .va rows, y9, .un, y11, y12, y13, y14, y15, .un]) (by ((obtain ⟨_, _, _, _, _, _, _, _, _, _, _⟩ := mxs; simp [sSet, sSetO, dCallO, dCons, dNil, dLst, dTup, dC, dVar, dNeg, put, isOw, dBin, p12, rep4, rep3, rep2, rep21, dAdd, dIntOp, dLc, dItems, noOw, wipeE, lcL, gSet, dYes, dCall, resE, sIf, dTb, dTOr, bNil, *])))]
  rw [stp (e' := [.va (.scr ns), .ow st7, y2, .va odds, .va (.lst [.str "flow odds", .str "flow odds", .str "flow odds", .str "flow odds"]), .va tries, .va rule, .va long, .va rows, y9, .un, y11, y12, y13, y14, y15, .un]) (by ((obtain ⟨_, _, _, _, _, _, _, _, _, _, _⟩ := mxs; simp [sSet, sSetO, dCallO, dCons, dNil, dLst, dTup, dC, dVar, dNeg, put, isOw, dBin, p12, rep4, rep3, rep2, rep21, dAdd, dIntOp, dLc, dItems, noOw, wipeE, lcL, gSet, dYes, dCall, resE, sIf, dTb, dTOr, bNil, *])))]
  rw [stp (e' := [.va (.scr ns), .ow st7, y2, .va odds, .va (.lst [.str "flow odds", .str "flow odds", .str "flow odds", .str "flow odds"]), .va tries, .va rule, .va long, .va rows, y9, .un, y11, y12, y13, y14, y15, .un]) (by ((obtain ⟨_, _, _, _, _, _, _, _, _, _, _⟩ := mxs; simp [sSet, sSetO, dCallO, dCons, dNil, dLst, dTup, dC, dVar, dNeg, put, isOw, dBin, p12, rep4, rep3, rep2, rep21, dAdd, dIntOp, dLc, dItems, noOw, wipeE, lcL, gSet, dYes, dCall, resE, sIf, dTb, dTOr, bNil, *, ne4 (a := "flow odds") (b := "flow odds") (c := "flow odds") (d := "flow odds") (by decide +kernel) (by decide +kernel) (by decide +kernel) (by decide +kernel)])))]
  obtain ⟨⟨shares, st8⟩, e8, m8, g8⟩ := wm_out (pick_ok (xs := sharesL) g7 (by simp) (by simp))
  simp only at e8 m8 g8
  obtain ⟨v1, v2, v3⟩ := heard_shares m8
  rw [stp (e' := [.va (.scr ns), .ow st8, y2, .va odds, .va (.lst [.str "flow odds", .str "flow odds", .str "flow odds", .str "flow odds"]), .va tries, .va rule, .va long, .va rows, .va shares, .un, y11, y12, y13, y14, y15, .un]) (by ((obtain ⟨_, _, _, _, _, _, _, _, _, _, _⟩ := mxs; simp [sSet, sSetO, dCallO, dCons, dNil, dLst, dTup, dC, dVar, dNeg, put, isOw, dBin, p12, rep4, rep3, rep2, rep21, dAdd, dIntOp, dLc, dItems, noOw, wipeE, lcL, gSet, dYes, dCall, resE, sIf, dTb, dTOr, bNil, *])))]
  rw [stp (e' := [.va (.scr ns), .ow st8, y2, .va odds, .va (.lst [.str "flow odds", .str "flow odds", .str "flow odds", .str "flow odds"]), .va tries, .va rule, .va long, .va rows, .va shares, .va goodD, y11, y12, y13, y14, y15, .un]) (by ((obtain ⟨_, _, _, _, _, _, _, _, _, _, _⟩ := mxs; simp [sSet, sSetO, dCallO, dCons, dNil, dLst, dTup, dC, dVar, dNeg, put, isOw, dBin, p12, rep4, rep3, rep2, rep21, dAdd, dIntOp, dLc, dItems, noOw, wipeE, lcL, gSet, dYes, dCall, resE, sIf, dTb, dTOr, bNil, *, goodD])))]
  rw [stp (e' := [.va (.scr ns), .ow st8, y2, .va odds, .va (.lst [.str "argument shares", .str "argument shares", .str "argument shares"]), .va tries, .va rule, .va long, .va rows, .va shares, .va goodD, y11, y12, y13, y14, y15, .un]) (by ((obtain ⟨_, _, _, _, _, _, _, _, _, _, _⟩ := mxs; simp [sSet, sSetO, dCallO, dCons, dNil, dLst, dTup, dC, dVar, dNeg, put, isOw, dBin, p12, rep4, rep3, rep2, rep21, dAdd, dIntOp, dLc, dItems, noOw, wipeE, lcL, gSet, dYes, dCall, resE, sIf, dTb, dTOr, bNil, *])))]
  rw [stp (e' := [.va (.scr ns), .ow st8, y2, .va odds, .va (.lst [.str "argument shares", .str "argument shares", .str "argument shares"]), .va tries, .va rule, .va long, .va rows, .va shares, .va goodD, y11, y12, y13, y14, y15, .un]) (by ((obtain ⟨_, _, _, _, _, _, _, _, _, _, _⟩ := mxs; simp [sSet, sSetO, dCallO, dCons, dNil, dLst, dTup, dC, dVar, dNeg, put, isOw, dBin, p12, rep4, rep3, rep2, rep21, dAdd, dIntOp, dLc, dItems, noOw, wipeE, lcL, gSet, dYes, dCall, resE, sIf, dTb, dTOr, bNil, *, ne3 (a := "argument shares") (b := "argument shares") (c := "argument shares") (by decide +kernel) (by decide +kernel) (by decide +kernel)])))]
  obtain ⟨r, ta⟩ := told_a
  have tb := told_b
  have tc := told_c
  rw [stp (e' := [.va (.scr ns), .ow st8, y2, .va odds, .va (.lst [.lst [r], .lst [.tup [.int 0, .int 2000000000000, .int 4000000000000]], .lst [.non]]), .va tries, .va rule, .va long, .va rows, .va shares, .va goodD, y11, y12, y13, y14, y15, .un]) (by ((obtain ⟨_, _, _, _, _, _, _, _, _, _, _⟩ := mxs; simp [sSet, sSetO, dCallO, dCons, dNil, dLst, dTup, dC, dVar, dNeg, put, isOw, dBin, p12, rep4, rep3, rep2, rep21, dAdd, dIntOp, dLc, dItems, noOw, wipeE, lcL, gSet, dYes, dCall, resE, sIf, dTb, dTOr, bNil, *])))]
  have mA : mulOk 2 1000000000000 = true := by decide +kernel
  have mB : mulOk 4 1000000000000 = true := by decide +kernel
  have ee : dEq (.lst [.lst [.tup [.int 0, .int 2000000000000, .int 4000000000000]], .lst [.non]]) (.lst [.lst [.tup [.int 0, .int 2000000000000, .int 4000000000000]], .lst [.non]]) = .ok (.bl true) := eq_self (by simp [D.ok, D.lay, D.lays, D.dep, D.deps]) (by simp [D.eqv, D.eqvs])
  have sl : dSlice1 (.lst [.lst [r], .lst [.tup [.int 0, .int 2000000000000, .int 4000000000000]], .lst [.non]]) (some 1) none = .ok (.lst [.lst [.tup [.int 0, .int 2000000000000, .int 4000000000000]], .lst [.non]]) := rfl
  have ix : dIx (.lst [.lst [r], .lst [.tup [.int 0, .int 2000000000000, .int 4000000000000]], .lst [.non]]) (.int 0) = .ok (.lst [r]) := rfl
  ((obtain ⟨_, _, _, _, _, _, _, _, _, _, _⟩ := mxs; simp [sSet, sSetO, dCallO, dCons, dNil, dLst, dTup, dC, dVar, dNeg, put, isOw, dBin, p12, rep4, rep3, rep2, rep21, dAdd, dIntOp, dLc, dItems, noOw, wipeE, lcL, gSet, dYes, dCall, resE, sIf, dTb, dTOr, bNil, *, sRet, dAndV, dIsi, ix, D.ty, isTy, dSlice, dOSome, dONone, sl, dMul, mA, mB, ee, fin]))
end LW
end Dn

/-! H14 -/
set_option Elab.async false
set_option linter.all false
set_option maxRecDepth 100000
set_option maxHeartbeats 4000000
namespace Dn
namespace LW
open PySem PySem.Spec L2
open PyProof.Rows hiding St
def iA0 : Arguments := Sup.iA ⟨6, 17, 6, 21⟩ ⟨6, 23, 6, 29⟩
def iB0 : List Stmt := Sup.iB "the work is refused" 0 ⟨7, 8, 7, 13⟩ ⟨7, 8, 7, 15⟩ ⟨7, 8, 7, 24⟩ ⟨7, 25, 7, 46⟩ ⟨7, 8, 7, 47⟩ ⟨7, 8, 7, 47⟩ ⟨8, 8, 8, 12⟩ ⟨8, 8, 8, 19⟩ ⟨8, 22, 8, 28⟩ ⟨8, 8, 8, 28⟩
def iA1 : Arguments := Sup.iA ⟨11, 17, 11, 21⟩ ⟨11, 23, 11, 29⟩
def iB1 : List Stmt := Sup.iB "an argument is refused" 0 ⟨12, 8, 12, 13⟩ ⟨12, 8, 12, 15⟩ ⟨12, 8, 12, 24⟩ ⟨12, 25, 12, 49⟩ ⟨12, 8, 12, 50⟩ ⟨12, 8, 12, 50⟩ ⟨13, 8, 13, 12⟩ ⟨13, 8, 13, 19⟩ ⟨13, 22, 13, 28⟩ ⟨13, 8, 13, 28⟩
def iA2 : Arguments := Sup.iA ⟨16, 17, 16, 21⟩ ⟨16, 23, 16, 29⟩
def iB2 : List Stmt := Sup.iB "the paper is refused" 0 ⟨17, 8, 17, 13⟩ ⟨17, 8, 17, 15⟩ ⟨17, 8, 17, 24⟩ ⟨17, 25, 17, 47⟩ ⟨17, 8, 17, 48⟩ ⟨17, 8, 17, 48⟩ ⟨18, 8, 18, 12⟩ ⟨18, 8, 18, 19⟩ ⟨18, 22, 18, 28⟩ ⟨18, 8, 18, 28⟩
def iA3 : Arguments := Sup.iA ⟨21, 17, 21, 21⟩ ⟨21, 23, 21, 29⟩
def iB3 : List Stmt := Sup.iB "too many" 0 ⟨22, 8, 22, 13⟩ ⟨22, 8, 22, 15⟩ ⟨22, 8, 22, 24⟩ ⟨22, 25, 22, 35⟩ ⟨22, 8, 22, 36⟩ ⟨22, 8, 22, 36⟩ ⟨23, 8, 23, 12⟩ ⟨23, 8, 23, 19⟩ ⟨23, 22, 23, 28⟩ ⟨23, 8, 23, 28⟩
def four {α : Type} (a b c d : α) (i : Nat) : α := match i with
  | 0 => a
  | 1 => b
  | 2 => c
  | _ => d
theorem four_all {φ : Nat → Prop} (h0 : φ 0) (h1 : φ 1) (h2 : φ 2) (h3 : φ 3) : ∀ i, i < 4 → φ i := fun i h => match i, h with
  | 0, _ => h0
  | 1, _ => h1
  | 2, _ => h2
  | 3, _ => h3
theorem tf_mk {K : PySem.W.Frag} {h : Heap} {mg : Str → Option Value} {p__law_start : Addr} {oc__law_start kV__law_start dc__law_start pm__law_start cd__law_start ct__law_start : Value} {od__law_start an__law_start : Option Addr} {sl__law_start : Array (Option Value)}
  {p__law_draw : Addr} {oc__law_draw kV__law_draw dc__law_draw pm__law_draw cd__law_draw ct__law_draw : Value} {od__law_draw an__law_draw : Option Addr} {sl__law_draw : Array (Option Value)}
  {p__law_pick : Addr} {oc__law_pick kV__law_pick dc__law_pick pm__law_pick cd__law_pick ct__law_pick : Value} {od__law_pick an__law_pick : Option Addr} {sl__law_pick : Array (Option Value)}
  {p_is_integer : Addr} {oc_is_integer kV_is_integer dc_is_integer pm_is_integer cd_is_integer ct_is_integer : Value} {od_is_integer an_is_integer : Option Addr} {sl_is_integer : Array (Option Value)}
  {p_is_between : Addr} {oc_is_between kV_is_between dc_is_between pm_is_between cd_is_between ct_is_between : Value} {od_is_between an_is_between : Option Addr} {sl_is_between : Array (Option Value)}
  {p_check_odds : Addr} {oc_check_odds kV_check_odds dc_check_odds pm_check_odds cd_check_odds ct_check_odds : Value} {od_check_odds an_check_odds : Option Addr} {sl_check_odds : Array (Option Value)}
  {p_least_tries : Addr} {oc_least_tries kV_least_tries dc_least_tries pm_least_tries cd_least_tries ct_least_tries : Value} {od_least_tries an_least_tries : Option Addr} {sl_least_tries : Array (Option Value)}
  {p_check_tries : Addr} {oc_check_tries kV_check_tries dc_check_tries pm_check_tries cd_check_tries ct_check_tries : Value} {od_check_tries an_check_tries : Option Addr} {sl_check_tries : Array (Option Value)}
  {p_chance_within : Addr} {oc_chance_within kV_chance_within dc_chance_within pm_chance_within cd_chance_within ct_chance_within : Value} {od_chance_within an_chance_within : Option Addr} {sl_chance_within : Array (Option Value)}
  {p_chance_at : Addr} {oc_chance_at kV_chance_at dc_chance_at pm_chance_at cd_chance_at ct_chance_at : Value} {od_chance_at an_chance_at : Option Addr} {sl_chance_at : Array (Option Value)}
  {p_mean_tries : Addr} {oc_mean_tries kV_mean_tries dc_mean_tries pm_mean_tries cd_mean_tries ct_mean_tries : Value} {od_mean_tries an_mean_tries : Option Addr} {sl_mean_tries : Array (Option Value)}
  {p_check_rows : Addr} {oc_check_rows kV_check_rows dc_check_rows pm_check_rows cd_check_rows ct_check_rows : Value} {od_check_rows an_check_rows : Option Addr} {sl_check_rows : Array (Option Value)}
  {p_best_shares : Addr} {oc_best_shares kV_best_shares dc_best_shares pm_best_shares cd_best_shares ct_best_shares : Value} {od_best_shares an_best_shares : Option Addr} {sl_best_shares : Array (Option Value)}
  {p_check_rule : Addr} {oc_check_rule kV_check_rule dc_check_rule pm_check_rule cd_check_rule ct_check_rule : Value} {od_check_rule an_check_rule : Option Addr} {sl_check_rule : Array (Option Value)}
  {p_check_long : Addr} {oc_check_long kV_check_long dc_check_long pm_check_long cd_check_long ct_check_long : Value} {od_check_long an_check_long : Option Addr} {sl_check_long : Array (Option Value)}
  {p_waits_of : Addr} {oc_waits_of kV_waits_of dc_waits_of pm_waits_of cd_waits_of ct_waits_of : Value} {od_waits_of an_waits_of : Option Addr} {sl_waits_of : Array (Option Value)}
  {p_begins : Addr} {oc_begins kV_begins dc_begins pm_begins cd_begins ct_begins : Value} {od_begins an_begins : Option Addr} {sl_begins : Array (Option Value)}
  {p_most_tries : Addr} {oc_most_tries kV_most_tries dc_most_tries pm_most_tries cd_most_tries ct_most_tries : Value} {od_most_tries an_most_tries : Option Addr} {sl_most_tries : Array (Option Value)}
  {p_check_shares : Addr} {oc_check_shares kV_check_shares dc_check_shares pm_check_shares cd_check_shares ct_check_shares : Value} {od_check_shares an_check_shares : Option Addr} {sl_check_shares : Array (Option Value)}
  {p_is_less : Addr} {oc_is_less kV_is_less dc_is_less pm_is_less cd_is_less ct_is_less : Value} {od_is_less an_is_less : Option Addr} {sl_is_less : Array (Option Value)}
  {p_power : Addr} {oc_power kV_power dc_power pm_power cd_power ct_power : Value} {od_power an_power : Option Addr} {sl_power : Array (Option Value)}
  {p_chance_of : Addr} {oc_chance_of kV_chance_of dc_chance_of pm_chance_of cd_chance_of ct_chance_of : Value} {od_chance_of an_chance_of : Option Addr} {sl_chance_of : Array (Option Value)}
  {p_product_of : Addr} {oc_product_of kV_product_of dc_product_of pm_product_of cd_product_of ct_product_of : Value} {od_product_of an_product_of : Option Addr} {sl_product_of : Array (Option Value)}
  {p_moved_try : Addr} {oc_moved_try kV_moved_try dc_moved_try pm_moved_try cd_moved_try ct_moved_try : Value} {od_moved_try an_moved_try : Option Addr} {sl_moved_try : Array (Option Value)}
  {p_accept_better : Addr} {oc_accept_better kV_accept_better dc_accept_better pm_accept_better cd_accept_better ct_accept_better : Value} {od_accept_better an_accept_better : Option Addr} {sl_accept_better : Array (Option Value)}
  {p_common_divisor : Addr} {oc_common_divisor kV_common_divisor dc_common_divisor pm_common_divisor cd_common_divisor ct_common_divisor : Value} {od_common_divisor an_common_divisor : Option Addr} {sl_common_divisor : Array (Option Value)}
  {p_quotient : Addr} {oc_quotient kV_quotient dc_quotient pm_quotient cd_quotient ct_quotient : Value} {od_quotient an_quotient : Option Addr} {sl_quotient : Array (Option Value)}
  {p_chance_of_all : Addr} {oc_chance_of_all kV_chance_of_all dc_chance_of_all pm_chance_of_all cd_chance_of_all ct_chance_of_all : Value} {od_chance_of_all an_chance_of_all : Option Addr} {sl_chance_of_all : Array (Option Value)}
  {p_judge_shares : Addr} {oc_judge_shares kV_judge_shares dc_judge_shares pm_judge_shares cd_judge_shares ct_judge_shares : Value} {od_judge_shares an_judge_shares : Option Addr} {sl_judge_shares : Array (Option Value)}
  {p__law_called : Addr} {oc__law_called kV__law_called dc__law_called pm__law_called cd__law_called ct__law_called : Value} {od__law_called an__law_called : Option Addr} {sl__law_called : Array (Option Value)}
  {p__law_word : Addr} {oc__law_word kV__law_word dc__law_word pm__law_word cd__law_word ct__law_word : Value} {od__law_word an__law_word : Option Addr} {sl__law_word : Array (Option Value)}
  {p__law_heard : Addr} {oc__law_heard kV__law_heard dc__law_heard pm__law_heard cd__law_heard ct__law_heard : Value} {od__law_heard an__law_heard : Option Addr} {sl__law_heard : Array (Option Value)}
  {p__law_whole : Addr} {oc__law_whole kV__law_whole dc__law_whole pm__law_whole cd__law_whole ct__law_whole : Value} {od__law_whole an__law_whole : Option Addr} {sl__law_whole : Array (Option Value)}
  {p__law_fails : Addr} {oc__law_fails kV__law_fails dc__law_fails pm__law_fails cd__law_fails ct__law_fails : Value} {od__law_fails an__law_fails : Option Addr} {sl__law_fails : Array (Option Value)}
  {p__law_better_due : Addr} {oc__law_better_due kV__law_better_due dc__law_better_due pm__law_better_due cd__law_better_due ct__law_better_due : Value} {od__law_better_due an__law_better_due : Option Addr} {sl__law_better_due : Array (Option Value)}
  {p_law : Addr} {oc_law kV_law dc_law pm_law cd_law ct_law : Value} {od_law an_law : Option Addr} {sl_law : Array (Option Value)}
  {t_MAX_ODDS : Tok}
  {t_MAX_SIZE : Tok}
  {t_MAX_STEPS : Tok}
  {t_MAX_TRIES : Tok}
  {AW : Addr}
  {C0 I0 N0 cc0 cda0 : Addr} {nm0 qn0 : Str} {bs0 sub0 : List Value} {sn0 : List Str} {ab0 : Bool} {col0 : Option Bool} {dd0 od0 an0 cdd0 cld0 : Option Addr} {x00 x10 x20 x30 x50 : Option Value} {oc0 dc0 pm0 ct0 ccl0 cl0 : Value} {osl0 ccs0 csl0 : Array (Option Value)} {vs0 : Array Value} {tf0 : Tok}
  {C1 I1 N1 cc1 cda1 : Addr} {nm1 qn1 : Str} {bs1 sub1 : List Value} {sn1 : List Str} {ab1 : Bool} {col1 : Option Bool} {dd1 od1 an1 cdd1 cld1 : Option Addr} {x01 x11 x21 x31 x51 : Option Value} {oc1 dc1 pm1 ct1 ccl1 cl1 : Value} {osl1 ccs1 csl1 : Array (Option Value)} {vs1 : Array Value} {tf1 : Tok}
  {C2 I2 N2 cc2 cda2 : Addr} {nm2 qn2 : Str} {bs2 sub2 : List Value} {sn2 : List Str} {ab2 : Bool} {col2 : Option Bool} {dd2 od2 an2 cdd2 cld2 : Option Addr} {x02 x12 x22 x32 x52 : Option Value} {oc2 dc2 pm2 ct2 ccl2 cl2 : Value} {osl2 ccs2 csl2 : Array (Option Value)} {vs2 : Array Value} {tf2 : Tok}
  {C3 I3 N3 cc3 cda3 : Addr} {nm3 qn3 : Str} {bs3 sub3 : List Value} {sn3 : List Str} {ab3 : Bool} {col3 : Option Bool} {dd3 od3 an3 cdd3 cld3 : Option Addr} {x03 x13 x23 x33 x53 : Option Value} {oc3 dc3 pm3 ct3 ccl3 cl3 : Value} {osl3 ccs3 csl3 : Array (Option Value)} {vs3 : Array Value} {tf3 : Tok}
  (X : K.In h) (G : h.Ns mainGlobals mg)
  (a__law_start : PySem.W.nsIn K mainGlobals "_law_start" = some (some (.ref p__law_start)))
  (l__law_start : K.lookup p__law_start = some ⟨oc__law_start, od__law_start, .func (PySem.W.fnOf "_law_start" "_law_start" (defArgs (top 40)) (defBody (top 40)) (defScope (top 40)) .none kV__law_start dc__law_start pm__law_start an__law_start cd__law_start ct__law_start), sl__law_start⟩)
  (c__law_start : PySem.W.codeIn K cd__law_start "_law_start" = true)
  (k__law_start : PySem.W.keepIn K (.ref p__law_start) = true)
  (a__law_draw : PySem.W.nsIn K mainGlobals "_law_draw" = some (some (.ref p__law_draw)))
  (l__law_draw : K.lookup p__law_draw = some ⟨oc__law_draw, od__law_draw, .func (PySem.W.fnOf "_law_draw" "_law_draw" (defArgs (top 41)) (defBody (top 41)) (defScope (top 41)) .none kV__law_draw dc__law_draw pm__law_draw an__law_draw cd__law_draw ct__law_draw), sl__law_draw⟩)
  (c__law_draw : PySem.W.codeIn K cd__law_draw "_law_draw" = true)
  (k__law_draw : PySem.W.keepIn K (.ref p__law_draw) = true)
  (a__law_pick : PySem.W.nsIn K mainGlobals "_law_pick" = some (some (.ref p__law_pick)))
  (l__law_pick : K.lookup p__law_pick = some ⟨oc__law_pick, od__law_pick, .func (PySem.W.fnOf "_law_pick" "_law_pick" (defArgs (top 42)) (defBody (top 42)) (defScope (top 42)) .none kV__law_pick dc__law_pick pm__law_pick an__law_pick cd__law_pick ct__law_pick), sl__law_pick⟩)
  (c__law_pick : PySem.W.codeIn K cd__law_pick "_law_pick" = true)
  (k__law_pick : PySem.W.keepIn K (.ref p__law_pick) = true)
  (a_is_integer : PySem.W.nsIn K mainGlobals "is_integer" = some (some (.ref p_is_integer)))
  (l_is_integer : K.lookup p_is_integer = some ⟨oc_is_integer, od_is_integer, .func (PySem.W.fnOf "is_integer" "is_integer" (defArgs (top 11)) (defBody (top 11)) (defScope (top 11)) .none kV_is_integer dc_is_integer pm_is_integer an_is_integer cd_is_integer ct_is_integer), sl_is_integer⟩)
  (c_is_integer : PySem.W.codeIn K cd_is_integer "is_integer" = true)
  (k_is_integer : PySem.W.keepIn K (.ref p_is_integer) = true)
  (a_is_between : PySem.W.nsIn K mainGlobals "is_between" = some (some (.ref p_is_between)))
  (l_is_between : K.lookup p_is_between = some ⟨oc_is_between, od_is_between, .func (PySem.W.fnOf "is_between" "is_between" (defArgs (top 12)) (defBody (top 12)) (defScope (top 12)) .none kV_is_between dc_is_between pm_is_between an_is_between cd_is_between ct_is_between), sl_is_between⟩)
  (c_is_between : PySem.W.codeIn K cd_is_between "is_between" = true)
  (k_is_between : PySem.W.keepIn K (.ref p_is_between) = true)
  (a_check_odds : PySem.W.nsIn K mainGlobals "check_odds" = some (some (.ref p_check_odds)))
  (l_check_odds : K.lookup p_check_odds = some ⟨oc_check_odds, od_check_odds, .func (PySem.W.fnOf "check_odds" "check_odds" (defArgs (top 16)) (defBody (top 16)) (defScope (top 16)) .none kV_check_odds dc_check_odds pm_check_odds an_check_odds cd_check_odds ct_check_odds), sl_check_odds⟩)
  (c_check_odds : PySem.W.codeIn K cd_check_odds "check_odds" = true)
  (k_check_odds : PySem.W.keepIn K (.ref p_check_odds) = true)
  (a_least_tries : PySem.W.nsIn K mainGlobals "least_tries" = some (some (.ref p_least_tries)))
  (l_least_tries : K.lookup p_least_tries = some ⟨oc_least_tries, od_least_tries, .func (PySem.W.fnOf "least_tries" "least_tries" (defArgs (top 25)) (defBody (top 25)) (defScope (top 25)) .none kV_least_tries dc_least_tries pm_least_tries an_least_tries cd_least_tries ct_least_tries), sl_least_tries⟩)
  (c_least_tries : PySem.W.codeIn K cd_least_tries "least_tries" = true)
  (k_least_tries : PySem.W.keepIn K (.ref p_least_tries) = true)
  (a_check_tries : PySem.W.nsIn K mainGlobals "check_tries" = some (some (.ref p_check_tries)))
  (l_check_tries : K.lookup p_check_tries = some ⟨oc_check_tries, od_check_tries, .func (PySem.W.fnOf "check_tries" "check_tries" (defArgs (top 17)) (defBody (top 17)) (defScope (top 17)) .none kV_check_tries dc_check_tries pm_check_tries an_check_tries cd_check_tries ct_check_tries), sl_check_tries⟩)
  (c_check_tries : PySem.W.codeIn K cd_check_tries "check_tries" = true)
  (k_check_tries : PySem.W.keepIn K (.ref p_check_tries) = true)
  (a_chance_within : PySem.W.nsIn K mainGlobals "chance_within" = some (some (.ref p_chance_within)))
  (l_chance_within : K.lookup p_chance_within = some ⟨oc_chance_within, od_chance_within, .func (PySem.W.fnOf "chance_within" "chance_within" (defArgs (top 21)) (defBody (top 21)) (defScope (top 21)) .none kV_chance_within dc_chance_within pm_chance_within an_chance_within cd_chance_within ct_chance_within), sl_chance_within⟩)
  (c_chance_within : PySem.W.codeIn K cd_chance_within "chance_within" = true)
  (k_chance_within : PySem.W.keepIn K (.ref p_chance_within) = true)
  (a_chance_at : PySem.W.nsIn K mainGlobals "chance_at" = some (some (.ref p_chance_at)))
  (l_chance_at : K.lookup p_chance_at = some ⟨oc_chance_at, od_chance_at, .func (PySem.W.fnOf "chance_at" "chance_at" (defArgs (top 22)) (defBody (top 22)) (defScope (top 22)) .none kV_chance_at dc_chance_at pm_chance_at an_chance_at cd_chance_at ct_chance_at), sl_chance_at⟩)
  (c_chance_at : PySem.W.codeIn K cd_chance_at "chance_at" = true)
  (k_chance_at : PySem.W.keepIn K (.ref p_chance_at) = true)
  (a_mean_tries : PySem.W.nsIn K mainGlobals "mean_tries" = some (some (.ref p_mean_tries)))
  (l_mean_tries : K.lookup p_mean_tries = some ⟨oc_mean_tries, od_mean_tries, .func (PySem.W.fnOf "mean_tries" "mean_tries" (defArgs (top 23)) (defBody (top 23)) (defScope (top 23)) .none kV_mean_tries dc_mean_tries pm_mean_tries an_mean_tries cd_mean_tries ct_mean_tries), sl_mean_tries⟩)
  (c_mean_tries : PySem.W.codeIn K cd_mean_tries "mean_tries" = true)
  (k_mean_tries : PySem.W.keepIn K (.ref p_mean_tries) = true)
  (a_check_rows : PySem.W.nsIn K mainGlobals "check_rows" = some (some (.ref p_check_rows)))
  (l_check_rows : K.lookup p_check_rows = some ⟨oc_check_rows, od_check_rows, .func (PySem.W.fnOf "check_rows" "check_rows" (defArgs (top 31)) (defBody (top 31)) (defScope (top 31)) .none kV_check_rows dc_check_rows pm_check_rows an_check_rows cd_check_rows ct_check_rows), sl_check_rows⟩)
  (c_check_rows : PySem.W.codeIn K cd_check_rows "check_rows" = true)
  (k_check_rows : PySem.W.keepIn K (.ref p_check_rows) = true)
  (a_best_shares : PySem.W.nsIn K mainGlobals "best_shares" = some (some (.ref p_best_shares)))
  (l_best_shares : K.lookup p_best_shares = some ⟨oc_best_shares, od_best_shares, .func (PySem.W.fnOf "best_shares" "best_shares" (defArgs (top 35)) (defBody (top 35)) (defScope (top 35)) .none kV_best_shares dc_best_shares pm_best_shares an_best_shares cd_best_shares ct_best_shares), sl_best_shares⟩)
  (c_best_shares : PySem.W.codeIn K cd_best_shares "best_shares" = true)
  (k_best_shares : PySem.W.keepIn K (.ref p_best_shares) = true)
  (a_check_rule : PySem.W.nsIn K mainGlobals "check_rule" = some (some (.ref p_check_rule)))
  (l_check_rule : K.lookup p_check_rule = some ⟨oc_check_rule, od_check_rule, .func (PySem.W.fnOf "check_rule" "check_rule" (defArgs (top 26)) (defBody (top 26)) (defScope (top 26)) .none kV_check_rule dc_check_rule pm_check_rule an_check_rule cd_check_rule ct_check_rule), sl_check_rule⟩)
  (c_check_rule : PySem.W.codeIn K cd_check_rule "check_rule" = true)
  (k_check_rule : PySem.W.keepIn K (.ref p_check_rule) = true)
  (a_check_long : PySem.W.nsIn K mainGlobals "check_long" = some (some (.ref p_check_long)))
  (l_check_long : K.lookup p_check_long = some ⟨oc_check_long, od_check_long, .func (PySem.W.fnOf "check_long" "check_long" (defArgs (top 27)) (defBody (top 27)) (defScope (top 27)) .none kV_check_long dc_check_long pm_check_long an_check_long cd_check_long ct_check_long), sl_check_long⟩)
  (c_check_long : PySem.W.codeIn K cd_check_long "check_long" = true)
  (k_check_long : PySem.W.keepIn K (.ref p_check_long) = true)
  (a_waits_of : PySem.W.nsIn K mainGlobals "waits_of" = some (some (.ref p_waits_of)))
  (l_waits_of : K.lookup p_waits_of = some ⟨oc_waits_of, od_waits_of, .func (PySem.W.fnOf "waits_of" "waits_of" (defArgs (top 28)) (defBody (top 28)) (defScope (top 28)) .none kV_waits_of dc_waits_of pm_waits_of an_waits_of cd_waits_of ct_waits_of), sl_waits_of⟩)
  (c_waits_of : PySem.W.codeIn K cd_waits_of "waits_of" = true)
  (k_waits_of : PySem.W.keepIn K (.ref p_waits_of) = true)
  (a_begins : PySem.W.nsIn K mainGlobals "begins" = some (some (.ref p_begins)))
  (l_begins : K.lookup p_begins = some ⟨oc_begins, od_begins, .func (PySem.W.fnOf "begins" "begins" (defArgs (top 29)) (defBody (top 29)) (defScope (top 29)) .none kV_begins dc_begins pm_begins an_begins cd_begins ct_begins), sl_begins⟩)
  (c_begins : PySem.W.codeIn K cd_begins "begins" = true)
  (k_begins : PySem.W.keepIn K (.ref p_begins) = true)
  (a_most_tries : PySem.W.nsIn K mainGlobals "most_tries" = some (some (.ref p_most_tries)))
  (l_most_tries : K.lookup p_most_tries = some ⟨oc_most_tries, od_most_tries, .func (PySem.W.fnOf "most_tries" "most_tries" (defArgs (top 30)) (defBody (top 30)) (defScope (top 30)) .none kV_most_tries dc_most_tries pm_most_tries an_most_tries cd_most_tries ct_most_tries), sl_most_tries⟩)
  (c_most_tries : PySem.W.codeIn K cd_most_tries "most_tries" = true)
  (k_most_tries : PySem.W.keepIn K (.ref p_most_tries) = true)
  (a_check_shares : PySem.W.nsIn K mainGlobals "check_shares" = some (some (.ref p_check_shares)))
  (l_check_shares : K.lookup p_check_shares = some ⟨oc_check_shares, od_check_shares, .func (PySem.W.fnOf "check_shares" "check_shares" (defArgs (top 32)) (defBody (top 32)) (defScope (top 32)) .none kV_check_shares dc_check_shares pm_check_shares an_check_shares cd_check_shares ct_check_shares), sl_check_shares⟩)
  (c_check_shares : PySem.W.codeIn K cd_check_shares "check_shares" = true)
  (k_check_shares : PySem.W.keepIn K (.ref p_check_shares) = true)
  (a_is_less : PySem.W.nsIn K mainGlobals "is_less" = some (some (.ref p_is_less)))
  (l_is_less : K.lookup p_is_less = some ⟨oc_is_less, od_is_less, .func (PySem.W.fnOf "is_less" "is_less" (defArgs (top 24)) (defBody (top 24)) (defScope (top 24)) .none kV_is_less dc_is_less pm_is_less an_is_less cd_is_less ct_is_less), sl_is_less⟩)
  (c_is_less : PySem.W.codeIn K cd_is_less "is_less" = true)
  (k_is_less : PySem.W.keepIn K (.ref p_is_less) = true)
  (a_power : PySem.W.nsIn K mainGlobals "power" = some (some (.ref p_power)))
  (l_power : K.lookup p_power = some ⟨oc_power, od_power, .func (PySem.W.fnOf "power" "power" (defArgs (top 19)) (defBody (top 19)) (defScope (top 19)) .none kV_power dc_power pm_power an_power cd_power ct_power), sl_power⟩)
  (c_power : PySem.W.codeIn K cd_power "power" = true)
  (k_power : PySem.W.keepIn K (.ref p_power) = true)
  (a_chance_of : PySem.W.nsIn K mainGlobals "chance_of" = some (some (.ref p_chance_of)))
  (l_chance_of : K.lookup p_chance_of = some ⟨oc_chance_of, od_chance_of, .func (PySem.W.fnOf "chance_of" "chance_of" (defArgs (top 20)) (defBody (top 20)) (defScope (top 20)) .none kV_chance_of dc_chance_of pm_chance_of an_chance_of cd_chance_of ct_chance_of), sl_chance_of⟩)
  (c_chance_of : PySem.W.codeIn K cd_chance_of "chance_of" = true)
  (k_chance_of : PySem.W.keepIn K (.ref p_chance_of) = true)
  (a_product_of : PySem.W.nsIn K mainGlobals "product_of" = some (some (.ref p_product_of)))
  (l_product_of : K.lookup p_product_of = some ⟨oc_product_of, od_product_of, .func (PySem.W.fnOf "product_of" "product_of" (defArgs (top 33)) (defBody (top 33)) (defScope (top 33)) .none kV_product_of dc_product_of pm_product_of an_product_of cd_product_of ct_product_of), sl_product_of⟩)
  (c_product_of : PySem.W.codeIn K cd_product_of "product_of" = true)
  (k_product_of : PySem.W.keepIn K (.ref p_product_of) = true)
  (a_moved_try : PySem.W.nsIn K mainGlobals "moved_try" = some (some (.ref p_moved_try)))
  (l_moved_try : K.lookup p_moved_try = some ⟨oc_moved_try, od_moved_try, .func (PySem.W.fnOf "moved_try" "moved_try" (defArgs (top 36)) (defBody (top 36)) (defScope (top 36)) .none kV_moved_try dc_moved_try pm_moved_try an_moved_try cd_moved_try ct_moved_try), sl_moved_try⟩)
  (c_moved_try : PySem.W.codeIn K cd_moved_try "moved_try" = true)
  (k_moved_try : PySem.W.keepIn K (.ref p_moved_try) = true)
  (a_accept_better : PySem.W.nsIn K mainGlobals "accept_better" = some (some (.ref p_accept_better)))
  (l_accept_better : K.lookup p_accept_better = some ⟨oc_accept_better, od_accept_better, .func (PySem.W.fnOf "accept_better" "accept_better" (defArgs (top 38)) (defBody (top 38)) (defScope (top 38)) .none kV_accept_better dc_accept_better pm_accept_better an_accept_better cd_accept_better ct_accept_better), sl_accept_better⟩)
  (c_accept_better : PySem.W.codeIn K cd_accept_better "accept_better" = true)
  (k_accept_better : PySem.W.keepIn K (.ref p_accept_better) = true)
  (a_common_divisor : PySem.W.nsIn K mainGlobals "common_divisor" = some (some (.ref p_common_divisor)))
  (l_common_divisor : K.lookup p_common_divisor = some ⟨oc_common_divisor, od_common_divisor, .func (PySem.W.fnOf "common_divisor" "common_divisor" (defArgs (top 14)) (defBody (top 14)) (defScope (top 14)) .none kV_common_divisor dc_common_divisor pm_common_divisor an_common_divisor cd_common_divisor ct_common_divisor), sl_common_divisor⟩)
  (c_common_divisor : PySem.W.codeIn K cd_common_divisor "common_divisor" = true)
  (k_common_divisor : PySem.W.keepIn K (.ref p_common_divisor) = true)
  (a_quotient : PySem.W.nsIn K mainGlobals "quotient" = some (some (.ref p_quotient)))
  (l_quotient : K.lookup p_quotient = some ⟨oc_quotient, od_quotient, .func (PySem.W.fnOf "quotient" "quotient" (defArgs (top 18)) (defBody (top 18)) (defScope (top 18)) .none kV_quotient dc_quotient pm_quotient an_quotient cd_quotient ct_quotient), sl_quotient⟩)
  (c_quotient : PySem.W.codeIn K cd_quotient "quotient" = true)
  (k_quotient : PySem.W.keepIn K (.ref p_quotient) = true)
  (a_chance_of_all : PySem.W.nsIn K mainGlobals "chance_of_all" = some (some (.ref p_chance_of_all)))
  (l_chance_of_all : K.lookup p_chance_of_all = some ⟨oc_chance_of_all, od_chance_of_all, .func (PySem.W.fnOf "chance_of_all" "chance_of_all" (defArgs (top 34)) (defBody (top 34)) (defScope (top 34)) .none kV_chance_of_all dc_chance_of_all pm_chance_of_all an_chance_of_all cd_chance_of_all ct_chance_of_all), sl_chance_of_all⟩)
  (c_chance_of_all : PySem.W.codeIn K cd_chance_of_all "chance_of_all" = true)
  (k_chance_of_all : PySem.W.keepIn K (.ref p_chance_of_all) = true)
  (a_judge_shares : PySem.W.nsIn K mainGlobals "judge_shares" = some (some (.ref p_judge_shares)))
  (l_judge_shares : K.lookup p_judge_shares = some ⟨oc_judge_shares, od_judge_shares, .func (PySem.W.fnOf "judge_shares" "judge_shares" (defArgs (top 37)) (defBody (top 37)) (defScope (top 37)) .none kV_judge_shares dc_judge_shares pm_judge_shares an_judge_shares cd_judge_shares ct_judge_shares), sl_judge_shares⟩)
  (c_judge_shares : PySem.W.codeIn K cd_judge_shares "judge_shares" = true)
  (k_judge_shares : PySem.W.keepIn K (.ref p_judge_shares) = true)
  (a__law_called : PySem.W.nsIn K mainGlobals "_law_called" = some (some (.ref p__law_called)))
  (l__law_called : K.lookup p__law_called = some ⟨oc__law_called, od__law_called, .func (PySem.W.fnOf "_law_called" "_law_called" (defArgs (top 44)) (defBody (top 44)) (defScope (top 44)) .none kV__law_called dc__law_called pm__law_called an__law_called cd__law_called ct__law_called), sl__law_called⟩)
  (c__law_called : PySem.W.codeIn K cd__law_called "_law_called" = true)
  (k__law_called : PySem.W.keepIn K (.ref p__law_called) = true)
  (a__law_word : PySem.W.nsIn K mainGlobals "_law_word" = some (some (.ref p__law_word)))
  (l__law_word : K.lookup p__law_word = some ⟨oc__law_word, od__law_word, .func (PySem.W.fnOf "_law_word" "_law_word" (defArgs (top 43)) (defBody (top 43)) (defScope (top 43)) .none kV__law_word dc__law_word pm__law_word an__law_word cd__law_word ct__law_word), sl__law_word⟩)
  (c__law_word : PySem.W.codeIn K cd__law_word "_law_word" = true)
  (k__law_word : PySem.W.keepIn K (.ref p__law_word) = true)
  (a__law_heard : PySem.W.nsIn K mainGlobals "_law_heard" = some (some (.ref p__law_heard)))
  (l__law_heard : K.lookup p__law_heard = some ⟨oc__law_heard, od__law_heard, .func (PySem.W.fnOf "_law_heard" "_law_heard" (defArgs (top 45)) (defBody (top 45)) (defScope (top 45)) .none kV__law_heard dc__law_heard pm__law_heard an__law_heard cd__law_heard ct__law_heard), sl__law_heard⟩)
  (c__law_heard : PySem.W.codeIn K cd__law_heard "_law_heard" = true)
  (k__law_heard : PySem.W.keepIn K (.ref p__law_heard) = true)
  (a__law_whole : PySem.W.nsIn K mainGlobals "_law_whole" = some (some (.ref p__law_whole)))
  (l__law_whole : K.lookup p__law_whole = some ⟨oc__law_whole, od__law_whole, .func (PySem.W.fnOf "_law_whole" "_law_whole" (defArgs (top 46)) (defBody (top 46)) (defScope (top 46)) .none kV__law_whole dc__law_whole pm__law_whole an__law_whole cd__law_whole ct__law_whole), sl__law_whole⟩)
  (c__law_whole : PySem.W.codeIn K cd__law_whole "_law_whole" = true)
  (k__law_whole : PySem.W.keepIn K (.ref p__law_whole) = true)
  (a__law_fails : PySem.W.nsIn K mainGlobals "_law_fails" = some (some (.ref p__law_fails)))
  (l__law_fails : K.lookup p__law_fails = some ⟨oc__law_fails, od__law_fails, .func (PySem.W.fnOf "_law_fails" "_law_fails" (defArgs (top 47)) (defBody (top 47)) (defScope (top 47)) .none kV__law_fails dc__law_fails pm__law_fails an__law_fails cd__law_fails ct__law_fails), sl__law_fails⟩)
  (c__law_fails : PySem.W.codeIn K cd__law_fails "_law_fails" = true)
  (k__law_fails : PySem.W.keepIn K (.ref p__law_fails) = true)
  (a__law_better_due : PySem.W.nsIn K mainGlobals "_law_better_due" = some (some (.ref p__law_better_due)))
  (l__law_better_due : K.lookup p__law_better_due = some ⟨oc__law_better_due, od__law_better_due, .func (PySem.W.fnOf "_law_better_due" "_law_better_due" (defArgs (top 48)) (defBody (top 48)) (defScope (top 48)) .none kV__law_better_due dc__law_better_due pm__law_better_due an__law_better_due cd__law_better_due ct__law_better_due), sl__law_better_due⟩)
  (c__law_better_due : PySem.W.codeIn K cd__law_better_due "_law_better_due" = true)
  (k__law_better_due : PySem.W.keepIn K (.ref p__law_better_due) = true)
  (a_law : PySem.W.nsIn K mainGlobals "law" = some (some (.ref p_law)))
  (l_law : K.lookup p_law = some ⟨oc_law, od_law, .func (PySem.W.fnOf "law" "law" (defArgs (top 49)) (defBody (top 49)) (defScope (top 49)) .none kV_law dc_law pm_law an_law cd_law ct_law), sl_law⟩)
  (c_law : PySem.W.codeIn K cd_law "law" = true)
  (k_law : PySem.W.keepIn K (.ref p_law) = true)
  (n_MAX_ODDS : PySem.W.nsIn K mainGlobals "MAX_ODDS" = some (some (.int 1000 t_MAX_ODDS)))
  (n_MAX_SIZE : PySem.W.nsIn K mainGlobals "MAX_SIZE" = some (some (.int 1000000000000 t_MAX_SIZE)))
  (n_MAX_STEPS : PySem.W.nsIn K mainGlobals "MAX_STEPS" = some (some (.int 20 t_MAX_STEPS)))
  (n_MAX_TRIES : PySem.W.nsIn K mainGlobals "MAX_TRIES" = some (some (.int 60 t_MAX_TRIES)))
  (b_ValueError : PySem.W.nsIn K mainGlobals "ValueError" = some none)
  (b_abs : PySem.W.nsIn K mainGlobals "abs" = some none)
  (b_all : PySem.W.nsIn K mainGlobals "all" = some none)
  (b_bool : PySem.W.nsIn K mainGlobals "bool" = some none)
  (b_enumerate : PySem.W.nsIn K mainGlobals "enumerate" = some none)
  (b_int : PySem.W.nsIn K mainGlobals "int" = some none)
  (b_isinstance : PySem.W.nsIn K mainGlobals "isinstance" = some none)
  (b_len : PySem.W.nsIn K mainGlobals "len" = some none)
  (b_list : PySem.W.nsIn K mainGlobals "list" = some none)
  (b_min : PySem.W.nsIn K mainGlobals "min" = some none)
  (b_range : PySem.W.nsIn K mainGlobals "range" = some none)
  (b_sum : PySem.W.nsIn K mainGlobals "sum" = some none)
  (b_super : PySem.W.nsIn K mainGlobals "super" = some none)
  (b_tuple : PySem.W.nsIn K mainGlobals "tuple" = some none)
  (b_zip : PySem.W.nsIn K mainGlobals "zip" = some none)
  (aW : PySem.W.nsIn K mainGlobals "WorkError" = some (some (.ref AW)))
  (hst : PySem.W.nsIn K cStatics "thirdparty.any" = some none)
  (e_n : PySem.W.specialIn K (.builtin "object.__class__") "__get__" = some (some (.builtin "getset_descriptor.__get__")))
  (e_t : PySem.W.takesIn K (.builtin "object.__class__") = some true)
  (aC0 : PySem.W.nsIn K mainGlobals "FlowError" = some (some (.ref C0)))
  (xL0 : K.lookup C0 = some (excClassObj nm0 qn0 C0 N0 bs0 [.ref AW, .type "ValueError", .type "Exception", .type "BaseException", .type "object"] true sn0 sub0 ab0 col0 dd0 x00 x10 x20 x30 x50 "ValueError.__new__"))
  (sa0 : PySem.W.findIn K (.ref C0) "__setattr__" = some (some (.builtin "object.__setattr__")))
  (nr0 : PySem.W.findIn K (.ref C0) "reason" = some none)
  (iC0 : PySem.W.findIn K (.ref C0) "__init__" = some (some (.ref I0)))
  (tI0 : PySem.W.typeIn K (.ref I0) = some (.type "function"))
  (kC0 : PySem.W.keepIn K (.ref C0) = true)
  (eC0 : PySem.W.subIn K (.ref C0) (.type "BaseException") = some true)
  (tC0 : PySem.W.typeIn K (.ref C0) = some (.type "type"))
  (ms0 : PySem.W.mroIn K C0 (.ref C0) = some true)
  (mv0 : PySem.W.mroIn K C0 (.type "ValueError") = some true)
  (si0 : PySem.W.ks_superIn K C0 C0 "__init__" = some (some (.builtin "ValueError.__init__")))
  (lI0 : K.lookup I0 = some ⟨oc0, od0, .func (PySem.W.ksFn "__init__" "FlowError.__init__" iA0 iB0 Sup.iS .none .none dc0 pm0 an0 (.ref cda0) ct0 cc0), osl0⟩)
  (cI0 : PySem.W.codeIn K (.ref cda0) "FlowError.__init__" = true)
  (lD0 : K.lookup cda0 = some ⟨ccl0, cdd0, .fields vs0, ccs0⟩)
  (fD0 : vs0[2]? = some (.str PP.main.file tf0))
  (lK0 : K.lookup cc0 = some ⟨cl0, cld0, .cell (some (.ref C0)), csl0⟩)
  (ga0 : PySem.W.findIn K (.ref C0) "__getattribute__" = some (some (.builtin "BaseException.__getattribute__")))
  (gt0 : PySem.W.findIn K (.ref C0) "__getattr__" = some none)
  (hd0 : PySem.W.hasDictIn K C0 = true)
  (hc0 : PySem.W.findIn K (.ref C0) "__class__" = some (some (.builtin "object.__class__")))
  (hm0 : PySem.W.mroIn K C0 (.type "object") = some true)
  (iv0 : PySem.W.kitOne K (.ref C0) (.type "ValueError") = some true)
  (hx0 : PySem.W.exmOne K (.ref C0) (.ref AW) = some true)
  (aC1 : PySem.W.nsIn K mainGlobals "ArgumentError" = some (some (.ref C1)))
  (xL1 : K.lookup C1 = some (excClassObj nm1 qn1 C1 N1 bs1 [.ref AW, .type "ValueError", .type "Exception", .type "BaseException", .type "object"] true sn1 sub1 ab1 col1 dd1 x01 x11 x21 x31 x51 "ValueError.__new__"))
  (sa1 : PySem.W.findIn K (.ref C1) "__setattr__" = some (some (.builtin "object.__setattr__")))
  (nr1 : PySem.W.findIn K (.ref C1) "reason" = some none)
  (iC1 : PySem.W.findIn K (.ref C1) "__init__" = some (some (.ref I1)))
  (tI1 : PySem.W.typeIn K (.ref I1) = some (.type "function"))
  (kC1 : PySem.W.keepIn K (.ref C1) = true)
  (eC1 : PySem.W.subIn K (.ref C1) (.type "BaseException") = some true)
  (tC1 : PySem.W.typeIn K (.ref C1) = some (.type "type"))
  (ms1 : PySem.W.mroIn K C1 (.ref C1) = some true)
  (mv1 : PySem.W.mroIn K C1 (.type "ValueError") = some true)
  (si1 : PySem.W.ks_superIn K C1 C1 "__init__" = some (some (.builtin "ValueError.__init__")))
  (lI1 : K.lookup I1 = some ⟨oc1, od1, .func (PySem.W.ksFn "__init__" "ArgumentError.__init__" iA1 iB1 Sup.iS .none .none dc1 pm1 an1 (.ref cda1) ct1 cc1), osl1⟩)
  (cI1 : PySem.W.codeIn K (.ref cda1) "ArgumentError.__init__" = true)
  (lD1 : K.lookup cda1 = some ⟨ccl1, cdd1, .fields vs1, ccs1⟩)
  (fD1 : vs1[2]? = some (.str PP.main.file tf1))
  (lK1 : K.lookup cc1 = some ⟨cl1, cld1, .cell (some (.ref C1)), csl1⟩)
  (ga1 : PySem.W.findIn K (.ref C1) "__getattribute__" = some (some (.builtin "BaseException.__getattribute__")))
  (gt1 : PySem.W.findIn K (.ref C1) "__getattr__" = some none)
  (hd1 : PySem.W.hasDictIn K C1 = true)
  (hc1 : PySem.W.findIn K (.ref C1) "__class__" = some (some (.builtin "object.__class__")))
  (hm1 : PySem.W.mroIn K C1 (.type "object") = some true)
  (iv1 : PySem.W.kitOne K (.ref C1) (.type "ValueError") = some true)
  (hx1 : PySem.W.exmOne K (.ref C1) (.ref AW) = some true)
  (aC2 : PySem.W.nsIn K mainGlobals "PaperError" = some (some (.ref C2)))
  (xL2 : K.lookup C2 = some (excClassObj nm2 qn2 C2 N2 bs2 [.ref AW, .type "ValueError", .type "Exception", .type "BaseException", .type "object"] true sn2 sub2 ab2 col2 dd2 x02 x12 x22 x32 x52 "ValueError.__new__"))
  (sa2 : PySem.W.findIn K (.ref C2) "__setattr__" = some (some (.builtin "object.__setattr__")))
  (nr2 : PySem.W.findIn K (.ref C2) "reason" = some none)
  (iC2 : PySem.W.findIn K (.ref C2) "__init__" = some (some (.ref I2)))
  (tI2 : PySem.W.typeIn K (.ref I2) = some (.type "function"))
  (kC2 : PySem.W.keepIn K (.ref C2) = true)
  (eC2 : PySem.W.subIn K (.ref C2) (.type "BaseException") = some true)
  (tC2 : PySem.W.typeIn K (.ref C2) = some (.type "type"))
  (ms2 : PySem.W.mroIn K C2 (.ref C2) = some true)
  (mv2 : PySem.W.mroIn K C2 (.type "ValueError") = some true)
  (si2 : PySem.W.ks_superIn K C2 C2 "__init__" = some (some (.builtin "ValueError.__init__")))
  (lI2 : K.lookup I2 = some ⟨oc2, od2, .func (PySem.W.ksFn "__init__" "PaperError.__init__" iA2 iB2 Sup.iS .none .none dc2 pm2 an2 (.ref cda2) ct2 cc2), osl2⟩)
  (cI2 : PySem.W.codeIn K (.ref cda2) "PaperError.__init__" = true)
  (lD2 : K.lookup cda2 = some ⟨ccl2, cdd2, .fields vs2, ccs2⟩)
  (fD2 : vs2[2]? = some (.str PP.main.file tf2))
  (lK2 : K.lookup cc2 = some ⟨cl2, cld2, .cell (some (.ref C2)), csl2⟩)
  (ga2 : PySem.W.findIn K (.ref C2) "__getattribute__" = some (some (.builtin "BaseException.__getattribute__")))
  (gt2 : PySem.W.findIn K (.ref C2) "__getattr__" = some none)
  (hd2 : PySem.W.hasDictIn K C2 = true)
  (hc2 : PySem.W.findIn K (.ref C2) "__class__" = some (some (.builtin "object.__class__")))
  (hm2 : PySem.W.mroIn K C2 (.type "object") = some true)
  (iv2 : PySem.W.kitOne K (.ref C2) (.type "ValueError") = some true)
  (hx2 : PySem.W.exmOne K (.ref C2) (.ref AW) = some true)
  (aC3 : PySem.W.nsIn K mainGlobals "TooMany" = some (some (.ref C3)))
  (xL3 : K.lookup C3 = some (excClassObj nm3 qn3 C3 N3 bs3 [.ref AW, .type "ValueError", .type "Exception", .type "BaseException", .type "object"] true sn3 sub3 ab3 col3 dd3 x03 x13 x23 x33 x53 "ValueError.__new__"))
  (sa3 : PySem.W.findIn K (.ref C3) "__setattr__" = some (some (.builtin "object.__setattr__")))
  (nr3 : PySem.W.findIn K (.ref C3) "reason" = some none)
  (iC3 : PySem.W.findIn K (.ref C3) "__init__" = some (some (.ref I3)))
  (tI3 : PySem.W.typeIn K (.ref I3) = some (.type "function"))
  (kC3 : PySem.W.keepIn K (.ref C3) = true)
  (eC3 : PySem.W.subIn K (.ref C3) (.type "BaseException") = some true)
  (tC3 : PySem.W.typeIn K (.ref C3) = some (.type "type"))
  (ms3 : PySem.W.mroIn K C3 (.ref C3) = some true)
  (mv3 : PySem.W.mroIn K C3 (.type "ValueError") = some true)
  (si3 : PySem.W.ks_superIn K C3 C3 "__init__" = some (some (.builtin "ValueError.__init__")))
  (lI3 : K.lookup I3 = some ⟨oc3, od3, .func (PySem.W.ksFn "__init__" "TooMany.__init__" iA3 iB3 Sup.iS .none .none dc3 pm3 an3 (.ref cda3) ct3 cc3), osl3⟩)
  (cI3 : PySem.W.codeIn K (.ref cda3) "TooMany.__init__" = true)
  (lD3 : K.lookup cda3 = some ⟨ccl3, cdd3, .fields vs3, ccs3⟩)
  (fD3 : vs3[2]? = some (.str PP.main.file tf3))
  (lK3 : K.lookup cc3 = some ⟨cl3, cld3, .cell (some (.ref C3)), csl3⟩)
  (ga3 : PySem.W.findIn K (.ref C3) "__getattribute__" = some (some (.builtin "BaseException.__getattribute__")))
  (gt3 : PySem.W.findIn K (.ref C3) "__getattr__" = some none)
  (hd3 : PySem.W.hasDictIn K C3 = true)
  (hc3 : PySem.W.findIn K (.ref C3) "__class__" = some (some (.builtin "object.__class__")))
  (hm3 : PySem.W.mroIn K C3 (.type "object") = some true)
  (iv3 : PySem.W.kitOne K (.ref C3) (.type "ValueError") = some true)
  (hx3 : PySem.W.exmOne K (.ref C3) (.ref AW) = some true)
  (is00 : PySem.W.kitOne K (.ref C0) (.ref C0) = some true)
  (xm00 : PySem.W.exmOne K (.ref C0) (.ref C0) = some true)
  (is01 : PySem.W.kitOne K (.ref C0) (.ref C1) = some false)
  (xm01 : PySem.W.exmOne K (.ref C0) (.ref C1) = some false)
  (is02 : PySem.W.kitOne K (.ref C0) (.ref C2) = some false)
  (xm02 : PySem.W.exmOne K (.ref C0) (.ref C2) = some false)
  (is03 : PySem.W.kitOne K (.ref C0) (.ref C3) = some false)
  (xm03 : PySem.W.exmOne K (.ref C0) (.ref C3) = some false)
  (is10 : PySem.W.kitOne K (.ref C1) (.ref C0) = some false)
  (xm10 : PySem.W.exmOne K (.ref C1) (.ref C0) = some false)
  (is11 : PySem.W.kitOne K (.ref C1) (.ref C1) = some true)
  (xm11 : PySem.W.exmOne K (.ref C1) (.ref C1) = some true)
  (is12 : PySem.W.kitOne K (.ref C1) (.ref C2) = some false)
  (xm12 : PySem.W.exmOne K (.ref C1) (.ref C2) = some false)
  (is13 : PySem.W.kitOne K (.ref C1) (.ref C3) = some false)
  (xm13 : PySem.W.exmOne K (.ref C1) (.ref C3) = some false)
  (is20 : PySem.W.kitOne K (.ref C2) (.ref C0) = some false)
  (xm20 : PySem.W.exmOne K (.ref C2) (.ref C0) = some false)
  (is21 : PySem.W.kitOne K (.ref C2) (.ref C1) = some false)
  (xm21 : PySem.W.exmOne K (.ref C2) (.ref C1) = some false)
  (is22 : PySem.W.kitOne K (.ref C2) (.ref C2) = some true)
  (xm22 : PySem.W.exmOne K (.ref C2) (.ref C2) = some true)
  (is23 : PySem.W.kitOne K (.ref C2) (.ref C3) = some false)
  (xm23 : PySem.W.exmOne K (.ref C2) (.ref C3) = some false)
  (is30 : PySem.W.kitOne K (.ref C3) (.ref C0) = some false)
  (xm30 : PySem.W.exmOne K (.ref C3) (.ref C0) = some false)
  (is31 : PySem.W.kitOne K (.ref C3) (.ref C1) = some false)
  (xm31 : PySem.W.exmOne K (.ref C3) (.ref C1) = some false)
  (is32 : PySem.W.kitOne K (.ref C3) (.ref C2) = some false)
  (xm32 : PySem.W.exmOne K (.ref C3) (.ref C2) = some false)
  (is33 : PySem.W.kitOne K (.ref C3) (.ref C3) = some true)
  (xm33 : PySem.W.exmOne K (.ref C3) (.ref C3) = some true) :
  ∃ (g : Ce) (Ca Ci : Nat → Addr) (AW : Addr), TF K mg g Ca Ci AW := by
  refine ⟨⟨fun i => match i with | 0 => some p_least_tries | 1 => some p_chance_within | 2 => some p_chance_at | 3 => some p_mean_tries | 4 => some p_best_shares | 5 => some p_begins | 6 => some p_most_tries | 7 => some p_accept_better | 8 => some p_chance_of_all | 9 => some p_judge_shares | _ => none, fun i => match i with | 0 => some C0 | 1 => some C1 | 2 => some C2 | 3 => some C3 | _ => none, fun _ => "reason"⟩, four C0 C1 C2 C3, four I0 I1 I2 I3, AW, ?_⟩
  have mk : ∀ {x : Str} {v : Value}, PySem.W.nsIn K mainGlobals x = some (some v) → mg x = some v := fun e => PySem.W.mg_of X G e
  have mn : ∀ {x : Str}, PySem.W.nsIn K mainGlobals x = some none → mg x = none := fun e => PySem.W.mg_none_of X G e
  have F__law_start : FunAt K mg "_law_start" (top 40) ["script"] := by
    have F := fun_mk (st := top 40) l__law_start c__law_start k__law_start
    exact ⟨_, _, mk a__law_start, F, k__law_start, F.binds (ps := ["script"]) fun _ _ _ _ _ _ us hl => match us, hl with | [_], _ => rfl⟩
  have F__law_draw : FunAt K mg "_law_draw" (top 41) ["state", "many"] := by
    have F := fun_mk (st := top 41) l__law_draw c__law_draw k__law_draw
    exact ⟨_, _, mk a__law_draw, F, k__law_draw, F.binds (ps := ["state", "many"]) fun _ _ _ _ _ _ us hl => match us, hl with | [_, _], _ => rfl⟩
  have F__law_pick : FunAt K mg "_law_pick" (top 42) ["state", "some"] := by
    have F := fun_mk (st := top 42) l__law_pick c__law_pick k__law_pick
    exact ⟨_, _, mk a__law_pick, F, k__law_pick, F.binds (ps := ["state", "some"]) fun _ _ _ _ _ _ us hl => match us, hl with | [_, _], _ => rfl⟩
  have F_is_integer : FunAt K mg "is_integer" (top 11) ["value"] := by
    have F := fun_mk (st := top 11) l_is_integer c_is_integer k_is_integer
    exact ⟨_, _, mk a_is_integer, F, k_is_integer, F.binds (ps := ["value"]) fun _ _ _ _ _ _ us hl => match us, hl with | [_], _ => rfl⟩
  have F_is_between : FunAt K mg "is_between" (top 12) ["value", "low", "high"] := by
    have F := fun_mk (st := top 12) l_is_between c_is_between k_is_between
    exact ⟨_, _, mk a_is_between, F, k_is_between, F.binds (ps := ["value", "low", "high"]) fun _ _ _ _ _ _ us hl => match us, hl with | [_, _, _], _ => rfl⟩
  have F_check_odds : FunAt K mg "check_odds" (top 16) ["odds", "reason"] := by
    have F := fun_mk (st := top 16) l_check_odds c_check_odds k_check_odds
    exact ⟨_, _, mk a_check_odds, F, k_check_odds, F.binds (ps := ["odds", "reason"]) fun _ _ _ _ _ _ us hl => match us, hl with | [_, _], _ => rfl⟩
  have F_least_tries : FunAt K mg "least_tries" (top 25) ["odds", "goal"] := by
    have F := fun_mk (st := top 25) l_least_tries c_least_tries k_least_tries
    exact ⟨_, _, mk a_least_tries, F, k_least_tries, F.binds (ps := ["odds", "goal"]) fun _ _ _ _ _ _ us hl => match us, hl with | [_, _], _ => rfl⟩
  have F_check_tries : FunAt K mg "check_tries" (top 17) ["tries"] := by
    have F := fun_mk (st := top 17) l_check_tries c_check_tries k_check_tries
    exact ⟨_, _, mk a_check_tries, F, k_check_tries, F.binds (ps := ["tries"]) fun _ _ _ _ _ _ us hl => match us, hl with | [_], _ => rfl⟩
  have F_chance_within : FunAt K mg "chance_within" (top 21) ["odds", "tries"] := by
    have F := fun_mk (st := top 21) l_chance_within c_chance_within k_chance_within
    exact ⟨_, _, mk a_chance_within, F, k_chance_within, F.binds (ps := ["odds", "tries"]) fun _ _ _ _ _ _ us hl => match us, hl with | [_, _], _ => rfl⟩
  have F_chance_at : FunAt K mg "chance_at" (top 22) ["odds", "number"] := by
    have F := fun_mk (st := top 22) l_chance_at c_chance_at k_chance_at
    exact ⟨_, _, mk a_chance_at, F, k_chance_at, F.binds (ps := ["odds", "number"]) fun _ _ _ _ _ _ us hl => match us, hl with | [_, _], _ => rfl⟩
  have F_mean_tries : FunAt K mg "mean_tries" (top 23) ["odds", "tries"] := by
    have F := fun_mk (st := top 23) l_mean_tries c_mean_tries k_mean_tries
    exact ⟨_, _, mk a_mean_tries, F, k_mean_tries, F.binds (ps := ["odds", "tries"]) fun _ _ _ _ _ _ us hl => match us, hl with | [_, _], _ => rfl⟩
  have F_check_rows : FunAt K mg "check_rows" (top 31) ["rows"] := by
    have F := fun_mk (st := top 31) l_check_rows c_check_rows k_check_rows
    exact ⟨_, _, mk a_check_rows, F, k_check_rows, F.binds (ps := ["rows"]) fun _ _ _ _ _ _ us hl => match us, hl with | [_], _ => rfl⟩
  have F_best_shares : FunAt K mg "best_shares" (top 35) ["rows", "tries"] := by
    have F := fun_mk (st := top 35) l_best_shares c_best_shares k_best_shares
    exact ⟨_, _, mk a_best_shares, F, k_best_shares, F.binds (ps := ["rows", "tries"]) fun _ _ _ _ _ _ us hl => match us, hl with | [_, _], _ => rfl⟩
  have F_check_rule : FunAt K mg "check_rule" (top 26) ["rule"] := by
    have F := fun_mk (st := top 26) l_check_rule c_check_rule k_check_rule
    exact ⟨_, _, mk a_check_rule, F, k_check_rule, F.binds (ps := ["rule"]) fun _ _ _ _ _ _ us hl => match us, hl with | [_], _ => rfl⟩
  have F_check_long : FunAt K mg "check_long" (top 27) ["long"] := by
    have F := fun_mk (st := top 27) l_check_long c_check_long k_check_long
    exact ⟨_, _, mk a_check_long, F, k_check_long, F.binds (ps := ["long"]) fun _ _ _ _ _ _ us hl => match us, hl with | [_], _ => rfl⟩
  have F_waits_of : FunAt K mg "waits_of" (top 28) ["rule", "many"] := by
    have F := fun_mk (st := top 28) l_waits_of c_waits_of k_waits_of
    exact ⟨_, _, mk a_waits_of, F, k_waits_of, F.binds (ps := ["rule", "many"]) fun _ _ _ _ _ _ us hl => match us, hl with | [_, _], _ => rfl⟩
  have F_begins : FunAt K mg "begins" (top 29) ["rule", "long", "tries"] := by
    have F := fun_mk (st := top 29) l_begins c_begins k_begins
    exact ⟨_, _, mk a_begins, F, k_begins, F.binds (ps := ["rule", "long", "tries"]) fun _ _ _ _ _ _ us hl => match us, hl with | [_, _, _], _ => rfl⟩
  have F_most_tries : FunAt K mg "most_tries" (top 30) ["rule", "long", "end"] := by
    have F := fun_mk (st := top 30) l_most_tries c_most_tries k_most_tries
    exact ⟨_, _, mk a_most_tries, F, k_most_tries, F.binds (ps := ["rule", "long", "end"]) fun _ _ _ _ _ _ us hl => match us, hl with | [_, _, _], _ => rfl⟩
  have F_check_shares : FunAt K mg "check_shares" (top 32) ["rows", "shares"] := by
    have F := fun_mk (st := top 32) l_check_shares c_check_shares k_check_shares
    exact ⟨_, _, mk a_check_shares, F, k_check_shares, F.binds (ps := ["rows", "shares"]) fun _ _ _ _ _ _ us hl => match us, hl with | [_, _], _ => rfl⟩
  have F_is_less : FunAt K mg "is_less" (top 24) ["one", "other"] := by
    have F := fun_mk (st := top 24) l_is_less c_is_less k_is_less
    exact ⟨_, _, mk a_is_less, F, k_is_less, F.binds (ps := ["one", "other"]) fun _ _ _ _ _ _ us hl => match us, hl with | [_, _], _ => rfl⟩
  have F_power : FunAt K mg "power" (top 19) ["base", "many"] := by
    have F := fun_mk (st := top 19) l_power c_power k_power
    exact ⟨_, _, mk a_power, F, k_power, F.binds (ps := ["base", "many"]) fun _ _ _ _ _ _ us hl => match us, hl with | [_, _], _ => rfl⟩
  have F_chance_of : FunAt K mg "chance_of" (top 20) ["odds", "tries"] := by
    have F := fun_mk (st := top 20) l_chance_of c_chance_of k_chance_of
    exact ⟨_, _, mk a_chance_of, F, k_chance_of, F.binds (ps := ["odds", "tries"]) fun _ _ _ _ _ _ us hl => match us, hl with | [_, _], _ => rfl⟩
  have F_product_of : FunAt K mg "product_of" (top 33) ["rows", "shares"] := by
    have F := fun_mk (st := top 33) l_product_of c_product_of k_product_of
    exact ⟨_, _, mk a_product_of, F, k_product_of, F.binds (ps := ["rows", "shares"]) fun _ _ _ _ _ _ us hl => match us, hl with | [_, _], _ => rfl⟩
  have F_moved_try : FunAt K mg "moved_try" (top 36) ["shares", "one", "other"] := by
    have F := fun_mk (st := top 36) l_moved_try c_moved_try k_moved_try
    exact ⟨_, _, mk a_moved_try, F, k_moved_try, F.binds (ps := ["shares", "one", "other"]) fun _ _ _ _ _ _ us hl => match us, hl with | [_, _, _], _ => rfl⟩
  have F_accept_better : FunAt K mg "accept_better" (top 38) ["rows", "shares", "one", "other"] := by
    have F := fun_mk (st := top 38) l_accept_better c_accept_better k_accept_better
    exact ⟨_, _, mk a_accept_better, F, k_accept_better, F.binds (ps := ["rows", "shares", "one", "other"]) fun _ _ _ _ _ _ us hl => match us, hl with | [_, _, _, _], _ => rfl⟩
  have F_common_divisor : FunAt K mg "common_divisor" (top 14) ["one", "other"] := by
    have F := fun_mk (st := top 14) l_common_divisor c_common_divisor k_common_divisor
    exact ⟨_, _, mk a_common_divisor, F, k_common_divisor, F.binds (ps := ["one", "other"]) fun _ _ _ _ _ _ us hl => match us, hl with | [_, _], _ => rfl⟩
  have F_quotient : FunAt K mg "quotient" (top 18) ["up", "down"] := by
    have F := fun_mk (st := top 18) l_quotient c_quotient k_quotient
    exact ⟨_, _, mk a_quotient, F, k_quotient, F.binds (ps := ["up", "down"]) fun _ _ _ _ _ _ us hl => match us, hl with | [_, _], _ => rfl⟩
  have F_chance_of_all : FunAt K mg "chance_of_all" (top 34) ["rows", "shares"] := by
    have F := fun_mk (st := top 34) l_chance_of_all c_chance_of_all k_chance_of_all
    exact ⟨_, _, mk a_chance_of_all, F, k_chance_of_all, F.binds (ps := ["rows", "shares"]) fun _ _ _ _ _ _ us hl => match us, hl with | [_, _], _ => rfl⟩
  have F_judge_shares : FunAt K mg "judge_shares" (top 37) ["rows", "shares"] := by
    have F := fun_mk (st := top 37) l_judge_shares c_judge_shares k_judge_shares
    exact ⟨_, _, mk a_judge_shares, F, k_judge_shares, F.binds (ps := ["rows", "shares"]) fun _ _ _ _ _ _ us hl => match us, hl with | [_, _], _ => rfl⟩
  have F__law_called : FunAt K mg "_law_called" (top 44) ["call", "some"] := by
    have F := fun_mk (st := top 44) l__law_called c__law_called k__law_called
    exact ⟨_, _, mk a__law_called, F, k__law_called, F.binds (ps := ["call", "some"]) fun _ _ _ _ _ _ us hl => match us, hl with | [_, _], _ => rfl⟩
  have F__law_word : FunAt K mg "_law_word" (top 43) ["error"] := by
    have F := fun_mk (st := top 43) l__law_word c__law_word k__law_word
    exact ⟨_, _, mk a__law_word, F, k__law_word, F.binds (ps := ["error"]) fun _ _ _ _ _ _ us hl => match us, hl with | [_], _ => rfl⟩
  have F__law_heard : FunAt K mg "_law_heard" (top 45) ["call", "some"] := by
    have F := fun_mk (st := top 45) l__law_heard c__law_heard k__law_heard
    exact ⟨_, _, mk a__law_heard, F, k__law_heard, F.binds (ps := ["call", "some"]) fun _ _ _ _ _ _ us hl => match us, hl with | [_, _], _ => rfl⟩
  have F__law_whole : FunAt K mg "_law_whole" (top 46) ["value"] := by
    have F := fun_mk (st := top 46) l__law_whole c__law_whole k__law_whole
    exact ⟨_, _, mk a__law_whole, F, k__law_whole, F.binds (ps := ["value"]) fun _ _ _ _ _ _ us hl => match us, hl with | [_], _ => rfl⟩
  have F__law_fails : FunAt K mg "_law_fails" (top 47) ["odds", "tries"] := by
    have F := fun_mk (st := top 47) l__law_fails c__law_fails k__law_fails
    exact ⟨_, _, mk a__law_fails, F, k__law_fails, F.binds (ps := ["odds", "tries"]) fun _ _ _ _ _ _ us hl => match us, hl with | [_, _], _ => rfl⟩
  have F__law_better_due : FunAt K mg "_law_better_due" (top 48) ["rows", "shares", "one", "other"] := by
    have F := fun_mk (st := top 48) l__law_better_due c__law_better_due k__law_better_due
    exact ⟨_, _, mk a__law_better_due, F, k__law_better_due, F.binds (ps := ["rows", "shares", "one", "other"]) fun _ _ _ _ _ _ us hl => match us, hl with | [_, _, _, _], _ => rfl⟩
  have F_law : FunAt K mg "law" (top 49) ["script"] := by
    have F := fun_mk (st := top 49) l_law c_law k_law
    exact ⟨_, _, mk a_law, F, k_law, F.binds (ps := ["script"]) fun _ _ _ _ _ _ us hl => match us, hl with | [_], _ => rfl⟩
  have T0 : Sup.Txt PP K mg C0 I0 := ⟨⟨nm0, qn0, N0, bs0, _, sn0, sub0, ab0, col0, dd0, x00, x10, x20, x30, x50, xL0, rfl⟩, sa0, nr0, iC0, tI0, kC0, eC0, tC0, ms0, mv0, si0, hst, mn b_super, by decide +kernel, ⟨_, _, _, _, _, _, _, _, _, _, _, _, _, _, _, _, _, _, _, _, _, _, _, _, lI0, cI0, rfl, ⟨_, _, _, _, _, _, lD0, fD0, by decide +kernel⟩, _, _, _, lK0⟩⟩
  have E0 : ExcC K C0 := ⟨ga0, gt0, eC0, hd0, hc0, e_n, e_t, hm0⟩
  have X0 : XfC K C0 := ⟨ga0, gt0, eC0, hd0⟩
  have T1 : Sup.Txt PP K mg C1 I1 := ⟨⟨nm1, qn1, N1, bs1, _, sn1, sub1, ab1, col1, dd1, x01, x11, x21, x31, x51, xL1, rfl⟩, sa1, nr1, iC1, tI1, kC1, eC1, tC1, ms1, mv1, si1, hst, mn b_super, by decide +kernel, ⟨_, _, _, _, _, _, _, _, _, _, _, _, _, _, _, _, _, _, _, _, _, _, _, _, lI1, cI1, rfl, ⟨_, _, _, _, _, _, lD1, fD1, by decide +kernel⟩, _, _, _, lK1⟩⟩
  have E1 : ExcC K C1 := ⟨ga1, gt1, eC1, hd1, hc1, e_n, e_t, hm1⟩
  have X1 : XfC K C1 := ⟨ga1, gt1, eC1, hd1⟩
  have T2 : Sup.Txt PP K mg C2 I2 := ⟨⟨nm2, qn2, N2, bs2, _, sn2, sub2, ab2, col2, dd2, x02, x12, x22, x32, x52, xL2, rfl⟩, sa2, nr2, iC2, tI2, kC2, eC2, tC2, ms2, mv2, si2, hst, mn b_super, by decide +kernel, ⟨_, _, _, _, _, _, _, _, _, _, _, _, _, _, _, _, _, _, _, _, _, _, _, _, lI2, cI2, rfl, ⟨_, _, _, _, _, _, lD2, fD2, by decide +kernel⟩, _, _, _, lK2⟩⟩
  have E2 : ExcC K C2 := ⟨ga2, gt2, eC2, hd2, hc2, e_n, e_t, hm2⟩
  have X2 : XfC K C2 := ⟨ga2, gt2, eC2, hd2⟩
  have T3 : Sup.Txt PP K mg C3 I3 := ⟨⟨nm3, qn3, N3, bs3, _, sn3, sub3, ab3, col3, dd3, x03, x13, x23, x33, x53, xL3, rfl⟩, sa3, nr3, iC3, tI3, kC3, eC3, tC3, ms3, mv3, si3, hst, mn b_super, by decide +kernel, ⟨_, _, _, _, _, _, _, _, _, _, _, _, _, _, _, _, _, _, _, _, _, _, _, _, lI3, cI3, rfl, ⟨_, _, _, _, _, _, lD3, fD3, by decide +kernel⟩, _, _, _, lK3⟩⟩
  have E3 : ExcC K C3 := ⟨ga3, gt3, eC3, hd3, hc3, e_n, e_t, hm3⟩
  have X3 : XfC K C3 := ⟨ga3, gt3, eC3, hd3⟩
  exact ⟨F__law_start,
    F__law_draw,
    F__law_pick,
    F_is_integer,
    F_is_between,
    F_check_odds,
    F_least_tries,
    F_check_tries,
    F_chance_within,
    F_chance_at,
    F_mean_tries,
    F_check_rows,
    F_best_shares,
    F_check_rule,
    F_check_long,
    F_waits_of,
    F_begins,
    F_most_tries,
    F_check_shares,
    F_is_less,
    F_power,
    F_chance_of,
    F_product_of,
    F_moved_try,
    F_accept_better,
    F_common_divisor,
    F_quotient,
    F_chance_of_all,
    F_judge_shares,
    F__law_called,
    F__law_word,
    F__law_heard,
    F__law_whole,
    F__law_fails,
    F__law_better_due,
    F_law,
    ⟨_, mk n_MAX_ODDS⟩,
    ⟨_, mk n_MAX_SIZE⟩,
    ⟨_, mk n_MAX_STEPS⟩,
    ⟨_, mk n_MAX_TRIES⟩,
    mn b_abs,
    mn b_all,
    mn b_bool,
    mn b_enumerate,
    mn b_int,
    mn b_isinstance,
    mn b_len,
    mn b_list,
    mn b_min,
    mn b_range,
    mn b_sum,
    mn b_tuple,
    mn b_zip,
    ⟨_, mk a_least_tries, rfl⟩,
    ⟨_, mk a_chance_within, rfl⟩,
    ⟨_, mk a_chance_at, rfl⟩,
    ⟨_, mk a_mean_tries, rfl⟩,
    ⟨_, mk a_best_shares, rfl⟩,
    ⟨_, mk a_begins, rfl⟩,
    ⟨_, mk a_most_tries, rfl⟩,
    ⟨_, mk a_accept_better, rfl⟩,
    ⟨_, mk a_chance_of_all, rfl⟩,
    ⟨_, mk a_judge_shares, rfl⟩,
    ⟨four_all rfl rfl rfl rfl, mk aC0, mk aC1, mk aC2, mk aC3, mn b_isinstance, mn b_ValueError, four_all E0 E1 E2 E3, four_all X0 X1 X2 X3, four_all nr0 nr1 nr2 nr3, fun i j hi hj => (four_all (φ := fun i => ∀ j, j < 4 → PySem.W.kitOne K (.ref (four C0 C1 C2 C3 i)) (.ref (four C0 C1 C2 C3 j)) = some (i == j)) (four_all is00 is01 is02 is03) (four_all is10 is11 is12 is13) (four_all is20 is21 is22 is23) (four_all is30 is31 is32 is33)) i hi j hj, four_all iv0 iv1 iv2 iv3⟩,
    mk aW,
    T0,
    T1,
    T2,
    T3,
    fun _ => rfl,
    four_all hx0 hx1 hx2 hx3,
    fun i j hi hj => (four_all (φ := fun i => ∀ j, j < 4 → PySem.W.exmOne K (.ref (four C0 C1 C2 C3 i)) (.ref (four C0 C1 C2 C3 j)) = some (i == j)) (four_all xm00 xm01 xm02 xm03) (four_all xm10 xm11 xm12 xm13) (four_all xm20 xm21 xm22 xm23) (four_all xm30 xm31 xm32 xm33)) i hi j hj⟩
theorem law_at {w : World} {K : PySem.W.Frag} {mg : Str → Option Value} {fa : Addr} (hl : ∀ ns : List Int, m_law [.scr ns] = .ok (.bl true)) (hfa : mg "law" = some (.ref fa)) (T : ∃ (g : Ce) (Ca Ci : Nat → Addr) (AW : Addr), TF K mg g Ca Ci AW) :
    ∃ fd : FuncData, (∀ (s : Shared) (u : Value), BindsTo s fd ⟨[u], []⟩ [("script", u)]) ∧ ∀ base : Heap, K.In base → base.Ns mainGlobals mg → FnOk PP w K mg base (L2.CX PP w) 8 fa fd ["script"] (spL K) := by
  obtain ⟨g, Ca, Ci, AW, T⟩ := T
  obtain ⟨f, fd, h1, h2, h3, h4⟩ := T.f_law
  rw [hfa] at h1
  cases h1
  refine ⟨fd, ?_, fun base _ _ => ?_⟩
  · obtain ⟨oc, od, kV, doc, pm, an, cdv, ct, osl, rfl, lk, hcd⟩ := h2.ex
    exact fun s u => .of_eq rfl
  · exact law_fn (fn_law (w := w) (base := base) T h2) hl
end LW
end Dn
open PySem PySem.W PyProof.Rows in
set_option maxRecDepth 100000 in
set_option maxHeartbeats 0 in
theorem PySem.Challenge.cw_doneorundone_k14_papers_and_arguments_of_holds : PySem.Challenge.rw_doneorundone_k14_papers_and_arguments_of.Holds := by
  w_on; o_law; k_head; (case hw => w_witness2)
  k_fill
  refine Dn.walkD (l := PySem.Challenge.rw_doneorundone_k14_papers_and_arguments_of) (k := 8) rfl rfl ⟨rfl, by decide, by decide⟩ (fun w h Y => PySem.W.kIn_of Y) ?F
  case F =>
    intro w mg fa h KX G hmg
    refine Dn.LW.law_at Dn.LW.law_true hmg ?_
    refine' Dn.LW.tf_mk KX G ?a__law_start ?l__law_start ?c__law_start ?k__law_start ?a__law_draw ?l__law_draw ?c__law_draw ?k__law_draw ?a__law_pick ?l__law_pick ?c__law_pick ?k__law_pick ?a_is_integer ?l_is_integer ?c_is_integer ?k_is_integer ?a_is_between ?l_is_between ?c_is_between ?k_is_between ?a_check_odds ?l_check_odds ?c_check_odds ?k_check_odds ?a_least_tries ?l_least_tries ?c_least_tries ?k_least_tries ?a_check_tries ?l_check_tries ?c_check_tries ?k_check_tries ?a_chance_within ?l_chance_within ?c_chance_within ?k_chance_within ?a_chance_at ?l_chance_at ?c_chance_at ?k_chance_at ?a_mean_tries ?l_mean_tries ?c_mean_tries ?k_mean_tries ?a_check_rows ?l_check_rows ?c_check_rows ?k_check_rows ?a_best_shares ?l_best_shares ?c_best_shares ?k_best_shares ?a_check_rule ?l_check_rule ?c_check_rule ?k_check_rule ?a_check_long ?l_check_long ?c_check_long ?k_check_long ?a_waits_of ?l_waits_of ?c_waits_of ?k_waits_of ?a_begins ?l_begins ?c_begins ?k_begins ?a_most_tries ?l_most_tries ?c_most_tries ?k_most_tries ?a_check_shares ?l_check_shares ?c_check_shares ?k_check_shares ?a_is_less ?l_is_less ?c_is_less ?k_is_less ?a_power ?l_power ?c_power ?k_power ?a_chance_of ?l_chance_of ?c_chance_of ?k_chance_of ?a_product_of ?l_product_of ?c_product_of ?k_product_of ?a_moved_try ?l_moved_try ?c_moved_try ?k_moved_try ?a_accept_better ?l_accept_better ?c_accept_better ?k_accept_better ?a_common_divisor ?l_common_divisor ?c_common_divisor ?k_common_divisor ?a_quotient ?l_quotient ?c_quotient ?k_quotient ?a_chance_of_all ?l_chance_of_all ?c_chance_of_all ?k_chance_of_all ?a_judge_shares ?l_judge_shares ?c_judge_shares ?k_judge_shares ?a__law_called ?l__law_called ?c__law_called ?k__law_called ?a__law_word ?l__law_word ?c__law_word ?k__law_word ?a__law_heard ?l__law_heard ?c__law_heard ?k__law_heard ?a__law_whole ?l__law_whole ?c__law_whole ?k__law_whole ?a__law_fails ?l__law_fails ?c__law_fails ?k__law_fails ?a__law_better_due ?l__law_better_due ?c__law_better_due ?k__law_better_due ?a_law ?l_law ?c_law ?k_law ?n_MAX_ODDS ?n_MAX_SIZE ?n_MAX_STEPS ?n_MAX_TRIES ?b_ValueError ?b_abs ?b_all ?b_bool ?b_enumerate ?b_int ?b_isinstance ?b_len ?b_list ?b_min ?b_range ?b_sum ?b_super ?b_tuple ?b_zip ?aW ?hst ?e_n ?e_t ?aC0 ?xL0 ?sa0 ?nr0 ?iC0 ?tI0 ?kC0 ?eC0 ?tC0 ?ms0 ?mv0 ?si0 ?lI0 ?cI0 ?lD0 ?fD0 ?lK0 ?ga0 ?gt0 ?hd0 ?hc0 ?hm0 ?iv0 ?hx0 ?aC1 ?xL1 ?sa1 ?nr1 ?iC1 ?tI1 ?kC1 ?eC1 ?tC1 ?ms1 ?mv1 ?si1 ?lI1 ?cI1 ?lD1 ?fD1 ?lK1 ?ga1 ?gt1 ?hd1 ?hc1 ?hm1 ?iv1 ?hx1 ?aC2 ?xL2 ?sa2 ?nr2 ?iC2 ?tI2 ?kC2 ?eC2 ?tC2 ?ms2 ?mv2 ?si2 ?lI2 ?cI2 ?lD2 ?fD2 ?lK2 ?ga2 ?gt2 ?hd2 ?hc2 ?hm2 ?iv2 ?hx2 ?aC3 ?xL3 ?sa3 ?nr3 ?iC3 ?tI3 ?kC3 ?eC3 ?tC3 ?ms3 ?mv3 ?si3 ?lI3 ?cI3 ?lD3 ?fD3 ?lK3 ?ga3 ?gt3 ?hd3 ?hc3 ?hm3 ?iv3 ?hx3 ?is00 ?xm00 ?is01 ?xm01 ?is02 ?xm02 ?is03 ?xm03 ?is10 ?xm10 ?is11 ?xm11 ?is12 ?xm12 ?is13 ?xm13 ?is20 ?xm20 ?is21 ?xm21 ?is22 ?xm22 ?is23 ?xm23 ?is30 ?xm30 ?is31 ?xm31 ?is32 ?xm32 ?is33 ?xm33
    (case a__law_start => first | k_is | rfl)
    (case l__law_start => first | k_is | rfl)
    (case c__law_start => first | k_is | rfl)
    (case k__law_start => first | k_is | rfl)
    (case a__law_draw => first | k_is | rfl)
    (case l__law_draw => first | k_is | rfl)
    (case c__law_draw => first | k_is | rfl)
    (case k__law_draw => first | k_is | rfl)
    (case a__law_pick => first | k_is | rfl)
    (case l__law_pick => first | k_is | rfl)
    (case c__law_pick => first | k_is | rfl)
    (case k__law_pick => first | k_is | rfl)
    (case a_is_integer => first | k_is | rfl)
    (case l_is_integer => first | k_is | rfl)
    (case c_is_integer => first | k_is | rfl)
    (case k_is_integer => first | k_is | rfl)
    (case a_is_between => first | k_is | rfl)
    (case l_is_between => first | k_is | rfl)
    (case c_is_between => first | k_is | rfl)
    (case k_is_between => first | k_is | rfl)
    (case a_check_odds => first | k_is | rfl)
    (case l_check_odds => first | k_is | rfl)
    (case c_check_odds => first | k_is | rfl)
    (case k_check_odds => first | k_is | rfl)
    (case a_least_tries => first | k_is | rfl)
    (case l_least_tries => first | k_is | rfl)
    (case c_least_tries => first | k_is | rfl)
    (case k_least_tries => first | k_is | rfl)
    (case a_check_tries => first | k_is | rfl)
    (case l_check_tries => first | k_is | rfl)
    (case c_check_tries => first | k_is | rfl)
    (case k_check_tries => first | k_is | rfl)
    (case a_chance_within => first | k_is | rfl)
    (case l_chance_within => first | k_is | rfl)
    (case c_chance_within => first | k_is | rfl)
    (case k_chance_within => first | k_is | rfl)
    (case a_chance_at => first | k_is | rfl)
    (case l_chance_at => first | k_is | rfl)
    (case c_chance_at => first | k_is | rfl)
    (case k_chance_at => first | k_is | rfl)
    (case a_mean_tries => first | k_is | rfl)
    (case l_mean_tries => first | k_is | rfl)
    (case c_mean_tries => first | k_is | rfl)
    (case k_mean_tries => first | k_is | rfl)
    (case a_check_rows => first | k_is | rfl)
    (case l_check_rows => first | k_is | rfl)
    (case c_check_rows => first | k_is | rfl)
    (case k_check_rows => first | k_is | rfl)
    (case a_best_shares => first | k_is | rfl)
    (case l_best_shares => first | k_is | rfl)
    (case c_best_shares => first | k_is | rfl)
    (case k_best_shares => first | k_is | rfl)
    (case a_check_rule => first | k_is | rfl)
    (case l_check_rule => first | k_is | rfl)
    (case c_check_rule => first | k_is | rfl)
    (case k_check_rule => first | k_is | rfl)
    (case a_check_long => first | k_is | rfl)
    (case l_check_long => first | k_is | rfl)
    (case c_check_long => first | k_is | rfl)
    (case k_check_long => first | k_is | rfl)
    (case a_waits_of => first | k_is | rfl)
    (case l_waits_of => first | k_is | rfl)
    (case c_waits_of => first | k_is | rfl)
    (case k_waits_of => first | k_is | rfl)
    (case a_begins => first | k_is | rfl)
    (case l_begins => first | k_is | rfl)
    (case c_begins => first | k_is | rfl)
    (case k_begins => first | k_is | rfl)
    (case a_most_tries => first | k_is | rfl)
    (case l_most_tries => first | k_is | rfl)
    (case c_most_tries => first | k_is | rfl)
    (case k_most_tries => first | k_is | rfl)
    (case a_check_shares => first | k_is | rfl)
    (case l_check_shares => first | k_is | rfl)
    (case c_check_shares => first | k_is | rfl)
    (case k_check_shares => first | k_is | rfl)
    (case a_is_less => first | k_is | rfl)
    (case l_is_less => first | k_is | rfl)
    (case c_is_less => first | k_is | rfl)
    (case k_is_less => first | k_is | rfl)
    (case a_power => first | k_is | rfl)
    (case l_power => first | k_is | rfl)
    (case c_power => first | k_is | rfl)
    (case k_power => first | k_is | rfl)
    (case a_chance_of => first | k_is | rfl)
    (case l_chance_of => first | k_is | rfl)
    (case c_chance_of => first | k_is | rfl)
    (case k_chance_of => first | k_is | rfl)
    (case a_product_of => first | k_is | rfl)
    (case l_product_of => first | k_is | rfl)
    (case c_product_of => first | k_is | rfl)
    (case k_product_of => first | k_is | rfl)
    (case a_moved_try => first | k_is | rfl)
    (case l_moved_try => first | k_is | rfl)
    (case c_moved_try => first | k_is | rfl)
    (case k_moved_try => first | k_is | rfl)
    (case a_accept_better => first | k_is | rfl)
    (case l_accept_better => first | k_is | rfl)
    (case c_accept_better => first | k_is | rfl)
    (case k_accept_better => first | k_is | rfl)
    (case a_common_divisor => first | k_is | rfl)
    (case l_common_divisor => first | k_is | rfl)
    (case c_common_divisor => first | k_is | rfl)
    (case k_common_divisor => first | k_is | rfl)
    (case a_quotient => first | k_is | rfl)
    (case l_quotient => first | k_is | rfl)
    (case c_quotient => first | k_is | rfl)
    (case k_quotient => first | k_is | rfl)
    (case a_chance_of_all => first | k_is | rfl)
    (case l_chance_of_all => first | k_is | rfl)
    (case c_chance_of_all => first | k_is | rfl)
    (case k_chance_of_all => first | k_is | rfl)
    (case a_judge_shares => first | k_is | rfl)
    (case l_judge_shares => first | k_is | rfl)
    (case c_judge_shares => first | k_is | rfl)
    (case k_judge_shares => first | k_is | rfl)
    (case a__law_called => first | k_is | rfl)
    (case l__law_called => first | k_is | rfl)
    (case c__law_called => first | k_is | rfl)
    (case k__law_called => first | k_is | rfl)
    (case a__law_word => first | k_is | rfl)
    (case l__law_word => first | k_is | rfl)
    (case c__law_word => first | k_is | rfl)
    (case k__law_word => first | k_is | rfl)
    (case a__law_heard => first | k_is | rfl)
    (case l__law_heard => first | k_is | rfl)
    (case c__law_heard => first | k_is | rfl)
    (case k__law_heard => first | k_is | rfl)
    (case a__law_whole => first | k_is | rfl)
    (case l__law_whole => first | k_is | rfl)
    (case c__law_whole => first | k_is | rfl)
    (case k__law_whole => first | k_is | rfl)
    (case a__law_fails => first | k_is | rfl)
    (case l__law_fails => first | k_is | rfl)
    (case c__law_fails => first | k_is | rfl)
    (case k__law_fails => first | k_is | rfl)
    (case a__law_better_due => first | k_is | rfl)
    (case l__law_better_due => first | k_is | rfl)
    (case c__law_better_due => first | k_is | rfl)
    (case k__law_better_due => first | k_is | rfl)
    (case a_law => first | k_is | rfl)
    (case l_law => first | k_is | rfl)
    (case c_law => first | k_is | rfl)
    (case k_law => first | k_is | rfl)
    (case n_MAX_ODDS => first | k_is | rfl)
    (case n_MAX_SIZE => first | k_is | rfl)
    (case n_MAX_STEPS => first | k_is | rfl)
    (case n_MAX_TRIES => first | k_is | rfl)
    (case b_ValueError => first | k_is | rfl)
    (case b_abs => first | k_is | rfl)
    (case b_all => first | k_is | rfl)
    (case b_bool => first | k_is | rfl)
    (case b_enumerate => first | k_is | rfl)
    (case b_int => first | k_is | rfl)
    (case b_isinstance => first | k_is | rfl)
    (case b_len => first | k_is | rfl)
    (case b_list => first | k_is | rfl)
    (case b_min => first | k_is | rfl)
    (case b_range => first | k_is | rfl)
    (case b_sum => first | k_is | rfl)
    (case b_super => first | k_is | rfl)
    (case b_tuple => first | k_is | rfl)
    (case b_zip => first | k_is | rfl)
    (case aW => first | k_is | rfl)
    (case hst => first | k_is | rfl)
    (case e_n => first | k_is | rfl)
    (case e_t => first | k_is | rfl)
    (case aC0 => first | k_is | rfl)
    (case xL0 => first | k_is | rfl)
    (case sa0 => first | k_is | rfl)
    (case nr0 => first | k_is | rfl)
    (case iC0 => first | k_is | rfl)
    (case tI0 => first | k_is | rfl)
    (case kC0 => first | k_is | rfl)
    (case eC0 => first | k_is | rfl)
    (case tC0 => first | k_is | rfl)
    (case ms0 => first | k_is | rfl)
    (case mv0 => first | k_is | rfl)
    (case si0 => first | k_is | rfl)
    (case lI0 => first | k_is | rfl)
    (case cI0 => first | k_is | rfl)
    (case lD0 => first | k_is | rfl)
    (case fD0 => first | k_is | rfl)
    (case lK0 => first | k_is | rfl)
    (case ga0 => first | k_is | rfl)
    (case gt0 => first | k_is | rfl)
    (case hd0 => first | k_is | rfl)
    (case hc0 => first | k_is | rfl)
    (case hm0 => first | k_is | rfl)
    (case iv0 => first | k_is | rfl)
    (case hx0 => first | k_is | rfl)
    (case aC1 => first | k_is | rfl)
    (case xL1 => first | k_is | rfl)
    (case sa1 => first | k_is | rfl)
    (case nr1 => first | k_is | rfl)
    (case iC1 => first | k_is | rfl)
    (case tI1 => first | k_is | rfl)
    (case kC1 => first | k_is | rfl)
    (case eC1 => first | k_is | rfl)
    (case tC1 => first | k_is | rfl)
    (case ms1 => first | k_is | rfl)
    (case mv1 => first | k_is | rfl)
    (case si1 => first | k_is | rfl)
    (case lI1 => first | k_is | rfl)
    (case cI1 => first | k_is | rfl)
    (case lD1 => first | k_is | rfl)
    (case fD1 => first | k_is | rfl)
    (case lK1 => first | k_is | rfl)
    (case ga1 => first | k_is | rfl)
    (case gt1 => first | k_is | rfl)
    (case hd1 => first | k_is | rfl)
    (case hc1 => first | k_is | rfl)
    (case hm1 => first | k_is | rfl)
    (case iv1 => first | k_is | rfl)
    (case hx1 => first | k_is | rfl)
    (case aC2 => first | k_is | rfl)
    (case xL2 => first | k_is | rfl)
    (case sa2 => first | k_is | rfl)
    (case nr2 => first | k_is | rfl)
    (case iC2 => first | k_is | rfl)
    (case tI2 => first | k_is | rfl)
    (case kC2 => first | k_is | rfl)
    (case eC2 => first | k_is | rfl)
    (case tC2 => first | k_is | rfl)
    (case ms2 => first | k_is | rfl)
    (case mv2 => first | k_is | rfl)
    (case si2 => first | k_is | rfl)
    (case lI2 => first | k_is | rfl)
    (case cI2 => first | k_is | rfl)
    (case lD2 => first | k_is | rfl)
    (case fD2 => first | k_is | rfl)
    (case lK2 => first | k_is | rfl)
    (case ga2 => first | k_is | rfl)
    (case gt2 => first | k_is | rfl)
    (case hd2 => first | k_is | rfl)
    (case hc2 => first | k_is | rfl)
    (case hm2 => first | k_is | rfl)
    (case iv2 => first | k_is | rfl)
    (case hx2 => first | k_is | rfl)
    (case aC3 => first | k_is | rfl)
    (case xL3 => first | k_is | rfl)
    (case sa3 => first | k_is | rfl)
    (case nr3 => first | k_is | rfl)
    (case iC3 => first | k_is | rfl)
    (case tI3 => first | k_is | rfl)
    (case kC3 => first | k_is | rfl)
    (case eC3 => first | k_is | rfl)
    (case tC3 => first | k_is | rfl)
    (case ms3 => first | k_is | rfl)
    (case mv3 => first | k_is | rfl)
    (case si3 => first | k_is | rfl)
    (case lI3 => first | k_is | rfl)
    (case cI3 => first | k_is | rfl)
    (case lD3 => first | k_is | rfl)
    (case fD3 => first | k_is | rfl)
    (case lK3 => first | k_is | rfl)
    (case ga3 => first | k_is | rfl)
    (case gt3 => first | k_is | rfl)
    (case hd3 => first | k_is | rfl)
    (case hc3 => first | k_is | rfl)
    (case hm3 => first | k_is | rfl)
    (case iv3 => first | k_is | rfl)
    (case hx3 => first | k_is | rfl)
    (case is00 => first | k_is | rfl)
    (case xm00 => first | k_is | rfl)
    (case is01 => first | k_is | rfl)
    (case xm01 => first | k_is | rfl)
    (case is02 => first | k_is | rfl)
    (case xm02 => first | k_is | rfl)
    (case is03 => first | k_is | rfl)
    (case xm03 => first | k_is | rfl)
    (case is10 => first | k_is | rfl)
    (case xm10 => first | k_is | rfl)
    (case is11 => first | k_is | rfl)
    (case xm11 => first | k_is | rfl)
    (case is12 => first | k_is | rfl)
    (case xm12 => first | k_is | rfl)
    (case is13 => first | k_is | rfl)
    (case xm13 => first | k_is | rfl)
    (case is20 => first | k_is | rfl)
    (case xm20 => first | k_is | rfl)
    (case is21 => first | k_is | rfl)
    (case xm21 => first | k_is | rfl)
    (case is22 => first | k_is | rfl)
    (case xm22 => first | k_is | rfl)
    (case is23 => first | k_is | rfl)
    (case xm23 => first | k_is | rfl)
    (case is30 => first | k_is | rfl)
    (case xm30 => first | k_is | rfl)
    (case is31 => first | k_is | rfl)
    (case xm31 => first | k_is | rfl)
    (case is32 => first | k_is | rfl)
    (case xm32 => first | k_is | rfl)
    (case is33 => first | k_is | rfl)
    (case xm33 => first | k_is | rfl)
