import PyProof.Rows.All
import Wide.All
import OpenK.AllK
import Wide.FinOn
import HandS.ForMost
import HandS.ForExc
import HandS.Lambda
import HandS.SlotsVar
import HandS.Wide
import HandS.TupAny
import HandS.TupMul
import HandS.Deep
import HandS.Star
import HandS.Text
import KE.KTupSum
import HandS.Style
import HandS.Zip
import HandS.Comp
import HandS.ExcOwn
import HandS.WordsExc
import HandS.Defaults
import PyProof.SliceStr2
import HandS.IsInst
import HandS.SortInts
import KE.GoesMore
import KE.GoesEnum
import KE.KExcSuper
import HandS.Exc
import HandS.HeadWalk
import HandS.TryMany
import HandS.ExcField
import PyProof.ReprRoads
import HandS.SlotsOwn
import KE.KMathGC
import KE.DatumOrd
import HandS.SortKw
import HandS.NamedTupSort
import HandS.Codes
import HandS.FStr
import HandS.GenList
import HandS.GenYield
import HandS.Strs
import HandS.Set
import HandS.HeadEnd
import HandS.HeadHook1
import HandS.HeadHook2
import HandS.EndTab
import HandS.HeadHook4
import HandS.Head0
import HandS.Head1
import HandS.Head2
import HandS.Head3
import PyProof.ExcBaseAll.OverflowError
import PySem.Challenge.RW_hookstrips_k21_whole_one_word_for_each_r
set_option Elab.async false
set_option linter.all false
set_option maxRecDepth 100000
set_option maxHeartbeats 0
/-! # Values as trees, results, slots -/
namespace Qs
open PySem PySem.Spec PyProof.Rows L2
/-- a value as a tree; a text by its codes -/
inductive W where
  | non
  | bl (b : Bool)
  | int (i : Int)
  | str (s : List Nat)
  | tup (xs : List W)
  | lst (xs : List W)
  | dic (ks : List W) (vs : List W)
  | fn (k : Nat)
  | cl (k : Nat)
  | ty (n : String)
  | ins (c : Nat) (fs : List W)
  | scr (xs : List W)
  deriving Inhabited
/-- what stands at a place of a def's names: nothing told, a value that never changes, a list or dict of the def's own (p: the one that was handed in) -/
inductive Sl where
  | un
  | fro (w : W)
  | own (p : Bool) (w : W)
  deriving Inhabited
abbrev S := List Sl
/-- what an expression gives: a value that never changes, a new list or dict that nobody else knows, the list or dict at a place -/
inductive R where
  | fro (w : W)
  | new (w : W)
  | bor (i : Nat)
/-- an exception: the place of its class, what it keeps -/
structure Ex where
  cls : Nat
  arg : Option W
inductive Res (α : Type) where
  | ok (a : α)
  | exc (x : Ex)
  | bad
def Res.bind {α β : Type} : Res α → (α → Res β) → Res β
  | .ok a, f => f a
  | .exc x, _ => .exc x
  | .bad, _ => .bad
@[simp] theorem Res.bind_ok {α β : Type} (a : α) (f : α → Res β) : (Res.ok a).bind f = f a := rfl
@[simp] theorem Res.bind_exc {α β : Type} (x : Ex) (f : α → Res β) : (Res.exc x : Res α).bind f = .exc x := rfl
@[simp] theorem Res.bind_bad {α β : Type} (f : α → Res β) : (Res.bad : Res α).bind f = .bad := rfl
instance : Monad Res where
  pure := .ok
  bind := Res.bind
/-- an option as a result -/
def ofO {α : Type} : Option α → Res α
  | some a => .ok a
  | none => .bad
@[simp] theorem ofO_some {α : Type} (a : α) : ofO (some a) = .ok a := rfl
@[simp] theorem ofO_none {α : Type} : (ofO (none : Option α)) = .bad := rfl
/-- go on if it holds -/
def chk {α : Type} (b : Bool) (r : Res α) : Res α := if b then r else .bad
abbrev SE := S → Res (R × S)
inductive Fl where
  | nx (s : S)
  | rt (r : R) (s : S)
  | bk (s : S)
  | ct (s : S)
abbrev SS := S → Res Fl
def slW : Sl → Option W
  | .un => none
  | .fro w => some w
  | .own _ w => some w
/-- what is read there now -/
def val (s : S) : R → Option W
  | .fro w => some w
  | .new w => some w
  | .bor i => s[i]?.bind slW
/-- the value for good: a list of a place is not changed from now on -/
def frz (s : S) : R → Option (W × S)
  | .fro w => some (w, s)
  | .new w => some (w, s)
  | .bor i => s[i]?.bind fun
    | .fro w => some (w, s)
    | .own _ w => some (w, s.set i (.fro w))
    | .un => none
/-! ### the tables -/
/-- where the defs and classes stand -/
structure Tab where
  fn : Nat → Option Addr
  cl : Nat → Option Addr
  ic : Nat → Option Addr := fun _ => none
/-- a list that never changes (P) -/
def FzL (P : Addr → Prop) (H : Hp) (a : Addr) (xs : List V) : Prop := P a ∧ H a = some (.lst xs)
/-- the script: a list that is handed in and never changes -/
def FzS (K : PySem.W.Frag) (P : Addr → Prop) (H : Hp) (a : Addr) (xs : List V) : Prop := (P a ∧ Rd H a (.lst xs)) ∨ SqL K (fun _ => none) a xs
theorem FzS.sq {K : PySem.W.Frag} {P : Addr → Prop} {H : Hp} {a : Addr} {xs : List V} (h : FzS K P H a xs) : SqL K H a xs := by
  rcases h with ⟨_, h⟩ | h
  · exact .inl h
  · rcases h with h | h
    · rcases h with h | ⟨o, h⟩ <;> cases h
    · exact .inr h
/-- the pairs of a dict: its keys as trees -/
def kW : Key → W
  | .inl i => .int i
  | .inr x => .str x.cps.toList
/-- a dict's content -/
inductive DicAt (H : Hp) (a : Addr) : List W → List V → Prop where
  | k {kvs : List (Key × V)} : a ≠ sysModules → Rd H a (.dK kvs) → DicAt H a (kvs.map fun p => kW p.1) (kvs.map (·.2))
  | t {kvs : List (List Key × V)} : a ≠ sysModules → H a = some (.dT kvs) → DicAt H a (kvs.map fun p => W.tup (p.1.map kW)) (kvs.map (·.2))
mutual
/-- v stands for the tree w; its lists and dicts never change -/
def Rep (T : Tab) (K : PySem.W.Frag) (P : Addr → Prop) (H : Hp) : W → V → Prop
  | .non, v => v = .non
  | .bl b, v => v = .bl b
  | .int i, v => v = .int i
  | .str s, v => v = .str ⟨s.toArray⟩
  | .tup ws, v => ∃ a vs, v = .ref a ∧ SqT K H a vs ∧ Reps T K P H ws vs
  | .lst ws, v => ∃ a vs, v = .ref a ∧ FzL P H a vs ∧ Reps T K P H ws vs
  | .scr ws, v => ∃ a vs, v = .ref a ∧ FzS K P H a vs ∧ Reps T K P H ws vs
  | .dic ks ws, v => ∃ a vs, v = .ref a ∧ P a ∧ DicAt H a ks vs ∧ Reps T K P H ws vs
  | .fn k, v => ∃ a, T.fn k = some a ∧ v = .ref a
  | .cl k, v => ∃ a, T.cl k = some a ∧ v = .ref a
  | .ty n, v => v = .ty n
  | .ins c ws, v => ∃ a C dx vs, v = .ref a ∧ T.ic c = some C ∧ P a ∧ P dx ∧ L2.SlAt H a C dx (vs.map some) ∧ Reps T K P H ws vs
def Reps (T : Tab) (K : PySem.W.Frag) (P : Addr → Prop) (H : Hp) : List W → List V → Prop
  | [], vs => vs = []
  | w :: ws, vs => ∃ v r, vs = v :: r ∧ Rep T K P H w v ∧ Reps T K P H ws r
end
/-- what never changes -/
def Imm : HO → Prop
  | .tup _ => True
  | .frz _ _ => True
  | .rng _ _ => True
  | _ => False
def Tbl : HO → Prop
  | .tbl _ => True
  | _ => False
section
variable {T : Tab} {K : PySem.W.Frag} {P P' : Addr → Prop} {H H' : Hp}
/-- what is kept for the sake of P -/
structure Kp (P P' : Addr → Prop) (H H' : Hp) : Prop where
  pin : ∀ a, P a → P' a
  keep : ∀ a o, H a = some o → Imm o ∨ (P a ∧ ¬ Tbl o) → H' a = some o
theorem Kp.refl : Kp P P H H := ⟨fun _ h => h, fun _ _ h _ => h⟩
theorem Kp.rdL (k : Kp P P' H H') {a : Addr} {xs : List V} (p : P a) (h : Rd H a (.lst xs)) : Rd H' a (.lst xs) := by
  rcases h with h | ⟨o, h⟩
  · exact .inl (k.keep _ _ h (.inr ⟨p, fun z => z⟩))
  · exact .inr ⟨o, k.keep _ _ h (.inl trivial)⟩
theorem Kp.rdK (k : Kp P P' H H') {a : Addr} {xs : List (Key × V)} (p : P a) (h : Rd H a (.dK xs)) : Rd H' a (.dK xs) := by
  rcases h with h | ⟨o, h⟩
  · exact .inl (k.keep _ _ h (.inr ⟨p, fun z => z⟩))
  · exact .inr ⟨o, k.keep _ _ h (.inl trivial)⟩
theorem Kp.rdT (k : Kp P P' H H') {a : Addr} {xs : List (List Key × V)} (p : P a) (h : Rd H a (.dT xs)) : Rd H' a (.dT xs) := by
  rcases h with h | ⟨o, h⟩
  · exact .inl (k.keep _ _ h (.inr ⟨p, fun z => z⟩))
  · exact .inr ⟨o, k.keep _ _ h (.inl trivial)⟩
theorem Kp.sqt (k : Kp P P' H H') {a : Addr} {xs : List V} (h : SqT K H a xs) : SqT K H' a xs := by
  rcases h with h | h
  · rcases h with h | ⟨o, h⟩
    · exact .inl (.inl (k.keep _ _ h (.inl trivial)))
    · exact .inl (.inr ⟨o, k.keep _ _ h (.inl trivial)⟩)
  · exact .inr h
theorem Kp.fzl (k : Kp P P' H H') {a : Addr} {xs : List V} (h : FzL P H a xs) : FzL P' H' a xs := ⟨k.pin _ h.1, k.keep _ _ h.2 (.inr ⟨h.1, fun z => z⟩)⟩
theorem Kp.fzs (k : Kp P P' H H') {a : Addr} {xs : List V} (h : FzS K P H a xs) : FzS K P' H' a xs := by
  rcases h with ⟨p, h⟩ | h
  · exact .inl ⟨k.pin _ p, k.rdL p h⟩
  · exact .inr h
theorem Kp.dic (k : Kp P P' H H') {a : Addr} {ks : List W} {vs : List V} (p : P a) (h : DicAt H a ks vs) : DicAt H' a ks vs := by
  cases h with
  | k n h => exact .k n (k.rdK p h)
  | t n h => exact .t n (k.keep _ _ h (.inr ⟨p, fun z => z⟩))
theorem Kp.slAt (k : Kp P P' H H') {a C dx : Addr} {vs : List (Option V)} (pa : P a) (pd : P dx) (h : L2.SlAt H a C dx vs) : L2.SlAt H' a C dx vs := by
  obtain ⟨h1, h2, h3⟩ := h
  refine ⟨k.keep _ _ h1 (.inr ⟨pd, fun z => z⟩), h2, ?_⟩
  rcases h3 with h3 | ⟨e, h3⟩
  · exact .inl (k.keep _ _ h3 (.inr ⟨pa, fun z => z⟩))
  · exact .inr ⟨e, k.keep _ _ h3 (.inr ⟨pa, fun z => z⟩)⟩
mutual
theorem Rep.mono (k : Kp P P' H H') : ∀ (w : W) (v : V), Rep T K P H w v → Rep T K P' H' w v
  | .non, _, h => h
  | .bl _, _, h => h
  | .int _, _, h => h
  | .str _, _, h => h
  | .tup ws, v, h => by
    unfold Rep at h ⊢
    obtain ⟨a, vs, e, q, r⟩ := h
    exact ⟨a, vs, e, k.sqt q, Reps.mono k ws vs r⟩
  | .lst ws, v, h => by
    unfold Rep at h ⊢
    obtain ⟨a, vs, e, q, r⟩ := h
    exact ⟨a, vs, e, k.fzl q, Reps.mono k ws vs r⟩
  | .dic ks ws, v, h => by
    unfold Rep at h ⊢
    obtain ⟨a, vs, e, p, q, r⟩ := h
    exact ⟨a, vs, e, k.pin _ p, k.dic p q, Reps.mono k ws vs r⟩
  | .scr ws, v, h => by
    unfold Rep at h ⊢
    obtain ⟨a, vs, e, q, r⟩ := h
    exact ⟨a, vs, e, k.fzs q, Reps.mono k ws vs r⟩
  | .fn _, _, h => h
  | .cl _, _, h => h
  | .ty _, _, h => h
  | .ins _ ws, v, h => by
    unfold Rep at h ⊢
    obtain ⟨a, C, dx, vs, e, t, pa, pd, q, r⟩ := h
    exact ⟨a, C, dx, vs, e, t, k.pin _ pa, k.pin _ pd, k.slAt pa pd q, Reps.mono k ws vs r⟩
theorem Reps.mono (k : Kp P P' H H') : ∀ (ws : List W) (vs : List V), Reps T K P H ws vs → Reps T K P' H' ws vs
  | [], _, h => h
  | w :: ws, vs, h => by
    unfold Reps at h ⊢
    obtain ⟨v, r, e, h1, h2⟩ := h
    exact ⟨v, r, e, Rep.mono k w v h1, Reps.mono k ws r h2⟩
end
theorem Reps.length : ∀ {ws : List W} {vs : List V}, Reps T K P H ws vs → ws.length = vs.length
  | [], _, h => by unfold Reps at h; subst h; rfl
  | w :: ws, vs, h => by
    unfold Reps at h
    obtain ⟨v, r, e, _, h2⟩ := h
    subst e
    simp [Reps.length h2]
theorem Reps.nil : Reps T K P H [] [] := by unfold Reps; rfl
theorem Reps.cons {w : W} {ws : List W} {v : V} {vs : List V} (h : Rep T K P H w v) (h2 : Reps T K P H ws vs) : Reps T K P H (w :: ws) (v :: vs) := by
  unfold Reps; exact ⟨v, vs, rfl, h, h2⟩
theorem Reps.get : ∀ {ws : List W} {vs : List V} {i : Nat} {w : W}, Reps T K P H ws vs → ws[i]? = some w → ∃ v, vs[i]? = some v ∧ Rep T K P H w v
  | [], _, _, _, _, e => by simp at e
  | w :: ws, vs, i, w', h, e => by
    unfold Reps at h
    obtain ⟨v, r, e1, h1, h2⟩ := h
    subst e1
    cases i with
    | zero => simp at e; subst e; exact ⟨v, rfl, h1⟩
    | succ i =>
      obtain ⟨u, e2, q⟩ := Reps.get (i := i) h2 (by simpa using e)
      exact ⟨u, by simpa using e2, q⟩
theorem Reps.app : ∀ {ws us : List W} {vs xs : List V}, Reps T K P H ws vs → Reps T K P H us xs → Reps T K P H (ws ++ us) (vs ++ xs)
  | [], _, _, _, h, h2 => by unfold Reps at h; subst h; exact h2
  | w :: ws, us, vs, xs, h, h2 => by
    unfold Reps at h
    obtain ⟨v, r, e1, h1, h3⟩ := h
    subst e1
    exact Reps.cons h1 (Reps.app h3 h2)
theorem Reps.set : ∀ {ws : List W} {vs : List V} {i : Nat} {w : W} {v : V}, Reps T K P H ws vs → Rep T K P H w v → Reps T K P H (ws.set i w) (vs.set i v)
  | [], vs, _, _, _, h, _ => by unfold Reps at h; subst h; simpa using Reps.nil
  | w :: ws, vs, i, w', v', h, q => by
    unfold Reps at h
    obtain ⟨v, r, e1, h1, h3⟩ := h
    subst e1
    cases i with
    | zero => exact Reps.cons q h3
    | succ i => exact Reps.cons h1 (Reps.set h3 q)
theorem Reps.take : ∀ {ws : List W} {vs : List V} (n : Nat), Reps T K P H ws vs → Reps T K P H (ws.take n) (vs.take n)
  | _, _, 0, _ => by simpa using Reps.nil
  | [], vs, n + 1, h => by unfold Reps at h; subst h; simpa using Reps.nil
  | w :: ws, vs, n + 1, h => by
    unfold Reps at h
    obtain ⟨v, r, e1, h1, h3⟩ := h
    subst e1
    exact Reps.cons h1 (Reps.take n h3)
theorem Reps.drop : ∀ {ws : List W} {vs : List V} (n : Nat), Reps T K P H ws vs → Reps T K P H (ws.drop n) (vs.drop n)
  | _, _, 0, h => h
  | [], vs, n + 1, h => by unfold Reps at h; subst h; simpa using Reps.nil
  | w :: ws, vs, n + 1, h => by
    unfold Reps at h
    obtain ⟨v, r, e1, h1, h3⟩ := h
    subst e1
    exact Reps.drop n h3
theorem Reps.rev {ws : List W} {vs : List V} (h : Reps T K P H ws vs) : Reps T K P H ws.reverse vs.reverse := by
  induction ws generalizing vs with
  | nil => unfold Reps at h; subst h; exact Reps.nil
  | cons w ws ih =>
    unfold Reps at h
    obtain ⟨v, r, e1, h1, h3⟩ := h
    subst e1
    rw [List.reverse_cons, List.reverse_cons]
    exact Reps.app (ih h3) (Reps.cons h1 Reps.nil)
end
end Qs
/-! # The relation between slots as trees and the machine's; readings -/
namespace Qs
open PySem PySem.Spec PyProof.Rows L2
/-- a list or dict of the def's own, by its content -/
def Cell (T : Tab) (K : PySem.W.Frag) (P : Addr → Prop) (H : Hp) : W → Addr → Prop
  | .lst ws, a => ∃ vs, H a = some (.lst vs) ∧ Reps T K P H ws vs
  | .dic ks ws, a => a ≠ sysModules ∧ ∃ vs, ((∃ kvs : List (Key × V), H a = some (.dK kvs) ∧ ks = kvs.map (fun p => kW p.1) ∧ vs = kvs.map (·.2)) ∨
      (∃ kvs : List (List Key × V), H a = some (.dT kvs) ∧ ks = kvs.map (fun p => W.tup (p.1.map kW)) ∧ vs = kvs.map (·.2))) ∧ Reps T K P H ws vs
  | _, _ => False
/-- the static part of a context -/
structure Cst where
  T : Tab
  K : PySem.W.Frag
  tbs : List (Addr × Str)
  fld : Nat → Str := fun _ => ""
  ex : Nat → Nat → Bool := fun _ _ => false
section
variable (c : Cst)
/-- the addresses that the def's own lists and dicts stand at -/
def Own (s : S) (σ : L2.St) (a : Addr) : Prop := ∃ (i : Nat) (p : Bool) (w : W), s[i]? = some (Sl.own p w) ∧ σ[i]? = some (some (V.ref a))
structure Rel (P : Addr → Prop) (s : S) (σ : L2.St) (H : Hp) : Prop where
  len : s.length = σ.length
  fro : ∀ (i : Nat) (w : W), s[i]? = some (Sl.fro w) → ∃ v : V, σ[i]? = some (some v) ∧ Rep c.T c.K P H w v
  own : ∀ (i : Nat) (p : Bool) (w : W), s[i]? = some (Sl.own p w) → ∃ a, σ[i]? = some (some (V.ref a)) ∧ ¬ P a ∧ Cell c.T c.K P H w a
  inj : ∀ (i j : Nat) (p q : Bool) (u w : W) (a : Addr), s[i]? = some (Sl.own p u) → s[j]? = some (Sl.own q w) → σ[i]? = some (some (V.ref a)) → σ[j]? = some (some (V.ref a)) → i = j
  tbs : LamX.Tabs c.tbs H
  dom : ∀ a, P a → H a ≠ none
/-- from a state to a later one of the same def -/
structure Stp (P : Addr → Prop) (s : S) (σ : L2.St) (H : Hp) (P' : Addr → Prop) (s' : S) (σ' : L2.St) (H' : Hp) : Prop where
  keep : ∀ a o, H a = some o → ¬ Own s σ a → ¬ Tbl o → H' a = some o
  there : ∀ a, H a ≠ none → H' a ≠ none
  pin : ∀ a, P a → P' a
  new : ∀ a, P' a → P a ∨ H a = none ∨ Own s σ a
  own : ∀ a, Own s' σ' a → Own s σ a ∨ H a = none
  par : ∀ (i : Nat) (w' : W), s'[i]? = some (Sl.own true w') → (∃ w, s[i]? = some (Sl.own true w)) ∧ σ'[i]? = σ[i]?
/-- .. the slots at the machine as they were -/
structure StE (P : Addr → Prop) (s : S) (σ : L2.St) (H : Hp) (P' : Addr → Prop) (s' : S) (H' : Hp) : Prop extends Stp P s σ H P' s' σ H' where
  sl : ∀ i : Nat, s'[i]? = s[i]? ∨ ∃ (p : Bool) (w : W), s[i]? = some (Sl.own p w) ∧ ∃ w' : W, s'[i]? = some (Sl.own p w') ∨ s'[i]? = some (Sl.fro w')
/-- what an expression's value is, in the state that it leaves; H₀: where it began -/
def RvR (P : Addr → Prop) (s : S) (σ : L2.St) (H₀ H : Hp) : R → V → Prop
  | .fro w, v => Rep c.T c.K P H w v
  | .new w, v => ∃ a, v = .ref a ∧ ¬ P a ∧ ¬ Own s σ a ∧ H₀ a = none ∧ Cell c.T c.K P H w a
  | .bor i, v => σ[i]? = some (some v) ∧ ∃ w, (s[i]?.bind slW) = some w
/-- a value as it can be read now -/
def View (P : Addr → Prop) (H : Hp) : W → V → Prop
  | .lst ws, v => ∃ a vs, v = .ref a ∧ H a = some (.lst vs) ∧ Reps c.T c.K P H ws vs
  | .dic ks ws, v => ∃ a vs, v = .ref a ∧ DicAt H a ks vs ∧ Reps c.T c.K P H ws vs
  | w, v => Rep c.T c.K P H w v
/-- an exception -/
def XRel (P : Addr → Prop) (H : Hp) (x : Ex) (cls : Value) (d : Option Addr) : Prop :=
  (∃ C, c.T.cl x.cls = some C ∧ cls = .ref C) ∧
  match x.arg with
  | none => True
  | some w => ∃ dd v, d = some dd ∧ H dd = some (.xd [(c.fld x.cls, v)]) ∧ Rep c.T c.K P H w v
/-- behind an exception -/
structure Sxc (P : Addr → Prop) (s : S) (σ : L2.St) (H : Hp) (P' : Addr → Prop) (H' : Hp) : Prop where
  keep : ∀ a o, H a = some o → ¬ Own s σ a → ¬ Tbl o → H' a = some o
  pin : ∀ a, P a → P' a
  new : ∀ a, P' a → P a ∨ H a = none ∨ Own s σ a
  tbs : LamX.Tabs c.tbs H'
  dom : ∀ a, P' a → H' a ≠ none
  there : ∀ a, H a ≠ none → H' a ≠ none
def PostX (Wx : WX) (P : Addr → Prop) (s : S) (σ : L2.St) (H : Hp) (x : Ex) : Prop := ∀ cls d P' H', Sxc c P s σ H P' H' → XRel c P' H' x cls d → Wx cls d σ H'
/-- what follows an expression's result, from the state (P, s, H) at which the expression began -/
def Out (Wx : WX) (σ : L2.St) (P : Addr → Prop) (s : S) (H : Hp) (Q : VK) : Res (R × S) → Prop
  | .ok (r, s') => ∀ v P' H', StE P s σ H P' s' H' → Rel c P' s' σ H' → RvR c P' s' σ H H' r v → Q v H'
  | .exc x => PostX c Wx P s σ H x
  | .bad => False
/-- the reading of an expression that f tells -/
def rd (Wx : WX) (f : SE) : TE := fun σ H Q => ∃ P s, Rel c P s σ H ∧ Out c Wx σ P s H Q (f s)
end
section
variable {c : Cst} {P P' P'' : Addr → Prop} {s s' s'' : S} {σ σ' σ'' : L2.St} {H H' H'' : Hp}
theorem Own.get {a : Addr} {i : Nat} {p : Bool} {w : W} (e : s[i]? = some (Sl.own p w)) (e2 : σ[i]? = some (some (V.ref a))) : Own s σ a := ⟨i, p, w, e, e2⟩
theorem Cell.ex {T : Tab} {K : PySem.W.Frag} {w : W} {a : Addr} (h : Cell T K P H w a) : ∃ o, H a = some o ∧ ¬ Tbl o ∧ ¬ Imm o := by
  cases w with
  | lst ws => obtain ⟨vs, e, _⟩ := h; exact ⟨_, e, fun z => z, fun z => z⟩
  | dic ks ws =>
    obtain ⟨_, vs, h, _⟩ := h
    rcases h with ⟨kvs, e, _⟩ | ⟨kvs, e, _⟩
    · exact ⟨_, e, fun z => z, fun z => z⟩
    · exact ⟨_, e, fun z => z, fun z => z⟩
  | _ => exact h.elim
theorem Cell.mono {T : Tab} {K : PySem.W.Frag} (k : Kp P P' H H') {w : W} {a : Addr} (h : Cell T K P H w a) (e : ∀ o, H a = some o → ¬ Tbl o → H' a = some o) : Cell T K P' H' w a := by
  cases w with
  | lst ws => obtain ⟨vs, q, r⟩ := h; exact ⟨vs, e _ q (fun z => z), Reps.mono k _ _ r⟩
  | dic ks ws =>
    obtain ⟨ns, vs, h, r⟩ := h
    rcases h with ⟨kvs, q, z⟩ | ⟨kvs, q, z⟩
    · exact ⟨ns, vs, .inl ⟨kvs, e _ q (fun z => z), z⟩, Reps.mono k _ _ r⟩
    · exact ⟨ns, vs, .inr ⟨kvs, e _ q (fun z => z), z⟩, Reps.mono k _ _ r⟩
  | _ => exact h.elim
theorem Rel.ownP (R : Rel c P s σ H) {a : Addr} (h : Own s σ a) : ¬ P a ∧ ∃ w, Cell c.T c.K P H w a := by
  obtain ⟨i, p, w, e, e2⟩ := h
  obtain ⟨b, e3, n, z⟩ := R.own i p w e
  rw [e2] at e3
  cases e3
  exact ⟨n, w, z⟩
theorem Stp.kp (R : Rel c P s σ H) (t : Stp P s σ H P' s' σ' H') : Kp P P' H H' where
  pin := t.pin
  keep := fun a o e h => by
    refine t.keep a o e (fun z => ?_) ?_
    · obtain ⟨n, w, q⟩ := R.ownP z
      obtain ⟨o', e', _, ni⟩ := Cell.ex q
      rw [e] at e'; cases e'
      rcases h with h | h
      · exact ni h
      · exact n h.1
    · rcases h with h | h
      · cases o <;> first | exact h.elim | exact fun z => z
      · exact h.2
theorem Stp.refl : Stp P s σ H P s σ H := ⟨fun _ _ e _ _ => e, fun _ e => e, fun _ e => e, fun _ e => .inl e, fun _ e => .inl e, fun i w e => ⟨⟨w, e⟩, rfl⟩⟩
theorem StE.refl : StE P s σ H P s H := ⟨Stp.refl, fun _ => .inl rfl⟩
theorem Stp.trans (t : Stp P s σ H P' s' σ' H') (u : Stp P' s' σ' H' P'' s'' σ'' H'') : Stp P s σ H P'' s'' σ'' H'' where
  keep := fun a o e n nt => by
    refine u.keep a o (t.keep a o e n nt) (fun z => ?_) nt
    rcases t.own a z with z | z
    · exact n z
    · rw [z] at e; cases e
  there := fun a e => u.there a (t.there a e)
  pin := fun a e => u.pin a (t.pin a e)
  new := fun a e => by
    rcases u.new a e with z | z | z
    · exact t.new a z
    · by_cases q : H a = none
      · exact .inr (.inl q)
      · exact absurd z (t.there a q)
    · rcases t.own a z with z | z
      · exact .inr (.inr z)
      · exact .inr (.inl z)
  own := fun a e => by
    rcases u.own a e with z | z
    · exact t.own a z
    · by_cases q : H a = none
      · exact .inr q
      · exact absurd z (t.there a q)
  par := fun i w e => by
    obtain ⟨⟨w1, e1⟩, q1⟩ := u.par i w e
    obtain ⟨⟨w2, e2⟩, q2⟩ := t.par i w1 e1
    exact ⟨⟨w2, e2⟩, q1.trans q2⟩
theorem StE.trans (t : StE P s σ H P' s' H') (u : StE P' s' σ H' P'' s'' H'') : StE P s σ H P'' s'' H'' := ⟨t.toStp.trans u.toStp, fun i => by
  rcases u.sl i with e | ⟨p, w, e, w', e'⟩
  · rcases t.sl i with e2 | ⟨p, w, e2, w', e3⟩
    · exact .inl (e.trans e2)
    · exact .inr ⟨p, w, e2, w', by rw [e]; exact e3⟩
  · rcases t.sl i with e2 | ⟨p2, w2, e2, w3, e3⟩
    · exact .inr ⟨p, w, by rw [← e2]; exact e, w', e'⟩
    · rcases e3 with e3 | e3
      · rw [e] at e3; cases e3
        exact .inr ⟨p, w2, e2, w', e'⟩
      · rw [e] at e3; cases e3⟩
theorem Sxc.of (t : Stp P s σ H P' s' σ H') (R : Rel c P' s' σ H') {Wx : WX} {x : Ex} (h : PostX c Wx P s σ H x) : PostX c Wx P' s' σ H' x := fun cls d P2 H2 u xr => by
  refine h cls d P2 H2 ⟨fun a o e n nt => ?_, fun a e => u.pin a (t.pin a e), fun a e => ?_, u.tbs, u.dom, fun a e => u.there a (t.there a e)⟩ xr
  · refine u.keep a o (t.keep a o e n nt) (fun z => ?_) nt
    rcases t.own a z with z | z
    · exact n z
    · rw [z] at e; cases e
  · rcases u.new a e with z | z | z
    · exact t.new a z
    · by_cases q : H a = none
      · exact .inr (.inl q)
      · exact absurd z (t.there a q)
    · rcases t.own a z with z | z
      · exact .inr (.inr z)
      · exact .inr (.inl z)
/-- a value carried over a later expression -/
theorem RvR.over {H₀ : Hp} {r : R} {v : V} (R : Rel c P s σ H) (h : RvR c P s σ H₀ H r v) (t : StE P s σ H P' s' H') : RvR c P' s' σ H₀ H' r v := by
  cases r with
  | fro w => exact Rep.mono (Stp.kp R t.toStp) _ _ h
  | new w =>
    obtain ⟨a, e, n, no, hn, q⟩ := h
    obtain ⟨o, eo, nt, _⟩ := Cell.ex q
    have ha : H a ≠ none := by rw [eo]; exact fun z => nomatch z
    refine ⟨a, e, fun z => ?_, fun z => ?_, hn, Cell.mono (Stp.kp R t.toStp) q fun o e nt => t.keep a o e no nt⟩
    · rcases t.new a z with z | z | z
      · exact n z
      · exact ha z
      · exact no z
    · rcases t.own a z with z | z
      · exact no z
      · exact ha z
  | bor i =>
    obtain ⟨e, w, q⟩ := h
    refine ⟨e, ?_⟩
    rcases t.sl i with z | ⟨p, w, _, w', z | z⟩
    · exact ⟨w, by rw [z]; exact q⟩
    · exact ⟨w', by rw [z]; rfl⟩
    · exact ⟨w', by rw [z]; rfl⟩
theorem Rep.view {w : W} {v : V} (h : Rep c.T c.K P H w v) : View c P H w v := by
  cases w with
  | lst ws =>
    unfold Rep at h
    obtain ⟨a, vs, e, q, r⟩ := h
    exact ⟨a, vs, e, q.2, r⟩
  | dic ks ws =>
    unfold Rep at h
    obtain ⟨a, vs, e, _, q, r⟩ := h
    exact ⟨a, vs, e, q, r⟩
  | _ => exact h
theorem Cell.view {w : W} {a : Addr} (h : Cell c.T c.K P H w a) : View c P H w (.ref a) := by
  cases w with
  | lst ws =>
    obtain ⟨vs, q, r⟩ := h
    exact ⟨a, vs, rfl, q, r⟩
  | dic ks ws =>
    obtain ⟨ns, vs, h, r⟩ := h
    rcases h with ⟨kvs, q, rfl, rfl⟩ | ⟨kvs, q, rfl, rfl⟩
    · exact ⟨a, _, rfl, .k ns (.inl q), r⟩
    · exact ⟨a, _, rfl, .t ns q, r⟩
  | _ => exact h.elim
theorem RvR.view {H₀ : Hp} {r : R} {v : V} {w : W} (R : Rel c P s σ H) (h : RvR c P s σ H₀ H r v) (e : val s r = some w) : View c P H w v := by
  cases r with
  | fro w' => cases e; exact Rep.view h
  | new w' =>
    cases e
    obtain ⟨a, e, _, _, _, q⟩ := h
    subst e
    exact Cell.view q
  | bor i =>
    obtain ⟨h1, _⟩ := h
    have e : s[i]?.bind slW = some w := e
    cases q : s[i]? with
    | none => rw [q] at e; cases e
    | some x =>
      rw [q] at e
      cases x with
      | un => cases e
      | fro w' =>
        cases e
        obtain ⟨v', e1, r⟩ := R.fro i _ q
        rw [h1] at e1; cases e1
        exact Rep.view r
      | own p w' =>
        cases e
        obtain ⟨a, e1, _, z⟩ := R.own i p _ q
        rw [h1] at e1; cases e1
        exact Cell.view z
end
end Qs
/-! # Readings put together; new objects -/
namespace Qs
open PySem PySem.Spec PyProof.Rows L2
section
variable {c : Cst} {P P' P'' P0 : Addr → Prop} {s s' s'' s0 : S} {σ σ' σ'' : L2.St} {H H' H'' H0 : Hp} {Wx : WX} {Q : VK}
theorem StE.there' (t : StE P s σ H P' s' H') {a : Addr} (h : H' a = none) : H a = none := by
  cases e : H a with
  | none => rfl
  | some o => exact absurd h (t.there a (by rw [e]; exact fun z => nomatch z))
theorem RvR.start {r : R} {v : V} (t : StE P0 s0 σ H0 P s H) (h : RvR c P' s' σ H H' r v) : RvR c P' s' σ H0 H' r v := by
  cases r with
  | fro w => exact h
  | new w =>
    obtain ⟨a, e, n, no, hn, q⟩ := h
    exact ⟨a, e, n, no, t.there' hn, q⟩
  | bor i => exact h
theorem Out.at_ {res : Res (R × S)} (h : Out c Wx σ P0 s0 H0 Q res) (t : StE P0 s0 σ H0 P s H) (R : Rel c P s σ H) : Out c Wx σ P s H Q res := by
  cases res with
  | ok p =>
    obtain ⟨r, s'⟩ := p
    exact fun v P' H' t' R' rv => h v P' H' (t.trans t') R' (rv.start t)
  | exc x => exact Sxc.of t.toStp R h
  | bad => exact h
theorem Out.imp {Q' : VK} {res : Res (R × S)} (h : Out c Wx σ P s H Q res) (k : ∀ v H', Q v H' → Q' v H') : Out c Wx σ P s H Q' res := by
  cases res with
  | ok p => obtain ⟨r, s'⟩ := p; exact fun v P' H' t' R' rv => k _ _ (h v P' H' t' R' rv)
  | exc x => exact h
  | bad => exact h
/-- a later state of the def at which nothing but new objects came -/
theorem Rel.more (R : Rel c P s σ H) (k : ∀ b o, H b = some o → H' b = some o) : Rel c P s σ H' where
  len := R.len
  fro := fun i w e => by
    obtain ⟨v, e2, r⟩ := R.fro i w e
    exact ⟨v, e2, Rep.mono ⟨fun _ h => h, fun a o q _ => k a o q⟩ _ _ r⟩
  own := fun i p w e => by
    obtain ⟨a, e2, n, r⟩ := R.own i p w e
    exact ⟨a, e2, n, Cell.mono ⟨fun _ h => h, fun a o q _ => k a o q⟩ r fun o q _ => k a o q⟩
  inj := R.inj
  tbs := R.tbs.ext k
  dom := fun a h => by
    have z := R.dom a h
    cases e : H a with
    | none => exact absurd e z
    | some o => rw [k _ _ e]; exact fun z => nomatch z
theorem Stp.more (k : ∀ b o, H b = some o → H' b = some o) : StE P s σ H P s H' where
  keep := fun a o e _ _ => k a o e
  there := fun a e => by
    cases q : H a with
    | none => exact absurd q e
    | some o => rw [k _ _ q]; exact fun z => nomatch z
  pin := fun a h => h
  new := fun a h => .inl h
  own := fun a h => .inl h
  par := fun i w e => ⟨⟨w, e⟩, rfl⟩
  sl := fun i => .inl rfl
theorem keep_upd {p : Addr} {o : HO} (h : H p = none) : ∀ b u, H b = some u → upd H p o b = some u := fun b u e => by
  rw [upd_ne (ne_of_none e h)]; exact e
/-- a new tuple -/
theorem new_tup {p : Addr} {vs : List V} {ws : List W} (R : Rel c P s σ H) (hp : H p = none) (r : Reps c.T c.K P H ws vs) :
    StE P s σ H P s (upd H p (.tup vs)) ∧ Rel c P s σ (upd H p (.tup vs)) ∧ RvR c P s σ H (upd H p (.tup vs)) (.fro (.tup ws)) (.ref p) := by
  refine ⟨Stp.more (keep_upd hp), R.more (keep_upd hp), ?_⟩
  show Rep c.T c.K P _ (.tup ws) (.ref p)
  unfold Rep
  exact ⟨p, vs, rfl, .of upd_same, Reps.mono ⟨fun _ h => h, fun a o q _ => keep_upd hp a o q⟩ _ _ r⟩
/-- a new list -/
theorem new_lst {p : Addr} {vs : List V} {ws : List W} (R : Rel c P s σ H) (hp : H p = none) (r : Reps c.T c.K P H ws vs) :
    StE P s σ H P s (upd H p (.lst vs)) ∧ Rel c P s σ (upd H p (.lst vs)) ∧ RvR c P s σ H (upd H p (.lst vs)) (.new (.lst ws)) (.ref p) := by
  refine ⟨Stp.more (keep_upd hp), R.more (keep_upd hp), p, rfl, fun z => absurd hp (R.dom p z), fun z => ?_, hp, vs, upd_same, Reps.mono ⟨fun _ h => h, fun a o q _ => keep_upd hp a o q⟩ _ _ r⟩
  obtain ⟨_, w, q⟩ := R.ownP z
  obtain ⟨o, e, _⟩ := Cell.ex q
  rw [hp] at e; cases e
/-- a value that is no object -/
theorem Out.flat {w : W} {v : V} (R : Rel c P s σ H) (h : Out c Wx σ P s H Q (.ok (.fro w, s))) (r : Rep c.T c.K P H w v) : Q v H := h v P H StE.refl R r
theorem Out.tup {vs : List V} {ws : List W} (R : Rel c P s σ H) (h : Out c Wx σ P s H Q (.ok (.fro (.tup ws), s))) (r : Reps c.T c.K P H ws vs) : ∀ p, H p = none → Q (.ref p) (upd H p (.tup vs)) := fun p hp => by
  obtain ⟨h1, h2, h3⟩ := new_tup R hp r
  exact h _ _ _ h1 h2 h3
theorem Out.lst {vs : List V} {ws : List W} (R : Rel c P s σ H) (h : Out c Wx σ P s H Q (.ok (.new (.lst ws), s))) (r : Reps c.T c.K P H ws vs) : ∀ p, H p = none → Q (.ref p) (upd H p (.lst vs)) := fun p hp => by
  obtain ⟨h1, h2, h3⟩ := new_lst R hp r
  exact h _ _ _ h1 h2 h3
/-! ### one, two expressions in a row -/
def bind1 (fa : SE) (k : R → SE) : SE := fun s => (fa s).bind fun p => k p.1 p.2
theorem rd_one {fa : SE} {k : R → SE} {Z : V → Hp → Prop} (h : rd c Wx (bind1 fa k) σ H Q)
    (hz : ∀ P s r x H1, Rel c P s σ H1 → RvR c P s σ H H1 r x → Out c Wx σ P s H1 Q (k r s) → Z x H1) : rd c Wx fa σ H Z := by
  obtain ⟨P, s, R, h⟩ := h
  refine ⟨P, s, R, ?_⟩
  unfold bind1 at h
  cases e : fa s with
  | ok p =>
    obtain ⟨r, s1⟩ := p
    rw [e] at h
    exact fun v P1 H1 t1 R1 rv => hz P1 s1 r v H1 R1 rv (Out.at_ h t1 R1)
  | exc x => rw [e] at h; exact h
  | bad => rw [e] at h; exact h
def bind2 (fa fb : SE) (k : R → R → SE) : SE := bind1 fa fun ra => bind1 fb fun rb => k ra rb
theorem rd_two {fa fb : SE} {k : R → R → SE} {Z : V → V → Hp → Prop} (h : rd c Wx (bind2 fa fb k) σ H Q)
    (hz : ∀ P s ra rb x y H2, Rel c P s σ H2 → RvR c P s σ H H2 ra x → RvR c P s σ H H2 rb y → Out c Wx σ P s H2 Q (k ra rb s) → Z x y H2) :
    rd c Wx fa σ H fun x H1 => rd c Wx fb σ H1 fun y H2 => Z x y H2 := by
  obtain ⟨P, s, R, h⟩ := h
  refine ⟨P, s, R, ?_⟩
  unfold bind2 bind1 at h
  cases e : fa s with
  | ok p =>
    obtain ⟨ra, s1⟩ := p
    rw [e] at h
    intro x P1 H1 t1 R1 rx
    have h1 := Out.at_ h t1 R1
    refine ⟨P1, s1, R1, ?_⟩
    dsimp only [Res.bind_ok] at h1
    cases e2 : fb s1 with
    | ok q =>
      obtain ⟨rb, s2⟩ := q
      rw [e2] at h1
      exact fun y P2 H2 t2 R2 ry => hz P2 s2 ra rb x y H2 R2 (rx.over R1 t2) (ry.start t1) (Out.at_ h1 t2 R2)
    | exc x => rw [e2] at h1; exact h1
    | bad => rw [e2] at h1; exact h1
  | exc x => rw [e] at h; exact h
  | bad => rw [e] at h; exact h
/-- by the values as they stand -/
def onW (g : W → Option R) (r : R) : SE := fun s => match val s r with
  | some w => (ofO (g w)).bind fun z => .ok (z, s)
  | none => .bad
def onW2 (g : W → W → Option R) (ra rb : R) : SE := fun s => match val s ra, val s rb with
  | some u, some w => (ofO (g u w)).bind fun z => .ok (z, s)
  | _, _ => .bad
theorem Out.onW {g : W → Option R} {r : R} {H1 : Hp} {x : V} (R : Rel c P s σ H1) (rx : RvR c P s σ H H1 r x) (h : Out c Wx σ P s H1 Q (Qs.onW g r s)) :
    ∃ u z, g u = some z ∧ View c P H1 u x ∧ Out c Wx σ P s H1 Q (.ok (z, s)) := by
  unfold Qs.onW at h
  cases e : val s r with
  | none => rw [e] at h; exact h.elim
  | some u =>
    rw [e] at h
    cases q : g u with
    | none => simp only [q, ofO_none, Res.bind_bad] at h; exact h.elim
    | some z => simp only [q, ofO_some, Res.bind_ok] at h; exact ⟨u, z, q, rx.view R e, h⟩
theorem Out.onW2 {g : W → W → Option R} {ra rb : R} {H1 Ha Hb : Hp} {x y : V} (R : Rel c P s σ H1) (rx : RvR c P s σ Ha H1 ra x) (ry : RvR c P s σ Hb H1 rb y) (h : Out c Wx σ P s H1 Q (Qs.onW2 g ra rb s)) :
    ∃ u w z, g u w = some z ∧ View c P H1 u x ∧ View c P H1 w y ∧ Out c Wx σ P s H1 Q (.ok (z, s)) := by
  unfold Qs.onW2 at h
  cases e : val s ra with
  | none => rw [e] at h; exact h.elim
  | some u =>
    cases e2 : val s rb with
    | none => rw [e, e2] at h; exact h.elim
    | some w =>
      rw [e, e2] at h
      cases q : g u w with
      | none => simp only [q, ofO_none, Res.bind_bad] at h; exact h.elim
      | some z => simp only [q, ofO_some, Res.bind_ok] at h; exact ⟨u, w, z, q, rx.view R e, ry.view R e2, h⟩
end
/-! ### judgements by readings -/
section
variable {X : Cx} {e : Expr}
theorem pe_imp {t t' : TE} (h : PE X e t) (k : ∀ σ H Q, t' σ H Q → t σ H Q) : PE X e t' := ⟨fun pins s σ H Q I hq => h.run pins s σ H Q I (k σ H Q hq)⟩
theorem pt_imp {t t' : TT} (h : PT X e t) (k : ∀ σ H Q, t' σ H Q → t σ H Q) : PT X e t' := ⟨fun pins s σ H Q I hq => h.run pins s σ H Q I (k σ H Q hq)⟩
theorem pw_imp {t t' : TT} (h : PW X e t) (k : ∀ σ H Q, t' σ H Q → t σ H Q) : PW X e t' := ⟨fun wh pins s σ H Q I hq => h.run wh pins s σ H Q I (k σ H Q hq)⟩
theorem ps_imp {st : Stmt} {t t' : TS} (h : PS X st t) (k : ∀ D σ H, t' D σ H → t D σ H) : PS X st t' := ⟨fun pins s σ H D I hq => h.run pins s σ H D I (k D σ H hq)⟩
theorem pss_imp {st : List Stmt} {t t' : TS} (h : PSs X st t) (k : ∀ D σ H, t' D σ H → t D σ H) : PSs X st t' := ⟨fun pins s σ H D I hq => h.run pins s σ H D I (k D σ H hq)⟩
theorem op_imp {f : Value → Value → Sem Value} {r r' : R2} (h : OpR X f r) (k : ∀ x y H Q, r' x y H Q → r x y H Q) : OpR X f r' := fun pins s σ H x y v u Q I rx ry hq => h pins s σ H x y v u Q I rx ry (k _ _ _ _ hq)
end
end Qs
/-! # Names, constants, operators, comparisons, subscripts, slices -/
namespace Qs
open PySem PySem.Spec PyProof.Rows L2
def lim : Nat := 16777216
theorem lim_eq : sizeLine = lim := sizeLine_eq
/-- a text of codes -/
abbrev mkS (s : List Nat) : Str := ⟨s.toArray⟩
theorem mkS_len (s : List Nat) : (mkS s).length = s.length := by simp [Str.length]
theorem mkS_app (a b : List Nat) : mkS a ++ mkS b = mkS (a ++ b) := by
  show (⟨a.toArray ++ b.toArray⟩ : Str) = ⟨(a ++ b).toArray⟩
  simp
/-- int arithmetic with its limits -/
def mulOk (i j : Int) : Bool := decide (i.natAbs.log2 + j.natAbs.log2 < 1000000)
def divOk (j : Int) : Bool := decide (0 < j) && decide (j.natAbs.log2 < 9000)
def powOk (i j : Int) : Bool := decide (0 ≤ j) && decide (j ≤ 1000000) && decide (i.natAbs < 18446744073709551616)
def repOk (n : Nat) (k : Int) : Bool := decide (-9223372036854775808 ≤ k) && decide (k < 9223372036854775808) && decide (n * k.toNat ≤ lim)
def guard' {α : Type} (b : Bool) (x : α) : Option α := if b then some x else none
@[simp] theorem guard'_true {α : Type} (x : α) : guard' true x = some x := rfl
theorem guard'_some {α : Type} {b : Bool} {x y : α} (h : guard' b x = some y) : b = true ∧ x = y := by
  unfold guard' at h
  split at h
  · rename_i q; exact ⟨q, Option.some.inj h⟩
  · cases h
def addW : W → W → Option R
  | .int i, .int j => some (.fro (.int (i + j)))
  | .str a, .str b => guard' (decide (a.length + b.length ≤ lim)) (.fro (.str (a ++ b)))
  | .lst a, .lst b => guard' (decide (a.length + b.length ≤ lim)) (.new (.lst (a ++ b)))
  | .tup a, .tup b => guard' (decide (a.length + b.length ≤ lim)) (.fro (.tup (a ++ b)))
  | _, _ => none
def subW : W → W → Option R
  | .int i, .int j => some (.fro (.int (i - j)))
  | _, _ => none
def mulW : W → W → Option R
  | .int i, .int j => guard' (mulOk i j) (.fro (.int (i * j)))
  | .lst a, .int k => guard' (repOk a.length k) (.new (.lst (List.replicate k.toNat a).flatten))
  | .tup a, .int k => cond (a.isEmpty || decide (k = 1)) (guard' (decide (-1000000 ≤ k) && decide (k ≤ 1000000)) (.fro (.tup a))) (cond (decide (k ≤ 0)) (guard' (decide (-1000000 ≤ k)) (.fro (.tup [])))
    (guard' (!a.isEmpty && decide (2 ≤ k) && decide (k ≤ 1000000) && decide (a.length * k.toNat ≤ 1000000)) (.fro (.tup (List.replicate k.toNat a).flatten))))
  | .str a, .int k => guard' (decide (-1000000 ≤ k) && decide (k ≤ 1000000) && decide (a.length * k.toNat ≤ 1000000)) (.fro (.str (List.replicate k.toNat a).flatten))
  | _, _ => none
def fdivW : W → W → Option R
  | .int i, .int j => guard' (divOk j) (.fro (.int (i / j)))
  | _, _ => none
def modW : W → W → Option R
  | .int i, .int j => guard' (decide (0 < j)) (.fro (.int (i % j)))
  | _, _ => none
def powW : W → W → Option R
  | .int i, .int j => guard' (powOk i j) (.fro (.int (i ^ j.toNat)))
  | _, _ => none
def binW : Operator → W → W → Option R
  | .Add => addW
  | .Sub => subW
  | .Mult => mulW
  | .FloorDiv => fdivW
  | .Mod => modW
  | .Pow => powW
  | _ => fun _ _ => none
/-! ### equality of trees -/
mutual
def eqW : W → W → Bool
  | .non, .non => true
  | .bl a, .bl b => a == b
  | .bl a, .int j => (if a then 1 else 0) == j
  | .int i, .bl b => i == (if b then 1 else 0)
  | .int i, .int j => i == j
  | .str x, .str y => x == y
  | .lst xs, .lst ys => eqWs xs ys
  | .tup xs, .tup ys => eqWs xs ys
  | _, _ => false
def eqWs : List W → List W → Bool
  | [], [] => true
  | x :: xs, y :: ys => eqW x y && eqWs xs ys
  | _, _ => false
end
/-- data of at most so many levels -/
def datW : Nat → W → Bool
  | _, .non => true
  | _, .bl _ => true
  | _, .int _ => true
  | _, .str s => s.all (fun c => decide (c < 1114112))
  | n + 1, .tup xs => xs.all (datW n)
  | n + 1, .lst xs => xs.all (datW n)
  | _, _ => false
mutual
def pd : W → PyData
  | .bl b => .bool b
  | .int i => .int i
  | .str s => .str (mkS s)
  | .lst xs => .list (pds xs)
  | .tup xs => .tuple (pds xs)
  | _ => .none
def pds : List W → List PyData
  | [] => []
  | x :: xs => pd x :: pds xs
end
theorem mkS_eq (x y : List Nat) : (mkS x == mkS y) = (x == y) := by
  by_cases h : x = y
  · subst h; simp
  · have h2 : mkS x ≠ mkS y := fun e => h (by have := congrArg (fun z : Str => z.cps.toList) e; simpa using this)
    rw [beq_eq_false_iff_ne.mpr h, beq_eq_false_iff_ne.mpr h2]
mutual
theorem eqv_pd : ∀ (n m : Nat) (u w : W), datW n u = true → datW m w = true → PyData.eqv (pd u) (pd w) = eqW u w
  | n, m, .tup xs, .tup ys, h, h2 => by
    cases n with
    | zero => cases h
    | succ n =>
      cases m with
      | zero => cases h2
      | succ m => exact eqv_pds n m xs ys h h2
  | n, m, .lst xs, .lst ys, h, h2 => by
    cases n with
    | zero => cases h
    | succ n =>
      cases m with
      | zero => cases h2
      | succ m => exact eqv_pds n m xs ys h h2
  | n, m, .str x, w, h, h2 => by
    cases w <;> first | rfl | (cases m <;> cases h2) | skip
    rename_i y
    show (mkS x == mkS y) = (x == y)
    exact mkS_eq x y
  | n, m, .non, w, h, h2 => by cases w <;> first | rfl | (cases m <;> cases h2)
  | n, m, .bl _, w, h, h2 => by cases w <;> first | rfl | (cases m <;> cases h2)
  | n, m, .int _, w, h, h2 => by cases w <;> first | rfl | (cases m <;> cases h2)
  | n, m, .tup xs, .non, h, h2 => rfl
  | n, m, .tup xs, .bl _, h, h2 => rfl
  | n, m, .tup xs, .int _, h, h2 => rfl
  | n, m, .tup xs, .str _, h, h2 => rfl
  | n, m, .tup xs, .lst _, h, h2 => rfl
  | n, m, .lst xs, .non, h, h2 => rfl
  | n, m, .lst xs, .bl _, h, h2 => rfl
  | n, m, .lst xs, .int _, h, h2 => rfl
  | n, m, .lst xs, .str _, h, h2 => rfl
  | n, m, .lst xs, .tup _, h, h2 => rfl
  | n, m, .dic _ _, w, h, h2 => by cases n <;> cases h
  | n, m, .fn _, w, h, h2 => by cases n <;> cases h
  | n, m, .cl _, w, h, h2 => by cases n <;> cases h
  | n, m, .ty _, w, h, h2 => by cases n <;> cases h
  | n, m, .ins _ _, w, h, h2 => by cases n <;> cases h
  | n, m, .scr _, w, h, h2 => by cases n <;> cases h
  | n, m, .tup _, .dic _ _, h, h2 => by cases m <;> cases h2
  | n, m, .tup _, .fn _, h, h2 => by cases m <;> cases h2
  | n, m, .tup _, .cl _, h, h2 => by cases m <;> cases h2
  | n, m, .tup _, .ty _, h, h2 => by cases m <;> cases h2
  | n, m, .tup _, .ins _ _, h, h2 => by cases m <;> cases h2
  | n, m, .tup _, .scr _, h, h2 => by cases m <;> cases h2
  | n, m, .lst _, .dic _ _, h, h2 => by cases m <;> cases h2
  | n, m, .lst _, .fn _, h, h2 => by cases m <;> cases h2
  | n, m, .lst _, .cl _, h, h2 => by cases m <;> cases h2
  | n, m, .lst _, .ty _, h, h2 => by cases m <;> cases h2
  | n, m, .lst _, .ins _ _, h, h2 => by cases m <;> cases h2
  | n, m, .lst _, .scr _, h, h2 => by cases m <;> cases h2
theorem eqv_pds : ∀ (n m : Nat) (xs ys : List W), xs.all (datW n) = true → ys.all (datW m) = true → PyData.eqvAll (pds xs) (pds ys) = eqWs xs ys
  | _, _, [], [], _, _ => rfl
  | _, _, [], _ :: _, _, _ => rfl
  | _, _, _ :: _, [], _, _ => rfl
  | n, m, x :: xs, y :: ys, h, h2 => by
    rw [List.all_cons, Bool.and_eq_true] at h h2
    show (PyData.eqv (pd x) (pd y) && PyData.eqvAll (pds xs) (pds ys)) = (eqW x y && eqWs xs ys)
    rw [eqv_pd n m x y h.1 h2.1, eqv_pds n m xs ys h.2 h2.2]
end
mutual
theorem lay_pd : ∀ (n : Nat) (w : W), datW n w = true → PyData.canLay0 (pd w) = true ∧ PyData.depth (pd w) ≤ n
  | n, .non, _ => ⟨rfl, Nat.zero_le _⟩
  | n, .bl _, _ => ⟨rfl, Nat.zero_le _⟩
  | n, .int _, _ => ⟨rfl, Nat.zero_le _⟩
  | n, .str s, h => by
    refine ⟨?_, Nat.zero_le _⟩
    have h : s.all (fun c => decide (c < 1114112)) = true := by cases n <;> exact h
    show (mkS s).cps.all (fun c => decide (c < 1114112)) = true
    rw [← Array.all_toList]
    simpa using h
  | n, .tup xs, h => by
    cases n with
    | zero => cases h
    | succ n => exact ⟨(lay_pds n xs h).1, Nat.succ_le_succ (lay_pds n xs h).2⟩
  | n, .lst xs, h => by
    cases n with
    | zero => cases h
    | succ n => exact ⟨(lay_pds n xs h).1, Nat.succ_le_succ (lay_pds n xs h).2⟩
  | n, .dic _ _, h => by cases n <;> cases h
  | n, .fn _, h => by cases n <;> cases h
  | n, .cl _, h => by cases n <;> cases h
  | n, .ty _, h => by cases n <;> cases h
  | n, .ins _ _, h => by cases n <;> cases h
  | n, .scr _, h => by cases n <;> cases h
theorem lay_pds : ∀ (n : Nat) (ws : List W), ws.all (datW n) = true → PyData.canLayAll0 (pds ws) = true ∧ PyData.depthAll (pds ws) ≤ n
  | _, [], _ => ⟨rfl, Nat.zero_le _⟩
  | n, x :: xs, h => by
    rw [List.all_cons, Bool.and_eq_true] at h
    obtain ⟨a1, a2⟩ := lay_pd n x h.1
    obtain ⟨b1, b2⟩ := lay_pds n xs h.2
    refine ⟨?_, Nat.max_le.mpr ⟨a2, b2⟩⟩
    show (PyData.canLay0 (pd x) && PyData.canLayAll0 (pds xs)) = true
    rw [a1, b1]; rfl
end
theorem shaped_pd {w : W} (h : datW 60 w = true) : SeqAt.shaped (pd w) = true := by
  obtain ⟨a, b⟩ := lay_pd 60 w h
  unfold SeqAt.shaped
  rw [a]
  exact decide_eq_true (Nat.le_trans b (by decide))
section
variable {c : Cst} {P : Addr → Prop} {H : Hp}
mutual
theorem dp_rep : ∀ (n : Nat) (w : W) (v : V), datW n w = true → Rep c.T c.K P H w v → Dp c.K H v (pd w)
  | n, .non, v, _, r => by unfold Rep at r; subst r; exact .non
  | n, .bl b, v, _, r => by unfold Rep at r; subst r; exact .bl b
  | n, .int i, v, _, r => by unfold Rep at r; subst r; exact .int i
  | n, .str s, v, _, r => by unfold Rep at r; subst r; exact .str _
  | n, .tup ws, v, h, r => by
    cases n with
    | zero => cases h
    | succ n =>
      unfold Rep at r
      obtain ⟨a, vs, e, q, r⟩ := r
      subst e
      exact .tup q (dp_reps n ws vs h r)
  | n, .lst ws, v, h, r => by
    cases n with
    | zero => cases h
    | succ n =>
      unfold Rep at r
      obtain ⟨a, vs, e, q, r⟩ := r
      subst e
      exact .lst (.of q.2) (dp_reps n ws vs h r)
  | n, .dic _ _, _, h, _ => by cases n <;> cases h
  | n, .fn _, _, h, _ => by cases n <;> cases h
  | n, .cl _, _, h, _ => by cases n <;> cases h
  | n, .ty _, _, h, _ => by cases n <;> cases h
  | n, .ins _ _, _, h, _ => by cases n <;> cases h
  | n, .scr _, _, h, _ => by cases n <;> cases h
theorem dp_reps : ∀ (n : Nat) (ws : List W) (vs : List V), ws.all (datW n) = true → Reps c.T c.K P H ws vs → DpAll c.K H vs (pds ws)
  | _, [], vs, _, r => by unfold Reps at r; subst r; exact .nil
  | n, w :: ws, vs, h, r => by
    rw [List.all_cons, Bool.and_eq_true] at h
    unfold Reps at r
    obtain ⟨v, r', e, h1, h2⟩ := r
    subst e
    exact .cons (dp_rep n w v h.1 h1) (dp_reps n ws r' h.2 h2)
end
theorem dp_view {w : W} {v : V} (h : datW 60 w = true) (r : View c P H w v) : Dp c.K H v (pd w) := by
  cases w with
  | lst ws =>
    obtain ⟨a, vs, e, q, r⟩ := r
    subst e
    exact .lst (.of q) (dp_reps 59 ws vs h r)
  | dic _ _ => cases h
  | non => exact dp_rep (P := P) 60 _ v h r
  | bl _ => exact dp_rep (P := P) 60 _ v h r
  | int _ => exact dp_rep (P := P) 60 _ v h r
  | str _ => exact dp_rep (P := P) 60 _ v h r
  | tup _ => exact dp_rep (P := P) 60 _ v h r
  | fn _ => cases h
  | cl _ => cases h
  | ty _ => cases h
  | ins _ _ => cases h
  | scr _ => cases h
end
end Qs
/-! # tuple * 1, tuple * 0 -/
namespace L2
open PySem PySem.Spec PyProof.Rows
theorem tuple_mulW1 (l : Addr) (items : Array Value) (n : Nat) (dd : Option Addr) (sl : Array (Option Value)) (x : Int) (u : Tok) (c0 : (decide (x < -(2 ^ 63)) || decide (x ≥ 2 ^ 63)) = false) (c1 : (items.isEmpty || x == 1) = true) :
    Meets (Builtin.«tuple.__mul__» ⟨[.ref l, .int x u], []⟩) (fun _ R s => s.heap.get? l = some { cls := .type "tuple", dict := dd, data := .seq items n, slots := sl } ∧
      R (.ok (.ret (Value.ref l))) s) :=
  .of_wp fun prog w A R s h => by
    obtain ⟨hp, g, d, tk, os⟩ := s
    obtain ⟨hl, h⟩ := h
    have f1 := AutoSeq1.idx_int
    wp_walk using wpAny_loadPart' hl
    repeat (first
      | (refine wpAny_ite_false (decide_eq_false (by rw [c0]; exact Bool.false_ne_true)) ?_; wp_walk using wpAny_loadPart' hl)
      | (refine wpAny_ite_true (decide_eq_true c1) ?_; wp_walk using wpAny_loadPart' hl))
    exact ⟨_, rfl, h⟩
theorem tuple_mulW0 (l : Addr) (items : Array Value) (n : Nat) (dd : Option Addr) (sl : Array (Option Value)) (x : Int) (u : Tok) (c0 : (decide (x < -(2 ^ 63)) || decide (x ≥ 2 ^ 63)) = false) (c1 : (items.isEmpty || x == 1) = false) (c2 : (decide (x ≤ 0) || items.isEmpty) = true) :
    Meets (Builtin.«tuple.__mul__» ⟨[.ref l, .int x u], []⟩) (fun _ R s => s.heap.get? l = some { cls := .type "tuple", dict := dd, data := .seq items n, slots := sl } ∧
      R (.ok (.ret (Value.ref s.heap.objs.size))) { s with heap := s.heap.push { cls := Value.type "tuple", data := Data.seq #[] }, toks := s.toks }) :=
  .of_wp fun prog w A R s h => by
    obtain ⟨hp, g, d, tk, os⟩ := s
    obtain ⟨hl, h⟩ := h
    have f1 := AutoSeq1.idx_int
    wp_walk using wpAny_loadPart' hl
    repeat (first
      | (refine wpAny_ite_false (decide_eq_false (by rw [c0]; exact Bool.false_ne_true)) ?_; wp_walk using wpAny_loadPart' hl)
      | (refine wpAny_ite_false (decide_eq_false (by rw [c1]; exact Bool.false_ne_true)) ?_; wp_walk using wpAny_loadPart' hl)
      | (refine wpAny_ite_true (decide_eq_true c2) ?_; wp_walk using wpAny_loadPart' hl))
    exact ⟨_, rfl, h⟩
def rRepT1 (K : PySem.W.Frag) : R2 := fun x y H Q => ∃ l k xs, x = .ref l ∧ y = .int k ∧ SqT K H l xs ∧ (xs = [] ∨ k = 1) ∧ -1000000 ≤ k ∧ k ≤ 1000000 ∧ Q (.ref l) H
def rRepT0 (K : PySem.W.Frag) : R2 := fun x y H Q => ∃ l k xs, x = .ref l ∧ y = .int k ∧ SqT K H l xs ∧ xs ≠ [] ∧ -1000000 ≤ k ∧ k ≤ 0 ∧ ∀ p, H p = none → Q (.ref p) (upd H p (.tup []))
section
variable {X : Cx}
theorem op_repT1 : OpR X (binaryOp .Mult) (rRepT1 X.K) := by
  intro pins s σ H x y v u Q I rx ry h
  obtain ⟨l, k, xs, rfl, rfl, hT, h0, h1, h2, q⟩ := h
  have rx0 := rx
  cases rx
  obtain ⟨t, rfl⟩ := ry
  obtain ⟨its, r, ⟨⟨cls, dd, data, sl⟩, ho, hc, n, hd⟩, hs⟩ := I.tuple hT
  simp only at hc hd
  subst hc hd
  have hle : its.length = xs.length := r.length.symm
  have c0 : (decide (k < -(2 ^ 63)) || decide (k ≥ 2 ^ 63)) = false := by
    rw [decide_eq_false (by omega), decide_eq_false (by omega)] <;> rfl
  have c1 : (its.toArray.isEmpty || k == 1) = true := by
    rcases h0 with h0 | h0
    · have : its = [] := List.eq_nil_of_length_eq_zero (by rw [hle, h0]; rfl)
      subst this; rfl
    · subst h0
      rw [Bool.or_eq_true]; exact .inr rfl
  refine wpAny_binaryOp_repeat_ref (T := "tuple") (U := "int") (by decide) ⟨_, ho, rfl⟩ (fun s' => typeIs_int s' k t) noFill_tuple_mul F.fills_int_mul F.slot_int_rmul repeat_tuple F.slot_int_index.lookup
    (call_meets F.slot_int_rmul (typeIs_int s k t) F.entry_int_rmul (F.args_int_rmul_2 _ _) (int_rmul_tuple k t l its.toArray n dd sl)
      ⟨ho, rfl, ⟨_, ho, rfl⟩, call_meets F.slot_tuple_mul ⟨_, ho, rfl⟩ F.entry_tuple_mul (F.args_tuple_mul_2 _ _) (tuple_mulW1 l its.toArray n dd sl k t c0 c1) ⟨ho, ?_⟩⟩)
  exact ⟨.ref l, _, I, rfl, q⟩
theorem op_repT0 : OpR X (binaryOp .Mult) (rRepT0 X.K) := by
  intro pins s σ H x y v u Q I rx ry h
  obtain ⟨l, k, xs, rfl, rfl, hT, hne, h1, h2, q⟩ := h
  cases rx
  obtain ⟨t, rfl⟩ := ry
  obtain ⟨its, r, ⟨⟨cls, dd, data, sl⟩, ho, hc, n, hd⟩, hs⟩ := I.tuple hT
  simp only at hc hd
  subst hc hd
  have hle : its.length = xs.length := r.length.symm
  have hn : its ≠ [] := fun e => hne (by
    rw [e] at hle
    exact List.eq_nil_of_length_eq_zero hle.symm)
  have hi : its.toArray.isEmpty = false := by
    cases its with
    | nil => exact absurd rfl hn
    | cons a b => rfl
  have c0 : (decide (k < -(2 ^ 63)) || decide (k ≥ 2 ^ 63)) = false := by
    rw [decide_eq_false (by omega), decide_eq_false (by omega)] <;> rfl
  have c1 : (its.toArray.isEmpty || k == 1) = false := by
    rw [hi, Bool.false_or]
    exact beq_eq_false_iff_ne.mpr (by omega)
  have c2 : (decide (k ≤ 0) || its.toArray.isEmpty) = true := by
    rw [hi, Bool.or_false]
    exact decide_eq_true (by omega)
  refine wpAny_binaryOp_repeat_ref (T := "tuple") (U := "int") (by decide) ⟨_, ho, rfl⟩ (fun s' => typeIs_int s' k t) noFill_tuple_mul F.fills_int_mul F.slot_int_rmul repeat_tuple F.slot_int_index.lookup
    (call_meets F.slot_int_rmul (typeIs_int s k t) F.entry_int_rmul (F.args_int_rmul_2 _ _) (int_rmul_tuple k t l its.toArray n dd sl)
      ⟨ho, rfl, ⟨_, ho, rfl⟩, call_meets F.slot_tuple_mul ⟨_, ho, rfl⟩ F.entry_tuple_mul (F.args_tuple_mul_2 _ _) (tuple_mulW0 l its.toArray n dd sl k t c0 c1 c2) ⟨ho, ?_⟩⟩)
  refine ⟨.ref s.heap.objs.size, _, I.laid (t' := s.toks) (o := .tup []) (fun b ob q => Heap.get?_push_of_some _ q) (Nat.le_refl _) ?_, rfl, q _ (I.hok.fresh (Nat.le_refl _))⟩
  exact ⟨by rw [sizeLine_eq]; exact Nat.zero_le _, _, .nil, IsTup.new _ _⟩
/-- tuple * int, the whole of it at most a million -/
def rRepTB (K : PySem.W.Frag) : R2 := fun x y H Q => ∃ l k xs, x = .ref l ∧ y = .int k ∧ SqT K H l xs ∧ xs ≠ [] ∧ 2 ≤ k ∧ k ≤ 1000000 ∧ xs.length * k.toNat ≤ 1000000 ∧ ∀ p, H p = none → Q (.ref p) (upd H p (.tup (List.replicate k.toNat xs).flatten))
theorem op_repTB : OpR X (binaryOp .Mult) (rRepTB X.K) := by
  intro pins s σ H x y v u Q I rx ry h
  obtain ⟨l, k, xs, rfl, rfl, hT, hne, h1, h2, hz, q⟩ := h
  cases rx
  obtain ⟨t, rfl⟩ := ry
  obtain ⟨its, r, ⟨⟨cls, dd, data, sl⟩, ho, hc, n, hd⟩, hs⟩ := I.tuple hT
  simp only at hc hd
  subst hc hd
  have hle : its.length = xs.length := r.length.symm
  have hn : its ≠ [] := fun e => hne (by
    rw [e] at hle
    exact List.eq_nil_of_length_eq_zero hle.symm)
  have hi : its.toArray.isEmpty = false := by
    cases its with
    | nil => exact absurd rfl hn
    | cons a b => rfl
  have hsz0 : its.toArray.size = xs.length := by rw [List.size_toArray, hle]
  have hk : ((k.toNat : Nat) : Int) = k := Int.toNat_of_nonneg (by omega)
  have hm : ((its.toArray.size : Nat) : Int) * k ≤ 1000000 := by
    rw [hsz0]
    have e : (((xs.length * k.toNat : Nat)) : Int) = (xs.length : Int) * (k.toNat : Int) := Int.natCast_mul _ _
    rw [hk] at e
    rw [← e]
    exact Int.ofNat_le.mpr hz
  have flen : (List.replicate k.toNat its).flatten.length ≤ sizeLine := by
    rw [PyProof.Rows.lm_len_rep_flat, hle, sizeLine_eq, Nat.mul_comm]
    omega
  have c0 : (decide (k < -(2 ^ 63)) || decide (k ≥ 2 ^ 63)) = false := by
    rw [decide_eq_false (by omega), decide_eq_false (by omega)] <;> rfl
  have c1 : (its.toArray.isEmpty || k == 1) = false := by
    rw [hi, Bool.false_or]
    exact beq_eq_false_iff_ne.mpr (by omega)
  have c2 : (decide (k ≤ 0) || its.toArray.isEmpty) = false := by
    rw [hi, Bool.or_false]
    exact decide_eq_false (by omega)
  have c4 : Builtin.Tuple.tupleTooMany (((its.toArray.size : Nat) : Int) * k) = false := by
    unfold Builtin.Tuple.tupleTooMany
    rw [sizeLine_eq]
    exact decide_eq_false (by omega)
  refine wpAny_binaryOp_repeat_ref (T := "tuple") (U := "int") (by decide) ⟨_, ho, rfl⟩ (fun s' => typeIs_int s' k t) noFill_tuple_mul F.fills_int_mul F.slot_int_rmul repeat_tuple F.slot_int_index.lookup
    (call_meets F.slot_int_rmul (typeIs_int s k t) F.entry_int_rmul (F.args_int_rmul_2 _ _) (int_rmul_tuple k t l its.toArray n dd sl)
      ⟨ho, rfl, ⟨_, ho, rfl⟩, call_meets F.slot_tuple_mul ⟨_, ho, rfl⟩ F.entry_tuple_mul (F.args_tuple_mul_2 _ _) (tuple_mulW l its.toArray n dd sl k t c0 c1 c2 (by omega) c4 (by rw [size_rep, List.size_toArray]; exact flen)) ⟨ho, ?_⟩⟩)
  rw [size_rep]
  refine ⟨.ref s.heap.objs.size, _, I.laid (t' := s.toks) (o := .tup (List.replicate k.toNat xs).flatten) (fun b ob q => Heap.get?_push_of_some _ q) (Nat.le_refl _) ?_, rfl, q _ (I.hok.fresh (Nat.le_refl _))⟩
  exact ⟨by rw [PyProof.Rows.lm_len_rep_flat, sizeLine_eq, Nat.mul_comm]; omega, _, r.rep k.toNat, IsTup.new _ _⟩
/-- text * int -/
def rMulS : R2 := fun x y H Q => ∃ a k, x = .str a ∧ y = .int k ∧ -1000000 ≤ k ∧ k ≤ 1000000 ∧ a.length * k.toNat ≤ 1000000 ∧ Q (.str ⟨((List.replicate k.toNat a.cps.toList).flatten).toArray⟩) H
theorem fold_cps (a : Array Nat) : ∀ (n : Nat) (b : Array Nat), (List.replicate n a).foldl (· ++ ·) b = b ++ ((List.replicate n a.toList).flatten).toArray
  | 0, b => by simp
  | n + 1, b => by
    rw [List.replicate_succ, List.foldl_cons, fold_cps a n, List.replicate_succ, List.flatten_cons]
    apply Array.ext'
    simp
theorem op_mulStr : OpR X (binaryOp .Mult) rMulS := by
  intro pins s σ H x y v u Q I rx ry h
  obtain ⟨a, k, rfl, rfl, h1, h2, h3, q⟩ := h
  obtain ⟨t, rfl⟩ := rx
  obtain ⟨t', rfl⟩ := ry
  have hr : (decide (k < -(2 ^ 63 : Int)) || decide (k ≥ 2 ^ 63)) = false := by
    rw [decide_eq_false (by omega), decide_eq_false (by omega)] <;> rfl
  have big : a.length * k.toNat ≤ 1000000 := h3
  refine PySem.P.mul_str hr (fun z1 z2 => ?_) (fun z1 z2 => ?_) ?_
  · obtain ⟨n, rfl⟩ := Int.eq_ofNat_of_zero_le (show 0 ≤ k by omega)
    have hb : a.length * n ≤ 1000000 := by rw [Int.toNat_natCast] at big; exact big
    have h6 : (a.length : Int) * (n : Int) ≤ 1000000 := by
      have := Int.ofNat_le.mpr hb
      rw [Int.natCast_mul] at this
      exact this
    have := Int.le_ediv_of_mul_le (a := (a.length : Int)) (b := 2 ^ 63 - 1) (c := (n : Int)) (by omega) (by omega)
    show ¬ ((a.length : Int) > (2 ^ 63 - 1) / (n : Int))
    omega
  · refine decide_eq_false ?_
    rw [sizeLine_eq]
    omega
  · by_cases c1 : k < 1
    · rw [if_pos c1]
      have e0 : k.toNat = 0 := by omega
      rw [e0] at q
      exact ⟨by decide, .str Str.empty, H, I.tok _, ⟨_, rfl⟩, q⟩
    · rw [if_neg c1]
      by_cases c2 : (k == 1 || a.length == 0) = true
      · rw [if_pos c2]
        refine ⟨.str a, H, I, ⟨t, rfl⟩, ?_⟩
        have e : (⟨((List.replicate k.toNat a.cps.toList).flatten).toArray⟩ : Str) = a := by
          rw [Bool.or_eq_true] at c2
          rcases c2 with c2 | c2
          · have : k = 1 := by simpa using c2
            subst this
            simp
          · have : a.cps.toList = [] := by
              have : a.cps.size = 0 := by simpa [Str.length] using c2
              simpa using this
            obtain ⟨ca⟩ := a
            have e2 : ca = #[] := by simpa using this
            subst e2
            simp
        rw [e] at q
        exact q
      · rw [if_neg c2]
        rw [fold_cps, Array.empty_append]
        refine ⟨?_, .str _, H, I.tok _, ⟨_, rfl⟩, q⟩
        rw [sizeLine_eq]
        have e5 : ((List.replicate k.toNat a.cps.toList).flatten).length = k.toNat * a.length := by
          simp [Str.length]
        have e6 : (⟨((List.replicate k.toNat a.cps.toList).flatten).toArray⟩ : Str).length = k.toNat * a.length := by
          rw [← e5]; simp [Str.length]
        have e7 := Nat.mul_comm k.toNat a.length
        omega
end
end L2
/-! # Operators: each way by the values -/
namespace Qs
open PySem PySem.Spec PyProof.Rows L2
/-- what an expression's soundness asks of the context -/
structure Cok (c : Cst) (Wx : WX) (k : Nat) (X : Cx) : Prop where
  K : X.K = c.K
  calm : X.calm = true
  nd : X.N.Nodup
  rm : Room k X.A
  tk : Takes X Wx
section
variable {c : Cst} {Wx : WX} {k : Nat} {X : Cx} {P : Addr → Prop} {s : S} {σ : L2.St} {H : Hp} {Q : VK} {u w : W} {z : R} {x y : V}
theorem View.int {i : Int} (h : View c P H (.int i) x) : x = .int i := by unfold View Rep at h; exact h
theorem View.bl {i : Bool} (h : View c P H (.bl i) x) : x = .bl i := by unfold View Rep at h; exact h
theorem View.non (h : View c P H .non x) : x = .non := by unfold View Rep at h; exact h
theorem View.str {i : List Nat} (h : View c P H (.str i) x) : x = .str (mkS i) := by unfold View Rep at h; exact h
theorem View.tup {ws : List W} (h : View c P H (.tup ws) x) : ∃ a vs, x = .ref a ∧ SqT c.K H a vs ∧ Reps c.T c.K P H ws vs := by unfold View Rep at h; exact h
theorem View.lst {ws : List W} (h : View c P H (.lst ws) x) : ∃ a vs, x = .ref a ∧ H a = some (.lst vs) ∧ Reps c.T c.K P H ws vs := h
theorem View.scr {ws : List W} (h : View c P H (.scr ws) x) : ∃ a vs, x = .ref a ∧ FzS c.K P H a vs ∧ Reps c.T c.K P H ws vs := by unfold View Rep at h; exact h
theorem rep_int {i : Int} : Rep c.T c.K P H (.int i) (.int i) := by unfold Rep; rfl
theorem rep_bl {i : Bool} : Rep c.T c.K P H (.bl i) (.bl i) := by unfold Rep; rfl
theorem rep_str {i : List Nat} : Rep c.T c.K P H (.str i) (.str (mkS i)) := by unfold Rep; rfl
theorem rep_non : Rep c.T c.K P H .non .non := by unfold Rep; rfl
theorem rep_tup {ws : List W} {a : Addr} {vs : List V} (q : SqT c.K H a vs) (r : Reps c.T c.K P H ws vs) : Rep c.T c.K P H (.tup ws) (.ref a) := by unfold Rep; exact ⟨a, vs, rfl, q, r⟩
theorem outI {i : Int} (R : Rel c P s σ H) (h : Out c Wx σ P s H Q (.ok (.fro (.int i), s))) : Q (.int i) H := h.flat R rep_int
theorem outB {i : Bool} (R : Rel c P s σ H) (h : Out c Wx σ P s H Q (.ok (.fro (.bl i), s))) : Q (.bl i) H := h.flat R rep_bl
theorem outS {i : List Nat} (R : Rel c P s σ H) (h : Out c Wx σ P s H Q (.ok (.fro (.str i), s))) : Q (.str (mkS i)) H := h.flat R rep_str
/-! ### + -/
def rAddStr : R2 := fun x y H Q => ∃ i j, x = .str i ∧ y = .str j ∧ i.length + j.length ≤ sizeLine ∧ Q (.str (i ++ j)) H
def rAddA (K : PySem.W.Frag) : R2 := fun x y H Q => (rI0 (fun i j => .int (i + j)) x y H Q ∨ rAddStr x y H Q) ∨ (rCat x y H Q ∨ rCatA K x y H Q)
theorem op_addA : OpR X (binaryOp .Add) (rAddA X.K) := (op_add.or op_add_str).or (op_cat.or op_catA)
theorem addW_ok (R : Rel c P s σ H) (e : addW u w = some z) (hx : View c P H u x) (hy : View c P H w y) (h : Out c Wx σ P s H Q (.ok (z, s))) : rAddA c.K x y H Q := by
  unfold addW at e
  split at e
  · cases e; rw [hx.int, hy.int]; exact .inl (.inl ⟨_, _, rfl, rfl, outI R h⟩)
  · obtain ⟨g, rfl⟩ := guard'_some e
    rw [hx.str, hy.str]
    refine .inl (.inr ⟨_, _, rfl, rfl, ?_, ?_⟩)
    · rw [mkS_len, mkS_len, lim_eq]; exact of_decide_eq_true g
    · rw [mkS_app]; exact outS R h
  · obtain ⟨g, rfl⟩ := guard'_some e
    obtain ⟨a, vs, rfl, qa, ra⟩ := hx.lst
    obtain ⟨b, us, rfl, qb, rb⟩ := hy.lst
    refine .inr (.inl ⟨a, b, vs, us, rfl, rfl, qa, qb, ?_, h.lst R (ra.app rb)⟩)
    rw [← ra.length, ← rb.length, lim_eq]; exact of_decide_eq_true g
  · rename_i as bs
    obtain ⟨g, rfl⟩ := guard'_some e
    obtain ⟨a, vs, rfl, qa, ra⟩ := hx.tup
    obtain ⟨b, us, rfl, qb, rb⟩ := hy.tup
    refine .inr (.inr ⟨a, b, vs, us, rfl, rfl, qa, qb, ?_, fun e1 => ?_, fun _ e1 => ?_, fun _ _ => h.tup R (ra.app rb)⟩)
    · rw [← ra.length, ← rb.length, lim_eq]; exact of_decide_eq_true g
    · have ea : as = [] := List.eq_nil_of_length_eq_zero (by rw [ra.length, e1]; rfl)
      subst ea
      exact h.flat R (rep_tup qb rb)
    · have eb : bs = [] := List.eq_nil_of_length_eq_zero (by rw [rb.length, e1]; rfl)
      subst eb
      rw [List.append_nil] at h
      exact h.flat R (rep_tup qa ra)
  · cases e
/-! ### - * // % ** -/
theorem subW_ok (R : Rel c P s σ H) (e : subW u w = some z) (hx : View c P H u x) (hy : View c P H w y) (h : Out c Wx σ P s H Q (.ok (z, s))) : rI0 (fun i j => .int (i - j)) x y H Q := by
  unfold subW at e
  split at e
  · cases e; rw [hx.int, hy.int]; exact ⟨_, _, rfl, rfl, outI R h⟩
  · cases e
def rMulA (K : PySem.W.Frag) : R2 := fun x y H Q => rI CMulW (fun i j => .int (i * j)) x y H Q ∨ (rRep x y H Q ∨ (rRepTB K x y H Q ∨ (rRepT1 K x y H Q ∨ (rRepT0 K x y H Q ∨ rMulS x y H Q))))
theorem op_mulA : OpR X (binaryOp .Mult) (rMulA X.K) := op_mulW.or (op_rep.or (op_repTB.or (op_repT1.or (op_repT0.or op_mulStr))))
theorem reps_rep {T : Tab} {K : PySem.W.Frag} {ws : List W} {vs : List V} (r : Reps T K P H ws vs) : ∀ n : Nat, Reps T K P H (List.replicate n ws).flatten (List.replicate n vs).flatten
  | 0 => Reps.nil
  | n + 1 => by
    rw [List.replicate_succ, List.replicate_succ, List.flatten_cons, List.flatten_cons]
    exact r.app (reps_rep r n)
theorem mulW_ok (R : Rel c P s σ H) (e : mulW u w = some z) (hx : View c P H u x) (hy : View c P H w y) (h : Out c Wx σ P s H Q (.ok (z, s))) : rMulA c.K x y H Q := by
  unfold mulW at e
  split at e
  · obtain ⟨g, rfl⟩ := guard'_some e
    rw [hx.int, hy.int]; exact .inl ⟨_, _, rfl, rfl, (show CMulW _ _ from of_decide_eq_true (p := _ < 1000000) g), outI R h⟩
  · obtain ⟨g, rfl⟩ := guard'_some e
    obtain ⟨a, vs, rfl, qa, ra⟩ := hx.lst
    rw [hy.int]
    unfold repOk at g
    simp only [Bool.and_eq_true, decide_eq_true_eq] at g
    refine .inr (.inl ⟨a, _, vs, rfl, rfl, qa, g.1.1, g.1.2, ?_, h.lst R (reps_rep ra _)⟩)
    rw [← ra.length, lim_eq]; exact g.2
  · rename_i as k'
    obtain ⟨a, vs, rfl, qa, ra⟩ := hx.tup
    rw [hy.int]
    cases hb : (as.isEmpty || decide (k' = 1)) with
    | true =>
      rw [hb] at e
      obtain ⟨g, rfl⟩ := guard'_some e
      simp only [Bool.and_eq_true, decide_eq_true_eq] at g
      simp only [Bool.or_eq_true, decide_eq_true_eq, List.isEmpty_iff] at hb
      refine .inr (.inr (.inr (.inl ⟨a, _, vs, rfl, rfl, qa, hb.imp (fun e1 => ?_) id, g.1, g.2, h.flat R (rep_tup qa ra)⟩)))
      exact List.eq_nil_of_length_eq_zero (by rw [← ra.length, e1]; rfl)
    | false =>
      rw [hb] at e
      simp only [Bool.or_eq_false_iff, decide_eq_false_iff_not] at hb
      have hne : vs ≠ [] := fun e1 => by
        have ea : as = [] := List.eq_nil_of_length_eq_zero (by rw [ra.length, e1]; rfl)
        rw [ea] at hb
        exact absurd hb.1 (by decide)
      cases hc : decide (k' ≤ 0) with
      | true =>
        rw [hc] at e
        obtain ⟨g, rfl⟩ := guard'_some e
        simp only [decide_eq_true_eq] at g hc
        exact .inr (.inr (.inr (.inr (.inl ⟨a, _, vs, rfl, rfl, qa, hne, g, hc, h.tup R .nil⟩))))
      | false =>
        rw [hc] at e
        obtain ⟨g, rfl⟩ := guard'_some e
        simp only [Bool.and_eq_true, decide_eq_true_eq, Bool.not_eq_true'] at g
        exact .inr (.inr (.inl ⟨a, _, vs, rfl, rfl, qa, hne, g.1.1.2, g.1.2, by rw [← ra.length]; exact g.2, h.tup R (reps_rep ra _)⟩))
  · rename_i as k'
    obtain ⟨g, rfl⟩ := guard'_some e
    simp only [Bool.and_eq_true, decide_eq_true_eq] at g
    rw [hx.str, hy.int]
    refine .inr (.inr (.inr (.inr (.inr ⟨mkS as, k', rfl, rfl, g.1.1, g.1.2, by rw [mkS_len]; exact g.2, ?_⟩))))
    have := outS R h
    unfold mkS at this ⊢
    simpa using this
  · cases e
theorem fdivW_ok (R : Rel c P s σ H) (e : fdivW u w = some z) (hx : View c P H u x) (hy : View c P H w y) (h : Out c Wx σ P s H Q (.ok (z, s))) : rI CDivW (fun i j => .int (i / j)) x y H Q := by
  unfold fdivW at e
  split at e
  · obtain ⟨g, rfl⟩ := guard'_some e
    unfold divOk at g
    simp only [Bool.and_eq_true, decide_eq_true_eq] at g
    rw [hx.int, hy.int]; exact ⟨_, _, rfl, rfl, g, outI R h⟩
  · cases e
theorem modW_ok (R : Rel c P s σ H) (e : modW u w = some z) (hx : View c P H u x) (hy : View c P H w y) (h : Out c Wx σ P s H Q (.ok (z, s))) : rI (fun _ j => 0 < j) (fun i j => .int (i % j)) x y H Q := by
  unfold modW at e
  split at e
  · obtain ⟨g, rfl⟩ := guard'_some e
    rw [hx.int, hy.int]; exact ⟨_, _, rfl, rfl, of_decide_eq_true g, outI R h⟩
  · cases e
theorem powW_ok (R : Rel c P s σ H) (e : powW u w = some z) (hx : View c P H u x) (hy : View c P H w y) (h : Out c Wx σ P s H Q (.ok (z, s))) : rI CPow (fun i j => .int (i ^ j.toNat)) x y H Q := by
  unfold powW at e
  split at e
  · obtain ⟨g, rfl⟩ := guard'_some e
    unfold powOk at g
    simp only [Bool.and_eq_true, decide_eq_true_eq] at g
    rw [hx.int, hy.int]; exact ⟨_, _, rfl, rfl, ⟨g.1.1, g.1.2, g.2⟩, outI R h⟩
  · cases e
/-- a op b -/
def eBin (op : Operator) (fa fb : SE) : SE := bind2 fa fb (onW2 (binW op))
theorem op_false {f : Value → Value → Sem Value} : OpR X f (fun _ _ _ _ => False) := fun _ _ _ _ _ _ _ _ _ _ _ _ h => h.elim
theorem pe_bin_of {op : Operator} {r : R2} {fa fb : SE} {a b : Expr} {pos : Pos} (ho : OpR X (binaryOp op) r) (ha : PE X a (rd c Wx fa)) (hb : PE X b (rd c Wx fb))
    (hk : ∀ {P : Addr → Prop} {s : S} {σ : L2.St} {H : Hp} {Q : VK} {u w : W} {z : R} {x y : V}, Rel c P s σ H → binW op u w = some z → View c P H u x → View c P H w y → Out c Wx σ P s H Q (.ok (z, s)) → r x y H Q) :
    PE X (.BinOp a op b pos) (rd c Wx (eBin op fa fb)) :=
  pe_imp (pe_op ho ha hb) fun σ H Q h => rd_two h fun P s ra rb x y H2 R rx ry h2 =>
    let ⟨u, w, z, e, hx, hy, h3⟩ := Out.onW2 R rx ry h2
    hk R e hx hy h3
theorem pe_bin {op : Operator} {fa fb : SE} {a b : Expr} {pos : Pos} (hK : X.K = c.K) (ha : PE X a (rd c Wx fa)) (hb : PE X b (rd c Wx fb)) : PE X (.BinOp a op b pos) (rd c Wx (eBin op fa fb)) := by
  cases op <;> first
    | exact pe_bin_of op_addA ha hb fun R e hx hy h => by rw [hK]; exact addW_ok R e hx hy h
    | exact pe_bin_of op_sub ha hb fun R e hx hy h => subW_ok R e hx hy h
    | exact pe_bin_of op_mulA ha hb fun R e hx hy h => by rw [hK]; exact mulW_ok R e hx hy h
    | exact pe_bin_of op_fdivW ha hb fun R e hx hy h => fdivW_ok R e hx hy h
    | exact pe_bin_of op_mod ha hb fun R e hx hy h => modW_ok R e hx hy h
    | exact pe_bin_of op_pow ha hb fun R e hx hy h => powW_ok R e hx hy h
    | exact pe_bin_of op_false ha hb fun R e hx hy h => nomatch e
/-! ### names and constants -/
def eVar (i : Nat) : SE := fun s => match s[i]? with
  | some (.fro w) => .ok (.fro w, s)
  | some (.own _ _) => .ok (.bor i, s)
  | _ => .bad
theorem pe_slot {i : Nat} {x : Str} {pos : Pos} (hN : X.N[i]? = some x) (hv : Vis X.env.scope x) (hd : (x == ("__debug__" : Str)) = false) (hcd : (x == ("__classdict__" : Str)) = false) : PE X (.Name x pos) (rd c Wx (eVar i)) := by
  refine pe_imp (pe_var hN hv hd hcd) fun σ H Q h => ?_
  obtain ⟨P, s, R, h⟩ := h
  unfold eVar at h
  cases e : s[i]? with
  | none => rw [e] at h; exact h.elim
  | some sl =>
    rw [e] at h
    cases sl with
    | un => exact h.elim
    | fro w =>
      obtain ⟨v, e2, r⟩ := R.fro i w e
      exact ⟨v, e2, h v P H StE.refl R r⟩
    | own p w =>
      obtain ⟨a, e2, n, q⟩ := R.own i p w e
      exact ⟨.ref a, e2, h _ P H StE.refl R ⟨e2, w, by rw [e]; rfl⟩⟩
def eCst (w : W) : SE := fun s => .ok (.fro w, s)
theorem pe_cst {e : Expr} {w : W} {v : V} (h : PE X e (tC v)) (r : ∀ P H, Rep c.T c.K P H w v) : PE X e (rd c Wx (eCst w)) :=
  pe_imp h fun σ H Q h => by
    obtain ⟨P, s, R, h⟩ := h
    exact h v P H StE.refl R (r P H)
/-! ### by one value -/
def eOne (g : W → Option R) (fa : SE) : SE := bind1 fa (onW g)
def negW : W → Option R
  | .int i => some (.fro (.int (-i)))
  | _ => none
def eNeg (fa : SE) : SE := eOne negW fa
theorem pe_neg {a : Expr} {fa : SE} {pos : Pos} (ha : PE X a (rd c Wx fa)) : PE X (.UnaryOp .USub a pos) (rd c Wx (eNeg fa)) :=
  pe_imp (pe_un un_neg ha) fun σ H Q h => rd_one h fun P s r x H1 R rx h2 => by
    obtain ⟨u, z, e, hx, h3⟩ := Out.onW R rx h2
    unfold negW at e
    split at e
    · cases e; rw [hx.int]; exact ⟨_, rfl, outI R h3⟩
    · cases e
end
end Qs
/-! # Comparisons, tests, and, or, not, if -/
namespace Qs
open PySem PySem.Spec PyProof.Rows L2
section
variable {c : Cst} {Wx : WX} {k : Nat} {X : Cx} {P : Addr → Prop} {s : S} {σ : L2.St} {H : Hp} {Q : VK} {u w : W} {z : R} {x y : V}
def isNon : W → Bool
  | .non => true
  | _ => false
def flatW : W → Bool
  | .non => true
  | .bl _ => true
  | .int _ => true
  | .str _ => true
  | _ => false
def ltW : W → W → Option Bool
  | .int i, .int j => some (decide (i < j))
  | _, _ => none
def leW : W → W → Option Bool
  | .int i, .int j => some (decide (i ≤ j))
  | _, _ => none
/-- u in w -/
def inW : W → W → Option Bool
  | .str [a], .str z => some (decide (a ∈ z))
  | u, .lst ws => guard' (flatW u && ws.all flatW) (ws.any fun y => eqW y u)
  | u, .tup ws => guard' (flatW u && ws.all flatW) (ws.any fun y => eqW y u)
  | _, _ => none
def eqO (u w : W) : Option Bool := guard' (datW 60 u && datW 60 w) (eqW u w)
def isO : W → W → Option Bool
  | u, .non => some (isNon u)
  | _, _ => none
def cmpB : CmpOp → W → W → Option Bool
  | .Eq, u, w => eqO u w
  | .NotEq, u, w => (eqO u w).map (!·)
  | .Lt, u, w => ltW u w
  | .LtE, u, w => leW u w
  | .Gt, u, w => ltW w u
  | .GtE, u, w => leW w u
  | .Is, u, w => isO u w
  | .IsNot, u, w => (isO u w).map (!·)
  | .In, u, w => inW u w
  | .NotIn, u, w => (inW u w).map (!·)
def cmpW (op : CmpOp) (u w : W) : Option R := (cmpB op u w).map fun b => .fro (.bl b)
/-- what a comparison's rule must give -/
def CmpOk (c : Cst) (op : CmpOp) (r : R2) : Prop := ∀ {P : Addr → Prop} {H : Hp} {u w : W} {b : Bool} {x y : V} {Q : VK}, cmpB op u w = some b → View c P H u x → View c P H w y → Q (.bl b) H → r x y H Q
theorem cok_eq : CmpOk c .Eq (rEqD c.K) := fun e hx hy q => by
  obtain ⟨g, rfl⟩ := guard'_some e
  rw [Bool.and_eq_true] at g
  exact ⟨_, _, dp_view g.1 hx, dp_view g.2 hy, shaped_pd g.1, shaped_pd g.2, by rw [eqv_pd 60 60 _ _ g.1 g.2]; exact q⟩
theorem map_not {o : Option Bool} {b : Bool} (e : o.map (!·) = some b) : o = some (!b) := by
  cases o with
  | none => cases e
  | some d => cases e; simp
theorem cok_ne : CmpOk c .NotEq (rNeD c.K) := fun e hx hy q => by
  obtain ⟨g, e2⟩ := guard'_some (map_not e)
  rw [Bool.and_eq_true] at g
  exact ⟨_, _, dp_view g.1 hx, dp_view g.2 hy, shaped_pd g.1, shaped_pd g.2, by rw [eqv_pd 60 60 _ _ g.1 g.2, e2, Bool.not_not]; exact q⟩
theorem cok_lt : CmpOk c .Lt (rI0 fun i j => .bl (decide (i < j))) := fun {P H u w b x y Q} e hx hy q => by
  have e : ltW u w = some b := e
  unfold ltW at e
  split at e
  · cases e; rw [hx.int, hy.int]; exact ⟨_, _, rfl, rfl, q⟩
  · cases e
theorem cok_le : CmpOk c .LtE (rI0 fun i j => .bl (decide (i ≤ j))) := fun {P H u w b x y Q} e hx hy q => by
  have e : leW u w = some b := e
  unfold leW at e
  split at e
  · cases e; rw [hx.int, hy.int]; exact ⟨_, _, rfl, rfl, q⟩
  · cases e
theorem cok_gt : CmpOk c .Gt (rI0 fun i j => .bl (decide (j < i))) := fun {P H u w b x y Q} e hx hy q => by
  have e : ltW w u = some b := e
  unfold ltW at e
  split at e
  · cases e; rw [hx.int, hy.int]; exact ⟨_, _, rfl, rfl, q⟩
  · cases e
theorem cok_ge : CmpOk c .GtE (rI0 fun i j => .bl (decide (j ≤ i))) := fun {P H u w b x y Q} e hx hy q => by
  have e : leW w u = some b := e
  unfold leW at e
  split at e
  · cases e; rw [hx.int, hy.int]; exact ⟨_, _, rfl, rfl, q⟩
  · cases e
theorem view_non (h : View c P H u x) : decide (x = .non) = isNon u := by
  cases u with
  | non => rw [h.non]; rfl
  | bl _ => rw [h.bl]; rfl
  | int _ => rw [h.int]; rfl
  | str _ => rw [h.str]; rfl
  | tup _ => obtain ⟨a, vs, e, _⟩ := h.tup; rw [e]; rfl
  | lst _ => obtain ⟨a, vs, e, _⟩ := h.lst; rw [e]; rfl
  | scr _ => obtain ⟨a, vs, e, _⟩ := h.scr; rw [e]; rfl
  | dic _ _ => obtain ⟨a, vs, e, _⟩ := h; rw [e]; rfl
  | fn _ => unfold View Rep at h; obtain ⟨a, _, e⟩ := h; rw [e]; rfl
  | cl _ => unfold View Rep at h; obtain ⟨a, _, e⟩ := h; rw [e]; rfl
  | ty _ => unfold View Rep at h; rw [h]; rfl
  | ins _ _ => unfold View Rep at h; obtain ⟨a, C, dx, vs, e, _⟩ := h; rw [e]; rfl
def rIsNA : R2 := fun x y H Q => y = .non ∧ Q (.bl (decide (x = .non))) H
def rIsNotA : R2 := fun x y H Q => y = .non ∧ Q (.bl (!decide (x = .non))) H
theorem cok_is : CmpOk c .Is rIsNA := fun {P H u w b x y Q} e hx hy q => by
  have e : isO u w = some b := e
  unfold isO at e
  split at e
  · cases e; exact ⟨hy.non, by rw [view_non hx]; exact q⟩
  · cases e
theorem cok_isnot : CmpOk c .IsNot rIsNotA := fun {P H u w b x y Q} e hx hy q => by
  have e := map_not e
  unfold isO at e
  split at e
  · have e := Option.some.inj e
    exact ⟨hy.non, by rw [view_non hx, e, Bool.not_not]; exact q⟩
  · cases e
theorem flat_view (h : View c P H u x) (f : flatW u = true) : flatV x = true ∧ ∀ w y, View c P H w y → flatW w = true → eqV y x = eqW w u := by
  cases u with
  | non => rw [h.non]; exact ⟨rfl, fun w y hy f2 => by
      cases w <;> first | (cases f2; done) | (rw [hy.non]; rfl) | (rw [hy.bl]; rfl) | (rw [hy.int]; rfl) | (rw [hy.str]; rfl)⟩
  | bl _ => rw [h.bl]; exact ⟨rfl, fun w y hy f2 => by
      cases w <;> first | (cases f2; done) | (rw [hy.non]; rfl) | (rw [hy.bl]; rfl) | (rw [hy.int]; rfl) | (rw [hy.str]; rfl)⟩
  | int _ => rw [h.int]; exact ⟨rfl, fun w y hy f2 => by
      cases w <;> first | (cases f2; done) | (rw [hy.non]; rfl) | (rw [hy.bl]; rfl) | (rw [hy.int]; rfl) | (rw [hy.str]; rfl)⟩
  | str a => rw [h.str]; exact ⟨rfl, fun w y hy f2 => by
      cases w <;> first | (cases f2; done) | (rw [hy.non]; rfl) | (rw [hy.bl]; rfl) | (rw [hy.int]; rfl) | (rw [hy.str]; exact mkS_eq _ _)⟩
  | _ => cases f
theorem flats {ws : List W} {vs : List V} (r : Reps c.T c.K P H ws vs) (f : ws.all flatW = true) (hu : View c P H u x) (fu : flatW u = true) : vs.all flatV = true ∧ inV x vs = ws.any fun y => eqW y u := by
  induction ws generalizing vs with
  | nil => unfold Reps at r; subst r; exact ⟨rfl, rfl⟩
  | cons w ws ih =>
    unfold Reps at r
    obtain ⟨v, r', e, h1, h2⟩ := r
    subst e
    rw [List.all_cons, Bool.and_eq_true] at f
    obtain ⟨i1, i2⟩ := ih h2 f.2
    refine ⟨?_, ?_⟩
    · rw [List.all_cons, (flat_view h1.view f.1).1, i1]; rfl
    · show (eqV v x || inV x r') = (eqW w u || ws.any fun y => eqW y u)
      rw [i2, (flat_view hu fu).2 w v h1.view f.1]
def rInSign : R2 := fun x y H Q => ∃ (c : Nat) (z : Str), x = .str ⟨#[c]⟩ ∧ y = .str z ∧ Q (.bl (decide (c ∈ z.cps.toList))) H
def rNotInSign : R2 := fun x y H Q => ∃ (c : Nat) (z : Str), x = .str ⟨#[c]⟩ ∧ y = .str z ∧ Q (.bl (!decide (c ∈ z.cps.toList))) H
theorem in_cases {b : Bool} {Q : Bool → Prop} (e : inW u w = some b) (hx : View c P H u x) (hy : View c P H w y) (q : Q b) :
    (∃ (a : Nat) (z : Str), x = .str ⟨#[a]⟩ ∧ y = .str z ∧ Q (decide (a ∈ z.cps.toList))) ∨ (∃ p xs, y = .ref p ∧ (SqL c.K H p xs ∨ SqT c.K H p xs) ∧ flatV x = true ∧ xs.all flatV = true ∧ Q (inV x xs)) := by
  unfold inW at e
  split at e
  · cases e
    rw [hx.str, hy.str]
    exact .inl ⟨_, _, rfl, rfl, by simpa using q⟩
  · obtain ⟨g, rfl⟩ := guard'_some e
    rw [Bool.and_eq_true] at g
    obtain ⟨a, vs, rfl, qa, ra⟩ := hy.lst
    obtain ⟨f1, f2⟩ := flats ra g.2 hx g.1
    exact .inr ⟨a, vs, rfl, .inl (.of qa), (flat_view hx g.1).1, f1, by rw [f2]; exact q⟩
  · obtain ⟨g, rfl⟩ := guard'_some e
    rw [Bool.and_eq_true] at g
    obtain ⟨a, vs, rfl, qa, ra⟩ := hy.tup
    obtain ⟨f1, f2⟩ := flats ra g.2 hx g.1
    exact .inr ⟨a, vs, rfl, .inr qa, (flat_view hx g.1).1, f1, by rw [f2]; exact q⟩
  · cases e
theorem cok_in : CmpOk c .In (fun x y H Q => rInSign x y H Q ∨ rIn c.K false x y H Q) := fun {P H u w b x y Q} e hx hy q => by
  rcases in_cases (Q := fun b => Q (.bl b) H) e hx hy q with h | h
  · exact .inl h
  · exact .inr h
theorem cok_notin : CmpOk c .NotIn (fun x y H Q => rNotInSign x y H Q ∨ rIn c.K true x y H Q) := fun {P H u w b x y Q} e hx hy q => by
  rcases in_cases (Q := fun b => Q (.bl (!b)) H) (map_not e) hx hy (by rw [Bool.not_not]; exact q) with h | h
  · exact .inl h
  · exact .inr h
/-- for each comparison a rule that is enough -/
theorem cmp_rule (hK : X.K = c.K) (hu : X.A.units + 64 < cLine) (op : CmpOp) : ∃ r, OpR X (compareOp op) r ∧ CmpOk c op r := by
  cases op with
  | Eq => exact ⟨_, op_eqD hu, by rw [hK]; exact cok_eq⟩
  | NotEq => exact ⟨_, op_neD hu, by rw [hK]; exact cok_ne⟩
  | Lt => exact ⟨_, op_lt, cok_lt⟩
  | LtE => exact ⟨_, op_le, cok_le⟩
  | Gt => exact ⟨_, op_gt, cok_gt⟩
  | GtE => exact ⟨_, op_ge, cok_ge⟩
  | Is => exact ⟨_, op_isN, cok_is⟩
  | IsNot => exact ⟨_, op_notN, cok_isnot⟩
  | In => exact ⟨_, op_in_sign.or op_in_seq, by rw [hK]; exact cok_in⟩
  | NotIn => exact ⟨_, op_notIn_sign.or op_notIn_seq, by rw [hK]; exact cok_notin⟩
def eCmp (op : CmpOp) (fa fb : SE) : SE := bind2 fa fb (onW2 (cmpW op))
theorem cmp_out {op : CmpOp} {r : R2} (hc : CmpOk c op r) {ra rb : R} {H0 H0' : Hp} (R : Rel c P s σ H) (rx : RvR c P s σ H0 H ra x) (ry : RvR c P s σ H0' H rb y) (h : Out c Wx σ P s H Q (onW2 (cmpW op) ra rb s)) : r x y H Q := by
  obtain ⟨u, w, z, e, hx, hy, h3⟩ := Out.onW2 R rx ry h
  unfold cmpW at e
  cases q : cmpB op u w with
  | none => rw [q] at e; cases e
  | some b => rw [q] at e; cases e; exact hc q hx hy (outB R h3)
variable {a b d : Expr} {fa fb fd : SE} {pos : Pos}
theorem pe_cmp' {op : CmpOp} (hK : X.K = c.K) (hu : X.A.units + 64 < cLine) (hm : behindInMarks op b = false) (ha : PE X a (rd c Wx fa)) (hb : PE X b (rd c Wx fb)) : PE X (.Compare a [op] [b] pos) (rd c Wx (eCmp op fa fb)) := by
  obtain ⟨r, h1, h2⟩ := cmp_rule (c := c) hK hu op
  exact pe_imp (pe_cmpR h1 ha hb hm) fun σ H Q h => rd_two h fun P s ra rb x y H2 R rx ry h3 => cmp_out h2 R rx ry h3
/-! ### tests -/
def rdT (c : Cst) (Wx : WX) (f : SE) : TT := fun σ H Q => rd c Wx f σ H fun v H' => ∃ b, v = .bl b ∧ Q b H'
theorem pt_cmp' {op : CmpOp} (hK : X.K = c.K) (hu : X.A.units + 64 < cLine) (hm : behindInMarks op b = false) (ha : PE X a (rd c Wx fa)) (hb : PE X b (rd c Wx fb)) : PT X (.Compare a [op] [b] pos) (rdT c Wx (eCmp op fa fb)) := by
  obtain ⟨r, h1, h2⟩ := cmp_rule (c := c) hK hu op
  exact pt_imp (pt_cmpR h1 ha hb hm) fun σ H Q h => rd_two h fun P s ra rb x y H2 R rx ry h3 => cmp_out h2 R rx ry h3
theorem pt_value {e : Expr} {f : SE} (h : PE X e (rd c Wx f)) (he : ∀ whole, isTrue e X.env whole = (do let v ← whole; standAt e.pos; holding [v] (truthy v))) : PT X e (rdT c Wx f) := pt_val h he
/-- go on where it is true -/
def ifB (r : R) (s : S) (ft fe : S → Res (R × S)) : Res (R × S) := match val s r with
  | some (.bl true) => ft s
  | some (.bl false) => fe s
  | _ => .bad
theorem out_ifB {r : R} {ft fe : S → Res (R × S)} {H0 : Hp} (R : Rel c P s σ H) (rx : RvR c P s σ H0 H r x) (h : Out c Wx σ P s H Q (ifB r s ft fe)) :
    ∃ b, x = .bl b ∧ Out c Wx σ P s H Q (if b = true then ft s else fe s) := by
  unfold ifB at h
  split at h
  · rename_i e; exact ⟨true, (rx.view R e).bl, h⟩
  · rename_i e; exact ⟨false, (rx.view R e).bl, h⟩
  · exact h.elim
def blE (b : Bool) : SE := fun s => .ok (.fro (.bl b), s)
def eAnd (fa fb : SE) : SE := bind1 fa fun r s => ifB r s fb (blE false)
def eOr (fa fb : SE) : SE := bind1 fa fun r s => ifB r s (blE true) fb
def notW : W → Option R
  | .bl b => some (.fro (.bl (!b)))
  | _ => none
def eNot (fa : SE) : SE := eOne notW fa
theorem pe_and' {rest : List Expr} (ha : PE X a (rd c Wx fa)) (hb : PE X (.BoolOp .And (b :: rest) pos) (rd c Wx fb)) : PE X (.BoolOp .And (a :: b :: rest) pos) (rd c Wx (eAnd fa fb)) :=
  pe_imp (L2.pe_and ha hb) fun σ H Q h => rd_one h fun P s r x H1 R rx h2 => by
    obtain ⟨b, e, h3⟩ := out_ifB R rx h2
    refine ⟨b, e, ?_⟩
    cases b with
    | true => exact ⟨P, s, R, h3⟩
    | false => exact outB R h3
theorem pe_or' {rest : List Expr} (ha : PE X a (rd c Wx fa)) (hb : PE X (.BoolOp .Or (b :: rest) pos) (rd c Wx fb)) : PE X (.BoolOp .Or (a :: b :: rest) pos) (rd c Wx (eOr fa fb)) :=
  pe_imp (L2.pe_or ha hb) fun σ H Q h => rd_one h fun P s r x H1 R rx h2 => by
    obtain ⟨b, e, h3⟩ := out_ifB R rx h2
    refine ⟨b, e, ?_⟩
    cases b with
    | true => exact outB R h3
    | false => exact ⟨P, s, R, h3⟩
theorem pe_not' (ha : PE X a (rd c Wx fa)) : PE X (.UnaryOp .Not a pos) (rd c Wx (eNot fa)) :=
  pe_imp (L2.pe_not ha) fun σ H Q h => rd_one h fun P s r x H1 R rx h2 => by
    obtain ⟨u, z, e, hx, h3⟩ := Out.onW R rx h2
    unfold notW at e
    split at e
    · cases e; exact ⟨_, hx.bl, outB R h3⟩
    · cases e
theorem pt_not' (ha : PT X a (rdT c Wx fa)) : PT X (.UnaryOp .Not a pos) (rdT c Wx (eNot fa)) :=
  pt_imp (L2.pt_not ha) fun σ H Q h => rd_one h fun P s r x H1 R rx h2 => by
    obtain ⟨u, z, e, hx, h3⟩ := Out.onW R rx h2
    unfold notW at e
    split at e
    · cases e
      obtain ⟨b, e2, q⟩ := outB R h3
      cases e2
      exact ⟨_, hx.bl, q⟩
    · cases e
theorem pw_one {op : BoolOp} (ha : PT X a (rdT c Wx fa)) : PW X (.BoolOp op [a] pos) (rdT c Wx fa) := by
  cases op with
  | And => exact pw_and1 ha
  | Or => exact pw_or1 ha
theorem pw_and' {rest : List Expr} (ha : PT X a (rdT c Wx fa)) (hb : PW X (.BoolOp .And (b :: rest) pos) (rdT c Wx fb)) : PW X (.BoolOp .And (a :: b :: rest) pos) (rdT c Wx (eAnd fa fb)) :=
  pw_imp (pw_and ha hb) fun σ H Q h => rd_one h fun P s r x H1 R rx h2 => by
    obtain ⟨b, e, h3⟩ := out_ifB R rx h2
    refine ⟨b, e, ?_⟩
    cases b with
    | true => exact ⟨P, s, R, h3⟩
    | false => obtain ⟨b, e, q⟩ := outB R h3; cases e; exact q
theorem pw_or' {rest : List Expr} (ha : PT X a (rdT c Wx fa)) (hb : PW X (.BoolOp .Or (b :: rest) pos) (rdT c Wx fb)) : PW X (.BoolOp .Or (a :: b :: rest) pos) (rdT c Wx (eOr fa fb)) :=
  pw_imp (pw_or ha hb) fun σ H Q h => rd_one h fun P s r x H1 R rx h2 => by
    obtain ⟨b, e, h3⟩ := out_ifB R rx h2
    refine ⟨b, e, ?_⟩
    cases b with
    | true => obtain ⟨b, e, q⟩ := outB R h3; cases e; exact q
    | false => exact ⟨P, s, R, h3⟩
def eIf (ft fa fb : SE) : SE := bind1 ft fun r s => ifB r s fa fb
theorem pe_if (ht : PT X d (rdT c Wx fd)) (ha : PE X a (rd c Wx fa)) (hb : PE X b (rd c Wx fb)) : PE X (.IfExp d a b pos) (rd c Wx (eIf fd fa fb)) :=
  pe_imp (pe_ifExp ht ha hb) fun σ H Q h => rd_one h fun P s r x H1 R rx h2 => by
    obtain ⟨b, e, h3⟩ := out_ifB R rx h2
    refine ⟨b, e, ?_⟩
    cases b with
    | true => exact ⟨P, s, R, h3⟩
    | false => exact ⟨P, s, R, h3⟩
/-! ### a op b op c -/
def eCmp2 (op op' : CmpOp) (fa fb fd : SE) : SE := bind2 fa fb fun ra rb => bind1 (onW2 (cmpW op) ra rb) fun r s => ifB r s (bind1 fd fun rd => onW2 (cmpW op') rb rd) (blE false)
theorem chain_out {op op' : CmpOp} {r r' : R2} (hc : CmpOk c op r) (hc' : CmpOk c op' r') {ra rb : R} {H0 : Hp} (R : Rel c P s σ H) (rx : RvR c P s σ H0 H ra x) (ry : RvR c P s σ H0 H rb y)
    (h : Out c Wx σ P s H Q ((bind1 (onW2 (cmpW op) ra rb) fun r s => ifB r s (bind1 fd fun rd => onW2 (cmpW op') rb rd) (blE false)) s)) :
    r x y H fun z H3 => ∃ k, z = .bl k ∧ (if k = true then rd c Wx fd σ H3 (fun w' H4 => r' y w' H4 Q) else Q (.bl false) H3) := by
  unfold bind1 onW2 at h
  cases e1 : val s ra with
  | none => rw [e1] at h; exact h.elim
  | some u =>
    cases e2 : val s rb with
    | none => rw [e1, e2] at h; exact h.elim
    | some w =>
      rw [e1, e2] at h
      unfold cmpW at h
      cases q : cmpB op u w with
      | none => simp only [q, Option.map_none, ofO_none, Res.bind_bad] at h; exact h.elim
      | some b =>
        simp only [q, Option.map_some, ofO_some, Res.bind_ok] at h
        refine hc q (rx.view R e1) (ry.view R e2) ⟨b, rfl, ?_⟩
        cases b with
        | true =>
          rw [if_pos rfl]
          refine ⟨P, s, R, ?_⟩
          have h : Out c Wx σ P s H Q ((bind1 fd fun rd => onW2 (cmpW op') rb rd) s) := h
          unfold bind1 at h
          cases e3 : fd s with
          | ok p =>
            obtain ⟨r3, s3⟩ := p
            rw [e3] at h
            exact fun v P3 H3 t3 R3 rv => cmp_out hc' R3 (ry.over R t3) rv (Out.at_ h t3 R3)
          | exc x => rw [e3] at h; exact h
          | bad => rw [e3] at h; exact h
        | false =>
          rw [if_neg (by decide)]
          exact outB R h
theorem pe_cmp2 {op op' : CmpOp} (hK : X.K = c.K) (hu : X.A.units + 64 < cLine) (hm : lastMarks [op, op'] [b, d] = false) (ha : PE X a (rd c Wx fa)) (hb : PE X b (rd c Wx fb)) (hd : PE X d (rd c Wx fd)) : PE X (.Compare a [op, op'] [b, d] pos) (rd c Wx (eCmp2 op op' fa fb fd)) := by
  obtain ⟨r, h1, h2⟩ := cmp_rule (c := c) hK hu op
  obtain ⟨r', h1', h2'⟩ := cmp_rule (c := c) hK hu op'
  exact pe_imp (pe_chain h1 h1' ha hb hd hm) fun σ H Q h => rd_two h fun P s ra rb x y H2 R rx ry h3 => chain_out h2 h2' R rx ry h3
theorem pt_cmp2 {op op' : CmpOp} (hK : X.K = c.K) (hu : X.A.units + 64 < cLine) (hm : lastMarks [op, op'] [b, d] = false) (ha : PE X a (rd c Wx fa)) (hb : PE X b (rd c Wx fb)) (hd : PE X d (rd c Wx fd)) : PT X (.Compare a [op, op'] [b, d] pos) (rdT c Wx (eCmp2 op op' fa fb fd)) := by
  obtain ⟨r, h1, h2⟩ := cmp_rule (c := c) hK hu op
  obtain ⟨r', h1', h2'⟩ := cmp_rule (c := c) hK hu op'
  exact pt_imp (pt_chain h1 h1' ha hb hd hm) fun σ H Q h => rd_two h fun P s ra rb x y H2 R rx ry h3 => chain_out h2 h2' R rx ry h3
end
end Qs
/-! # Lists of arguments; displays -/
namespace Qs
open PySem PySem.Spec PyProof.Rows L2
section
variable {c : Cst} {Wx : WX} {k : Nat} {X : Cx} {P P0 P1 : Addr → Prop} {s s' s0 s1 : S} {σ : L2.St} {H H0 H1 : Hp} {Q : VK} {u w : W} {r z : R} {x y v : V}
/-- one more address that never changes -/
theorem frz_add (R : Rel c P s σ H) {a : Addr} (hn : ¬ Own s σ a) (ha : H a ≠ none) : Rel c (fun b => P b ∨ b = a) s σ H ∧ Kp P (fun b => P b ∨ b = a) H H := by
  have kp : Kp P (fun b => P b ∨ b = a) H H := ⟨fun _ h => .inl h, fun _ _ h _ => h⟩
  refine ⟨⟨R.len, fun i w e => ?_, fun i p w e => ?_, R.inj, R.tbs, fun b h => ?_⟩, kp⟩
  · obtain ⟨v, e2, r⟩ := R.fro i w e
    exact ⟨v, e2, Rep.mono kp _ _ r⟩
  · obtain ⟨b, e2, n, r⟩ := R.own i p w e
    refine ⟨b, e2, fun z => ?_, Cell.mono kp r fun o q _ => q⟩
    rcases z with z | z
    · exact n z
    · subst z; exact hn ⟨i, p, w, e, e2⟩
  · rcases h with h | h
    · exact R.dom b h
    · subst h; exact ha
theorem Cell.rep {P : Addr → Prop} {w : W} {a : Addr} (h : Cell c.T c.K P H w a) (k : Kp P P1 H H) (p : P1 a) : Rep c.T c.K P1 H w (.ref a) := by
  cases w with
  | lst ws =>
    obtain ⟨vs, q, r⟩ := h
    unfold Rep
    exact ⟨a, vs, rfl, ⟨p, q⟩, Reps.mono k _ _ r⟩
  | dic ks ws =>
    obtain ⟨ns, vs, h, r⟩ := h
    unfold Rep
    rcases h with ⟨kvs, q, rfl, rfl⟩ | ⟨kvs, q, rfl, rfl⟩
    · exact ⟨a, _, rfl, p, .k ns (.inl q), Reps.mono k _ _ r⟩
    · exact ⟨a, _, rfl, p, .t ns q, Reps.mono k _ _ r⟩
  | _ => exact h.elim
/-- a value for good -/
theorem frz_ok (t : StE P0 s0 σ H0 P s H) (R : Rel c P s σ H) (rv : RvR c P s σ H0 H r v) (e : frz s r = some (w, s')) :
    ∃ P', StE P0 s0 σ H0 P' s' H ∧ Rel c P' s' σ H ∧ Rep c.T c.K P' H w v ∧ Kp P P' H H := by
  cases r with
  | fro w' => cases e; exact ⟨P, t, R, rv, Kp.refl⟩
  | new w' =>
    cases e
    obtain ⟨a, rfl, n, no, hn, q⟩ := rv
    obtain ⟨o, eo, _, _⟩ := Cell.ex q
    obtain ⟨R', kp⟩ := frz_add R no (by rw [eo]; exact fun z => nomatch z)
    refine ⟨_, ⟨⟨t.keep, t.there, fun b h => .inl (t.pin b h), fun b h => ?_, t.own, t.par⟩, t.sl⟩, R', Cell.rep q kp (.inr rfl), kp⟩
    rcases h with h | h
    · exact t.new b h
    · subst h; exact .inr (.inl hn)
  | bor i =>
    obtain ⟨e1, _⟩ := rv
    have e : s[i]?.bind _ = some (w, s') := e
    cases q : s[i]? with
    | none => rw [q] at e; cases e
    | some sl =>
      rw [q] at e
      cases sl with
      | un => cases e
      | fro w' =>
        cases e
        obtain ⟨v', e2, r⟩ := R.fro i w q
        rw [e1] at e2; cases e2
        exact ⟨P, t, R, r, Kp.refl⟩
      | own p w' =>
        cases e
        obtain ⟨a, e2, n, z⟩ := R.own i p w q
        rw [e1] at e2; cases e2
        have hi : i < s.length := (List.getElem?_eq_some_iff.mp q).1
        have kp : Kp P (fun b => P b ∨ b = a) H H := ⟨fun _ h => .inl h, fun _ _ h _ => h⟩
        have fin : Rep c.T c.K (fun b => P b ∨ b = a) H w (.ref a) := Cell.rep z kp (.inr rfl)
        have oth : ∀ (j : Nat) (p' : Bool) (w' : W), (s.set i (.fro w))[j]? = some (.own p' w') → j ≠ i ∧ s[j]? = some (.own p' w') := fun j p' w' e => by
          by_cases h : i = j
          · subst h; rw [List.getElem?_set_self hi] at e; cases e
          · rw [List.getElem?_set_ne h] at e; exact ⟨fun z => h z.symm, e⟩
        have ow : ∀ b, Own (s.set i (.fro w)) σ b → Own s σ b := fun b ⟨j, p', w', e, e3⟩ => ⟨j, p', w', (oth j p' w' e).2, e3⟩
        refine ⟨fun b => P b ∨ b = a, t.trans ⟨⟨fun b o e _ _ => e, fun b h => h, fun b h => .inl h, fun b h => ?_, fun b h => .inl (ow b h), fun j w' e => ⟨⟨w', (oth j true w' e).2⟩, rfl⟩⟩, fun j => ?_⟩, ⟨by rw [List.length_set]; exact R.len, fun j w' e => ?_, fun j p' w' e => ?_, fun j l p' q' u' w' b e3 e4 => R.inj j l p' q' u' w' b (oth _ _ _ e3).2 (oth _ _ _ e4).2, R.tbs, fun b h => ?_⟩, fin, kp⟩
        · rcases h with h | h
          · exact .inl h
          · subst h; exact .inr (.inr ⟨i, p, w, q, e1⟩)
        · by_cases h : i = j
          · subst h; exact .inr ⟨p, w, q, w, .inr (List.getElem?_set_self hi)⟩
          · exact .inl (List.getElem?_set_ne h)
        · by_cases h : i = j
          · subst h
            rw [List.getElem?_set_self hi] at e; cases e
            exact ⟨_, e1, fin⟩
          · rw [List.getElem?_set_ne h] at e
            obtain ⟨v', e3, r⟩ := R.fro j w' e
            exact ⟨v', e3, Rep.mono kp _ _ r⟩
        · obtain ⟨hj, e⟩ := oth j p' w' e
          obtain ⟨b, e3, n', r⟩ := R.own j p' w' e
          refine ⟨b, e3, fun z => ?_, Cell.mono kp r fun o q _ => q⟩
          rcases z with z | z
          · exact n' z
          · subst z; exact hj (R.inj j i p' p w' w _ e q e3 e1)
        · rcases h with h | h
          · exact R.dom b h
          · subst h
            obtain ⟨o, eo, _⟩ := Cell.ex z
            rw [eo]; exact fun z => nomatch z
/-! ### one expression in a row, the start kept -/
theorem rd_sub {f : SE} {kk : Qs.R × S → Res (R × S)} {Z : V → Hp → Prop} (R0 : Rel c P0 s0 σ H0) (t : StE P0 s0 σ H0 P s H) (R : Rel c P s σ H) (h : Out c Wx σ P0 s0 H0 Q ((f s).bind kk))
    (hz : ∀ P1 r s1 v H1, StE P0 s0 σ H0 P1 s1 H1 → StE P s σ H P1 s1 H1 → Rel c P1 s1 σ H1 → RvR c P1 s1 σ H0 H1 r v → Out c Wx σ P0 s0 H0 Q (kk (r, s1)) → Z v H1) : rd c Wx f σ H Z := by
  refine ⟨P, s, R, ?_⟩
  cases e : f s with
  | ok p =>
    obtain ⟨r, s1⟩ := p
    rw [e] at h
    exact fun v P1 H1 t1 R1 rv => hz P1 r s1 v H1 (t.trans t1) t1 R1 (rv.start t) h
  | exc x => rw [e] at h; exact Sxc.of t.toStp R h
  | bad => rw [e] at h; exact h.elim
theorem rd_go {f : SE} (h : rd c Wx f σ H Q) {Z : Prop} (hz : ∀ P s, Rel c P s σ H → Out c Wx σ P s H Q (f s) → Z) : Z := by
  obtain ⟨P, s, R, h⟩ := h
  exact hz P s R h
/-! ### arguments as they are read -/
def bindL : List SE → (List R → SE) → SE
  | [], k => k []
  | f :: fs, k => bind1 f fun r => bindL fs fun rs => k (r :: rs)
def tArgs (c : Cst) (Wx : WX) : List SE → TA
  | [] => tNil
  | f :: fs => tCons (rd c Wx f) (tArgs c Wx fs)
theorem rvs_over {H0 : Hp} (R : Rel c P s σ H) {rs : List Qs.R} {vs : List V} (t : StE P s σ H P1 s1 H1) (h : Paired (fun r v => RvR c P s σ H0 H r v) rs vs) : Paired (fun r v => RvR c P1 s1 σ H0 H1 r v) rs vs := by
  induction h with
  | nil => exact .nil
  | cons h _ ih => exact .cons (h.over R t) ih
theorem args_aux : ∀ (fs : List SE) (kk : List Qs.R → SE) (Z : List V → Hp → Prop) (P : Addr → Prop) (s : S) (H : Hp) (racc : List Qs.R) (xacc : List V), Rel c P0 s0 σ H0 → StE P0 s0 σ H0 P s H → Rel c P s σ H →
    Paired (fun r v => RvR c P s σ H0 H r v) racc xacc → Out c Wx σ P0 s0 H0 Q (bindL fs (fun rs => kk (racc ++ rs)) s) →
    (∀ P s rs xs H1, StE P0 s0 σ H0 P s H1 → Rel c P s σ H1 → Paired (fun r v => RvR c P s σ H0 H1 r v) rs xs → Out c Wx σ P0 s0 H0 Q (kk rs s) → Z xs H1) →
    tArgs c Wx fs σ H (fun xs H1 => Z (xacc ++ xs) H1)
  | [], kk, Z, P, s, H, racc, xacc, R0, t, R, ra, h, hz => by
    have h : Out c Wx σ P0 s0 H0 Q (kk (racc ++ []) s) := h
    show Z (xacc ++ []) H
    rw [List.append_nil] at h ⊢
    exact hz P s racc xacc H t R ra h
  | f :: fs, kk, Z, P, s, H, racc, xacc, R0, t, R, ra, h, hz => by
    refine rd_sub R0 t R h fun P1 r s1 v H1 t1 t1' R1 rv h1 => ?_
    have q := args_aux fs kk Z P1 s1 H1 (racc ++ [r]) (xacc ++ [v]) R0 t1 R1 ((rvs_over R t1' ra).snoc rv) (by simpa using h1) hz
    simpa using q
theorem rd_args {fs : List SE} {kk : List Qs.R → SE} {Z : List V → Hp → Prop} (h : rd c Wx (bindL fs kk) σ H Q)
    (hz : ∀ P0 s0 P s rs xs H1, Rel c P0 s0 σ H → StE P0 s0 σ H P s H1 → Rel c P s σ H1 → Paired (fun r v => RvR c P s σ H H1 r v) rs xs → Out c Wx σ P0 s0 H Q (kk rs s) → Z xs H1) : tArgs c Wx fs σ H Z := by
  obtain ⟨P0, s0, R0, h⟩ := h
  have q := args_aux fs kk Z P0 s0 H [] [] R0 StE.refl R0 .nil (by simpa using h) (fun P s rs xs H1 t R ra h => hz P0 s0 P s rs xs H1 R0 t R ra h)
  simpa using q
/-- the values as they stand -/
def vals (s : S) : List R → Option (List W)
  | [] => some []
  | r :: rs => (val s r).bind fun w => (vals s rs).map (w :: ·)
def onWs (g : List W → Option R) (rs : List R) : SE := fun s => match vals s rs with
  | some ws => (ofO (g ws)).bind fun z => .ok (z, s)
  | none => .bad
theorem vals_view (R : Rel c P s σ H) : ∀ {rs : List Qs.R} {xs : List V} {ws : List W}, Paired (fun r v => RvR c P s σ H0 H r v) rs xs → vals s rs = some ws → Paired (fun w v => View c P H w v) ws xs
  | _, _, _, .nil, e => by cases e; exact .nil
  | r :: rs, x :: xs, ws, .cons h t, e => by
    unfold vals at e
    cases q : val s r with
    | none => rw [q] at e; cases e
    | some w =>
      rw [q] at e
      cases q2 : vals s rs with
      | none => rw [q2] at e; cases e
      | some us => rw [q2] at e; cases e; exact .cons (h.view R q) (vals_view R t q2)
theorem Out.onWs {g : List W → Option R} {rs : List Qs.R} {xs : List V} (R0 : Rel c P0 s0 σ H0) (t : StE P0 s0 σ H0 P s H) (R : Rel c P s σ H) (ra : Paired (fun r v => RvR c P s σ H0 H r v) rs xs) (h : Out c Wx σ P0 s0 H0 Q (Qs.onWs g rs s)) :
    ∃ ws z, g ws = some z ∧ Paired (fun w v => View c P H w v) ws xs ∧ Out c Wx σ P s H Q (.ok (z, s)) := by
  unfold Qs.onWs at h
  cases e : vals s rs with
  | none => rw [e] at h; exact h.elim
  | some ws =>
    rw [e] at h
    cases q : g ws with
    | none => simp only [q, ofO_none, Res.bind_bad] at h; exact h.elim
    | some z => simp only [q, ofO_some, Res.bind_ok] at h; exact ⟨ws, z, q, vals_view R ra e, Out.at_ h t R⟩
/-! ### items for good, with stars -/
def itemsOf : W → Option (List W)
  | .lst ws => some ws
  | .tup ws => some ws
  | _ => none
def bindI {β : Type} : List (Bool × SE) → (List W → S → Res β) → S → Res β
  | [], k => k []
  | (false, f) :: fs, k => fun s => (f s).bind fun p => (ofO (frz p.2 p.1)).bind fun q => bindI fs (fun ws => k (q.1 :: ws)) q.2
  | (true, f) :: fs, k => fun s => (f s).bind fun p => (ofO ((val p.2 p.1).bind itemsOf)).bind fun us => bindI fs (fun ws => k (us ++ ws)) p.2
def tItems (c : Cst) (Wx : WX) : List (Bool × SE) → TA
  | [] => tNil
  | (false, f) :: fs => tCons (rd c Wx f) (tItems c Wx fs)
  | (true, f) :: fs => StX.tStar c.K (rd c Wx f) (tItems c Wx fs)
/-- what a result's tail must tell of exceptions -/
structure Tail (c : Cst) (Wx : WX) (σ : L2.St) (P0 : Addr → Prop) (s0 : S) (H0 : Hp) {β : Type} (OT : Res β → Prop) : Prop where
  exc : ∀ x, OT (.exc x) → PostX c Wx P0 s0 σ H0 x
  bad : OT .bad → False
theorem Tail.out : Tail c Wx σ P0 s0 H0 (Out c Wx σ P0 s0 H0 Q) := ⟨fun _ h => h, fun h => h⟩
theorem rd_subT {β : Type} {OT : Res β → Prop} {f : SE} {kk : Qs.R × S → Res β} {Z : V → Hp → Prop} (hT : Tail c Wx σ P0 s0 H0 OT) (t : StE P0 s0 σ H0 P s H) (R : Rel c P s σ H) (h : OT ((f s).bind kk))
    (hz : ∀ P1 r s1 v H1, StE P0 s0 σ H0 P1 s1 H1 → StE P s σ H P1 s1 H1 → Rel c P1 s1 σ H1 → RvR c P1 s1 σ H0 H1 r v → OT (kk (r, s1)) → Z v H1) : rd c Wx f σ H Z := by
  refine ⟨P, s, R, ?_⟩
  cases e : f s with
  | ok p =>
    obtain ⟨r, s1⟩ := p
    rw [e] at h
    exact fun v P1 H1 t1 R1 rv => hz P1 r s1 v H1 (t.trans t1) t1 R1 (rv.start t) h
  | exc x => rw [e] at h; exact Sxc.of t.toStp R (hT.exc x h)
  | bad => rw [e] at h; exact (hT.bad h).elim
theorem items_auxT {β : Type} {OT : Res β → Prop} (hT : Tail c Wx σ P0 s0 H0 OT) : ∀ (fs : List (Bool × SE)) (kk : List W → S → Res β) (Z : List V → Hp → Prop) (P : Addr → Prop) (s : S) (H : Hp) (wacc : List W) (xacc : List V), Rel c P0 s0 σ H0 → StE P0 s0 σ H0 P s H → Rel c P s σ H →
    Reps c.T c.K P H wacc xacc → OT (bindI fs (fun ws => kk (wacc ++ ws)) s) →
    (∀ P s ws xs H1, StE P0 s0 σ H0 P s H1 → Rel c P s σ H1 → Reps c.T c.K P H1 ws xs → OT (kk ws s) → Z xs H1) →
    tItems c Wx fs σ H (fun xs H1 => Z (xacc ++ xs) H1)
  | [], kk, Z, P, s, H, wacc, xacc, R0, t, R, ra, h, hz => by
    have h : OT (kk (wacc ++ []) s) := h
    show Z (xacc ++ []) H
    rw [List.append_nil] at h ⊢
    exact hz P s wacc xacc H t R ra h
  | (false, f) :: fs, kk, Z, P, s, H, wacc, xacc, R0, t, R, ra, h, hz => by
    refine rd_subT hT t R h fun P1 r s1 v H1 t1 t1' R1 rv h1 => ?_
    dsimp only at h1
    cases e : frz s1 r with
    | none => rw [e] at h1; exact (hT.bad h1).elim
    | some q =>
      obtain ⟨w, s2⟩ := q
      rw [e] at h1
      obtain ⟨P2, t2, R2, rw2, kp⟩ := frz_ok t1 R1 rv e
      have ra2 : Reps c.T c.K P2 H1 wacc xacc := Reps.mono kp _ _ (Reps.mono (Stp.kp R t1'.toStp) _ _ ra)
      have q := items_auxT hT fs kk Z P2 s2 H1 (wacc ++ [w]) (xacc ++ [v]) R0 t2 R2 (ra2.app (Reps.cons rw2 Reps.nil)) (by simpa using h1) hz
      simpa using q
  | (true, f) :: fs, kk, Z, P, s, H, wacc, xacc, R0, t, R, ra, h, hz => by
    refine rd_subT hT t R h fun P1 r s1 v H1 t1 t1' R1 rv h1 => ?_
    dsimp only at h1
    cases e : val s1 r with
    | none => rw [e] at h1; exact (hT.bad h1).elim
    | some w =>
      rw [e] at h1
      cases e2 : itemsOf w with
      | none => simp only [Option.bind_some, e2, ofO_none, Res.bind_bad] at h1; exact (hT.bad h1).elim
      | some us =>
        simp only [Option.bind_some, e2, ofO_some, Res.bind_ok] at h1
        have vw := rv.view R1 e
        have ra2 : Reps c.T c.K P1 H1 wacc xacc := Reps.mono (Stp.kp R t1'.toStp) _ _ ra
        unfold itemsOf at e2
        split at e2
        · cases e2
          obtain ⟨a, vs, rfl, qa, rb⟩ := vw.lst
          refine ⟨a, vs, rfl, .inr (.of qa), ?_⟩
          have q := items_auxT hT fs kk Z P1 s1 H1 (wacc ++ us) (xacc ++ vs) R0 t1 R1 (ra2.app rb) (by simpa using h1) hz
          simpa using q
        · cases e2
          obtain ⟨a, vs, rfl, qa, rb⟩ := vw.tup
          refine ⟨a, vs, rfl, .inl qa, ?_⟩
          have q := items_auxT hT fs kk Z P1 s1 H1 (wacc ++ us) (xacc ++ vs) R0 t1 R1 (ra2.app rb) (by simpa using h1) hz
          simpa using q
        · cases e2
theorem rd_items {fs : List (Bool × SE)} {kk : List W → SE} {Z : List V → Hp → Prop} (h : rd c Wx (bindI fs kk) σ H Q)
    (hz : ∀ P0 s0 P s ws xs H1, Rel c P0 s0 σ H → StE P0 s0 σ H P s H1 → Rel c P s σ H1 → Reps c.T c.K P H1 ws xs → Out c Wx σ P0 s0 H Q (kk ws s) → Z xs H1) : tItems c Wx fs σ H Z := by
  obtain ⟨P0, s0, R0, h⟩ := h
  have q := items_auxT Tail.out fs kk Z P0 s0 H [] [] R0 StE.refl R0 Reps.nil (by simpa using h) (fun P s ws xs H1 t R ra h => hz P0 s0 P s ws xs H1 R0 t R ra h)
  simpa using q
/-! ### displays -/
def tupE (ws : List W) : SE := fun s => chk (decide (ws.length ≤ lim)) (.ok (.fro (.tup ws), s))
def lstE (ws : List W) : SE := fun s => chk (decide (ws.length ≤ lim)) (.ok (.new (.lst ws), s))
theorem out_chk {b : Bool} {res : Res (R × S)} (h : Out c Wx σ P s H Q (chk b res)) : b = true ∧ Out c Wx σ P s H Q res := by
  unfold chk at h
  split at h
  · rename_i q; exact ⟨q, h⟩
  · exact h.elim
def eTup (fs : List (Bool × SE)) : SE := bindI fs tupE
def eLst (fs : List (Bool × SE)) : SE := bindI fs lstE
theorem pe_tuple {es : List Expr} {n : Nat} {pos : Pos} {fs : List (Bool × SE)} (ha : PA X es (tItems c Wx fs)) : PE X (.Tuple es n pos) (rd c Wx (eTup fs)) :=
  pe_imp (pe_tup ha) fun σ H Q h => rd_items h fun P0 s0 P s ws xs H1 R0 t R ra h => by
    obtain ⟨g, h⟩ := out_chk h
    refine ⟨by rw [← ra.length, lim_eq]; exact of_decide_eq_true g, (Out.at_ h t R).tup R ra⟩
theorem pe_list {es : List Expr} {pos : Pos} {fs : List (Bool × SE)} (ha : PA X es (tItems c Wx fs)) : PE X (.List es pos) (rd c Wx (eLst fs)) :=
  pe_imp (pe_lst ha) fun σ H Q h => rd_items h fun P0 s0 P s ws xs H1 R0 t R ra h => by
    obtain ⟨g, h⟩ := out_chk h
    refine ⟨by rw [← ra.length, lim_eq]; exact of_decide_eq_true g, (Out.at_ h t R).lst R ra⟩
/-! ### built-in functions by values -/
def eFn (g : List W → Option R) (fs : List SE) : SE := bindL fs (onWs g)
/-- what a built-in's rule must give -/
def FnOkW (c : Cst) (Wx : WX) (g : List W → Option R) (r : List V → Hp → VK → Prop) : Prop :=
  ∀ {P : Addr → Prop} {s : S} {σ : L2.St} {H : Hp} {Q : VK} {ws : List W} {z : R} {xs : List V}, Rel c P s σ H → g ws = some z → Paired (fun w v => View c P H w v) ws xs → Out c Wx σ P s H Q (.ok (z, s)) → r xs H Q
theorem pe_fn_of {f : TE → Prop} {g : List W → Option R} {r : List V → Hp → VK → Prop} {fs : List SE} {e : Expr} (hr : FnOkW c Wx g r) (h : PE X e (tCB r (tArgs c Wx fs))) : PE X e (rd c Wx (eFn g fs)) :=
  pe_imp h fun σ H Q h => rd_args h fun P0 s0 P s rs xs H1 R0 t R ra h => by
    obtain ⟨ws, z, e, hx, h3⟩ := Out.onWs R0 t R ra h
    exact hr R e hx h3
end
end Qs
/-! # Subscripts, slices; len, abs, min, max, int, tuple, list, sum, all, any -/
namespace Qs
open PySem PySem.Spec PyProof.Rows L2
section
variable {c : Cst} {Wx : WX} {k : Nat} {X : Cx} {P P0 P1 : Addr → Prop} {s s' s0 s1 : S} {σ : L2.St} {H H0 H1 : Hp} {Q : VK} {u w : W} {r z : R} {x y v : V} {a b : Expr} {fa fb : SE} {pos p2 : Pos}
theorem one_of {α β : Type} {F : α → β → Prop} {a : α} {xs : List β} (h : Paired F [a] xs) : ∃ x, xs = [x] ∧ F a x := by
  cases h with
  | cons h t => cases t; exact ⟨_, rfl, h⟩
theorem two_of {α β : Type} {F : α → β → Prop} {a b : α} {xs : List β} (h : Paired F [a, b] xs) : ∃ x y, xs = [x, y] ∧ F a x ∧ F b y := by
  cases h with
  | cons h t =>
    cases t with
    | cons h2 t => cases t; exact ⟨_, _, rfl, h, h2⟩
/-! ### o[i] -/
def ixW : W → W → Option R
  | .lst ws, .int i => (atI ws i).map .fro
  | .tup ws, .int i => (atI ws i).map .fro
  | .scr ws, .int i => (atI ws i).map .fro
  | .str l, .int i => if l.length ≤ lim then (atI l i).map fun d => .fro (.str [d]) else none
  | _, _ => none
def eIx (fa fb : SE) : SE := bind2 fa fb (onW2 ixW)
theorem reps_at {T : Tab} {K : PySem.W.Frag} {ws : List W} {vs : List V} {i : Int} (r : Reps T K P H ws vs) (e : atI ws i = some w) : ∃ v, atI vs i = some v ∧ Rep T K P H w v := by
  unfold atI at e ⊢
  rw [← r.length]
  cases q : ixN ws.length i with
  | none => rw [q] at e; cases e
  | some j =>
    rw [q] at e
    exact r.get e
theorem pe_sub (hK : X.K = c.K) (hs : PlainIx b) (ha : PE X a (rd c Wx fa)) (hb : PE X b (rd c Wx fb)) : PE X (.Subscript a b pos) (rd c Wx (eIx fa fb)) :=
  pe_imp (pe_ix ix_seq ha hb hs) fun σ H Q h => rd_two h fun P s ra rb x y H2 R rx ry h2 => by
    obtain ⟨u, w, z, e, hx, hy, h3⟩ := Out.onW2 R rx ry h2
    unfold ixW at e
    split at e
    · rename_i ws i
      cases q : atI ws i with
      | none => rw [q] at e; cases e
      | some t =>
        rw [q] at e; cases e
        obtain ⟨p, vs, rfl, qa, rr⟩ := hx.lst
        obtain ⟨v, e1, rv⟩ := reps_at rr q
        exact .inl ⟨p, vs, i, v, rfl, hy.int, .of qa, e1, h3.flat R rv⟩
    · rename_i ws i
      cases q : atI ws i with
      | none => rw [q] at e; cases e
      | some t =>
        rw [q] at e; cases e
        obtain ⟨p, vs, rfl, qa, rr⟩ := hx.tup
        obtain ⟨v, e1, rv⟩ := reps_at rr q
        exact .inr (.inl ⟨p, vs, i, v, rfl, hy.int, by rw [hK]; exact qa, e1, h3.flat R rv⟩)
    · rename_i ws i
      cases q : atI ws i with
      | none => rw [q] at e; cases e
      | some t =>
        rw [q] at e; cases e
        obtain ⟨p, vs, rfl, qa, rr⟩ := hx.scr
        obtain ⟨v, e1, rv⟩ := reps_at rr q
        exact .inl ⟨p, vs, i, v, rfl, hy.int, by rw [hK]; exact qa.sq, e1, h3.flat R rv⟩
    · rename_i l i
      split at e
      · rename_i g
        cases q : atI l i with
        | none => rw [q] at e; cases e
        | some t =>
          rw [q] at e; cases e
          exact .inr (.inr ⟨mkS l, i, t, hx.str, hy.int, by rw [mkS_len, lim_eq]; exact g, by simpa using q, outS R h3⟩)
      · cases e
    · cases e
/-! ### o[lo:hi] -/
/-- a part of a slice -/
def oInt : W → Option (Option Int)
  | .int i => some (some i)
  | .non => some none
  | _ => none
def cutG {α : Type} (xs : List α) (lo hi : Option Int) : List α := (xs.drop (HT.sIx xs.length 0 lo)).take (HT.sIx xs.length xs.length hi - HT.sIx xs.length 0 lo)
def sliceW (lo hi : Option Int) : W → Option R
  | .lst ws => some (.new (.lst (cutG ws lo hi)))
  | .tup ws => some (.fro (.tup (cutG ws lo hi)))
  | .str l => if l.length ≤ lim then some (.fro (.str (cutG l lo hi))) else none
  | _ => none
/-- a part as an expression or none -/
def bindP : Option SE → (Option Int → SE) → SE
  | none, k => k none
  | some f, k => bind1 f fun r s => match val s r with
    | some (.int i) => k (some i) s
    | _ => .bad
def eSl (fa : SE) (lo hi : Option SE) : SE := bind1 fa fun r => bindP lo fun l => bindP hi fun h => onW (sliceW l h) r
def tP (c : Cst) (Wx : WX) : Option SE → TO
  | none => tNoPart
  | some f => tPart (rd c Wx f)
theorem reps_cut {T : Tab} {K : PySem.W.Frag} {ws : List W} {vs : List V} {lo hi : Option Int} (r : Reps T K P H ws vs) : Reps T K P H (cutG ws lo hi) (cutV vs lo hi) := by
  unfold cutG cutV
  rw [r.length]
  exact (r.drop _).take _
theorem rd_part {f : Option SE} {kk : Option Int → SE} {Z : Option Int → Hp → Prop} (R : Rel c P s σ H) (h : Out c Wx σ P s H Q (bindP f kk s))
    (hz : ∀ P1 s1 o H1, StE P s σ H P1 s1 H1 → Rel c P1 s1 σ H1 → Out c Wx σ P s H Q (kk o s1) → Z o H1) : tP c Wx f σ H Z := by
  cases f with
  | none => exact hz P s none H StE.refl R h
  | some f =>
    refine rd_sub R StE.refl R h fun P1 r s1 v H1 t1 _ R1 rv h1 => ?_
    dsimp only at h1
    split at h1
    · rename_i i e
      exact ⟨i, (rv.view R1 e).int, hz P1 s1 _ H1 t1 R1 h1⟩
    · exact h1.elim
theorem pe_sl {lo hi : Option Expr} {fl fh : Option SE} (hK : X.K = c.K) (ha : PE X a (rd c Wx fa)) (hl : PO X lo (tP c Wx fl)) (hh : PO X hi (tP c Wx fh)) : PE X (.Subscript a (.Slice lo hi none p2) pos) (rd c Wx (eSl fa fl fh)) :=
  pe_imp (pe_slice ((sl_list.or sl_tupA).or sl_str) ha hl hh) fun σ H Q ⟨P0, s0, R0, h⟩ => by
    refine rd_sub R0 StE.refl R0 h fun P1 r s1 x H1 t1 _ R1 rv h1 => ?_
    refine rd_part R1 (Out.at_ h1 t1 R1) fun P2 s2 l H2 t2 R2 h2 => ?_
    have h2 := Out.at_ h2 t2 R2
    refine rd_part R2 h2 fun P3 s3 hh H3 t3 R3 h3 => ?_
    have h3 := Out.at_ h3 t3 R3
    obtain ⟨u, z, e, hx, h4⟩ := Out.onW R3 ((rv.over R1 t2).over R2 t3) h3
    unfold sliceW at e
    split at e
    · cases e
      obtain ⟨p, vs, rfl, qa, rr⟩ := hx.lst
      exact .inl (.inl ⟨p, vs, rfl, .of qa, h4.lst R3 (reps_cut rr)⟩)
    · rename_i ws
      cases e
      obtain ⟨p, vs, rfl, qa, rr⟩ := hx.tup
      refine .inl (.inr ⟨p, vs, rfl, by rw [hK]; exact qa, fun ⟨e1, e2⟩ => ?_, fun _ => h4.tup R3 (reps_cut rr)⟩)
      have ew : cutG ws l hh = ws := by
        unfold cutG
        rw [rr.length, e1, e2]
        simp only [List.drop_zero, Nat.sub_zero]
        exact List.take_of_length_le (Nat.le_of_eq rr.length)
      rw [ew] at h4
      exact h4.flat R3 (rep_tup qa rr)
    · rename_i l'
      split at e
      · rename_i g
        cases e
        refine .inr ⟨mkS l', hx.str, by rw [mkS_len, lim_eq]; exact g, ?_⟩
        have q := outS R3 h4
        have e1 : mkS (cutG l' l hh) = cutS (mkS l') l hh := by
          unfold cutS cutG mkS
          simp [Str.length]
        rw [e1] at q
        exact q
      · cases e
    · cases e
/-! ### built-in functions -/
def lenW : List W → Option R
  | [.lst ws] => some (.fro (.int ws.length))
  | [.tup ws] => some (.fro (.int ws.length))
  | [.scr ws] => some (.fro (.int ws.length))
  | [.str l] => if l.length ≤ lim then some (.fro (.int l.length)) else none
  | _ => none
theorem fn_len : FnOkW c Wx lenW (fun xs H Q => ∃ x n, xs = [x] ∧ LenV c.K x H n ∧ Q (.int n) H) := fun {P s σ H Q ws z xs} R e hx h => by
  unfold lenW at e
  split at e
  · cases e
    obtain ⟨_, rfl, h1⟩ := one_of hx
    obtain ⟨p, vs, rfl, qa, rr⟩ := h1.lst
    exact ⟨_, vs.length, rfl, .inl ⟨vs, .of qa, rfl⟩, by rw [← rr.length]; exact outI R h⟩
  · cases e
    obtain ⟨_, rfl, h1⟩ := one_of hx
    obtain ⟨p, vs, rfl, qa, rr⟩ := h1.tup
    exact ⟨_, vs.length, rfl, .inr ⟨vs, qa, rfl⟩, by rw [← rr.length]; exact outI R h⟩
  · cases e
    obtain ⟨_, rfl, h1⟩ := one_of hx
    obtain ⟨p, vs, rfl, qa, rr⟩ := h1.scr
    exact ⟨_, vs.length, rfl, .inl ⟨vs, qa.sq, rfl⟩, by rw [← rr.length]; exact outI R h⟩
  · split at e
    · rename_i g
      cases e
      obtain ⟨_, rfl, h1⟩ := one_of hx
      refine ⟨_, _, rfl, ?_, outI R h⟩
      rw [h1.str]
      exact ⟨by rw [mkS_len, lim_eq]; exact g, (mkS_len _).symm⟩
    · cases e
  · cases e
def absW : List W → Option R
  | [.int i] => some (.fro (.int (if i < 0 then -i else i)))
  | _ => none
theorem fn_abs : FnOkW c Wx absW (fun xs H Q => ∃ i, xs = [.int i] ∧ Q (.int (if i < 0 then -i else i)) H) := fun {P s σ H Q ws z xs} R e hx h => by
  unfold absW at e
  split at e
  · cases e
    obtain ⟨_, rfl, h1⟩ := one_of hx
    rw [h1.int]
    exact ⟨_, rfl, outI R h⟩
  · cases e
def max2W : List W → Option R
  | [.int i, .int j] => some (.fro (.int (if j > i then j else i)))
  | _ => none
theorem fn_max2 : FnOkW c Wx max2W (fun xs H Q => ∃ i j, xs = [.int i, .int j] ∧ Q (.int (if j > i then j else i)) H) := fun {P s σ H Q ws z xs} R e hx h => by
  unfold max2W at e
  split at e
  · cases e
    obtain ⟨_, _, rfl, h1, h2⟩ := two_of hx
    rw [h1.int, h2.int]
    exact ⟨_, _, rfl, outI R h⟩
  · cases e
def min2W : List W → Option R
  | [.int i, .int j] => some (.fro (.int (if j < i then j else i)))
  | _ => none
theorem fn_min2 : FnOkW c Wx min2W (fun xs H Q => ∃ i j, xs = [.int i, .int j] ∧ Q (.int (if j < i then j else i)) H) := fun {P s σ H Q ws z xs} R e hx h => by
  unfold min2W at e
  split at e
  · cases e
    obtain ⟨_, _, rfl, h1, h2⟩ := two_of hx
    rw [h1.int, h2.int]
    exact ⟨_, _, rfl, outI R h⟩
  · cases e
theorem cr_intA {X : Cx} : CallR X (.type "int") (fun xs H Q => ((∃ i, xs = [.int i] ∧ Q (.int i) H) ∨ ∃ k, xs = [.bl k] ∧ Q (.int (if k then 1 else 0)) H) ∨ ∃ a n, xs = [.str a] ∧ PySem.intText? a = some n ∧ a.length ≤ 640 ∧ Q (.int n) H) := by
  intro pins s σ H vs us Q I r h
  rcases h with h | h
  · exact call_int1 _ _ _ _ _ _ _ I r h
  · exact call_int_str _ _ _ _ _ _ _ I r h
def intW : List W → Option R
  | [.int i] => some (.fro (.int i))
  | [.bl b] => some (.fro (.int (if b then 1 else 0)))
  | [.str a] => (PySem.intText? (mkS a)).bind fun n => guard' (decide (a.length ≤ 640)) (.fro (.int n))
  | _ => none
theorem fn_int : FnOkW c Wx intW (fun xs H Q => ((∃ i, xs = [.int i] ∧ Q (.int i) H) ∨ ∃ k, xs = [.bl k] ∧ Q (.int (if k then 1 else 0)) H) ∨ ∃ a n, xs = [.str a] ∧ PySem.intText? a = some n ∧ a.length ≤ 640 ∧ Q (.int n) H) := fun {P s σ H Q ws z xs} R e hx h => by
  unfold intW at e
  split at e
  · cases e
    obtain ⟨_, rfl, h1⟩ := one_of hx
    rw [h1.int]
    exact .inl (.inl ⟨_, rfl, outI R h⟩)
  · cases e
    obtain ⟨_, rfl, h1⟩ := one_of hx
    rw [h1.bl]
    exact .inl (.inr ⟨_, rfl, outI R h⟩)
  · rename_i a
    obtain ⟨_, rfl, h1⟩ := one_of hx
    cases q : PySem.intText? (mkS a) with
    | none => rw [q] at e; cases e
    | some n =>
      rw [q] at e
      obtain ⟨g, e2⟩ := guard'_some e
      subst e2
      exact .inr ⟨mkS a, n, by rw [h1.str], q, by rw [mkS_len]; exact of_decide_eq_true g, outI R h⟩
  · cases e
def tupW : List W → Option R
  | [.lst ws] => some (.fro (.tup ws))
  | [.tup ws] => some (.fro (.tup ws))
  | _ => none
theorem fn_tup : FnOkW c Wx tupW (fun xs H Q => ∃ p ys, xs = [.ref p] ∧ ((SqL c.K H p ys ∧ ∀ l, H l = none → Q (.ref l) (upd H l (.tup ys))) ∨ (SqT c.K H p ys ∧ Q (.ref p) H))) := fun {P s σ H Q ws z xs} R e hx h => by
  unfold tupW at e
  split at e
  · cases e
    obtain ⟨_, rfl, h1⟩ := one_of hx
    obtain ⟨p, vs, rfl, qa, rr⟩ := h1.lst
    exact ⟨p, vs, rfl, .inl ⟨.of qa, h.tup R rr⟩⟩
  · cases e
    obtain ⟨_, rfl, h1⟩ := one_of hx
    obtain ⟨p, vs, rfl, qa, rr⟩ := h1.tup
    exact ⟨p, vs, rfl, .inr ⟨qa, h.flat R (rep_tup qa rr)⟩⟩
  · cases e
def listW : List W → Option R
  | [.lst ws] => some (.new (.lst ws))
  | [.tup ws] => some (.new (.lst ws))
  | _ => none
theorem fn_list : FnOkW c Wx listW (fun xs H Q => ∃ p ys, xs = [.ref p] ∧ (SqL c.K H p ys ∨ SqT c.K H p ys) ∧ ∀ l, H l = none → Q (.ref l) (upd H l (.lst ys))) := fun {P s σ H Q ws z xs} R e hx h => by
  unfold listW at e
  split at e
  · cases e
    obtain ⟨_, rfl, h1⟩ := one_of hx
    obtain ⟨p, vs, rfl, qa, rr⟩ := h1.lst
    exact ⟨p, vs, rfl, .inl (.of qa), h.lst R rr⟩
  · cases e
    obtain ⟨_, rfl, h1⟩ := one_of hx
    obtain ⟨p, vs, rfl, qa, rr⟩ := h1.tup
    exact ⟨p, vs, rfl, .inr qa, h.lst R rr⟩
  · cases e
/-- the ints of a list -/
def intsOf : List W → Option (List Int)
  | [] => some []
  | .int i :: ws => (intsOf ws).map (i :: ·)
  | _ => none
def boolsOf : List W → Option (List Bool)
  | [] => some []
  | .bl i :: ws => (boolsOf ws).map (i :: ·)
  | _ => none
theorem reps_ints {T : Tab} {K : PySem.W.Frag} : ∀ {ws : List W} {vs : List V} {ns : List Int}, Reps T K P H ws vs → intsOf ws = some ns → vs = ns.map V.int
  | [], _, _, r, e => by cases e; unfold Reps at r; exact r
  | .int i :: ws, vs, ns, r, e => by
    unfold intsOf at e
    cases q : intsOf ws with
    | none => rw [q] at e; cases e
    | some ms =>
      rw [q] at e; cases e
      unfold Reps at r
      obtain ⟨v, r', e1, h1, h2⟩ := r
      subst e1
      unfold Rep at h1
      rw [h1, reps_ints h2 q]; rfl
  | .non :: _, _, _, _, e => by cases e
  | .bl _ :: _, _, _, _, e => by cases e
  | .str _ :: _, _, _, _, e => by cases e
  | .tup _ :: _, _, _, _, e => by cases e
  | .lst _ :: _, _, _, _, e => by cases e
  | .dic _ _ :: _, _, _, _, e => by cases e
  | .fn _ :: _, _, _, _, e => by cases e
  | .cl _ :: _, _, _, _, e => by cases e
  | .ty _ :: _, _, _, _, e => by cases e
  | .ins _ _ :: _, _, _, _, e => by cases e
  | .scr _ :: _, _, _, _, e => by cases e
theorem reps_bools {T : Tab} {K : PySem.W.Frag} : ∀ {ws : List W} {vs : List V} {ns : List Bool}, Reps T K P H ws vs → boolsOf ws = some ns → vs = ns.map V.bl
  | [], _, _, r, e => by cases e; unfold Reps at r; exact r
  | .bl i :: ws, vs, ns, r, e => by
    unfold boolsOf at e
    cases q : boolsOf ws with
    | none => rw [q] at e; cases e
    | some ms =>
      rw [q] at e; cases e
      unfold Reps at r
      obtain ⟨v, r', e1, h1, h2⟩ := r
      subst e1
      unfold Rep at h1
      rw [h1, reps_bools h2 q]; rfl
  | .non :: _, _, _, _, e => by cases e
  | .int _ :: _, _, _, _, e => by cases e
  | .str _ :: _, _, _, _, e => by cases e
  | .tup _ :: _, _, _, _, e => by cases e
  | .lst _ :: _, _, _, _, e => by cases e
  | .dic _ _ :: _, _, _, _, e => by cases e
  | .fn _ :: _, _, _, _, e => by cases e
  | .cl _ :: _, _, _, _, e => by cases e
  | .ty _ :: _, _, _, _, e => by cases e
  | .ins _ _ :: _, _, _, _, e => by cases e
  | .scr _ :: _, _, _, _, e => by cases e
def sumW : List W → Option R
  | [.lst ws] => (intsOf ws).map fun ns => .fro (.int ns.sum)
  | [.tup ws] => (intsOf ws).map fun ns => .fro (.int ns.sum)
  | _ => none
def rSumA (K : PySem.W.Frag) : List V → Hp → VK → Prop := fun vs H Q => ∃ (a : Addr) (ns : List Int), vs = [V.ref a] ∧ (SqL K H a (ns.map V.int) ∨ SqT K H a (ns.map V.int)) ∧ Q (.int ns.sum) H
theorem cr_sumA (hc : X.calm = true) : CallR X (.builtin "sum") (rSumA X.K) := by
  intro pins s σ H vs us Q I r h
  obtain ⟨a, ns, rfl, hs, q⟩ := h
  rcases hs with hs | hs
  · obtain ⟨its, rv, hl, _⟩ := I.list hs
    rw [Vals.ref1 r]
    exact sum_raw (I.ok.hd hc) hl.isList rv.ints fun h' tk t' hk => ⟨.int _, H, I.kept hk, ⟨_, rfl⟩, q⟩
  · obtain ⟨its, rv, hl, _⟩ := I.tuple hs
    rw [Vals.ref1 r]
    obtain ⟨xs, e⟩ := rv.ints.allInts.items
    have hn : numsOf (intItems xs).toList = ns := by rw [← e]; exact rv.ints.numsOf
    rw [nums_intItems] at hn
    rw [e] at hl
    obtain ⟨o, ho, hc2, n, hd⟩ := hl
    refine PySem.W.ktm_sumG (xs := xs) (I.ok.hd hc) ⟨o, ho, hc2, n, hd⟩ fun h' tk t' hk => ?_
    rw [preSum_eq, List.take_of_length_le (by simp), hn]
    exact ⟨.int _, H, I.kept hk, ⟨_, rfl⟩, q⟩
theorem fn_sum : FnOkW c Wx sumW (rSumA c.K) := fun {P s σ H Q ws z xs} R e hx h => by
  unfold sumW at e
  split at e
  · rename_i ws
    cases q : intsOf ws with
    | none => rw [q] at e; cases e
    | some ns =>
      rw [q] at e; cases e
      obtain ⟨_, rfl, h1⟩ := one_of hx
      obtain ⟨p, vs, rfl, qa, rr⟩ := h1.lst
      rw [reps_ints rr q] at qa
      exact ⟨p, ns, rfl, .inl (.of qa), outI R h⟩
  · rename_i ws
    cases q : intsOf ws with
    | none => rw [q] at e; cases e
    | some ns =>
      rw [q] at e; cases e
      obtain ⟨_, rfl, h1⟩ := one_of hx
      obtain ⟨p, vs, rfl, qa, rr⟩ := h1.tup
      rw [reps_ints rr q] at qa
      exact ⟨p, ns, rfl, .inr qa, outI R h⟩
  · cases e
def allW : List W → Option R
  | [.lst ws] => (boolsOf ws).map fun ns => .fro (.bl (ns.all id))
  | _ => none
theorem fn_all : FnOkW c Wx allW (rAll c.K) := fun {P s σ H Q ws z xs} R e hx h => by
  unfold allW at e
  split at e
  · rename_i ws
    cases q : boolsOf ws with
    | none => rw [q] at e; cases e
    | some ns =>
      rw [q] at e; cases e
      obtain ⟨_, rfl, h1⟩ := one_of hx
      obtain ⟨p, vs, rfl, qa, rr⟩ := h1.lst
      rw [reps_bools rr q] at qa
      exact ⟨p, ns, rfl, .of qa, outB R h⟩
  · cases e
def anyW : List W → Option R
  | [.lst ws] => (boolsOf ws).map fun ns => .fro (.bl (ns.any id))
  | _ => none
theorem fn_any : FnOkW c Wx anyW (rAny c.K) := fun {P s σ H Q ws z xs} R e hx h => by
  unfold anyW at e
  split at e
  · rename_i ws
    cases q : boolsOf ws with
    | none => rw [q] at e; cases e
    | some ns =>
      rw [q] at e; cases e
      obtain ⟨_, rfl, h1⟩ := one_of hx
      obtain ⟨p, vs, rfl, qa, rr⟩ := h1.lst
      rw [reps_bools rr q] at qa
      exact ⟨p, ns, rfl, .of qa, outB R h⟩
  · cases e
end
end Qs
/-! # Statements -/
namespace Qs
open PySem PySem.Spec PyProof.Rows L2
section
variable (c : Cst)
/-- what follows a statement's result, from the state at which it began -/
def OutS (Wx : WX) (σ : L2.St) (P : Addr → Prop) (s : S) (H : Hp) (D : Ends) : Res Fl → Prop
  | .ok (.nx s') => ∀ σ' P' H', Stp P s σ H P' s' σ' H' → Rel c P' s' σ' H' → D.nx σ' H'
  | .ok (.bk s') => ∀ σ' P' H', Stp P s σ H P' s' σ' H' → Rel c P' s' σ' H' → D.bk σ' H'
  | .ok (.ct s') => ∀ σ' P' H', Stp P s σ H P' s' σ' H' → Rel c P' s' σ' H' → D.ct σ' H'
  | .ok (.rt r s') => ∀ σ' v P' H', Stp P s σ H P' s' σ' H' → Rel c P' s' σ' H' → RvR c P' s' σ' H H' r v → D.rt v H'
  | .exc x => ∀ σ' cls d P' H', Sxc c P s σ H P' H' → XRel c P' H' x cls d → Wx cls d σ' H'
  | .bad => False
def rdS (Wx : WX) (f : SS) : TS := fun D σ H => ∃ P s, Rel c P s σ H ∧ OutS c Wx σ P s H D (f s)
end
section
variable {c : Cst} {Wx : WX} {k : Nat} {X : Cx} {P P0 P1 P' : Addr → Prop} {s s' s0 s1 : S} {σ σ0 σ' : L2.St} {H H0 H1 H' : Hp} {Q : VK} {D D' : Ends} {u w : W} {r z : R} {x y v : V} {a b e : Expr} {fa fb : SE} {pos p2 : Pos}
theorem Stp.there' (t : Stp P s σ H P' s' σ' H') {a : Addr} (h : H' a = none) : H a = none := by
  cases e : H a with
  | none => rfl
  | some o => exact absurd h (t.there a (by rw [e]; exact fun z => nomatch z))
theorem RvR.startS {r : R} {v : V} {P2 : Addr → Prop} {s2 : S} {σ2 : L2.St} {H2 : Hp} (t : Stp P0 s0 σ0 H0 P s σ H) (h : RvR c P2 s2 σ2 H H2 r v) : RvR c P2 s2 σ2 H0 H2 r v := by
  cases r with
  | fro w => exact h
  | new w =>
    obtain ⟨a, e, n, no, hn, q⟩ := h
    exact ⟨a, e, n, no, t.there' hn, q⟩
  | bor i => exact h
theorem Sxc.ofS (t : Stp P0 s0 σ0 H0 P s σ H) (u : Sxc c P s σ H P' H') : Sxc c P0 s0 σ0 H0 P' H' where
  keep := fun a o e n nt => by
    refine u.keep a o (t.keep a o e n nt) (fun z => ?_) nt
    rcases t.own a z with z | z
    · exact n z
    · rw [z] at e; cases e
  pin := fun a e => u.pin a (t.pin a e)
  new := fun a e => by
    rcases u.new a e with z | z | z
    · exact t.new a z
    · by_cases q : H0 a = none
      · exact .inr (.inl q)
      · exact absurd z (t.there a q)
    · rcases t.own a z with z | z
      · exact .inr (.inr z)
      · exact .inr (.inl z)
  tbs := u.tbs
  dom := u.dom
  there := fun a e => u.there a (t.there a e)
theorem OutS.at_ {res : Res Fl} (h : OutS c Wx σ0 P0 s0 H0 D res) (t : Stp P0 s0 σ0 H0 P s σ H) : OutS c Wx σ P s H D res := by
  cases res with
  | ok f =>
    cases f with
    | nx s' => exact fun σ' P' H' t' R' => h σ' P' H' (t.trans t') R'
    | bk s' => exact fun σ' P' H' t' R' => h σ' P' H' (t.trans t') R'
    | ct s' => exact fun σ' P' H' t' R' => h σ' P' H' (t.trans t') R'
    | rt r s' => exact fun σ' v P' H' t' R' rv => h σ' v P' H' (t.trans t') R' (rv.startS t)
  | exc x => exact fun σ' cls d P' H' u xr => h σ' cls d P' H' (Sxc.ofS t u) xr
  | bad => exact h
/-- from a statement's start through an expression -/
theorem OutS.exp {res : Res (R × S)} {kk : R × S → Res Fl} (h : OutS c Wx σ P s H D (res.bind kk))
    (hz : ∀ r s1 v P1 H1, res = .ok (r, s1) → StE P s σ H P1 s1 H1 → Rel c P1 s1 σ H1 → RvR c P1 s1 σ H H1 r v → OutS c Wx σ P s H D (kk (r, s1)) → Q v H1) : Out c Wx σ P s H Q res := by
  cases res with
  | ok p =>
    obtain ⟨r, s1⟩ := p
    exact fun v P1 H1 t1 R1 rv => hz r s1 v P1 H1 rfl t1 R1 rv h
  | exc x => exact fun cls d P' H' u xr => h σ cls d P' H' u xr
  | bad => exact h
/-! ### blocks -/
def sNil : SS := fun s => .ok (.nx s)
/-! all that is known, worked out ahead (for the kernel's sake) -/
def nfN {α : Type} (n : Nat) (k : Nat → α) : α := match n with
  | 0 => k 0
  | m + 1 => k (m + 1)
theorem nfN_eq {α : Type} {n : Nat} {k : Nat → α} : nfN n k = k n := by cases n <;> rfl
def nfI {α : Type} (i : Int) (k : Int → α) : α := match i with
  | .ofNat n => nfN n fun m => k (.ofNat m)
  | .negSucc n => nfN n fun m => k (.negSucc m)
theorem nfI_eq {α : Type} {i : Int} {k : Int → α} : nfI i k = k i := by cases i <;> (unfold nfI; exact nfN_eq)
def nfNs {α : Type} : List Nat → (List Nat → α) → α
  | [], k => k []
  | n :: ns, k => nfN n fun m => nfNs ns fun ms => k (m :: ms)
theorem nfNs_eq {α : Type} : ∀ {l : List Nat} {k : List Nat → α}, nfNs l k = k l
  | [], _ => rfl
  | n :: ns, k => nfN_eq.trans nfNs_eq
mutual
def nfW {α : Type} : W → (W → α) → α
  | .non, k => k .non
  | .bl b, k => (match b with
    | true => k (.bl true)
    | false => k (.bl false))
  | .int i, k => nfI i fun j => k (.int j)
  | .str s, k => nfNs s fun s => k (.str s)
  | .tup ws, k => nfWs ws fun ws => k (.tup ws)
  | .lst ws, k => nfWs ws fun ws => k (.lst ws)
  | .scr ws, k => nfWs ws fun ws => k (.scr ws)
  | .dic ks ws, k => nfWs ks fun ks => nfWs ws fun ws => k (.dic ks ws)
  | .fn n, k => k (.fn n)
  | .cl n, k => k (.cl n)
  | .ty n, k => k (.ty n)
  | .ins n ws, k => nfWs ws fun ws => k (.ins n ws)
def nfWs {α : Type} : List W → (List W → α) → α
  | [], k => k []
  | w :: ws, k => nfW w fun u => nfWs ws fun us => k (u :: us)
end
mutual
theorem nfW_eq {α : Type} : ∀ (w : W) (k : W → α), nfW w k = k w
  | .non, k => by unfold nfW; rfl
  | .bl b, k => by unfold nfW; cases b <;> rfl
  | .int i, k => by unfold nfW; exact nfI_eq
  | .str s, k => by unfold nfW; exact nfNs_eq
  | .tup ws, k => by unfold nfW; exact nfWs_eq ws _
  | .lst ws, k => by unfold nfW; exact nfWs_eq ws _
  | .scr ws, k => by unfold nfW; exact nfWs_eq ws _
  | .dic ks ws, k => by unfold nfW; rw [nfWs_eq ks]; exact nfWs_eq ws _
  | .fn n, k => by unfold nfW; rfl
  | .cl n, k => by unfold nfW; rfl
  | .ty n, k => by unfold nfW; rfl
  | .ins n ws, k => by unfold nfW; exact nfWs_eq ws _
theorem nfWs_eq {α : Type} : ∀ (ws : List W) (k : List W → α), nfWs ws k = k ws
  | [], k => by unfold nfWs; rfl
  | w :: ws, k => by unfold nfWs; rw [nfW_eq w]; exact nfWs_eq ws _
end
/-- a list's spine -/
def nfLs {α β : Type} : List α → (List α → β) → β
  | [], k => k []
  | x :: xs, k => nfLs xs fun ys => k (x :: ys)
theorem nfLs_eq {α β : Type} : ∀ {s : List α} {k : List α → β}, nfLs s k = k s
  | [], _ => rfl
  | x :: xs, k => nfLs_eq (s := xs)
def thenS (g : SS) : Fl → Res Fl
  | .nx s => nfLs s g
  | f => .ok f
theorem thenS_nx {g : SS} {s : S} : thenS g (.nx s) = g s := nfLs_eq
def sSeq (f g : SS) : SS := fun s => (f s).bind (thenS g)
theorem pss_nil' : PSs X [] (rdS c Wx sNil) := pss_imp pss_nil fun D σ H ⟨P, s, R, h⟩ => h σ P H Stp.refl R
theorem pss_cons' {st : Stmt} {rest : List Stmt} {f g : SS} (h1 : PS X st (rdS c Wx f)) (h2 : PSs X rest (rdS c Wx g)) : PSs X (st :: rest) (rdS c Wx (sSeq f g)) :=
  pss_imp (pss_cons h1 h2) fun D σ H ⟨P, s, R, h⟩ => by
    refine ⟨P, s, R, ?_⟩
    unfold sSeq at h
    cases e : f s with
    | ok fl =>
      rw [e] at h
      cases fl with
      | nx s' =>
        have h : OutS c Wx σ P s H D (thenS g (.nx s')) := h
        rw [thenS_nx] at h
        exact fun σ' P' H' t' R' => ⟨P', s', R', OutS.at_ h t'⟩
      | bk s' => exact h
      | ct s' => exact h
      | rt r s' => exact h
    | exc x => rw [e] at h; exact h
    | bad => rw [e] at h; exact h.elim
def sBreak : SS := fun s => .ok (.bk s)
def sCont : SS := fun s => .ok (.ct s)
theorem ps_break' : PS X (.Break pos) (rdS c Wx sBreak) := ps_imp ps_break fun D σ H ⟨P, s, R, h⟩ => h σ P H Stp.refl R
theorem ps_cont' : PS X (.Continue pos) (rdS c Wx sCont) := ps_imp ps_continue fun D σ H ⟨P, s, R, h⟩ => h σ P H Stp.refl R
theorem ps_pass' : PS X (.Pass pos) (rdS c Wx sNil) := ps_imp ps_pass fun D σ H ⟨P, s, R, h⟩ => h σ P H Stp.refl R
theorem ps_doc' {x j pos'} : PS X (.Expr (.Constant (.str x) j pos) pos') (rdS c Wx sNil) := ps_imp ps_doc fun D σ H ⟨P, s, R, h⟩ => h σ P H Stp.refl R
def sExpr (f : SE) : SS := fun s => (f s).bind fun p => .ok (.nx p.2)
theorem ps_expr' (he : PE X e (rd c Wx fa)) (hs : swapsWith e none pos.line X.env = pure false) : PS X (.Expr e pos) (rdS c Wx (sExpr fa)) :=
  ps_imp (ps_expr he hs) fun D σ H ⟨P, s, R, h⟩ => ⟨P, s, R, h.exp fun r s1 v P1 H1 _ t1 R1 rv h1 => h1 σ P1 H1 t1.toStp R1⟩
def sRet (f : SE) : SS := fun s => (f s).bind fun p => .ok (.rt p.1 p.2)
theorem ps_ret' (he : PE X e (rd c Wx fa)) : PS X (.Return (some e) pos) (rdS c Wx (sRet fa)) :=
  ps_imp (ps_ret he) fun D σ H ⟨P, s, R, h⟩ => ⟨P, s, R, h.exp fun r s1 v P1 H1 _ t1 R1 rv h1 => h1 σ v P1 H1 t1.toStp R1 rv⟩
theorem ps_retN' : PS X (.Return none pos) (rdS c Wx (sRet (eCst .non))) :=
  ps_imp ps_retN fun D σ H ⟨P, s, R, h⟩ => h σ .non P H Stp.refl R (rep_non (c := c) (P := P) (H := H))
/-! ### if -/
def sIf (ft : SE) (f g : SS) : SS := fun s => (ft s).bind fun p => match val p.2 p.1 with
  | some (.bl true) => f p.2
  | some (.bl false) => g p.2
  | _ => .bad
theorem ps_if' {cd : Expr} {as bs : List Stmt} {ft : SE} {f g : SS} (ht : PT X cd (rdT c Wx ft)) (ha : PSs X as (rdS c Wx f)) (hb : PSs X bs (rdS c Wx g)) : PS X (.If cd as bs pos) (rdS c Wx (sIf ft f g)) :=
  ps_imp (ps_if ht ha hb) fun D σ H ⟨P, s, R, h⟩ => ⟨P, s, R, h.exp fun r s1 v P1 H1 _ t1 R1 rv h1 => by
    dsimp only at h1
    split at h1
    · rename_i e1
      exact ⟨true, (rv.view R1 e1).bl, P1, s1, R1, OutS.at_ h1 t1.toStp⟩
    · rename_i e1
      exact ⟨false, (rv.view R1 e1).bl, P1, s1, R1, OutS.at_ h1 t1.toStp⟩
    · exact h1.elim⟩
/-! ### while -/
def whileN (ft : SE) (fb : SS) : Nat → SS
  | 0, _ => .bad
  | n + 1, s => (ft s).bind fun p => match val p.2 p.1 with
    | some (.bl true) => (fb p.2).bind fun
      | .nx s2 => whileN ft fb n s2
      | .ct s2 => whileN ft fb n s2
      | .bk s2 => .ok (.nx s2)
      | .rt r s2 => .ok (.rt r s2)
    | some (.bl false) => .ok (.nx p.2)
    | _ => .bad
theorem ps_while' {cd : Expr} {body : List Stmt} {ft : SE} {fb : SS} {n : Nat} (hp : PassesOwn (model X.prog X.w) X.A X.env X.xe) (ht : PT X cd (rdT c Wx ft)) (hb : PSs X body (rdS c Wx fb)) : PS X (.While cd body [] pos) (rdS c Wx (whileN ft fb n)) :=
  ps_imp (ps_while hp ht hb) fun D σ H ⟨P, s, R, h⟩ => by
    refine ⟨fun m σ H => ∃ P s, Rel c P s σ H ∧ OutS c Wx σ P s H D (whileN ft fb m s), ⟨n, P, s, R, h⟩, ?_⟩
    rintro m σ H ⟨P, s, R, h⟩
    cases m with
    | zero => exact h.elim
    | succ m =>
      unfold whileN at h
      refine ⟨P, s, R, h.exp fun r s1 v P1 H1 _ t1 R1 rv h1 => ?_⟩
      dsimp only at h1
      split at h1
      · rename_i e1
        refine ⟨true, (rv.view R1 e1).bl, ?_⟩
        refine (if_pos rfl).mpr ?_
        refine ⟨fun σ' H' => ∃ P s, Rel c P s σ' H' ∧ OutS c Wx σ' P s H' D (whileN ft fb m s), fun σ' H' q => ⟨m, Nat.lt_succ_self m, q⟩, P1, s1, R1, ?_⟩
        have h2 := OutS.at_ h1 t1.toStp
        cases e2 : fb s1 with
        | ok fl =>
          rw [e2] at h2
          cases fl with
          | nx s2 => exact fun σ' P' H' t' R' => ⟨P', s2, R', OutS.at_ h2 t'⟩
          | ct s2 => exact fun σ' P' H' t' R' => ⟨P', s2, R', OutS.at_ h2 t'⟩
          | bk s2 => exact h2
          | rt r s2 => exact h2
        | exc x => rw [e2] at h2; exact h2
        | bad => rw [e2] at h2; exact h2.elim
      · rename_i e1
        refine ⟨false, (rv.view R1 e1).bl, ?_⟩
        refine (if_neg (by decide)).mpr ?_
        exact h1 σ P1 H1 t1.toStp R1
      · exact h1.elim
/-! ### stores -/
/-- store a value at a place -/
def asgN (i : Nat) (r : R) (s : S) : Res S := match r with
  | .fro w => nfW w fun w => chk (decide (i < s.length)) (.ok (s.set i (.fro w)))
  | .new w => nfW w fun w => chk (decide (i < s.length)) (.ok (s.set i (.own false w)))
  | .bor j => (ofO (frz s (.bor j))).bind fun p => chk (decide (i < p.2.length)) (.ok (p.2.set i (.fro p.1)))
theorem set_own {i : Nat} {sl : Sl} {j : Nat} {p : Bool} {w : W} (e : (s.set i sl)[j]? = some (.own p w)) (h : j ≠ i) : s[j]? = some (.own p w) := by
  rw [List.getElem?_set_ne (Ne.symm h)] at e; exact e
/-- a place gets a value that never changes -/
theorem set_fro {i : Nat} (R : Rel c P s σ H) (hi : i < s.length) (rv : Rep c.T c.K P H w v) : Stp P s σ H P (s.set i (.fro w)) (σ.set i (some v)) H ∧ Rel c P (s.set i (.fro w)) (σ.set i (some v)) H := by
  have hs : i < σ.length := by rw [← R.len]; exact hi
  have oth : ∀ (j : Nat) (p : Bool) (w' : W), (s.set i (.fro w))[j]? = some (.own p w') → i ≠ j ∧ s[j]? = some (.own p w') := fun j p w' e => by
    by_cases h : i = j
    · subst h; rw [List.getElem?_set_self hi] at e; cases e
    · rw [List.getElem?_set_ne h] at e; exact ⟨h, e⟩
  refine ⟨⟨fun a o e _ _ => e, fun a h => h, fun a h => h, fun a h => .inl h, fun a ⟨j, p, w', e, e2⟩ => ?_, fun j w' e => ?_⟩, ⟨by simp [R.len], fun j w' e => ?_, fun j p w' e => ?_, fun j l p q u' w' a e1 e2 e3 e4 => ?_, R.tbs, R.dom⟩⟩
  · obtain ⟨h, e⟩ := oth j p w' e
    rw [List.getElem?_set_ne h] at e2
    exact .inl ⟨j, p, w', e, e2⟩
  · obtain ⟨h, e⟩ := oth j true w' e
    exact ⟨⟨w', e⟩, List.getElem?_set_ne h⟩
  · by_cases h : i = j
    · subst h
      rw [List.getElem?_set_self hi] at e; cases e
      exact ⟨v, List.getElem?_set_self hs, rv⟩
    · rw [List.getElem?_set_ne h] at e
      obtain ⟨v', e2, r⟩ := R.fro j w' e
      exact ⟨v', by rw [List.getElem?_set_ne h]; exact e2, r⟩
  · obtain ⟨h, e⟩ := oth j p w' e
    obtain ⟨a, e2, n, z⟩ := R.own j p w' e
    exact ⟨a, by rw [List.getElem?_set_ne h]; exact e2, n, z⟩
  · obtain ⟨h1, e1⟩ := oth j p u' e1
    obtain ⟨h2, e2⟩ := oth l q w' e2
    rw [List.getElem?_set_ne h1] at e3
    rw [List.getElem?_set_ne h2] at e4
    exact R.inj j l p q u' w' a e1 e2 e3 e4
/-- a place gets a list of its own -/
theorem set_new {i : Nat} {a : Addr} (t : Stp P0 s0 σ0 H0 P s σ H) (R : Rel c P s σ H) (hi : i < s.length) (n : ¬ P a) (no : ¬ Own s σ a) (hn : H0 a = none) (q : Cell c.T c.K P H w a) :
    Stp P0 s0 σ0 H0 P (s.set i (.own false w)) (σ.set i (some (.ref a))) H ∧ Rel c P (s.set i (.own false w)) (σ.set i (some (.ref a))) H := by
  have hs : i < σ.length := by rw [← R.len]; exact hi
  have oth : ∀ (j : Nat) (p : Bool) (w' : W), i ≠ j → (s.set i (.own false w))[j]? = some (.own p w') → s[j]? = some (.own p w') := fun j p w' h e => by
    rw [List.getElem?_set_ne h] at e; exact e
  refine ⟨⟨t.keep, t.there, t.pin, t.new, fun b ⟨j, p, w', e, e2⟩ => ?_, fun j w' e => ?_⟩, ⟨by simp [R.len], fun j w' e => ?_, fun j p w' e => ?_, fun j l p q' u' w' b e1 e2 e3 e4 => ?_, R.tbs, R.dom⟩⟩
  · by_cases h : i = j
    · subst h
      rw [List.getElem?_set_self hs] at e2
      cases e2
      exact .inr hn
    · rw [List.getElem?_set_ne h] at e2
      exact t.own b ⟨j, p, w', oth j p w' h e, e2⟩
  · by_cases h : i = j
    · subst h; rw [List.getElem?_set_self hi] at e; cases e
    · obtain ⟨z1, z2⟩ := t.par j w' (oth j true w' h e)
      exact ⟨z1, by rw [List.getElem?_set_ne h]; exact z2⟩
  · by_cases h : i = j
    · subst h; rw [List.getElem?_set_self hi] at e; cases e
    · rw [List.getElem?_set_ne h] at e
      obtain ⟨v', e2, r⟩ := R.fro j w' e
      exact ⟨v', by rw [List.getElem?_set_ne h]; exact e2, r⟩
  · by_cases h : i = j
    · subst h
      rw [List.getElem?_set_self hi] at e; cases e
      exact ⟨a, List.getElem?_set_self hs, n, q⟩
    · obtain ⟨b, e2, n', z⟩ := R.own j p w' (oth j p w' h e)
      exact ⟨b, by rw [List.getElem?_set_ne h]; exact e2, n', z⟩
  · by_cases h1 : i = j
    · subst h1
      by_cases h2 : i = l
      · exact h2
      · rw [List.getElem?_set_self hs] at e3
        cases e3
        rw [List.getElem?_set_ne h2] at e4
        exact absurd ⟨l, q', w', oth l q' w' h2 e2, e4⟩ no
    · by_cases h2 : i = l
      · subst h2
        rw [List.getElem?_set_self hs] at e4
        cases e4
        rw [List.getElem?_set_ne h1] at e3
        exact absurd ⟨j, p, u', oth j p u' h1 e1, e3⟩ no
      · rw [List.getElem?_set_ne h1] at e3
        rw [List.getElem?_set_ne h2] at e4
        exact R.inj j l p q' u' w' b (oth j p u' h1 e1) (oth l q' w' h2 e2) e3 e4
theorem chk_ok {α : Type} {b : Bool} {res : Res α} {a : α} (h : chk b res = .ok a) : b = true ∧ res = .ok a := by
  unfold chk at h
  split at h
  · rename_i q; exact ⟨q, h⟩
  · cases h
theorem asg_ok {i : Nat} (t : StE P0 s0 σ H0 P s H) (R : Rel c P s σ H) (rv : RvR c P s σ H0 H r v) (e : asgN i r s = .ok s') :
    ∃ P', Stp P0 s0 σ H0 P' s' (σ.set i (some v)) H ∧ Rel c P' s' (σ.set i (some v)) H := by
  cases r with
  | fro w =>
    obtain ⟨hi, e⟩ := chk_ok ((nfW_eq w _).symm.trans e)
    cases e
    obtain ⟨h1, h2⟩ := set_fro R (of_decide_eq_true hi) rv
    exact ⟨P, t.toStp.trans h1, h2⟩
  | new w =>
    obtain ⟨hi, e⟩ := chk_ok ((nfW_eq w _).symm.trans e)
    cases e
    obtain ⟨a, rfl, n, no, hn, q⟩ := rv
    obtain ⟨h1, h2⟩ := set_new t.toStp R (of_decide_eq_true hi) n no hn q
    exact ⟨P, h1, h2⟩
  | bor j =>
    have e : (ofO (frz s (.bor j))).bind _ = .ok s' := e
    cases q : frz s (.bor j) with
    | none => rw [q] at e; cases e
    | some p =>
      obtain ⟨w, s1⟩ := p
      rw [q] at e
      obtain ⟨hi, e⟩ := chk_ok e
      cases e
      obtain ⟨P1, t1, R1, rw1, _⟩ := frz_ok t R rv q
      obtain ⟨h1, h2⟩ := set_fro R1 (of_decide_eq_true hi) rw1
      exact ⟨P1, t1.toStp.trans h1, h2⟩
end
end Qs
/-! # Assignments -/
namespace Qs
open PySem PySem.Spec PyProof.Rows L2
section
variable {c : Cst} {Wx : WX} {k : Nat} {X : Cx} {P P0 P1 P' : Addr → Prop} {s s' s0 s1 : S} {σ σ0 σ' : L2.St} {H H0 H1 H' : Hp} {Q : VK} {D D' : Ends} {u w : W} {r z : R} {x y v : V} {a b e : Expr} {fa fb : SE} {pos p2 : Pos} {ρ : SR}
abbrev GT := R → S → Res S
/-- what is told of how the machine's slots change at a store -/
structure SR where
  rel : L2.St → L2.St → Prop
  refl : ∀ σ, rel σ σ
  trans : ∀ {a b d}, rel a b → rel b d → rel a d
/-- nothing -/
def sr0 : SR := ⟨fun _ _ => True, fun _ => trivial, fun _ _ => trivial⟩
/-- the end of a store -/
def OutG (c : Cst) (Wx : WX) (ρ : SR) (σ : L2.St) (P : Addr → Prop) (s : S) (H : Hp) (Q : L2.St → Hp → Prop) : Res S → Prop
  | .ok s' => ∀ σ' P' H', Stp P s σ H P' s' σ' H' → Rel c P' s' σ' H' → ρ.rel σ σ' → Q σ' H'
  | .exc x => ∀ σ' cls d P' H', Sxc c P s σ H P' H' → XRel c P' H' x cls d → Wx cls d σ' H'
  | .bad => False
/-- the reading of a target -/
def rdG (c : Cst) (Wx : WX) (ρ : SR) (g : GT) : TG := fun v σ H Q => ∃ P0 s0 H0 P s r, Rel c P0 s0 σ H0 ∧ StE P0 s0 σ H0 P s H ∧ Rel c P s σ H ∧ RvR c P s σ H0 H r v ∧ OutG c Wx ρ σ P0 s0 H0 Q (g r s)
/-- .. of a value that never changes -/
theorem rdG_fro {g : GT} {Q : L2.St → Hp → Prop} (R : Rel c P s σ H) (r : Rep c.T c.K P H w v) (h : OutG c Wx ρ σ P s H Q (g (.fro w) s)) : rdG c Wx ρ g v σ H Q := ⟨P, s, H, P, s, .fro w, R, StE.refl, R, r, h⟩
theorem OutG.at_ {Q : L2.St → Hp → Prop} {res : Res S} (h : OutG c Wx ρ σ0 P0 s0 H0 Q res) (t : Stp P0 s0 σ0 H0 P s σ H) (hr : ρ.rel σ0 σ) : OutG c Wx ρ σ P s H Q res := by
  cases res with
  | ok s' => exact fun σ' P' H' t' R' r' => h σ' P' H' (t.trans t') R' (ρ.trans hr r')
  | exc x => exact fun σ' cls d P' H' u xr => h σ' cls d P' H' (Sxc.ofS t u) xr
  | bad => exact h
theorem pg_imp {tg : Expr} {t t' : TG} (h : PG X tg t) (k : ∀ v σ H Q, t' v σ H Q → t v σ H Q) : PG X tg t' := ⟨fun pins s σ H v u Q I r hq => h.run pins s σ H v u Q I r (k v σ H Q hq)⟩
theorem pg_name' {i : Nat} {nm : Str} (hN : X.N.Nodup) (hi : X.N[i]? = some nm) (hx : Loc X.env.scope nm) (hf : X.fn nm = true ∨ X.env.scope.names.lookup nm = some .local) (hr : ∀ σ v, ρ.rel σ (σ.set i (some v))) : PG X (.Name nm pos) (rdG c Wx ρ (asgN i)) :=
  pg_imp (pg_name hN hi hx hf) fun v σ H Q ⟨P0, s0, H0, P, s, r, R0, t, R, rv, h⟩ => by
    cases e : asgN i r s with
    | ok s' =>
      rw [e] at h
      obtain ⟨P', h1, h2⟩ := asg_ok t R rv e
      exact h _ P' H h1 h2 (hr σ v)
    | exc x =>
      exfalso
      unfold asgN at e
      simp only [nfW_eq] at e
      split at e
      · unfold chk at e; split at e <;> cases e
      · unfold chk at e; split at e <;> cases e
      · cases q : frz s (.bor _) with
        | none => rw [q] at e; cases e
        | some p => rw [q] at e; simp only [ofO_some, Res.bind_ok] at e; unfold chk at e; split at e <;> cases e
    | bad => rw [e] at h; exact h.elim
/-- several targets, one after another, of values that never change -/
def gsL : List GT → List W → S → Res S
  | [], [], s => .ok s
  | g :: gs, w :: ws, s => (g (.fro w) s).bind fun s1 => gsL gs ws s1
  | _, _, _ => .bad
def rdGs (c : Cst) (Wx : WX) (ρ : SR) (gs : List GT) : TGs := fun vs σ H Q => ∃ P s ws, Rel c P s σ H ∧ Reps c.T c.K P H ws vs ∧ OutG c Wx ρ σ P s H Q (gsL gs ws s)
theorem pgs_imp {ts : List Expr} {t t' : TGs} (h : PGs X ts t) (k : ∀ vs σ H Q, t' vs σ H Q → t vs σ H Q) : PGs X ts t' := ⟨fun pins s σ H vs us Q I r hq => h.run pins s σ H vs us Q I r (k vs σ H Q hq)⟩
theorem pgs_nil' : PGs X [] (rdGs c Wx ρ []) := pgs_imp pgs_nil fun vs σ H Q ⟨P, s, ws, R, r, h⟩ => by
  cases ws with
  | nil => unfold Reps at r; exact ⟨r, h σ P H Stp.refl R (ρ.refl σ)⟩
  | cons w ws => exact h.elim
theorem pgs_cons' {t : Expr} {ts : List Expr} {g : GT} {gs : List GT} (h1 : PG X t (rdG c Wx ρ g)) (h2 : PGs X ts (rdGs c Wx ρ gs)) (hs : (assignEach (t :: ts) X.env).map (·.2) = assign t X.env :: (assignEach ts X.env).map (·.2)) : PGs X (t :: ts) (rdGs c Wx ρ (g :: gs)) :=
  pgs_imp (pgs_cons h1 h2 hs) fun vs σ H Q ⟨P, s, ws, R, r, h⟩ => by
    cases ws with
    | nil => exact h.elim
    | cons w ws =>
      unfold Reps at r
      obtain ⟨v, vr, e, r1, r2⟩ := r
      refine ⟨v, vr, e, rdG_fro R r1 ?_⟩
      unfold gsL at h
      cases e2 : g (.fro w) s with
      | ok s1 =>
        rw [e2] at h
        exact fun σ1 P1 H1 t1 R1 hr => ⟨P1, s1, ws, R1, Reps.mono (Stp.kp R t1) _ _ r2, OutG.at_ h t1 hr⟩
      | exc x => rw [e2] at h; exact h
      | bad => rw [e2] at h; exact h.elim
/-- (a, b, ..) = a tuple -/
def gTupW (gs : List GT) : GT := fun r s => match val s r with
  | some (.tup ws) => chk (decide (ws.length = gs.length)) (gsL gs ws s)
  | _ => .bad
theorem pg_tup' {es : List Expr} {n : Nat} {gs : List GT} (hK : X.K = c.K) (hc : X.calm = true) (h : PGs X es (rdGs c Wx ρ gs)) (hn : (assignEach es X.env).length = gs.length) (hst : (assignEach es X.env).findIdx? (·.1) = none) :
    PG X (.Tuple es n pos) (rdG c Wx ρ (gTupW gs)) :=
  pg_imp (pg_tup hc h hn hst) fun v σ H Q ⟨P0, s0, H0, P, s, r, R0, t, R, rv, h⟩ => by
    unfold gTupW at h
    split at h
    · rename_i ws e
      unfold chk at h
      split at h
      · rename_i g
        obtain ⟨p, vs, rfl, qa, rr⟩ := (rv.view R e).tup
        exact ⟨p, vs, rfl, by rw [hK]; exact qa, by rw [← rr.length]; exact of_decide_eq_true g, P, s, ws, R, rr, OutG.at_ h t.toStp (ρ.refl σ)⟩
      · exact h.elim
    · exact h.elim
/-- target = value -/
def sAsg (f : SE) (g : GT) : SS := fun s => (f s).bind fun p => (g p.1 p.2).bind fun s' => .ok (.nx s')
theorem OutS.gt {res : Res S} (h : OutS c Wx σ P s H D (res.bind fun s' => .ok (.nx s'))) : OutG c Wx ρ σ P s H D.nx res := by
  cases res with
  | ok s' => exact fun σ' P' H' t R _ => h σ' P' H' t R
  | exc x => exact h
  | bad => exact h
theorem ps_asg' {tg : Expr} {g : GT} (he : PE X e (rd c Wx fa)) (hg : PG X tg (rdG c Wx sr0 g)) (hs : swapsWithSole [tg] e pos.line X.env = pure false) (hw : swappedStores [tg] e X.env = pure none) (h1 : (assignEach [tg] X.env).map (·.2) = [assign tg X.env]) :
    PS X (.Assign [tg] e pos) (rdS c Wx (sAsg fa g)) :=
  ps_imp (ps_asg he hg hs hw h1) fun D σ H ⟨P, s, R, h⟩ => ⟨P, s, R, h.exp fun r s1 v P1 H1 _ t1 R1 rv h2 => ⟨P, s, H, P1, s1, r, R, t1, R1, rv, OutS.gt h2⟩⟩
/-! ### a, b = x, y -/
/-- a borrowed value for good, others as they are -/
def frzB (s : S) : R → Option (R × S)
  | .bor i => (frz s (.bor i)).map fun p => (.fro p.1, p.2)
  | r => some (r, s)
def bindB : List SE → (List R → S → Res S) → S → Res S
  | [], k, s => k [] s
  | f :: fs, k, s => (f s).bind fun p => (ofO (frzB p.2 p.1)).bind fun q => bindB fs (fun rs => k (q.1 :: rs)) q.2
def isNew : R → Bool
  | .new _ => true
  | _ => false
def isBor : R → Bool
  | .bor _ => true
  | _ => false
/-- values by the side of one another -/
structure Side (c : Cst) (P : Addr → Prop) (s : S) (σ : L2.St) (H0 H : Hp) (rs : List R) (vs : List V) : Prop where
  rv : Paired (fun r v => RvR c P s σ H0 H r v) rs vs
  nb : ∀ r ∈ rs, isBor r = false
  ap : (rs.zip vs).Pairwise fun p q => isNew p.1 = true → isNew q.1 = true → p.2 ≠ q.2
theorem frzB_ok {r' : R} (t : StE P0 s0 σ H0 P s H) (R : Rel c P s σ H) (rv : RvR c P s σ H0 H r v) (e : frzB s r = some (r', s')) :
    ∃ P', StE P s σ H P' s' H ∧ Rel c P' s' σ H ∧ RvR c P' s' σ H0 H r' v ∧ isBor r' = false ∧ (isNew r' = true → r' = r) := by
  cases r with
  | fro w => cases e; exact ⟨P, StE.refl, R, rv, rfl, fun z => nomatch z⟩
  | new w => cases e; exact ⟨P, StE.refl, R, rv, rfl, fun _ => rfl⟩
  | bor i =>
    have e : (frz s (.bor i)).map _ = some (r', s') := e
    cases q : frz s (.bor i) with
    | none => rw [q] at e; cases e
    | some p =>
      obtain ⟨w, s2⟩ := p
      rw [q] at e; cases e
      obtain ⟨P', t', R', rw', _⟩ := frz_ok (P0 := P) (s0 := s) (H0 := H) StE.refl R (show RvR c P s σ H H (.bor i) v from rv) q
      exact ⟨P', t', R', rw', rfl, fun z => nomatch z⟩
theorem Side.over (R : Rel c P s σ H) (t : StE P s σ H P1 s1 H1) {rs : List Qs.R} {vs : List V} (h : Side c P s σ H0 H rs vs) : Side c P1 s1 σ H0 H1 rs vs := ⟨rvs_over R t h.rv, h.nb, h.ap⟩
theorem paired_zip {α β : Type} {F : α → β → Prop} {l₁ : List α} {l₂ : List β} (h : Paired F l₁ l₂) : ∀ p ∈ l₁.zip l₂, F p.1 p.2 := by
  induction h with
  | nil => intro p hp; cases hp
  | cons h t ih => intro p hp; rcases List.mem_cons.mp hp with rfl | hp; exact h; exact ih p hp
theorem paired_len {α β : Type} {F : α → β → Prop} {l₁ : List α} {l₂ : List β} (h : Paired F l₁ l₂) : l₁.length = l₂.length := Paired.length h
theorem side_aux {Q : L2.St → Hp → Prop} : ∀ (fs : List SE) (kk : List Qs.R → S → Res S) (Z : List V → Hp → Prop) (P : Addr → Prop) (s : S) (H : Hp) (racc : List Qs.R) (xacc : List V), Rel c P0 s0 σ H0 → StE P0 s0 σ H0 P s H → Rel c P s σ H →
    Side c P s σ H0 H racc xacc → OutG c Wx ρ σ P0 s0 H0 Q (bindB fs (fun rs => kk (racc ++ rs)) s) →
    (∀ P s rs xs H1, StE P0 s0 σ H0 P s H1 → Rel c P s σ H1 → Side c P s σ H0 H1 rs xs → OutG c Wx ρ σ P0 s0 H0 Q (kk rs s) → Z xs H1) →
    tArgs c Wx fs σ H (fun xs H1 => Z (xacc ++ xs) H1)
  | [], kk, Z, P, s, H, racc, xacc, R0, t, R, ra, h, hz => by
    have h : OutG c Wx ρ σ P0 s0 H0 Q (kk (racc ++ []) s) := h
    show Z (xacc ++ []) H
    rw [List.append_nil] at h ⊢
    exact hz P s racc xacc H t R ra h
  | f :: fs, kk, Z, P, s, H, racc, xacc, R0, t, R, ra, h, hz => by
    unfold bindB at h
    refine ⟨P, s, R, ?_⟩
    cases e : f s with
    | ok p =>
      obtain ⟨r, s1⟩ := p
      rw [e] at h
      intro v P1 H1 t1 R1 rv
      dsimp only [Res.bind_ok] at h
      cases e2 : frzB s1 r with
      | none => rw [e2] at h; exact h.elim
      | some q =>
        obtain ⟨r', s2⟩ := q
        rw [e2] at h
        obtain ⟨P2, t2, R2, rv2, nb, nw⟩ := frzB_ok (t.trans t1) R1 (rv.start t) e2
        have ra2 : Side c P2 s2 σ H0 H1 racc xacc := Side.over R1 t2 (Side.over R t1 ra)
        have q := side_aux fs kk Z P2 s2 H1 (racc ++ [r']) (xacc ++ [v]) R0 ((t.trans t1).trans t2) R2 ⟨ra2.rv.snoc rv2, fun z hz => ?_, ?_⟩ (by simpa using h) hz
        · simpa using q
        · rcases List.mem_append.mp hz with hz | hz
          · exact ra.nb z hz
          · rw [List.mem_singleton.mp hz]; exact nb
        · rw [List.zip_append (paired_len ra.rv)]
          refine List.pairwise_append.mpr ⟨ra.ap, by simp, fun p hp q hq n1 n2 e3 => ?_⟩
          have hq : q = (r', v) := by simpa using hq
          subst hq
          have er := nw n2
          dsimp only at er e3 n2
          rw [er] at n2
          obtain ⟨pr, pv⟩ := p
          have h1 := paired_zip ra.rv _ hp
          dsimp only at h1 e3 n1
          subst e3
          cases pr with
          | new w1 =>
            cases r with
            | new w2 =>
              obtain ⟨a1, e5, _, _, _, c1⟩ := h1
              obtain ⟨a2, e6, _, _, hn, _⟩ := rv
              rw [e5] at e6
              cases e6
              obtain ⟨o, eo, _⟩ := Cell.ex c1
              rw [hn] at eo; cases eo
            | _ => cases n2
          | _ => cases n1
    | exc x =>
      rw [e] at h
      exact fun cls d P' H' u xr => h σ cls d P' H' (Sxc.ofS t.toStp u) xr
    | bad => rw [e] at h; exact h.elim
/-- the values go to their places -/
def asgL : List Nat → List R → S → Res S
  | [], [], s => .ok s
  | i :: is, r :: rs, s => (asgN i r s).bind fun s1 => asgL is rs s1
  | _, _, _ => .bad
theorem asgL_ok {i : Nat} (t : Stp P0 s0 σ0 H0 P s σ H) (R : Rel c P s σ H) (rv : RvR c P s σ H0 H r v) (nb : isBor r = false) (e : asgN i r s = .ok s') :
    Stp P0 s0 σ0 H0 P s' (σ.set i (some v)) H ∧ Rel c P s' (σ.set i (some v)) H ∧ ∀ r2 v2, RvR c P s σ H0 H r2 v2 → isBor r2 = false → (isNew r = true → isNew r2 = true → v ≠ v2) → RvR c P s' (σ.set i (some v)) H0 H r2 v2 := by
  cases r with
  | fro w =>
    obtain ⟨hi, e⟩ := chk_ok ((nfW_eq w _).symm.trans e)
    cases e
    obtain ⟨h1, h2⟩ := set_fro R (of_decide_eq_true hi) rv
    refine ⟨t.trans h1, h2, fun r2 v2 rv2 nb2 _ => ?_⟩
    cases r2 with
    | fro w2 => exact rv2
    | new w2 =>
      obtain ⟨a, e, n, no, hn, q⟩ := rv2
      obtain ⟨o, eo, _⟩ := Cell.ex q
      refine ⟨a, e, n, fun z => ?_, hn, q⟩
      rcases h1.own a z with z | z
      · exact no z
      · rw [z] at eo; cases eo
    | bor _ => cases nb2
  | new w =>
    obtain ⟨hi, e⟩ := chk_ok ((nfW_eq w _).symm.trans e)
    cases e
    obtain ⟨a, rfl, n, no, hn, q⟩ := rv
    obtain ⟨h1, h2⟩ := set_new t R (of_decide_eq_true hi) n no hn q
    refine ⟨h1, h2, fun r2 v2 rv2 nb2 ap => ?_⟩
    cases r2 with
    | fro w2 => exact rv2
    | new w2 =>
      obtain ⟨b, e, n2, no2, hn2, q2⟩ := rv2
      refine ⟨b, e, n2, fun ⟨j, p, w', e1, e2⟩ => ?_, hn2, q2⟩
      by_cases h : i = j
      · subst h
        have hs : i < σ.length := by rw [← R.len]; exact of_decide_eq_true hi
        rw [List.getElem?_set_self hs] at e2
        cases e2
        exact ap rfl rfl e.symm
      · rw [List.getElem?_set_ne h] at e1 e2
        exact no2 ⟨j, p, w', e1, e2⟩
    | bor _ => cases nb2
  | bor j => cases nb
def sPar (is : List Nat) (fs : List SE) : SS := fun s => (bindB fs (asgL is) s).bind fun s' => .ok (.nx s')
/-- what the machine's slots become -/
def setsL : List Nat → List V → L2.St → L2.St
  | i :: is, v :: vs, σ => setsL is vs (σ.set i (some v))
  | _, _, σ => σ
theorem side_set {F G : Qs.R → V → Prop} {r : Qs.R} {v : V} (ov : ∀ r2 v2, F r2 v2 → isBor r2 = false → (isNew r = true → isNew r2 = true → v ≠ v2) → G r2 v2) {rs : List Qs.R} {vs : List V} (h : Paired F rs vs) :
    (∀ z ∈ rs, isBor z = false) → (∀ p ∈ rs.zip vs, isNew r = true → isNew p.1 = true → v ≠ p.2) → Paired G rs vs := by
  induction h with
  | nil => exact fun _ _ => .nil
  | cons h t ih => exact fun nb ap => .cons (ov _ _ h (nb _ List.mem_cons_self) (ap _ List.mem_cons_self)) (ih (fun z hz => nb z (List.mem_cons_of_mem _ hz)) fun p hp => ap p (List.mem_cons_of_mem _ hp))
theorem asgL_all {Q : L2.St → Hp → Prop} : ∀ (is : List Nat) (rs : List Qs.R) (xs : List V) (s : S) (σ : L2.St), Stp P0 s0 σ0 H0 P s σ H → Rel c P s σ H → Side c P s σ H0 H rs xs → OutG c Wx sr0 σ0 P0 s0 H0 Q (asgL is rs s) → xs.length = is.length ∧ Q (setsL is xs σ) H
  | [], [], xs, s, σ, t, R, sd, h => by
    have e : xs = [] := by cases sd.rv; rfl
    subst e
    exact ⟨rfl, h σ P H t R trivial⟩
  | [], _ :: _, _, _, _, _, _, _, h => h.elim
  | _ :: _, [], _, _, _, _, _, _, h => h.elim
  | i :: is, r :: rs, xs, s, σ, t, R, sd, h => by
    obtain ⟨rv, nb, ap⟩ := sd
    cases rv with
    | cons r1 r2 =>
      rename_i v vs
      unfold asgL at h
      rw [List.zip_cons_cons, List.pairwise_cons] at ap
      cases e : asgN i r s with
      | ok s1 =>
        rw [e] at h
        obtain ⟨t1, R1, ov⟩ := asgL_ok t R r1 (nb r List.mem_cons_self) e
        have q := asgL_all is rs vs s1 _ t1 R1 ⟨side_set ov r2 (fun z hz => nb z (List.mem_cons_of_mem _ hz)) ap.1, fun z hz => nb z (List.mem_cons_of_mem _ hz), ap.2⟩ h
        exact ⟨by simp [q.1], q.2⟩
      | exc x =>
        exfalso
        unfold asgN at e
        simp only [nfW_eq] at e
        split at e
        · unfold chk at e; split at e <;> cases e
        · unfold chk at e; split at e <;> cases e
        · cases q : frz s (.bor _) with
          | none => rw [q] at e; cases e
          | some p => rw [q] at e; simp only [ofO_some, Res.bind_ok] at e; unfold chk at e; split at e <;> cases e
      | bad => rw [e] at h; exact h.elim
theorem rd_mono {f : SE} {Z Z' : V → Hp → Prop} (k : ∀ v H1, Z v H1 → Z' v H1) (h : rd c Wx f σ H Z) : rd c Wx f σ H Z' := by
  obtain ⟨P, s, R, h⟩ := h
  exact ⟨P, s, R, h.imp k⟩
theorem OutS.gp {res : Res S} (h : OutS c Wx σ P s H D (res.bind fun s' => .ok (.nx s'))) : OutG c Wx ρ σ P s H D.nx res := OutS.gt h
theorem par_rd {is : List Nat} {fs : List SE} (h : rdS c Wx (sPar is fs) D σ H) : tArgs c Wx fs σ H fun xs H1 => xs.length = is.length ∧ D.nx (setsL is xs σ) H1 := by
  obtain ⟨P0, s0, R0, h⟩ := h
  have q := side_aux (ρ := sr0) (Q := D.nx) fs (asgL is) (fun xs H1 => xs.length = is.length ∧ D.nx (setsL is xs σ) H1) P0 s0 H [] [] R0 StE.refl R0 ⟨.nil, (fun _ z => nomatch z), List.Pairwise.nil⟩ (by simpa using OutS.gt h)
    (fun P s rs xs H1 t R sd h => asgL_all is rs xs s σ t.toStp R sd h)
  simpa using q
theorem star_no {e : Expr} {es : List Expr} {env : Env} (h : PySem.W.isStarred e = false) : starEach (e :: es) env = (false, eval e env) :: starEach es env := by
  cases e <;> first | rfl | (cases h; done)
theorem pa_cons' {e : Expr} {es : List Expr} {te : TE} {t : TA} (ha : PE X e te) (hr : PA X es t) (hs : PySem.W.isStarred e = false) : PA X (e :: es) (tCons te t) := pa_cons ha hr (star_no hs)
theorem ps_par' {i j : Nat} {nx ny : Str} {px py pt : Pos} {kt k2 pt2} (hc : X.calm = true) (hN : X.N.Nodup) (hi : X.N[i]? = some nx) (hj : X.N[j]? = some ny) (hij : i ≠ j)
    (hx : X.env.scope.names.lookup nx = some .local) (hy : X.env.scope.names.lookup ny = some .local) (ha : PE X a (rd c Wx fa)) (hb : PE X b (rd c Wx fb)) (na : PySem.W.isStarred a = false) (nb : PySem.W.isStarred b = false)
    (hw : swappedStores [.Tuple [.Name nx px, .Name ny py] kt pt] (.Tuple [a, b] k2 pt2) X.env = pure (some [nx, ny]))
    (hs : swapsWithSole [.Tuple [.Name nx px, .Name ny py] kt pt] (.Tuple [a, b] k2 pt2) pos.line X.env = pure false) :
    PS X (.Assign [.Tuple [.Name nx px, .Name ny py] kt pt] (.Tuple [a, b] k2 pt2) pos) (rdS c Wx (sPar [i, j] [fa, fb])) :=
  ps_imp (ps_par hc hN hi hj hij hx hy (pa_cons' ha (pa_cons' hb pa_nil nb) na) hw hs) fun D σ H h => by
    have q := par_rd h
    refine (?_ : ∀ (Z Z' : List V → Hp → Prop), (∀ xs H1, Z xs H1 → Z' xs H1) → tArgs c Wx [fa, fb] σ H Z → tArgs c Wx [fa, fb] σ H Z') _ _ ?_ q
    · exact fun Z Z' k h => rd_mono (fun x H1 h => rd_mono (fun y H2 h => k _ _ h) h) h
    · rintro xs H1 ⟨e, h⟩
      match xs, e with
      | [v, w], _ => exact ⟨v, w, rfl, h⟩
theorem ps_par3' {i j l : Nat} {nx ny nz : Str} {d : Expr} {fd : SE} {px py pz pt : Pos} {kt k2 pt2} (hc : X.calm = true) (hN : X.N.Nodup) (hi : X.N[i]? = some nx) (hj : X.N[j]? = some ny) (hl : X.N[l]? = some nz) (hij : i ≠ j) (hil : i ≠ l) (hjl : j ≠ l)
    (hx : X.env.scope.names.lookup nx = some .local) (hy : X.env.scope.names.lookup ny = some .local) (hz : X.env.scope.names.lookup nz = some .local) (ha : PE X a (rd c Wx fa)) (hb : PE X b (rd c Wx fb)) (hd : PE X d (rd c Wx fd)) (na : PySem.W.isStarred a = false) (nb : PySem.W.isStarred b = false) (nd : PySem.W.isStarred d = false)
    (hw : swappedStores [.Tuple [.Name nx px, .Name ny py, .Name nz pz] kt pt] (.Tuple [a, b, d] k2 pt2) X.env = pure (some [nx, ny, nz]))
    (hs : swapsWithSole [.Tuple [.Name nx px, .Name ny py, .Name nz pz] kt pt] (.Tuple [a, b, d] k2 pt2) pos.line X.env = pure false) :
    PS X (.Assign [.Tuple [.Name nx px, .Name ny py, .Name nz pz] kt pt] (.Tuple [a, b, d] k2 pt2) pos) (rdS c Wx (sPar [i, j, l] [fa, fb, fd])) :=
  ps_imp (ps_par3 hc hN hi hj hl hij hil hjl hx hy hz (pa_cons' ha (pa_cons' hb (pa_cons' hd pa_nil nd) nb) na) hw hs) fun D σ H h => by
    have q := par_rd h
    refine (?_ : ∀ (Z Z' : List V → Hp → Prop), (∀ xs H1, Z xs H1 → Z' xs H1) → tArgs c Wx [fa, fb, fd] σ H Z → tArgs c Wx [fa, fb, fd] σ H Z') _ _ ?_ q
    · exact fun Z Z' k h => rd_mono (fun x H1 h => rd_mono (fun y H2 h => rd_mono (fun z H3 h => k _ _ h) h) h) h
    · rintro xs H1 ⟨e, h⟩
      match xs, e with
      | [v, w, z], _ => exact ⟨v, w, z, rfl, h⟩
end
end Qs
/-! # Lists of the def's own, changed -/
namespace Qs
open PySem PySem.Spec PyProof.Rows L2
section
variable {c : Cst} {Wx : WX} {k : Nat} {X : Cx} {P P0 P1 P' : Addr → Prop} {s s' s0 s1 : S} {σ σ0 σ' : L2.St} {H H0 H1 H' : Hp} {Q : VK} {D D' : Ends} {u w : W} {r z : R} {x y v : V} {a b e : Expr} {fa fb : SE} {pos p2 apos : Pos}
/-- a list of the def's own gets another content -/
theorem upd_own {j : Nat} {p : Bool} {w : W} {ad : Addr} {ws' : List W} {vs' : List V} (R : Rel c P s σ H) (e : s[j]? = some (.own p w)) (e2 : σ[j]? = some (some (.ref ad))) (r : Reps c.T c.K P H ws' vs') :
    StE P s σ H P (s.set j (.own p (.lst ws'))) (upd H ad (.lst vs')) ∧ Rel c P (s.set j (.own p (.lst ws'))) σ (upd H ad (.lst vs')) := by
  have hj : j < s.length := (List.getElem?_eq_some_iff.mp e).1
  have ow : Own s σ ad := ⟨j, p, w, e, e2⟩
  obtain ⟨nP, w0, q0⟩ := R.ownP ow
  obtain ⟨o0, eo, ntb, nim⟩ := Cell.ex q0
  have kp : Kp P P H (upd H ad (.lst vs')) := ⟨fun _ h => h, fun b o e3 h => by
    have : b ≠ ad := fun z => by
      subst z
      rw [eo] at e3; cases e3
      rcases h with h | h
      · exact nim h
      · exact nP h.1
    rw [upd_ne this]; exact e3⟩
  have oth : ∀ (i : Nat) (p' : Bool) (w' : W), j ≠ i → (s.set j (.own p (.lst ws')))[i]? = some (.own p' w') → s[i]? = some (.own p' w') := fun i p' w' h e3 => by
    rw [List.getElem?_set_ne h] at e3; exact e3
  have own' : ∀ b, Own (s.set j (.own p (.lst ws'))) σ b → Own s σ b := fun b ⟨i, p', w', e3, e4⟩ => by
    by_cases h : j = i
    · subst h; rw [e2] at e4; cases e4; exact ow
    · exact ⟨i, p', w', oth i p' w' h e3, e4⟩
  refine ⟨⟨⟨fun b o e3 n _ => ?_, fun b h => ?_, fun b h => h, fun b h => .inl h, fun b h => .inl (own' b h), fun i w' e3 => ?_⟩, fun i => ?_⟩, ⟨by rw [List.length_set]; exact R.len, fun i w' e3 => ?_, fun i p' w' e3 => ?_, fun i l p1 p2 u1 u2 b e3 e4 e5 e6 => ?_, ?_, fun b h => ?_⟩⟩
  · rw [upd_ne (fun (z : b = ad) => n (by rw [z]; exact ow))]; exact e3
  · by_cases z : b = ad
    · subst z; rw [upd_same]; exact fun z => nomatch z
    · rw [upd_ne z]; exact h
  · by_cases h : j = i
    · subst h
      rw [List.getElem?_set_self hj] at e3
      cases e3
      exact ⟨⟨w, e⟩, rfl⟩
    · exact ⟨⟨w', oth i true w' h e3⟩, rfl⟩
  · by_cases h : j = i
    · subst h; exact .inr ⟨p, w, e, .lst ws', .inl (List.getElem?_set_self hj)⟩
    · exact .inl (List.getElem?_set_ne h)
  · by_cases h : j = i
    · subst h; rw [List.getElem?_set_self hj] at e3; cases e3
    · rw [List.getElem?_set_ne h] at e3
      obtain ⟨v', e4, r'⟩ := R.fro i w' e3
      exact ⟨v', e4, Rep.mono kp _ _ r'⟩
  · by_cases h : j = i
    · subst h
      rw [List.getElem?_set_self hj] at e3
      cases e3
      exact ⟨ad, e2, nP, vs', upd_same, Reps.mono kp _ _ r⟩
    · obtain ⟨b, e4, n, q⟩ := R.own i p' w' (oth i p' w' h e3)
      refine ⟨b, e4, n, Cell.mono kp q fun o q2 _ => ?_⟩
      rw [upd_ne (fun (z : b = ad) => h (R.inj j i p p' w w' ad e (oth i p' w' h e3) e2 (by rw [← z]; exact e4)))]; exact q2
  · have f : ∀ (i : Nat) (p' : Bool) (w' : W), (s.set j (.own p (.lst ws')))[i]? = some (.own p' w') → ∃ w'', s[i]? = some (.own p' w'') := fun i p' w' e3 => by
      by_cases h : j = i
      · subst h; rw [List.getElem?_set_self hj] at e3; cases e3; exact ⟨w, e⟩
      · exact ⟨w', oth i p' w' h e3⟩
    obtain ⟨_, f1⟩ := f i p1 u1 e3
    obtain ⟨_, f2⟩ := f l p2 u2 e4
    exact R.inj i l p1 p2 _ _ b f1 f2 e5 e6
  · have nt : ∀ b ps, H b = some (.tbl ps) → b ≠ ad := fun b ps e3 z => by subst z; rw [eo] at e3; cases e3; exact ntb trivial
    have ne : ∀ b φ, H b = some (.ext φ) → b ≠ ad := fun b φ e3 z => by
      subst z
      cases w0 with
      | lst _ => obtain ⟨_, q, _⟩ := q0; rw [q] at e3; cases e3
      | dic _ _ =>
        obtain ⟨_, _, q, _⟩ := q0
        rcases q with ⟨_, q, _⟩ | ⟨_, q, _⟩ <;> (rw [q] at e3; cases e3)
      | _ => exact q0.elim
    intro t ht
    obtain ⟨ps, h1, h2, h3⟩ := R.tbs t ht
    refine ⟨ps, by rw [upd_ne (nt _ _ h1)]; exact h1, h2, fun ps2 cv hc => ?_⟩
    obtain ⟨cc, e3, e4⟩ := h3 ps2 cv hc
    exact ⟨cc, e3, by rw [upd_ne (ne _ _ e4)]; exact e4⟩
  · by_cases z : b = ad
    · subst z; rw [upd_same]; exact fun z => nomatch z
    · rw [upd_ne z]; exact R.dom b h
/-- the content of the list at a place of the def's own -/
def ownL (s : S) : R → Option (Nat × Bool × List W)
  | .bor j => match s[j]? with
    | some (.own p (.lst ws)) => some (j, p, ws)
    | _ => none
  | _ => none
theorem ownL_ok {j : Nat} {p : Bool} {ws : List W} (R : Rel c P s σ H) (rv : RvR c P s σ H0 H r v) (e : ownL s r = some (j, p, ws)) :
    ∃ ad vs, v = .ref ad ∧ s[j]? = some (.own p (.lst ws)) ∧ σ[j]? = some (some (.ref ad)) ∧ H ad = some (.lst vs) ∧ Reps c.T c.K P H ws vs := by
  unfold ownL at e
  split at e
  · split at e
    · rename_i q
      cases e
      obtain ⟨e1, _⟩ := rv
      obtain ⟨ad, e2, n, vs, q2, rr⟩ := R.own _ _ _ q
      rw [e1] at e2; cases e2
      exact ⟨ad, vs, rfl, q, e1, q2, rr⟩
    · cases e
  · cases e
def isLst : Option W → Bool
  | some (.lst _) => true
  | _ => false
theorem isLst_ok {o : Option W} (h : isLst o = true) : ∃ ws, o = some (.lst ws) := by
  unfold isLst at h
  split at h
  · exact ⟨_, rfl⟩
  · cases h
/-- o.m() of a list of the def's own -/
def eMut0 (g : List W → Option (W × List W)) (fo : SE) : SE := fun s => (fo s).bind fun p => (ofO (ownL p.2 p.1)).bind fun q => (ofO (g q.2.2)).bind fun z => nfLs z.2 fun l => .ok (.fro z.1, p.2.set q.1 (.own q.2.1 (.lst l)))
/-- o.m(e), e for good -/
def eMut1 (g : List W → W → Option (W × List W)) (fo fe : SE) : SE := fun s => (fo s).bind fun p => chk (isLst (val p.2 p.1)) ((fe p.2).bind fun t => (ofO (frz t.2 t.1)).bind fun f => (ofO (ownL f.2 p.1)).bind fun q => nfW f.1 fun w => (ofO (g q.2.2 w)).bind fun z => nfLs z.2 fun l =>
  .ok (.fro z.1, f.2.set q.1 (.own q.2.1 (.lst l))))
theorem Out.ofO {α : Type} {o : Option α} {kk : α → Res (Qs.R × S)} (h : Out c Wx σ P s H Q ((Qs.ofO o).bind kk)) : ∃ x, o = some x ∧ Out c Wx σ P s H Q (kk x) := by
  cases o with
  | none => exact h.elim
  | some x => exact ⟨x, rfl, h⟩
theorem out_chk' {b : Bool} {res : Res (Qs.R × S)} (h : Out c Wx σ P s H Q (chk b res)) : b = true ∧ Out c Wx σ P s H Q res := out_chk h
def appW (ws : List W) (w : W) : Option (W × List W) := guard' (decide (ws.length < lim)) (.non, ws ++ [w])
def extW (ws : List W) : W → Option (W × List W)
  | .lst us => guard' (decide (ws.length + us.length ≤ lim)) (.non, ws ++ us)
  | _ => none
def popW (ws : List W) : Option (W × List W) := (ws[ws.length - 1]?).map fun w => (w, ws.dropLast)
variable {o : Expr} {fo fe : SE}
theorem pe_mut1 {id : String} {nm : Str} {g : List W → W → Option (W × List W)} {rr : V → List V → Hp → VK → Prop} (slot : Slot "list" nm id) (hty : typeOf (.builtin id) = pure (.type "method_descriptor")) (hm : MtR X id rr)
    (hg : ∀ {P : Addr → Prop} {H : Hp} {ws : List W} {w : W} {z : W} {ws' : List W} {ad : Addr} {vs : List V} {v : V} {Q : VK}, g ws w = some (z, ws') → H ad = some (.lst vs) → Reps c.T c.K P H ws vs → Rep c.T c.K P H w v →
      (∀ vs' zv, Reps c.T c.K P H ws' vs' → Rep c.T c.K P H z zv → Q zv (upd H ad (.lst vs'))) → rr (.ref ad) [v] H Q)
    (ho : PE X o (rd c Wx fo)) (he : PE X e (rd c Wx fe)) (hb : attributeBase o nm X.env (eval o X.env) = eval o X.env) (hn : PySem.W.isStarred e = false)
    (hline : (apos.endLine == pos.line) = true) : PE X (.Call (.Attribute o nm apos) [e] [] pos) (rd c Wx (eMut1 g fo fe)) := by
  refine pe_imp (pe_bm PySem.F.plainAttrs_list slot hty hm ho (pa_cons' he pa_nil hn) hb ?_ hline (star_no hn) rfl) fun σ H Q ⟨P, s, R, h⟩ => ?_
  · have : starEach [e] X.env = [(false, eval e X.env)] := star_no hn
    rw [this]; rfl
  · refine rd_sub R StE.refl R h fun P1 r s1 v H1 t1 _ R1 rv h1 => ?_
    obtain ⟨hl, h1⟩ := out_chk h1
    obtain ⟨ws0, e0⟩ := isLst_ok hl
    obtain ⟨ad, vs0, rfl, q0, _⟩ := (rv.view R1 e0).lst
    refine ⟨.inl ⟨rfl, vs0, .of q0⟩, ?_⟩
    refine rd_sub R t1 R1 h1 fun P2 r2 s2 v2 H2 t2 t2' R2 rv2 h2 => ?_
    obtain ⟨f, ef, h2⟩ := Out.ofO h2
    obtain ⟨w, s3⟩ := f
    obtain ⟨P3, t3, R3, rw3, kp3⟩ := frz_ok t2 R2 rv2 ef
    obtain ⟨q, eq, h2⟩ := Out.ofO h2
    obtain ⟨j, p, ws⟩ := q
    have rv3 : RvR c P3 s3 σ H H2 r (.ref ad) := by
      cases r with
      | bor i =>
        obtain ⟨e1, _⟩ := rv
        refine ⟨e1, ?_⟩
        have eq : (match s3[i]? with
          | some (.own p (.lst ws)) => some (i, p, ws)
          | _ => none) = some (j, p, ws) := eq
        split at eq
        · rename_i z; exact ⟨_, by rw [z]; rfl⟩
        · cases eq
      | fro _ => cases eq
      | new _ => cases eq
    obtain ⟨ad', vs, e1, e2, e3, q3, rr3⟩ := ownL_ok R3 rv3 eq
    cases e1
    simp only [nfW_eq, nfLs_eq] at h2
    obtain ⟨zz, ez, h2⟩ := Out.ofO h2
    obtain ⟨z, ws'⟩ := zz
    have h2 := Out.at_ h2 t3 R3
    refine hg ez q3 rr3 rw3 fun vs' zv r' rz => ?_
    obtain ⟨t4, R4⟩ := upd_own R3 e2 e3 r'
    exact h2 zv P3 _ t4 R4 (Rep.mono (Stp.kp R3 t4.toStp) _ _ rz)
theorem pe_append (ho : PE X o (rd c Wx fo)) (he : PE X e (rd c Wx fe)) (hb : attributeBase o "append" X.env (eval o X.env) = eval o X.env) (hn : PySem.W.isStarred e = false)
    (hline : (apos.endLine == pos.line) = true) : PE X (.Call (.Attribute o "append" apos) [e] [] pos) (rd c Wx (eMut1 appW fo fe)) :=
  pe_mut1 PySem.F.slot_list_append PySem.F.type_list_append mt_append (fun {P H ws w z ws' ad vs v Q} e1 q r rv k => by
    obtain ⟨g, e2⟩ := guard'_some e1
    cases e2
    refine ⟨ad, vs, v, rfl, rfl, q, ?_, k (vs ++ [v]) .non (r.app (Reps.cons rv Reps.nil)) (by unfold Rep; rfl)⟩
    rw [← r.length, lim_eq]; exact of_decide_eq_true g) ho he hb hn hline
theorem pe_extend (ho : PE X o (rd c Wx fo)) (he : PE X e (rd c Wx fe)) (hb : attributeBase o "extend" X.env (eval o X.env) = eval o X.env) (hn : PySem.W.isStarred e = false)
    (hline : (apos.endLine == pos.line) = true) : PE X (.Call (.Attribute o "extend" apos) [e] [] pos) (rd c Wx (eMut1 extW fo fe)) :=
  pe_mut1 PySem.F.slot_list_extend PySem.F.type_list_extend mt_extend (fun {P H ws w z ws' ad vs v Q} e1 q r rv k => by
    unfold extW at e1
    split at e1
    · obtain ⟨g, e2⟩ := guard'_some e1
      cases e2
      unfold Rep at rv
      obtain ⟨b, us, rfl, q2, r2⟩ := rv
      refine ⟨ad, b, vs, us, rfl, rfl, q, q2.2, ?_, k (vs ++ us) .non (r.app r2) (by unfold Rep; rfl)⟩
      rw [← r.length, ← r2.length, lim_eq]; exact of_decide_eq_true g
    · cases e1) ho he hb hn hline
/-- o.pop() -/
theorem pe_pop (ho : PE X o (rd c Wx fo)) (hb : attributeBase o "pop" X.env (eval o X.env) = eval o X.env) (hline : (apos.endLine == pos.line) = true) : PE X (.Call (.Attribute o "pop" apos) [] [] pos) (rd c Wx (eMut0 popW fo)) := by
  refine pe_imp (pe_bm0 PySem.F.plainAttrs_list PySem.F.slot_list_pop PySem.F.type_list_pop mt_pop ho hb hline) fun σ H Q ⟨P, s, R, h⟩ => ?_
  refine rd_sub R StE.refl R h fun P1 r s1 v H1 t1 _ R1 rv h1 => ?_
  obtain ⟨q, eq, h1⟩ := Out.ofO h1
  obtain ⟨j, p, ws⟩ := q
  obtain ⟨ad, vs, rfl, e2, e3, q3, rr3⟩ := ownL_ok R1 rv eq
  simp only [nfLs_eq] at h1
  obtain ⟨zz, ez, h1⟩ := Out.ofO h1
  have h1 := Out.at_ h1 t1 R1
  unfold popW at ez
  cases e4 : ws[ws.length - 1]? with
  | none => rw [e4] at ez; cases ez
  | some w =>
    rw [e4] at ez
    cases ez
    obtain ⟨v, e5, rv⟩ := rr3.get e4
    refine ⟨.inl ⟨rfl, vs, .of q3⟩, ad, vs, v, rfl, rfl, q3, by rw [← rr3.length]; exact e5, ?_⟩
    have r' : Reps c.T c.K P1 H1 ws.dropLast vs.dropLast := by
      rw [List.dropLast_eq_take, List.dropLast_eq_take, rr3.length]
      exact rr3.take _
    obtain ⟨t4, R4⟩ := upd_own R1 e2 e3 r'
    exact h1 v P1 _ t4 R4 (Rep.mono (Stp.kp R1 t4.toStp) _ _ rv)
/-- o.pop(i) -/
def popAtW (ws : List W) : W → Option (W × List W)
  | .int i => if decide (-9223372036854775808 ≤ i) && decide (i < 9223372036854775808) then (seqIndex? i ws.length).bind fun k => (ws[k]?).map fun w => (w, ws.eraseIdx k) else none
  | _ => none
theorem Reps.erase {T : Tab} {K : PySem.W.Frag} {P : Addr → Prop} {H : Hp} : ∀ {ws : List W} {vs : List V} (k : Nat), Reps T K P H ws vs → Reps T K P H (ws.eraseIdx k) (vs.eraseIdx k)
  | [], vs, k, h => by unfold Reps at h; subst h; exact Reps.nil
  | w :: ws, vs, k, h => by
    unfold Reps at h
    obtain ⟨v, r, rfl, h1, h2⟩ := h
    cases k with
    | zero => exact h2
    | succ k => exact Reps.cons h1 (Reps.erase k h2)
theorem pe_popAt (ho : PE X o (rd c Wx fo)) (he : PE X e (rd c Wx fe)) (hb : attributeBase o "pop" X.env (eval o X.env) = eval o X.env) (hn : PySem.W.isStarred e = false)
    (hline : (apos.endLine == pos.line) = true) : PE X (.Call (.Attribute o "pop" apos) [e] [] pos) (rd c Wx (eMut1 popAtW fo fe)) :=
  pe_mut1 PySem.F.slot_list_pop PySem.F.type_list_pop mt_popAt (fun {P H ws w z ws' ad vs v Q} e1 q r rv k => by
    unfold popAtW at e1
    split at e1
    · split at e1
      · rename_i g
        rw [Bool.and_eq_true, decide_eq_true_eq, decide_eq_true_eq] at g
        cases es : seqIndex? _ ws.length with
        | none => rw [es] at e1; cases e1
        | some j =>
          rw [es] at e1
          cases ew : ws[j]? with
          | none => simp [ew] at e1
          | some u =>
            simp only [Option.bind_some, ew, Option.map_some, Option.some.injEq, Prod.mk.injEq] at e1
            obtain ⟨rfl, rfl⟩ := e1
            obtain ⟨x, ex, rx⟩ := r.get ew
            unfold Rep at rv
            subst rv
            exact ⟨ad, vs, _, j, x, rfl, rfl, q, by omega, by omega, by rw [← r.length]; exact es, ex, k _ x (r.erase j) rx⟩
      · cases e1
    · cases e1) ho he hb hn hline
end
end Qs
/-! # x[i] = e, x[i] += e, x += e; for -/
namespace Qs
open PySem PySem.Spec PyProof.Rows L2
section
variable {c : Cst} {Wx : WX} {k : Nat} {X : Cx} {P P0 P1 P' : Addr → Prop} {s s' s0 s1 : S} {σ σ0 σ' : L2.St} {H H0 H1 H' : Hp} {Q : VK} {D D' : Ends} {u w z' : W} {r z : R} {x y v : V} {a b e o : Expr} {fa fb fo fi fe : SE} {pos p2 apos : Pos} {ρ : SR}
/-- from a store's start through an expression -/
theorem OutG.exp {Q : L2.St → Hp → Prop} {res : Res (Qs.R × S)} {kk : Qs.R × S → Res S} (t : StE P0 s0 σ H0 P s H) (R : Rel c P s σ H) (h : OutG c Wx ρ σ P0 s0 H0 Q (res.bind kk)) {Z : V → Hp → Prop}
    (hz : ∀ r s1 v P1 H1, StE P0 s0 σ H0 P1 s1 H1 → StE P s σ H P1 s1 H1 → Rel c P1 s1 σ H1 → RvR c P1 s1 σ H0 H1 r v → OutG c Wx ρ σ P0 s0 H0 Q (kk (r, s1)) → Z v H1) : Out c Wx σ P s H Z res := by
  cases res with
  | ok p =>
    obtain ⟨r, s1⟩ := p
    exact fun v P1 H1 t1 R1 rv => hz r s1 v P1 H1 (t.trans t1) t1 R1 (rv.start t) h
  | exc x => exact fun cls d P' H' u xr => h σ cls d P' H' (Sxc.ofS t.toStp u) xr
  | bad => exact h.elim
theorem OutG.ofO {Q : L2.St → Hp → Prop} {α : Type} {o : Option α} {kk : α → Res S} (h : OutG c Wx ρ σ P s H Q ((Qs.ofO o).bind kk)) : ∃ x, o = some x ∧ OutG c Wx ρ σ P s H Q (kk x) := by
  cases o with
  | none => exact h.elim
  | some x => exact ⟨x, rfl, h⟩
def idx (n : Nat) : W → Option Nat
  | .int i => ixN n i
  | _ => none
/-- x[i] = .. for a list of the def's own; the value for good first -/
def gIx (fo fi : SE) : GT := fun r s => (ofO (frz s r)).bind fun f => (fo f.2).bind fun p => (fi p.2).bind fun q => (ofO (ownL q.2 p.1)).bind fun l => (ofO ((val q.2 q.1).bind (idx l.2.2.length))).bind fun j =>
  nfW f.1 fun w => nfLs (l.2.2.set j w) fun y => .ok (q.2.set l.1 (.own l.2.1 (.lst y)))
theorem pg_ix (hK : X.K = c.K) (ho : PE X a (rd c Wx fo)) (hi : PE X b (rd c Wx fi)) (ha : ∀ v, assign (.Subscript a b pos) X.env v = (do
      let ov ← holding [v] (eval a X.env)
      let iv ← holding [v, ov] (eval b X.env)
      standAt pos
      holding [v, ov, iv] (setItem ov iv v)
      release [v, ov, iv] [])) : PG X (.Subscript a b pos) (rdG c Wx ρ (gIx fo fi)) :=
  pg_imp (L2.pg_sub ho hi set_list ha) fun v σ H Q ⟨P0, s0, H0, P, s, r, R0, t, R, rv, h⟩ => by
    obtain ⟨f, ef, h⟩ := OutG.ofO h
    obtain ⟨w, s1⟩ := f
    obtain ⟨P1, t1, R1, rw1, _⟩ := frz_ok t R rv ef
    refine ⟨P1, s1, R1, OutG.exp t1 R1 h fun r2 s2 v2 P2 H2 t2 t2' R2 rv2 h2 => ?_⟩
    refine ⟨P2, s2, R2, OutG.exp t2 R2 h2 fun r3 s3 v3 P3 H3 t3 t3' R3 rv3 h3 => ?_⟩
    obtain ⟨l, el, h3⟩ := OutG.ofO h3
    obtain ⟨j0, p, ws⟩ := l
    obtain ⟨ad, vs, e1, e2, e3, q3, rr3⟩ := ownL_ok R3 (rv2.over R2 t3') el
    obtain ⟨j, ej, h3⟩ := OutG.ofO h3
    cases ev : val s3 r3 with
    | none => rw [ev] at ej; cases ej
    | some iw =>
      rw [ev] at ej
      cases iw with
      | int i =>
        have hi := (rv3.view R3 ev).int
        refine ⟨ad, vs, i, j, e1, hi, q3, by rw [← rr3.length]; exact ej, ?_⟩
        have rw3 := Rep.mono (Stp.kp R2 t3'.toStp) _ _ (Rep.mono (Stp.kp R1 t2'.toStp) _ _ rw1)
        obtain ⟨t4, R4⟩ := upd_own R3 e2 e3 (rr3.set rw3 (i := j))
        simp only [nfW_eq, nfLs_eq] at h3
        exact h3 σ P3 _ (t3.toStp.trans t4.toStp) R4 (ρ.refl σ)
      | _ => cases ej
/-- x[i] op= e, x a list of the def's own, by ints -/
def sAugIx (op : Operator) (fo fi fe : SE) : SS := fun s => (fo s).bind fun p => (fi p.2).bind fun q => match val q.2 p.1, val q.2 q.1 with
  | some (.lst ws0), some (.int i) => match atI ws0 i with
    | some (.int old) => (fe q.2).bind fun t => match val t.2 t.1, ownL t.2 p.1 with
      | some (.int d), some l => match ixN l.2.2.length i, op with
        | some j, .Add => nfI (old + d) fun i => nfLs (l.2.2.set j (.int i)) fun y => .ok (.nx (t.2.set l.1 (.own l.2.1 (.lst y))))
        | some j, .Sub => nfI (old - d) fun i => nfLs (l.2.2.set j (.int i)) fun y => .ok (.nx (t.2.set l.1 (.own l.2.1 (.lst y))))
        | _, _ => .bad
      | _, _ => .bad
    | _ => .bad
  | _, _ => .bad
def rGetL : V → V → Hp → VK → Prop := fun o i H Q => ∃ p xs k v, o = .ref p ∧ i = .int k ∧ H p = some (.lst xs) ∧ atI xs k = some v ∧ Q v H
theorem get_list : PGet X rGetL := by
  intro pins s σ H o i ov iv Q I ro ri h
  obtain ⟨p, xs, k, v, rfl, rfl, hp, hj, q⟩ := h
  cases ro
  obtain ⟨t, rfl⟩ := ri
  obtain ⟨its, rv, pl, hz⟩ := I.list (SqL.of hp)
  have hl := rv.length
  unfold atI at hj
  cases e : ixN xs.length k with
  | none => rw [e] at hj; cases hj
  | some j =>
    rw [e] at hj
    obtain ⟨u, hu, ru⟩ := rv.get hj
    have hs : sizeLine = 16777216 := sizeLine_eq
    obtain ⟨e1, e2, e3, e4⟩ := ixN_seq e
    by_cases h0 : 0 ≤ k
    · have ek : k.toNat = j := by
        unfold ixN at e
        rw [if_pos h0, if_pos e4] at e
        exact Option.some.inj e
      exact wpAny_getItem_list pl.isList h0 (by omega) (x := u) (by rw [ek]; simpa using hu) ⟨v, H, I, ru, q⟩
    · have ek : (k + (xs.length : Int)).toNat = j := by
        unfold ixN at e
        rw [if_neg h0, if_pos e3] at e
        exact Option.some.inj e
      exact wpAny_getItem_list_neg pl.isList (by omega) (by simp; omega) (by omega) (x := u) (by rw [show its.toArray.size = xs.length by simp [hl], ek]; simpa using hu) ⟨v, H, I, ru, q⟩
theorem ps_augIx (op : Operator) (hop : op = .Add ∨ op = .Sub) (ho : PE X a (rd c Wx fo)) (hi : PE X b (rd c Wx fi)) (he : PE X e (rd c Wx fe)) {tpos : Pos}
    (ha : ∀ ov iv new, augStore b ov iv new = (do holding [new, ov, iv] (setItem ov iv new); release [new, ov, iv] []; pure .next)) : PS X (.AugAssign (.Subscript a b tpos) op e pos) (rdS c Wx (sAugIx op fo fi fe)) := by
  have go : ∀ (tip : TIp), PIp X op tip → (∀ (i j : Int) (H : Hp) (Q : VK), Q (.int (if op = .Add then i + j else i - j)) H → tip (.int i) (.int j) H Q) → PS X (.AugAssign (.Subscript a b tpos) op e pos) (rdS c Wx (sAugIx op fo fi fe)) := fun tip hip ht =>
    ps_imp (ps_augS ho hi get_list he hip set_list ha) fun D σ H ⟨P, s, R, h⟩ => ⟨P, s, R, h.exp fun r1 s1 v1 P1 H1 _ t1 R1 rv1 h1 => ⟨P1, s1, R1, (OutS.at_ h1 t1.toStp).exp fun r2 s2 v2 P2 H2 _ t2 R2 rv2 h2 => by
      dsimp only at h2
      split at h2
      · rename_i ws0 i ev1 ev2
        split at h2
        · rename_i old eo
          have v1w := rv1.over R1 t2
          obtain ⟨ad, vs, rfl, q2, rr2⟩ := (v1w.view R2 ev1).lst
          obtain ⟨vo, e5, rvo⟩ := reps_at rr2 eo
          refine ⟨ad, vs, i, vo, rfl, (rv2.view R2 ev2).int, q2, e5, ?_⟩
          unfold Rep at rvo
          subst rvo
          refine ⟨P2, s2, R2, (OutS.at_ h2 t2.toStp).exp fun r3 s3 v3 P3 H3 _ t3 R3 rv3 h3 => ?_⟩
          dsimp only at h3
          split at h3
          · rename_i d l ev3 el
            obtain ⟨j0, p, ws⟩ := l
            obtain ⟨ad', vs3, e6, e7, e8, q3, rr3⟩ := ownL_ok R3 (v1w.over R2 t3) el
            cases e6
            rw [(rv3.view R3 ev3).int]
            refine ht _ _ _ _ ?_
            have h3 := OutS.at_ h3 t3.toStp
            split at h3
            · rename_i j ej _ _
              refine ⟨ad, vs3, i, j, rfl, (rv2.view R2 ev2).int, q3, by rw [← rr3.length]; exact ej, ?_⟩
              obtain ⟨t4, R4⟩ := upd_own R3 e7 e8 (rr3.set (rep_int (c := c) (P := P3) (H := H3) (i := old + d)) (i := j))
              rw [if_pos rfl]
              rw [nfI_eq, nfLs_eq] at h3
              exact h3 σ P3 _ t4.toStp R4
            · rename_i j ej _ _
              refine ⟨ad, vs3, i, j, rfl, (rv2.view R2 ev2).int, q3, by rw [← rr3.length]; exact ej, ?_⟩
              obtain ⟨t4, R4⟩ := upd_own R3 e7 e8 (rr3.set (rep_int (c := c) (P := P3) (H := H3) (i := old - d)) (i := j))
              rw [if_neg (by decide)]
              rw [nfI_eq, nfLs_eq] at h3
              exact h3 σ P3 _ t4.toStp R4
            · exact h3.elim
          · exact h3.elim
        · exact h2.elim
      · exact h2.elim⟩⟩
  rcases hop with rfl | rfl
  · exact go _ ip_add fun i j H Q q => ⟨i, j, rfl, rfl, by rw [if_pos rfl] at q; exact q⟩
  · exact go _ ip_sub fun i j H Q q => ⟨i, j, rfl, rfl, by rw [if_neg (by decide)] at q; exact q⟩
/-- x op= e, a name's int or text -/
def augW : Operator → W → W → Option W
  | .Add, .int i, .int j => some (.int (i + j))
  | .Sub, .int i, .int j => some (.int (i - j))
  | .Add, .str a, .str b => guard' (decide (a.length + b.length ≤ lim)) (.str (a ++ b))
  | _, _, _ => none
theorem augW_add (e : augW .Add u w = some z') : (∃ i j, u = .int i ∧ w = .int j ∧ z' = .int (i + j)) ∨ ∃ a b, u = .str a ∧ w = .str b ∧ z' = .str (a ++ b) ∧ a.length + b.length ≤ lim := by
  cases u <;> cases w <;> first
    | (cases e; done)
    | exact .inl ⟨_, _, rfl, rfl, (Option.some.inj e).symm⟩
    | (obtain ⟨g, e2⟩ := guard'_some e; exact .inr ⟨_, _, rfl, rfl, e2.symm, of_decide_eq_true g⟩)
theorem augW_sub (e : augW .Sub u w = some z') : ∃ i j, u = .int i ∧ w = .int j ∧ z' = .int (i - j) := by
  cases u <;> cases w <;> first
    | (cases e; done)
    | exact ⟨_, _, rfl, rfl, (Option.some.inj e).symm⟩
def sAug (op : Operator) (i : Nat) (fe : SE) : SS := fun s => match s[i]? with
  | some (.fro u) => (fe s).bind fun p => match val p.2 p.1 with
    | some w => (ofO (augW op u w)).bind fun z => nfW z fun z => .ok (.nx (p.2.set i (.fro z)))
    | none => .bad
  | _ => .bad
theorem ps_aug' (op : Operator) (hop : op = .Add ∨ op = .Sub) {i : Nat} {nm : Str} {pos' : Pos} (hN : X.N.Nodup) (hi : X.N[i]? = some nm) (hx : Loc X.env.scope nm) (he : PE X e (rd c Wx fe)) (hf : X.fn nm = true ∨ X.env.scope.names.lookup nm = some .local) :
    PS X (.AugAssign (.Name nm pos') op e pos) (rdS c Wx (sAug op i fe)) := by
  have go : ∀ (tip : TIp), PIp X op tip → (∀ {P H u w z x y Q}, augW op u w = some z → View c P H u x → View c P H w y → (∀ v, Rep c.T c.K P H z v → Q v H) → tip x y H Q) → PS X (.AugAssign (.Name nm pos') op e pos) (rdS c Wx (sAug op i fe)) := fun tip hip ht =>
    ps_imp (ps_aug hN hi hx he hip hf) fun D σ H ⟨P, s, R, h⟩ => by
      unfold sAug at h
      split at h
      · rename_i u eu
        obtain ⟨v0, e0, r0⟩ := R.fro i u eu
        refine ⟨v0, e0, P, s, R, h.exp fun r1 s1 v1 P1 H1 _ t1 R1 rv1 h1 => ?_⟩
        dsimp only at h1
        split at h1
        · rename_i w ew
          cases ea : augW op u w with
          | none => rw [ea] at h1; exact h1.elim
          | some z =>
            rw [ea] at h1
            have r01 := Rep.mono (Stp.kp R t1.toStp) _ _ r0
            refine ht ea r01.view (rv1.view R1 ew) fun v rz => ?_
            have hi2 : i < s1.length := by
              rcases t1.sl i with q | ⟨_, _, q, _⟩
              · rw [eu] at q; exact (List.getElem?_eq_some_iff.mp q).1
              · rw [eu] at q; cases q
            obtain ⟨t2, R2⟩ := set_fro R1 hi2 rz
            simp only [ofO_some, Res.bind_ok, nfW_eq] at h1
            exact h1 _ P1 H1 (t1.toStp.trans t2) R2
        · exact h1.elim
      · exact h.elim
  rcases hop with rfl | rfl
  · refine go (fun x y H Q => ipI (fun i j => i + j) x y H Q ∨ rAddStr x y H Q) (fun pins s σ H x y v u Q I rx ry h => ?_) fun {P H u w z x y Q} e hx hy k => ?_
    · rcases h with h | h
      · exact ip_add pins s σ H x y v u Q I rx ry h
      · exact iop_add_str pins s σ H x y v u Q I rx ry h
    · rcases augW_add e with ⟨i, j, rfl, rfl, rfl⟩ | ⟨a, b, rfl, rfl, rfl, g⟩
      · rw [hx.int, hy.int]
        exact .inl ⟨_, _, rfl, rfl, k _ (rep_int (c := c) (P := P) (H := H))⟩
      · rw [hx.str, hy.str]
        refine .inr ⟨_, _, rfl, rfl, ?_, ?_⟩
        · rw [mkS_len, mkS_len, lim_eq]; exact g
        · rw [mkS_app]; exact k _ (rep_str (c := c) (P := P) (H := H))
  · refine go _ ip_sub fun {P H u w z x y Q} e hx hy k => ?_
    obtain ⟨i, j, rfl, rfl, rfl⟩ := augW_sub e
    rw [hx.int, hy.int]
    exact ⟨_, _, rfl, rfl, k _ (rep_int (c := c) (P := P) (H := H))⟩
end
end Qs
/-! # What is walked; for -/
namespace Qs
open PySem PySem.Spec PyProof.Rows L2
section
variable (c : Cst)
/-- an iterator that gives the trees ws, whatever comes while P and what it holds stand -/
structure Wk (J : It) (ws : List W) (P : Addr → Prop) (H : Hp) : Prop where
  go : ∀ (P2 : Addr → Prop) (H2 : Hp), Kp P P2 H H2 → ∀ (i : Nat) (w : W), ws[i]? = some w → J.go i H2 ∧ ∀ x H3, J.yld i H2 x H3 → (∀ b o, H2 b = some o → H3 b = some o) ∧ Rep c.T c.K P2 H3 w x
  stop : ∀ (P2 : Addr → Prop) (H2 : Hp), Kp P P2 H H2 → ∀ i : Nat, ws.length ≤ i → J.stop i H2
abbrev IE := S → Res (List W × S)
def OutI (Wx : WX) (σ : L2.St) (P : Addr → Prop) (s : S) (H : Hp) (R : It → Hp → Prop) : Res (List W × S) → Prop
  | .ok (ws, s') => ∀ J P' H', StE P s σ H P' s' H' → Rel c P' s' σ H' → Wk c J ws P' H' → R J H'
  | .exc x => PostX c Wx P s σ H x
  | .bad => False
def rdI (Wx : WX) (f : IE) : TI := fun σ H R => ∃ P s, Rel c P s σ H ∧ OutI c Wx σ P s H R (f s)
end
section
variable {c : Cst} {Wx : WX} {k : Nat} {X : Cx} {P P0 P1 P2 P' : Addr → Prop} {s s' s0 s1 : S} {σ σ0 σ' : L2.St} {H H0 H1 H2 H' : Hp} {Q : VK} {D D' : Ends} {u w z' : W} {ws : List W} {vs : List V} {r z : R} {x y v : V} {a b e o tg iter : Expr} {fa fb fo fi fe : SE} {pos p p2 apos : Pos} {ad : Addr}
theorem Kp.trans (k : Kp P P1 H H1) (k2 : Kp P1 P2 H1 H2) : Kp P P2 H H2 := ⟨fun a h => k2.pin a (k.pin a h), fun a o e h => k2.keep a o (k.keep a o e h) (by
  rcases h with h | h
  · exact .inl h
  · exact .inr ⟨k.pin a h.1, h.2⟩)⟩
theorem wk_list (p : P ad) (h : H ad = some (.lst vs)) (r : Reps c.T c.K P H ws vs) : Wk c (Itl c.K ad) ws P H where
  go := fun P2 H2 kp i w e => by
    have h2 : H2 ad = some (.lst vs) := kp.keep _ _ h (.inr ⟨p, fun z => z⟩)
    obtain ⟨v, e2, rv⟩ := (Reps.mono kp _ _ r).get e
    refine ⟨⟨vs, v, .of h2, e2⟩, fun x H3 hy => ?_⟩
    obtain ⟨rfl, hx⟩ := hy
    have := hx vs (.of h2)
    rw [e2] at this; cases this
    exact ⟨fun _ _ e => e, rv⟩
  stop := fun P2 H2 kp i hi => ⟨vs, .of (kp.keep _ _ h (.inr ⟨p, fun z => z⟩)), by rw [← r.length]; exact hi⟩
theorem wk_tup (h : SqT c.K H ad vs) (r : Reps c.T c.K P H ws vs) : Wk c (Itt c.K ad) ws P H where
  go := fun P2 H2 kp i w e => by
    have h2 : SqT c.K H2 ad vs := kp.sqt h
    obtain ⟨v, e2, rv⟩ := (Reps.mono kp _ _ r).get e
    refine ⟨⟨vs, v, h2, e2⟩, fun x H3 hy => ?_⟩
    obtain ⟨rfl, hx⟩ := hy
    have := hx vs h2
    rw [e2] at this; cases this
    exact ⟨fun _ _ e => e, rv⟩
  stop := fun P2 H2 kp i hi => ⟨vs, kp.sqt h, by rw [← r.length]; exact hi⟩
theorem wk_str {l : List Nat} : Wk c (Its (mkS l)) (l.map fun d => .str [d]) P H where
  go := fun P2 H2 kp i w e => by
    rw [List.getElem?_map] at e
    cases q : l[i]? with
    | none => rw [q] at e; cases e
    | some d =>
      rw [q] at e; cases e
      refine ⟨?_, fun x H3 hy => ?_⟩
      · show i < (mkS l).cps.size
        simpa using (List.getElem?_eq_some_iff.mp q).1
      obtain ⟨rfl, d', e2, rfl⟩ := hy
      have e3 : some d = some d' := by rw [← q, ← e2]; simp
      cases e3
      exact ⟨fun _ _ e => e, by unfold Rep; rfl⟩
  stop := fun P2 H2 kp i hi => by
    show (mkS l).cps.size ≤ i
    simpa using hi
/-- lo, lo + c, .. -/
def rngL (lo c : Int) (n : Nat) : List W := (List.range n).map fun i => .int (lo + (i : Nat) * c)
theorem wk_rng {lo d : Int} {n : Nat} {J : It} (hg : ∀ i H, i < n → J.go i H) (hy : ∀ i H x H', J.yld i H x H' → H' = H ∧ x = .int (lo + (i : Nat) * d)) (hs : ∀ i H, n ≤ i → J.stop i H) : Wk c J (rngL lo d n) P H where
  go := fun P2 H2 kp i w e => by
    unfold rngL at e
    rw [List.getElem?_map] at e
    have hi : i < n := by
      cases q : (List.range n)[i]? with
      | none => rw [q] at e; cases e
      | some d => simpa using (List.getElem?_eq_some_iff.mp q).1
    rw [List.getElem?_range hi] at e
    cases e
    refine ⟨hg i H2 hi, fun x H3 h => ?_⟩
    obtain ⟨rfl, rfl⟩ := hy _ _ _ _ h
    exact ⟨fun _ _ e => e, by unfold Rep; rfl⟩
  stop := fun P2 H2 kp i hi => hs i H2 (by simpa [rngL] using hi)
/-- pairs -/
def zipL (us ws : List W) : List W := (us.zip ws).map fun p => .tup [p.1, p.2]
theorem wk_pair {J : It} {us : List W} {xs ys : List V} (hx : Reps c.T c.K P H us xs) (hy : Reps c.T c.K P H ws ys)
    (hg : ∀ P2 H2, Kp P P2 H H2 → ∀ (i : Nat) (x y : V), xs[i]? = some x → ys[i]? = some y → J.go i H2 ∧ ∀ v H3, J.yld i H2 v H3 → ∃ t, v = .ref t ∧ H2 t = none ∧ H3 = upd H2 t (.tup [x, y]))
    (hs : ∀ P2 H2, Kp P P2 H H2 → ∀ i : Nat, xs.length ≤ i ∨ ys.length ≤ i → J.stop i H2) : Wk c J (zipL us ws) P H where
  go := fun P2 H2 kp i w e => by
    unfold zipL at e
    rw [List.getElem?_map] at e
    cases q : (us.zip ws)[i]? with
    | none => rw [q] at e; cases e
    | some pr =>
      rw [q] at e; cases e
      obtain ⟨q1, q2⟩ := List.getElem?_zip_eq_some.mp q
      obtain ⟨x, e1, rx⟩ := (Reps.mono kp _ _ hx).get q1
      obtain ⟨y, e2, ry⟩ := (Reps.mono kp _ _ hy).get q2
      obtain ⟨g1, g2⟩ := hg P2 H2 kp i x y e1 e2
      refine ⟨g1, fun v H3 h => ?_⟩
      obtain ⟨t, rfl, ht, rfl⟩ := g2 v H3 h
      refine ⟨keep_upd ht, rep_tup (.of upd_same) (Reps.cons ?_ (Reps.cons ?_ Reps.nil))⟩
      · exact Rep.mono ⟨fun _ h => h, fun a o q _ => keep_upd ht a o q⟩ _ _ rx
      · exact Rep.mono ⟨fun _ h => h, fun a o q _ => keep_upd ht a o q⟩ _ _ ry
  stop := fun P2 H2 kp i hi => hs P2 H2 kp i (by
    have e : (zipL us ws).length = min us.length ws.length := by simp [zipL]
    rw [e, hx.length, hy.length] at hi
    omega)
/-! ### sources -/
theorem pi_imp {t t' : TI} (h : PI X tg iter t) (k : ∀ σ H R, t' σ H R → t σ H R) : PI X tg iter t' := ⟨fun pins s σ H R I hq => h.run pins s σ H R I (k σ H R hq)⟩
theorem PI.or {t t' : TI} (h : PI X tg iter t) (h' : PI X tg iter t') : PI X tg iter (fun σ H R => t σ H R ∨ t' σ H R) := ⟨fun pins s σ H R I hq => by
  rcases hq with hq | hq
  · exact h.run pins s σ H R I hq
  · exact h'.run pins s σ H R I hq⟩
/-- an expression's items -/
def iterV : W → Option (List W)
  | .lst ws => some ws
  | .tup ws => some ws
  | .str l => some (l.map fun d => .str [d])
  | _ => none
def iVal (f : SE) : IE := fun s => (f s).bind fun p => (ofO (frz p.2 p.1)).bind fun q => (ofO (iterV q.1)).bind fun ws => .ok (ws, q.2)
theorem OutI.at_ {R : It → Hp → Prop} {res : Res (List W × S)} (h : OutI c Wx σ P0 s0 H0 R res) (t : StE P0 s0 σ H0 P s H) (Rl : Rel c P s σ H) : OutI c Wx σ P s H R res := by
  cases res with
  | ok p => obtain ⟨ws, s'⟩ := p; exact fun J P' H' t' R' wk => h J P' H' (t.trans t') R' wk
  | exc x => exact Sxc.of t.toStp Rl h
  | bad => exact h
theorem OutI.ofO {R : It → Hp → Prop} {α : Type} {o : Option α} {kk : α → Res (List W × S)} (h : OutI c Wx σ P s H R ((Qs.ofO o).bind kk)) : ∃ x, o = some x ∧ OutI c Wx σ P s H R (kk x) := by
  cases o with
  | none => exact h.elim
  | some x => exact ⟨x, rfl, h⟩
theorem pi_val (hK : X.K = c.K) (he : PE X e (rd c Wx fa)) : PI X tg e (rdI c Wx (iVal fa)) :=
  pi_imp (PI.or (PI.or (pi_list he) (pi_tup he)) (pi_str he)) fun σ H R ⟨P, s, Rl, h⟩ => by
    unfold iVal at h
    cases e1 : fa s with
    | exc x =>
      rw [e1] at h
      refine .inl (.inl ⟨P, s, Rl, ?_⟩)
      rw [e1]; exact h
    | bad => rw [e1] at h; exact h.elim
    | ok p =>
      obtain ⟨r, s1⟩ := p
      rw [e1] at h
      obtain ⟨f, ef, h⟩ := OutI.ofO h
      obtain ⟨w, s2⟩ := f
      obtain ⟨ws, ew, h⟩ := OutI.ofO h
      cases w with
      | lst us =>
        cases ew
        refine .inl (.inl ⟨P, s, Rl, ?_⟩)
        rw [e1]
        intro v P1 H1 t1 R1 rv
        obtain ⟨P2, t2, R2, rw2, kp⟩ := frz_ok t1 R1 rv ef
        unfold Rep at rw2
        obtain ⟨ad, vs, rfl, q, rr⟩ := rw2
        exact ⟨ad, rfl, ⟨vs, .of q.2⟩, h _ P2 H1 t2 R2 (by rw [hK]; exact wk_list q.1 q.2 rr)⟩
      | tup us =>
        cases ew
        refine .inl (.inr ⟨P, s, Rl, ?_⟩)
        rw [e1]
        intro v P1 H1 t1 R1 rv
        obtain ⟨P2, t2, R2, rw2, kp⟩ := frz_ok t1 R1 rv ef
        unfold Rep at rw2
        obtain ⟨ad, vs, rfl, q, rr⟩ := rw2
        exact ⟨ad, rfl, ⟨vs, by rw [hK]; exact q⟩, h _ P2 H1 t2 R2 (by rw [hK]; exact wk_tup q rr)⟩
      | str l =>
        cases ew
        refine .inr ⟨P, s, Rl, ?_⟩
        rw [e1]
        intro v P1 H1 t1 R1 rv
        obtain ⟨P2, t2, R2, rw2, kp⟩ := frz_ok t1 R1 rv ef
        unfold Rep at rw2
        exact ⟨mkS l, rw2, h _ P2 H1 t2 R2 wk_str⟩
      | _ => cases ew
/-- by the values of the arguments -/
def iArgs (g : List W → Option (List W)) (fs : List SE) : IE := bindI (fs.map fun f => (false, f)) fun us s => (ofO (g us)).bind fun ws => .ok (ws, s)
theorem Tail.outI {R : It → Hp → Prop} : Tail c Wx σ P0 s0 H0 (OutI c Wx σ P0 s0 H0 R) := ⟨fun _ h => h, fun h => h⟩
theorem tItems_args : ∀ (fs : List SE) (σ : L2.St) (H : Hp) (Z : List V → Hp → Prop), tItems c Wx (fs.map fun f => (false, f)) σ H Z = tArgs c Wx fs σ H Z
  | [], _, _, _ => rfl
  | f :: fs, σ, H, Z => by
    show tCons (rd c Wx f) (tItems c Wx (fs.map fun f => (false, f))) σ H Z = tCons (rd c Wx f) (tArgs c Wx fs) σ H Z
    unfold tCons
    congr 1
    funext x H1
    exact tItems_args fs σ H1 _
theorem rd_iargs {g : List W → Option (List W)} {fs : List SE} {R : It → Hp → Prop} {Z : List V → Hp → Prop} (h : rdI c Wx (iArgs g fs) σ H R)
    (hz : ∀ P us ws xs H1, Reps c.T c.K P H1 us xs → g us = some ws → (∀ J, Wk c J ws P H1 → R J H1) → Z xs H1) : tArgs c Wx fs σ H Z := by
  obtain ⟨P0, s0, R0, h⟩ := h
  rw [← tItems_args]
  have q := items_auxT (Tail.outI (R := R)) (fs.map fun f => (false, f)) (fun us s => (ofO (g us)).bind fun ws => .ok (ws, s)) Z P0 s0 H [] [] R0 StE.refl R0 Reps.nil (by simpa [iArgs] using h)
    (fun P s us xs H1 t R1 ra h1 => by
      obtain ⟨ws, eg, h1⟩ := OutI.ofO h1
      exact hz P us ws xs H1 ra eg fun J wk => h1 J P H1 t R1 wk)
  simpa using q
theorem star_all : ∀ {es : List Expr} {env : Env}, es.all (fun e => !PySem.W.isStarred e) = true → starEach es env = es.map fun e => (false, eval e env)
  | [], _, _ => rfl
  | e :: es, env, h => by
    rw [List.all_cons, Bool.and_eq_true, Bool.not_eq_true'] at h
    rw [star_no h.1, star_all h.2]; rfl
theorem star_any {es : List Expr} {env : Env} {pos : Pos} (h : es.all (fun e => !PySem.W.isStarred e) = true) : (backTo pos (starEach es env)).any (·.1) = false := by
  rw [star_all h]
  unfold backTo
  rw [List.map_map]
  simp
theorem paired_reps {us : List W} {xs : List V} (r : Reps c.T c.K P H us xs) : us.length = xs.length := r.length
theorem reps1 {w : W} {xs : List V} (r : Reps c.T c.K P H [w] xs) : ∃ x, xs = [x] ∧ Rep c.T c.K P H w x := by
  unfold Reps at r
  obtain ⟨x, r', e, h1, h2⟩ := r
  unfold Reps at h2
  subst h2
  exact ⟨x, e, h1⟩
theorem reps2 {w w2 : W} {xs : List V} (r : Reps c.T c.K P H [w, w2] xs) : ∃ x y, xs = [x, y] ∧ Rep c.T c.K P H w x ∧ Rep c.T c.K P H w2 y := by
  unfold Reps at r
  obtain ⟨x, r', e, h1, h2⟩ := r
  obtain ⟨y, e2, h3⟩ := reps1 h2
  subst e2
  exact ⟨x, y, e, h1, h3⟩
theorem reps3 {w w2 w3 : W} {xs : List V} (r : Reps c.T c.K P H [w, w2, w3] xs) : ∃ x y z, xs = [x, y, z] ∧ Rep c.T c.K P H w x ∧ Rep c.T c.K P H w2 y ∧ Rep c.T c.K P H w3 z := by
  unfold Reps at r
  obtain ⟨x, r', e, h1, h2⟩ := r
  obtain ⟨y, z, e2, h3, h4⟩ := reps2 h2
  subst e2
  exact ⟨x, y, z, e, h1, h3, h4⟩
theorem Rep.int {i : Int} (h : Rep c.T c.K P H (.int i) x) : x = .int i := by unfold Rep at h; exact h
def inR (i : Int) : Bool := decide (-4611686018427387904 ≤ i) && decide (i < 4611686018427387904)
theorem inR_ok {i : Int} (h : inR i = true) : -(2 ^ 62) ≤ i ∧ i < 2 ^ 62 := by
  unfold inR at h
  simp only [Bool.and_eq_true, decide_eq_true_eq] at h
  exact ⟨by omega, by omega⟩
def rng1 : List W → Option (List W)
  | [.int j] => guard' (inR j) (rngL 0 1 j.toNat)
  | _ => none
def rng2 : List W → Option (List W)
  | [.int i, .int j] => guard' (inR i && inR j) (rngL i 1 (j - i).toNat)
  | _ => none
/-- by steps -/
def rng3 : List W → Option (List W)
  | [.int i, .int j, .int d] => guard' (decide (d ≠ 0) && decide (d.natAbs < 1073741824) && Builtin.Range.small i j d && decide (0 ≤ Builtin.Range.rangeSize i j d)) (rngL i d (Builtin.Range.rangeSize i j d).toNat)
  | _ => none
theorem pi_rng1 (na : PySem.W.isStarred a = false) (hg : Gl X "range") (hm : X.mg "range" = none) (ha : PA X [a] (tArgs c Wx [fa])) : PI X tg (.Call (.Name "range" p) [a] [] pos) (rdI c Wx (iArgs rng1 [fa])) :=
  pi_imp (pi_range1 hg hm ha (star_no na)) fun σ H R h => rd_iargs h fun P us ws xs H1 ra eg k => by
    unfold rng1 at eg
    split at eg
    · rename_i j
      obtain ⟨g, rfl⟩ := guard'_some eg
      obtain ⟨x, rfl, rx⟩ := reps1 ra
      obtain ⟨g1, g2⟩ := inR_ok g
      refine ⟨j, by rw [rx.int], g1, g2, k _ (wk_rng (fun i H h => h) (fun i H x H' h => ?_) (fun i H h => h))⟩
      obtain ⟨rfl, rfl⟩ := h
      exact ⟨rfl, by simp⟩
    · cases eg
theorem pi_rng2 (na : PySem.W.isStarred a = false) (nb : PySem.W.isStarred b = false) (hg : Gl X "range") (hm : X.mg "range" = none) (ha : PA X [a, b] (tArgs c Wx [fa, fb])) : PI X tg (.Call (.Name "range" p) [a, b] [] pos) (rdI c Wx (iArgs rng2 [fa, fb])) :=
  pi_imp (pi_range2 hg hm ha (by rw [star_no na, star_no nb]; rfl) (star_no nb)) fun σ H R h => rd_iargs h fun P us ws xs H1 ra eg k => by
    unfold rng2 at eg
    split at eg
    · rename_i i j
      obtain ⟨g, rfl⟩ := guard'_some eg
      rw [Bool.and_eq_true] at g
      obtain ⟨x, y, rfl, rx, ry⟩ := reps2 ra
      obtain ⟨g1, g2⟩ := inR_ok g.1
      obtain ⟨g3, g4⟩ := inR_ok g.2
      refine ⟨i, j, by rw [rx.int, ry.int], ⟨g1, g2, g3, g4⟩, k _ (wk_rng (fun i H h => h) (fun i H x H' h => ?_) (fun i H h => h))⟩
      obtain ⟨rfl, rfl⟩ := h
      exact ⟨rfl, by simp⟩
    · cases eg
theorem pi_rng3 (na : PySem.W.isStarred a = false) (nb : PySem.W.isStarred b = false) (ne : PySem.W.isStarred e = false) (hg : Gl X "range") (hm : X.mg "range" = none) (ha : PA X [a, b, e] (tArgs c Wx [fa, fb, fe])) : PI X tg (.Call (.Name "range" p) [a, b, e] [] pos) (rdI c Wx (iArgs rng3 [fa, fb, fe])) :=
  pi_imp (pi_range3 hg hm ha (star_no na) (star_any (by simp [nb, ne]))) fun σ H R h => rd_iargs h fun P us ws xs H1 ra eg k => by
    unfold rng3 at eg
    split at eg
    · rename_i i j d
      obtain ⟨g, rfl⟩ := guard'_some eg
      simp only [Bool.and_eq_true, decide_eq_true_eq] at g
      obtain ⟨⟨⟨g0, g5⟩, g6⟩, g7⟩ := g
      obtain ⟨x, y, z, rfl, rx, ry, rz⟩ := reps3 ra
      exact ⟨i, j, d, (Builtin.Range.rangeSize i j d).toNat, by rw [rx.int, ry.int, rz.int], ⟨g0, g5, g6, (Int.toNat_of_nonneg g7).symm⟩, k _ (wk_rng (fun i H h => h) (fun i H x H' h => h) (fun i H h => h))⟩
    · cases eg
/-- zip of two lists, of two tuples -/
def zipW : List W → Option (List W)
  | [.lst us, .lst ws] => some (zipL us ws)
  | [.tup us, .tup ws] => some (zipL us ws)
  | _ => none
theorem pi_zip' {elts : List Expr} {kk : Nat} {tpos : Pos} (na : PySem.W.isStarred a = false) (nb : PySem.W.isStarred b = false) (hK : X.K = c.K) (hg : Gl X "zip") (hm : X.mg "zip" = none) (ha : PA X [a, b] (tArgs c Wx [fa, fb])) :
    PI X (.Tuple elts kk tpos) (.Call (.Name "zip" p) [a, b] [] pos) (rdI c Wx (iArgs zipW [fa, fb])) :=
  pi_imp (RZ.pi_zipA hg hm ha (star_no na) (star_any (by simp [nb]))) fun σ H R h => rd_iargs h fun P us ws xs H1 ra eg k => by
    unfold zipW at eg
    split at eg
    · cases eg
      obtain ⟨x, y, rfl, rx, ry⟩ := reps2 ra
      unfold Rep at rx ry
      obtain ⟨ax, vx, rfl, qx, rx⟩ := rx
      obtain ⟨ay, vy, rfl, qy, ry⟩ := ry
      rw [hK]
      refine ⟨ax, ay, vx, vy, rfl, .inl ⟨.of qx.2, .of qy.2, k _ (wk_pair rx ry (fun P2 H2 kp i x y e1 e2 => ?_) fun P2 H2 kp i hi => ?_)⟩⟩
      · have h1 : H2 ax = some (.lst vx) := kp.keep _ _ qx.2 (.inr ⟨qx.1, fun z => z⟩)
        have h2 : H2 ay = some (.lst vy) := kp.keep _ _ qy.2 (.inr ⟨qy.1, fun z => z⟩)
        refine ⟨⟨vx, vy, x, y, .of h1, .of h2, e1, e2⟩, fun v H3 hy => ?_⟩
        obtain ⟨t, x', y', rfl, ht, rfl, k1, k2⟩ := hy
        have := k1 vx (.of h1)
        rw [e1] at this; cases this
        have := k2 vy (.of h2)
        rw [e2] at this; cases this
        exact ⟨t, rfl, ht, rfl⟩
      · exact ⟨vx, vy, .of (kp.keep _ _ qx.2 (.inr ⟨qx.1, fun z => z⟩)), .of (kp.keep _ _ qy.2 (.inr ⟨qy.1, fun z => z⟩)), hi⟩
    · cases eg
      obtain ⟨x, y, rfl, rx, ry⟩ := reps2 ra
      unfold Rep at rx ry
      obtain ⟨ax, vx, rfl, qx, rx⟩ := rx
      obtain ⟨ay, vy, rfl, qy, ry⟩ := ry
      rw [hK]
      refine ⟨ax, ay, vx, vy, rfl, .inr ⟨qx, qy, k _ (wk_pair rx ry (fun P2 H2 kp i x y e1 e2 => ?_) fun P2 H2 kp i hi => ?_)⟩⟩
      · have h1 : SqT c.K H2 ax vx := kp.sqt qx
        have h2 : SqT c.K H2 ay vy := kp.sqt qy
        refine ⟨⟨vx, vy, x, y, h1, h2, e1, e2⟩, fun v H3 hy => ?_⟩
        obtain ⟨t, x', y', rfl, ht, rfl, k1, k2⟩ := hy
        have := k1 vx h1
        rw [e1] at this; cases this
        have := k2 vy h2
        rw [e2] at this; cases this
        exact ⟨t, rfl, ht, rfl⟩
      · exact ⟨vx, vy, kp.sqt qx, kp.sqt qy, hi⟩
    · cases eg
/-- enumerate of a list -/
def numL (ws : List W) : List W := zipL (rngL 0 1 ws.length) ws
def enumW : List W → Option (List W)
  | [.lst ws] => some (numL ws)
  | _ => none
theorem reps_rng {n : Nat} : Reps c.T c.K P H (rngL 0 1 n) ((List.range n).map fun i => V.int ((i : Nat) : Int)) := by
  unfold rngL
  induction (List.range n) with
  | nil => exact Reps.nil
  | cons i r ih =>
    rw [List.map_cons, List.map_cons]
    exact Reps.cons (by unfold Rep; simp) ih
theorem pi_enum' {elts : List Expr} {kk : Nat} {tpos : Pos} (na : PySem.W.isStarred a = false) (hK : X.K = c.K) (hg : Gl X "enumerate") (hm : X.mg "enumerate" = none) (ha : PA X [a] (tArgs c Wx [fa])) :
    PI X (.Tuple elts kk tpos) (.Call (.Name "enumerate" p) [a] [] pos) (rdI c Wx (iArgs enumW [fa])) :=
  pi_imp (pi_enum hg hm ha (star_no na)) fun σ H R h => rd_iargs h fun P us ws xs H1 ra eg k => by
    unfold enumW at eg
    split at eg
    · rename_i us'
      cases eg
      obtain ⟨x, rfl, rx⟩ := reps1 ra
      unfold Rep at rx
      obtain ⟨ax, vx, rfl, qx, rx⟩ := rx
      rw [hK]
      refine ⟨ax, vx, rfl, .of qx.2, k _ (wk_pair reps_rng rx (fun P2 H2 kp i x y e1 e2 => ?_) fun P2 H2 kp i hi => ?_)⟩
      · have h1 : H2 ax = some (.lst vx) := kp.keep _ _ qx.2 (.inr ⟨qx.1, fun z => z⟩)
        refine ⟨⟨vx, y, .of h1, e2⟩, fun v H3 hy => ?_⟩
        obtain ⟨t, x', rfl, ht, rfl, k1⟩ := hy
        have := k1 vx (.of h1)
        rw [e2] at this; cases this
        have hx : x = V.int ((i : Nat) : Int) := by
          have hi : i < us'.length := by rw [rx.length]; exact (List.getElem?_eq_some_iff.mp e2).1
          rw [List.getElem?_map, List.getElem?_range hi] at e1
          exact (Option.some.inj e1).symm
        subst hx
        exact ⟨t, rfl, ht, rfl⟩
      · refine ⟨vx, .of (kp.keep _ _ qx.2 (.inr ⟨qx.1, fun z => z⟩)), ?_⟩
        rcases hi with hi | hi
        · have hi : us'.length ≤ i := by simpa using hi
          rw [← rx.length]; exact hi
        · exact hi
    · cases eg
/-! ### for -/
def forL (g : GT) (fb : SS) : List W → SS
  | [], s => .ok (.nx s)
  | w :: ws, s => (g (.fro w) s).bind fun s1 => (fb s1).bind fun
    | .nx s2 => forL g fb ws s2
    | .ct s2 => forL g fb ws s2
    | .bk s2 => .ok (.nx s2)
    | .rt r s2 => .ok (.rt r s2)
def sFor (fi : IE) (g : GT) (fb : SS) : SS := fun s => (fi s).bind fun p => forL g fb p.1 p.2
theorem ps_for' {body : List Stmt} {g : GT} {fb : SS} {fi : IE} (hp : PassesOwn (model X.prog X.w) X.A X.env X.xe) (hc : X.calm = true) (hi : PI X tg iter (rdI c Wx fi)) (hg : PG X tg (rdG c Wx sr0 g)) (hb : PSs X body (rdS c Wx fb))
    (hs : ∀ x, foldedSetIterable iter X.env x = pure x) : PS X (.For tg iter body [] pos) (rdS c Wx (sFor fi g fb)) :=
  ps_imp (ps_for hp hc hi hg hb hs) fun D σ H ⟨P, s, R, h⟩ => by
    refine ⟨P, s, R, ?_⟩
    unfold sFor at h
    cases e : fi s with
    | exc x => rw [e] at h; exact fun cls d P' H' u xr => h σ cls d P' H' u xr
    | bad => rw [e] at h; exact h.elim
    | ok pr =>
      obtain ⟨ws0, s1⟩ := pr
      rw [e] at h
      intro J P1 H1 t1 R1 wk
      have h1 := OutS.at_ h t1.toStp
      refine ⟨fun i m σ2 H2 => ∃ P2 s2, m = (ws0.drop i).length ∧ Kp P1 P2 H1 H2 ∧ Rel c P2 s2 σ2 H2 ∧ OutS c Wx σ2 P2 s2 H2 D (forL g fb (ws0.drop i) s2), ⟨_, P1, s1, rfl, Kp.refl, R1, h1⟩, ?_⟩
      rintro i m σ2 H2 ⟨P2, s2, rfl, kp, R2, h2⟩
      cases q : ws0.drop i with
      | nil =>
        rw [q] at h2
        refine .inl ⟨wk.stop P2 H2 kp i (List.drop_eq_nil_iff.mp q), h2 σ2 P2 H2 Stp.refl R2⟩
      | cons w ws =>
        rw [q] at h2
        have ew : ws0[i]? = some w := by
          have := List.getElem?_drop (xs := ws0) (i := i) (j := 0)
          rw [q] at this
          simpa using this.symm
        have ed : ws0.drop (i + 1) = ws := by rw [← List.drop_drop, q]; rfl
        obtain ⟨g1, g2⟩ := wk.go P2 H2 kp i w ew
        refine .inr ⟨g1, fun σ' H' => ∃ P3 s3, Kp P1 P3 H1 H' ∧ Rel c P3 s3 σ' H' ∧ OutS c Wx σ' P3 s3 H' D (forL g fb ws s3), fun σ' H' ⟨P3, s3, k3, R3, h3⟩ => ⟨ws.length, by simp, P3, s3, by rw [ed], k3, R3, by rw [ed]; exact h3⟩, fun x H' hy => ?_⟩
        obtain ⟨ke, rx⟩ := g2 x H' hy
        have R2' := R2.more ke
        have t2' : Stp P2 s2 σ2 H2 P2 s2 σ2 H' := (Stp.more ke).toStp
        refine rdG_fro R2' rx ?_
        unfold forL at h2
        have h2 := OutS.at_ h2 t2'
        have kp' : Kp P1 P2 H1 H' := kp.trans ⟨fun _ h => h, fun a o e _ => ke a o e⟩
        cases eg : g (.fro w) s2 with
        | ok s3 =>
          rw [eg] at h2
          intro σ3 P3 H3 t3 R3 _
          refine ⟨P3, s3, R3, ?_⟩
          have h3 := OutS.at_ h2 t3
          have k3 : Kp P1 P3 H1 H3 := kp'.trans (Stp.kp R2' t3)
          dsimp only [Res.bind_ok] at h3
          cases ef : fb s3 with
          | ok fl =>
            rw [ef] at h3
            cases fl with
            | nx s4 => exact fun σ4 P4 H4 t4 R4 => ⟨P4, s4, k3.trans (Stp.kp R3 t4), R4, OutS.at_ h3 t4⟩
            | ct s4 => exact fun σ4 P4 H4 t4 R4 => ⟨P4, s4, k3.trans (Stp.kp R3 t4), R4, OutS.at_ h3 t4⟩
            | bk s4 => exact h3
            | rt r s4 => exact h3
          | exc x => rw [ef] at h3; exact h3
          | bad => rw [ef] at h3; exact h3.elim
        | exc x => rw [eg] at h2; exact h2
        | bad => rw [eg] at h2; exact h2.elim
end
end Qs
/-! # List comprehensions -/
namespace Qs
open PySem PySem.Spec PyProof.Rows L2
section
variable {c : Cst} {Wx Wb : WX} {k : Nat} {X : Cx} {P P0 P1 P2 PB P' : Addr → Prop} {s s' s0 s1 sF sN : S} {σ σ0 σ' : L2.St} {H H0 H1 H2 H' : Hp} {Q : VK} {u w : W} {ws wsF : List W} {vs : List Nat} {r z : R} {x y v : V} {a b e tg iter : Expr} {ft fe : SE} {fi : IE} {g : GT} {pos p p2 : Pos} {D : Addr}
/-! ### the block's own names -/
def wipeS (s : S) (vs : List Nat) : S := go 0 s
where go : Nat → S → S
  | _, [] => []
  | i, x :: xs => (if vs.contains i then .un else x) :: go (i + 1) xs
theorem wipeS_go : ∀ (s : S) (k i : Nat), (wipeS.go vs k s)[i]? = (s[i]?).map fun x => if vs.contains (k + i) then .un else x
  | [], _, _ => by simp [wipeS.go]
  | x :: xs, k, 0 => by simp [wipeS.go]
  | x :: xs, k, i + 1 => by
    have := wipeS_go xs (k + 1) i
    simp only [wipeS.go, List.getElem?_cons_succ, this]
    rw [show k + 1 + i = k + (i + 1) by omega]
theorem wipeS_get {i : Nat} : (wipeS s vs)[i]? = (s[i]?).map fun x => if vs.contains i then .un else x := by
  unfold wipeS
  rw [wipeS_go]; simp
theorem wipeS_go_len : ∀ (s : S) (k : Nat), (wipeS.go vs k s).length = s.length
  | [], _ => rfl
  | x :: xs, k => by simp [wipeS.go, wipeS_go_len xs]
theorem wipeS_len : (wipeS s vs).length = s.length := wipeS_go_len s 0
theorem wipeS_some {i : Nat} {x : Sl} (h : (wipeS s vs)[i]? = some x) (hx : x ≠ .un) : s[i]? = some x ∧ i ∉ vs := by
  rw [wipeS_get] at h
  cases e : s[i]? with
  | none => rw [e] at h; cases h
  | some y =>
    rw [e] at h
    simp only [Option.map_some, Option.some.injEq] at h
    split at h
    · exact absurd h.symm hx
    · rename_i q
      subst h
      exact ⟨rfl, fun m => q (by simpa using m)⟩
theorem wipe_in {i : Nat} {o : Option V} : ∀ {vs : List Nat}, (wipe σ vs)[i]? = some o → i ∈ vs → o = none
  | [], _, m => by cases m
  | v :: vs, h, m => by
    unfold wipe at h
    by_cases e : v = i
    · subst e
      have hl : v < (wipe σ vs).length := by
        have := (List.getElem?_eq_some_iff.mp h).1
        rwa [List.length_set] at this
      rw [List.getElem?_set_self hl] at h
      exact (Option.some.inj h).symm
    · rw [List.getElem?_set_ne e] at h
      rcases List.mem_cons.mp m with m | m
      · exact absurd m.symm e
      · exact wipe_in h m
theorem wipe_wipe : wipe (wipe σ vs) vs = wipe σ vs := by
  apply List.ext_getElem?
  intro i
  by_cases hm : i ∈ vs
  · by_cases hl : i < σ.length
    · have h1 : i < (wipe (wipe σ vs) vs).length := by rw [wipe_length, wipe_length]; exact hl
      have h2 : i < (wipe σ vs).length := by rw [wipe_length]; exact hl
      have e1 := wipe_in (List.getElem?_eq_getElem h1) hm
      have e2 := wipe_in (List.getElem?_eq_getElem h2) hm
      rw [List.getElem?_eq_getElem h1, List.getElem?_eq_getElem h2, e1, e2]
    · rw [List.getElem?_eq_none (by rw [wipe_length, wipe_length]; omega), List.getElem?_eq_none (by rw [wipe_length]; omega)]
  · rw [wipe_out hm]
theorem wipe_set {i : Nat} (hi : i ∈ vs) (o : Option V) : wipe (σ.set i o) vs = wipe σ vs := by
  apply List.ext_getElem?
  intro j
  by_cases hm : j ∈ vs
  · by_cases hl : j < σ.length
    · have h1 : j < (wipe (σ.set i o) vs).length := by rw [wipe_length, List.length_set]; exact hl
      have h2 : j < (wipe σ vs).length := by rw [wipe_length]; exact hl
      have e1 := wipe_in (List.getElem?_eq_getElem h1) hm
      have e2 := wipe_in (List.getElem?_eq_getElem h2) hm
      rw [List.getElem?_eq_getElem h1, List.getElem?_eq_getElem h2, e1, e2]
    · rw [List.getElem?_eq_none (by rw [wipe_length, List.length_set]; omega), List.getElem?_eq_none (by rw [wipe_length]; omega)]
  · rw [wipe_out hm, wipe_out hm, List.getElem?_set_ne (fun (e : i = j) => hm (by subst e; exact hi))]
/-- what is told of a store into the block's names -/
def srW (vs : List Nat) : SR := ⟨fun σ σ' => wipe σ' vs = wipe σ vs, fun _ => rfl, fun h h' => h'.trans h⟩
theorem Own.wiped (h : Own (wipeS s vs) (wipe σ vs) D) : ∃ (i : Nat) (p : Bool) (w : W), i ∉ vs ∧ s[i]? = some (Sl.own p w) ∧ σ[i]? = some (some (V.ref D)) := by
  obtain ⟨i, p, w, e, e2⟩ := h
  obtain ⟨e3, n⟩ := wipeS_some e (fun z => nomatch z)
  rw [wipe_out n] at e2
  exact ⟨i, p, w, n, e3, e2⟩
theorem Own.ofW (h : Own (wipeS s vs) (wipe σ vs) D) : Own s σ D := by
  obtain ⟨i, p, w, _, e, e2⟩ := h.wiped
  exact ⟨i, p, w, e, e2⟩
theorem rel_wipe (R : Rel c P s σ H) : Stp P s σ H P (wipeS s vs) (wipe σ vs) H ∧ Rel c P (wipeS s vs) (wipe σ vs) H := by
  refine ⟨⟨fun _ _ e _ _ => e, fun _ e => e, fun _ e => e, fun _ e => .inl e, fun a h => .inl h.ofW, fun i w e => ?_⟩, ⟨by rw [wipeS_len, wipe_length]; exact R.len, fun i w e => ?_, fun i p w e => ?_, fun i j p q u w a e1 e2 e3 e4 => ?_, R.tbs, R.dom⟩⟩
  · obtain ⟨e1, n⟩ := wipeS_some e (fun z => nomatch z)
    exact ⟨⟨w, e1⟩, wipe_out n⟩
  · obtain ⟨e1, n⟩ := wipeS_some e (fun z => nomatch z)
    rw [wipe_out n]
    exact R.fro i w e1
  · obtain ⟨e1, n⟩ := wipeS_some e (fun z => nomatch z)
    rw [wipe_out n]
    exact R.own i p w e1
  · obtain ⟨e1, n1⟩ := wipeS_some e1 (fun z => nomatch z)
    obtain ⟨e2, n2⟩ := wipeS_some e2 (fun z => nomatch z)
    rw [wipe_out n1] at e3
    rw [wipe_out n2] at e4
    exact R.inj i j p q u w a e1 e2 e3 e4
/-- a slot behind a block -/
def backSl : Sl → Sl → Option Sl
  | .own true _, .own true w => some (.own true w)
  | .own false _, .own false w => some (.own false w)
  | .own _ _, .fro w => some (.fro w)
  | .own _ _, _ => none
  | x, _ => some x
def backS (vs : List Nat) : Nat → S → S → Option S
  | _, [], [] => some []
  | k, x :: xs, y :: ys => (if vs.contains k then some x else backSl x y).bind fun z => (backS vs (k + 1) xs ys).map (z :: ·)
  | _, _, _ => none
theorem backS_get : ∀ {s sF sN : S} {k i : Nat} {z : Sl}, backS vs k s sF = some sN → sN[i]? = some z → ∃ x y, s[i]? = some x ∧ sF[i]? = some y ∧ ((k + i ∈ vs ∧ z = x) ∨ (k + i ∉ vs ∧ backSl x y = some z))
  | [], [], sN, k, i, z, h, e => by cases h; cases e
  | [], _ :: _, sN, k, i, z, h, e => by cases h
  | _ :: _, [], sN, k, i, z, h, e => by cases h
  | x :: xs, y :: ys, sN, k, i, z, h, e => by
    unfold backS at h
    cases q : (if vs.contains k then some x else backSl x y) with
    | none => rw [q] at h; cases h
    | some z0 =>
      rw [q] at h
      cases q2 : backS vs (k + 1) xs ys with
      | none => simp [q2] at h
      | some r =>
        simp only [q2, Option.bind_some, Option.map_some, Option.some.injEq] at h
        subst h
        cases i with
        | zero =>
          cases e
          refine ⟨x, y, rfl, rfl, ?_⟩
          split at q
          · rename_i hm
            cases q
            exact .inl ⟨by simpa using hm, rfl⟩
          · rename_i hm
            exact .inr ⟨fun m => hm (by simpa using m), q⟩
        | succ i =>
          obtain ⟨x', y', e1, e2, e3⟩ := backS_get (i := i) q2 (by simpa using e)
          refine ⟨x', y', by simpa using e1, by simpa using e2, ?_⟩
          rw [show k + 1 + i = k + (i + 1) by omega] at e3
          exact e3
theorem backS_len : ∀ {s sF sN : S} {k : Nat}, backS vs k s sF = some sN → sN.length = s.length
  | [], [], sN, k, h => by cases h; rfl
  | [], _ :: _, sN, k, h => by cases h
  | _ :: _, [], sN, k, h => by cases h
  | x :: xs, y :: ys, sN, k, h => by
    unfold backS at h
    cases q : (if vs.contains k then some x else backSl x y) with
    | none => rw [q] at h; cases h
    | some z0 =>
      rw [q] at h
      cases q2 : backS vs (k + 1) xs ys with
      | none => simp [q2] at h
      | some r =>
        simp only [q2, Option.bind_some, Option.map_some, Option.some.injEq] at h
        subst h
        simp [backS_len q2]
theorem backSl_own {p : Bool} {w : W} {x y : Sl} (h : backSl x y = some (.own p w)) : ∃ w0, x = .own p w0 ∧ y = .own p w := by
  unfold backSl at h
  split at h <;> first | (cases h; exact ⟨_, rfl, rfl⟩) | (cases h; done) | (cases h; rename_i n _ _ _; exact (n _ _ rfl).elim)
theorem backSl_fro {w : W} {x y : Sl} (h : backSl x y = some (.fro w)) : x = .fro w ∨ ((∃ p w0, x = .own p w0) ∧ y = .fro w) := by
  unfold backSl at h
  split at h <;> first | cases h; exact .inl rfl | (cases h; exact .inr ⟨⟨_, _, rfl⟩, rfl⟩) | cases h
theorem backSl_un {x y : Sl} (h : backSl x y = some .un) : x = .un := by
  unfold backSl at h
  split at h <;> first | cases h; rfl | cases h
theorem back_own {i : Nat} {p : Bool} {w : W} (h : backS vs 0 s sF = some sN) (e : sN[i]? = some (.own p w)) : ∃ w0, s[i]? = some (.own p w0) ∧ ((i ∈ vs ∧ w0 = w) ∨ (i ∉ vs ∧ sF[i]? = some (.own p w))) := by
  obtain ⟨x, y, e1, e2, e3⟩ := backS_get h e
  rw [Nat.zero_add] at e3
  rcases e3 with ⟨m, e3⟩ | ⟨m, e3⟩
  · subst e3; exact ⟨w, e1, .inl ⟨m, rfl⟩⟩
  · obtain ⟨w0, rfl, rfl⟩ := backSl_own e3
    exact ⟨w0, e1, .inr ⟨m, e2⟩⟩
/-- behind the block -/
theorem back_ok (R : Rel c P s σ H) (t : Stp P (wipeS s vs) (wipe σ vs) H P' sF (wipe σ vs) H') (RF : Rel c P' sF (wipe σ vs) H') (e : backS vs 0 s sF = some sN) :
    StE P s σ H P' sN H' ∧ Rel c P' sN σ H' ∧ ∀ a, Own sN σ a → Own s σ a := by
  have kp := Stp.kp (rel_wipe (vs := vs) R).2 t
  have ho : ∀ a, Own sN σ a → Own s σ a := fun a ⟨i, p, w, e1, e2⟩ => by
    obtain ⟨w0, e3, _⟩ := back_own e e1
    exact ⟨i, p, w0, e3, e2⟩
  refine ⟨⟨⟨fun a o e n nt => t.keep a o e (fun z => n z.ofW) nt, t.there, t.pin, fun a h => ?_, fun a h => .inl (ho a h), fun i w e1 => ?_⟩, fun i => ?_⟩, ⟨by rw [backS_len e]; exact R.len, fun i w e1 => ?_, fun i p w e1 => ?_, fun i j p q u w a e1 e2 e3 e4 => ?_, RF.tbs, RF.dom⟩, ho⟩
  · rcases t.new a h with z | z | z
    · exact .inl z
    · exact .inr (.inl z)
    · exact .inr (.inr z.ofW)
  · obtain ⟨w0, e3, _⟩ := back_own e e1
    exact ⟨⟨w0, e3⟩, rfl⟩
  · cases q : sN[i]? with
    | none =>
      refine .inl ?_
      have := List.getElem?_eq_none_iff.mp q
      rw [backS_len e] at this
      rw [List.getElem?_eq_none this]
    | some z =>
      obtain ⟨x, y, e1, e2, e3⟩ := backS_get e q
      rcases e3 with ⟨_, rfl⟩ | ⟨_, e3⟩
      · exact .inl e1.symm
      · cases z with
        | un =>
          have := backSl_un e3
          subst this
          exact .inl e1.symm
        | fro w =>
          rcases backSl_fro e3 with rfl | ⟨⟨p, w0, rfl⟩, rfl⟩
          · exact .inl e1.symm
          · exact .inr ⟨p, w0, e1, w, .inr rfl⟩
        | own p w =>
          obtain ⟨w0, rfl, rfl⟩ := backSl_own e3
          exact .inr ⟨p, w0, e1, w, .inl rfl⟩
  · obtain ⟨x, y, e2, e3, e4⟩ := backS_get e e1
    rw [Nat.zero_add] at e4
    rcases e4 with ⟨_, rfl⟩ | ⟨n, e4⟩
    · obtain ⟨v, e5, r⟩ := R.fro i w e2
      exact ⟨v, e5, Rep.mono kp _ _ r⟩
    · rcases backSl_fro e4 with rfl | ⟨_, rfl⟩
      · obtain ⟨v, e5, r⟩ := R.fro i w e2
        exact ⟨v, e5, Rep.mono kp _ _ r⟩
      · obtain ⟨v, e5, r⟩ := RF.fro i w e3
        exact ⟨v, (wipe_some e5).1, r⟩
  · obtain ⟨w0, e2, e3⟩ := back_own e e1
    rcases e3 with ⟨m, rfl⟩ | ⟨n, e3⟩
    · obtain ⟨a, e4, n, q⟩ := R.own i p w0 e2
      have nw : ¬ Own (wipeS s vs) (wipe σ vs) a := fun z => by
        obtain ⟨j, p', w', nj, e5, e6⟩ := z.wiped
        have := R.inj i j p p' w0 w' a e2 e5 e4 e6
        subst this
        exact nj m
      obtain ⟨o, eo, _⟩ := Cell.ex q
      refine ⟨a, e4, fun z => ?_, Cell.mono kp q fun o e5 nt => t.keep a o e5 nw nt⟩
      rcases t.new a z with z | z | z
      · exact n z
      · rw [eo] at z; cases z
      · exact nw z
    · obtain ⟨a, e4, n2, q⟩ := RF.own i p w e3
      exact ⟨a, (wipe_some e4).1, n2, q⟩
  · obtain ⟨w1, f1, _⟩ := back_own e e1
    obtain ⟨w2, f2, _⟩ := back_own e e2
    exact R.inj i j p q w1 w2 a f1 f2 e3 e4
/-! ### a list that nobody else knows is changed -/
theorem tbs_upd {o o' : HO} {tb : List (Addr × Str)} (h : LamX.Tabs tb H) (hD : H D = some o) (n1 : ∀ ps, o ≠ .tbl ps) (n2 : ∀ φ, o ≠ .ext φ) : LamX.Tabs tb (upd H D o') := by
  have nt : ∀ b ps, H b = some (.tbl ps) → b ≠ D := fun b ps e3 z => by subst z; rw [hD] at e3; cases e3; exact n1 _ rfl
  have ne : ∀ b φ, H b = some (.ext φ) → b ≠ D := fun b φ e3 z => by subst z; rw [hD] at e3; cases e3; exact n2 _ rfl
  intro t ht
  obtain ⟨ps, h1, h2, h3⟩ := h t ht
  refine ⟨ps, by rw [upd_ne (nt _ _ h1)]; exact h1, h2, fun ps2 cv hc => ?_⟩
  obtain ⟨cc, e3, e4⟩ := h3 ps2 cv hc
  exact ⟨cc, e3, by rw [upd_ne (ne _ _ e4)]; exact e4⟩
theorem kp_loose {l l' : List V} (hD : H D = some (.lst l)) (n : ¬ P D) : Kp P P H (upd H D (.lst l')) := ⟨fun _ h => h, fun a o e h => by
  have : a ≠ D := fun z => by
    subst z
    rw [hD] at e; cases e
    rcases h with h | h
    · exact h
    · exact n h.1
  rw [upd_ne this]; exact e⟩
theorem rel_loose {l l' : List V} (R : Rel c P s σ H) (hD : H D = some (.lst l)) (n : ¬ P D) (no : ¬ Own s σ D) : Rel c P s σ (upd H D (.lst l')) where
  len := R.len
  fro := fun i w e => by
    obtain ⟨v, e2, r⟩ := R.fro i w e
    exact ⟨v, e2, Rep.mono (kp_loose hD n) _ _ r⟩
  own := fun i p w e => by
    obtain ⟨a, e2, na, r⟩ := R.own i p w e
    refine ⟨a, e2, na, Cell.mono (kp_loose hD n) r fun o q _ => ?_⟩
    rw [upd_ne (fun (z : a = D) => no (by subst z; exact ⟨i, p, w, e, e2⟩))]; exact q
  inj := R.inj
  tbs := tbs_upd R.tbs hD (fun _ z => nomatch z) (fun _ z => nomatch z)
  dom := fun a h => by rw [upd_ne (fun (z : a = D) => n (by subst z; exact h))]; exact R.dom a h
theorem stp_loose {o : HO} (t : Stp P0 s0 σ0 H0 P s σ H) (hD : H0 D = none) : Stp P0 s0 σ0 H0 P s σ (upd H D o) := ⟨fun a o e n nt => by
  rw [upd_ne (fun z => by rw [z, hD] at e; cases e)]
  exact t.keep a o e n nt, fun a h => by
    by_cases z : a = D
    · subst z; rw [upd_same]; exact fun z => nomatch z
    · rw [upd_ne z]; exact t.there a h, t.pin, t.new, t.own, t.par⟩
/-! ### the block -/
def compL (g : GT) (ft fe : SE) (vs : List Nat) : List W → S → Res (List W × S)
  | [], s => .ok ([], s)
  | w :: ws, s => (g (.fro w) s).bind fun s1 => (ft s1).bind fun p => match val p.2 p.1 with
    | some (.bl true) => (fe p.2).bind fun q => (ofO (frz q.2 q.1)).bind fun u => (compL g ft fe vs ws (wipeS u.2 vs)).bind fun z => .ok (u.1 :: z.1, z.2)
    | some (.bl false) => compL g ft fe vs ws (wipeS p.2 vs)
    | _ => .bad
/-- no exception leaves it -/
def noX {α : Type} : Res α → Res α
  | .exc _ => .bad
  | r => r
theorem noX_ok {α : Type} {r : Res α} {x : α} (h : noX r = .ok x) : r = .ok x := by
  cases r with
  | ok y => exact h
  | exc y => cases h
  | bad => cases h
/-- the longest list -/
def lenMost : Nat := 4096
def eLc (fi : IE) (g : GT) (ft fe : SE) (vs : List Nat) : SE := fun s => (fi s).bind fun p => chk (decide (p.1.length ≤ lenMost)) <| (noX (compL g ft fe vs p.1 (wipeS p.2 vs))).bind fun q => (ofO (backS vs 0 p.2 q.2)).bind fun s' => .ok (.new (.lst q.1), s')
theorem compL_len : ∀ {ws : List W} {s : S} {l : List W} {s' : S}, compL g ft fe vs ws s = .ok (l, s') → l.length ≤ ws.length
  | [], s, l, s', h => by cases h; exact Nat.le_refl _
  | w :: ws, s, l, s', h => by
    unfold compL at h
    cases e1 : g (.fro w) s with
    | exc x => rw [e1] at h; cases h
    | bad => rw [e1] at h; cases h
    | ok s1 =>
      simp only [e1, Res.bind_ok] at h
      cases e2 : ft s1 with
      | exc x => rw [e2] at h; cases h
      | bad => rw [e2] at h; cases h
      | ok p =>
        simp only [e2, Res.bind_ok] at h
        split at h
        · cases e3 : fe p.2 with
          | exc x => rw [e3] at h; cases h
          | bad => rw [e3] at h; cases h
          | ok q =>
            simp only [e3, Res.bind_ok] at h
            cases e4 : frz q.2 q.1 with
            | none => rw [e4] at h; cases h
            | some u =>
              simp only [e4, ofO_some, Res.bind_ok] at h
              cases e5 : compL g ft fe vs ws (wipeS u.2 vs) with
              | exc x => rw [e5] at h; cases h
              | bad => rw [e5] at h; cases h
              | ok z =>
                simp only [e5, Res.bind_ok] at h
                cases h
                have := compL_len e5
                simp only [List.length_cons]; omega
        · have := compL_len h
          simp only [List.length_cons]; omega
        · cases h
theorem lc_rd : rd c Wx (eLc fi g ft fe vs) σ H Q → tLc (rdI c Wx fi) (rdG c Wb (srW vs) g) (rdT c Wb ft) (rd c Wb fe) vs σ H Q := fun ⟨P, s, R, h⟩ => by
  show rdI c Wx fi σ H _
  refine ⟨P, s, R, ?_⟩
  unfold eLc at h
  cases e : fi s with
  | exc x => rw [e] at h; exact h
  | bad => rw [e] at h; exact h.elim
  | ok pr =>
    obtain ⟨ws0, s1⟩ := pr
    simp only [e, Res.bind_ok] at h
    unfold chk at h
    split at h
    case isFalse => exact h.elim
    rename_i hlen
    have hlen := of_decide_eq_true hlen
    cases eC : noX (compL g ft fe vs ws0 (wipeS s1 vs)) with
    | exc x => exfalso; cases q : compL g ft fe vs ws0 (wipeS s1 vs) <;> rw [q] at eC <;> cases eC
    | bad => rw [eC] at h; exact h.elim
    | ok q =>
      obtain ⟨wsF, sF⟩ := q
      simp only [eC, Res.bind_ok] at h
      have eC := noX_ok eC
      cases eB : backS vs 0 s1 sF with
      | none => rw [eB] at h; exact h.elim
      | some sN =>
        simp only [eB, ofO_some, Res.bind_ok] at h
        intro J P1 H1 t1 R1 wk D hD
        have RD := R1.more (keep_upd (o := .lst []) hD)
        obtain ⟨tW, RW⟩ := rel_wipe (vs := vs) RD
        have tW : Stp P1 (wipeS s1 vs) (wipe σ vs) H1 P1 (wipeS s1 vs) (wipe σ vs) (upd H1 D (.lst [])) := (Stp.more (keep_upd hD)).toStp
        have nPD : ¬ P1 D := fun z => R1.dom D z hD
        have nOD : ¬ Own s1 σ D := fun z => by
          obtain ⟨_, w, q⟩ := R1.ownP z
          obtain ⟨o, eo, _⟩ := Cell.ex q
          rw [hD] at eo; cases eo
        refine ⟨fun i m H' => ∃ PB sB accW acc l, m = (ws0.drop i).length ∧ Stp P1 (wipeS s1 vs) (wipe σ vs) H1 PB sB (wipe σ vs) H' ∧ Rel c PB sB (wipe σ vs) H' ∧ H' D = some (.lst acc) ∧ Reps c.T c.K PB H' accW acc ∧ ¬ PB D ∧ ¬ Own sB (wipe σ vs) D ∧
          compL g ft fe vs (ws0.drop i) sB = .ok (l, sF) ∧ accW ++ l = wsF ∧ accW.length ≤ i, ⟨_, P1, _, [], [], wsF, rfl, tW, RW, upd_same, Reps.nil, nPD, fun z => nOD z.ofW, eC, rfl, Nat.zero_le _⟩, ?_⟩
        rintro i m H2 ⟨PB, sB, accW, acc, l, rfl, tB, RB, hB, rB, nB, oB, eL, eA, lA⟩
        have kB : Kp P1 PB H1 H2 := Stp.kp (rel_wipe (vs := vs) R1).2 tB
        cases q : ws0.drop i with
        | nil =>
          rw [q] at eL
          cases eL
          rw [List.append_nil] at eA
          subst eA
          refine .inl ⟨wk.stop PB H2 kB i (List.drop_eq_nil_iff.mp q), ?_⟩
          obtain ⟨t2, R2, o2⟩ := back_ok R1 tB RB eB
          exact h _ PB H2 (t1.trans t2) R2 ⟨D, rfl, nB, fun z => nOD (o2 _ z), t1.there' hD, acc, hB, rB⟩
        | cons w ws =>
          rw [q] at eL
          have ew : ws0[i]? = some w := by
            have := List.getElem?_drop (xs := ws0) (i := i) (j := 0)
            rw [q] at this
            simpa using this.symm
          have hi : i < ws0.length := (List.getElem?_eq_some_iff.mp ew).1
          have ed : ws0.drop (i + 1) = ws := by rw [← List.drop_drop, q]; rfl
          obtain ⟨g1, g2⟩ := wk.go PB H2 kB i w ew
          refine .inr ⟨g1, fun H' => ∃ PB sB accW acc l, ws.length = (ws0.drop (i + 1)).length ∧ Stp P1 (wipeS s1 vs) (wipe σ vs) H1 PB sB (wipe σ vs) H' ∧ Rel c PB sB (wipe σ vs) H' ∧ H' D = some (.lst acc) ∧ Reps c.T c.K PB H' accW acc ∧ ¬ PB D ∧ ¬ Own sB (wipe σ vs) D ∧
            compL g ft fe vs (ws0.drop (i + 1)) sB = .ok (l, sF) ∧ accW ++ l = wsF ∧ accW.length ≤ i + 1, fun H' nx => ⟨ws.length, by simp, nx⟩, fun x H3 hy => ?_⟩
          obtain ⟨ke, rx⟩ := g2 x H3 hy
          have R3 := RB.more ke
          have t3 : Stp PB sB (wipe σ vs) H2 PB sB (wipe σ vs) H3 := (Stp.more ke).toStp
          refine rdG_fro R3 rx ?_
          unfold compL at eL
          cases e1 : g (.fro w) sB with
          | exc x => rw [e1] at eL; cases eL
          | bad => rw [e1] at eL; cases eL
          | ok s2 =>
            simp only [e1, Res.bind_ok] at eL
            intro σ4 P4 H4 t4 R4 hr
            have hr : wipe σ4 vs = wipe (wipe σ vs) vs := hr
            rw [wipe_wipe] at hr
            refine ⟨hr, P4, s2, R4, ?_⟩
            cases e2 : ft s2 with
            | exc x => rw [e2] at eL; cases eL
            | bad => rw [e2] at eL; cases eL
            | ok p =>
              obtain ⟨r5, s5⟩ := p
              simp only [e2, Res.bind_ok] at eL
              intro v5 P5 H5 t5 R5 rv5
              have T5 := (t3.trans t4).trans t5.toStp
              have fin : ∀ {P6 : Addr → Prop} {s6 : S} {H6 : Hp}, Stp PB sB (wipe σ vs) H2 P6 s6 σ4 H6 → Rel c P6 s6 σ4 H6 → H6 D = some (.lst acc) ∧ ¬ P6 D ∧ ¬ Own s6 σ4 D ∧ Reps c.T c.K P6 H6 accW acc := fun {P6 s6 H6} T R => by
                refine ⟨T.keep _ _ hB oB (fun z => z), fun z => ?_, fun z => ?_, Reps.mono (Stp.kp RB T) _ _ rB⟩
                · rcases T.new D z with z | z | z
                  · exact nB z
                  · rw [hB] at z; cases z
                  · exact oB z
                · rcases T.own D z with z | z
                  · exact oB z
                  · rw [hB] at z; cases z
              split at eL
              · rename_i ev
                refine ⟨true, (rv5.view R5 ev).bl, ?_⟩
                refine (if_pos rfl).mpr ?_
                refine ⟨P5, s5, R5, ?_⟩
                cases e3 : fe s5 with
                | exc x => rw [e3] at eL; cases eL
                | bad => rw [e3] at eL; cases eL
                | ok p6 =>
                  obtain ⟨r6, s6⟩ := p6
                  simp only [e3, Res.bind_ok] at eL
                  intro y P6 H6 t6 R6 ry
                  cases e4 : frz s6 r6 with
                  | none => rw [e4] at eL; cases eL
                  | some u7 =>
                    obtain ⟨u, s7⟩ := u7
                    simp only [e4, ofO_some, Res.bind_ok] at eL
                    obtain ⟨P7, t7, R7, ru, _⟩ := frz_ok t6 R6 ry e4
                    have T7 := T5.trans t7.toStp
                    obtain ⟨f1, f2, f3, f4⟩ := fin T7 R7
                    have hz : acc.length < sizeLine := by
                      rw [← rB.length]
                      have : sizeLine = 16777216 := rfl
                      have : lenMost = 4096 := rfl
                      omega
                    refine ⟨acc, f1, hz, ?_⟩
                    cases e5 : compL g ft fe vs ws (wipeS s7 vs) with
                    | exc x => rw [e5] at eL; cases eL
                    | bad => rw [e5] at eL; cases eL
                    | ok z =>
                      obtain ⟨l', s'⟩ := z
                      simp only [e5, Res.bind_ok] at eL
                      cases eL
                      have kl := kp_loose (l' := acc ++ [y]) f1 f2
                      obtain ⟨t8, R8⟩ := rel_wipe (vs := vs) (rel_loose (l' := acc ++ [y]) R7 f1 f2 f3)
                      have T8 : Stp P1 (wipeS s1 vs) (wipe σ vs) H1 P7 s7 σ4 (upd H6 D (.lst (acc ++ [y]))) := stp_loose (tB.trans T7) hD
                      have T9 := T8.trans t8
                      rw [hr] at T9 R8
                      refine ⟨P7, wipeS s7 vs, accW ++ [u], acc ++ [y], l', by rw [ed], T9, R8, upd_same, Reps.app (Reps.mono kl _ _ f4) (Reps.cons (Rep.mono kl _ _ ru) Reps.nil), f2, fun z => f3 ?_, by rw [ed]; exact e5, by rw [← eA]; simp, by simp; omega⟩
                      rw [← hr] at z
                      exact z.ofW
              · rename_i ev
                refine ⟨false, (rv5.view R5 ev).bl, ?_⟩
                refine (if_neg (by decide)).mpr ?_
                obtain ⟨f1, f2, f3, f4⟩ := fin T5 R5
                obtain ⟨t8, R8⟩ := rel_wipe (vs := vs) R5
                have T9 := (tB.trans T5).trans t8
                rw [hr] at T9 R8
                refine ⟨P5, wipeS s5 vs, accW, acc, l, by rw [ed], T9, R8, f1, f4, f2, fun z => f3 ?_, by rw [ed]; exact eL, eA, by omega⟩
                rw [← hr] at z
                exact z.ofW
              · cases eL
theorem pts_nil' {X : Cx} : PTs X [] (rdT c Wb (blE true)) := ⟨fun pins s σ H Q I h => by
  obtain ⟨P, s', R, h⟩ := h
  obtain ⟨b, e, q⟩ := outB R h
  cases e
  exact pts_nil.run pins s σ H Q I q⟩
end
end Qs
/-! # Defs: what they promise, calls, bodies -/
namespace Qs
open PySem PySem.Spec PyProof.Rows L2
section
variable {c : Cst} {Wx Wb : WX} {k : Nat} {X : Cx} {P P0 P1 P2 PB P' : Addr → Prop} {s s' s0 s1 sF sN : S} {σ σ0 σ' : L2.St} {H H0 H1 H2 H' : Hp} {Q : VK} {u w : W} {ws wsF : List W} {vs xs : List V} {r z : R} {x y v : V} {a b e tg iter : Expr} {ft fe f : SE} {pos p p2 : Pos} {rs : List R} {as as' : S}
/-- a def's promise: m tells it by the slots of its arguments -/
def spM (c : Cst) (n : Nat) (m : SE) : Sp := fun vs H Q E => vs.length = n ∧ ∃ P as, Rel c P as (vs.map some) H ∧ Out c (fun cls d _ H' => E cls d H') (vs.map some) P as H Q (m as)
/-- a new list never changes from now on -/
def eFz (f : SE) : SE := fun s => (f s).bind fun p => match p.1 with
  | .new w => .ok (.fro w, p.2)
  | r => .ok (r, p.2)
theorem rd_fz (h : rd c Wx (eFz f) σ H Q) : rd c Wx f σ H Q := by
  obtain ⟨P, s, R, h⟩ := h
  refine ⟨P, s, R, ?_⟩
  unfold eFz at h
  cases e : f s with
  | exc x => rw [e] at h; exact h
  | bad => rw [e] at h; exact h
  | ok p =>
    obtain ⟨r, s1⟩ := p
    rw [e] at h
    cases r with
    | fro w => exact h
    | bor i => exact h
    | new w =>
      intro v P' H' t R' rv
      obtain ⟨P2, t2, R2, rw2, _⟩ := frz_ok t R' rv rfl
      exact h v P2 H' t2 R2 rw2
theorem pe_fz (h : PE X e (rd c Wx f)) : PE X e (rd c Wx (eFz f)) := pe_imp h fun _ _ _ => rd_fz
/-- an argument as a slot -/
def argS (s : S) : R → Option Sl
  | .fro w => some (.fro w)
  | .bor i => match s[i]? with
    | some (.fro w) => some (.fro w)
    | some (.own _ w) => some (.own false w)
    | _ => none
  | .new _ => none
theorem argS_bor {s : S} {i : Nat} : argS s (.bor i) = match s[i]? with
    | some (.fro w) => some (.fro w)
    | some (.own _ w) => some (.own false w)
    | _ => none := rfl
def argsS (s : S) : List R → Option S
  | [] => some []
  | r :: rs => (argS s r).bind fun a => (argsS s rs).map (a :: ·)
def ownI (s : S) : R → Option Nat
  | .bor i => match s[i]? with
    | some (.own _ _) => some i
    | _ => none
  | _ => none
def ownIx (s : S) : List R → List Nat
  | [] => []
  | r :: rs => match ownI s r with
    | some i => i :: ownIx s rs
    | none => ownIx s rs
def backA : List R → S → S → Option S
  | [], [], s => some s
  | .bor i :: rs, a :: as, s => match s[i]?, a with
    | some (.own p _), .own _ w => backA rs as (s.set i (.own p w))
    | some (.own _ _), .fro w => backA rs as (s.set i (.fro w))
    | some (.fro _), _ => backA rs as s
    | _, _ => none
  | .fro _ :: rs, _ :: as, s => backA rs as s
  | _, _, _ => none
def eCall (m : SE) (fs : List SE) : SE := bindL (fs.map eFz) fun rs s => (ofO (argsS s rs)).bind fun as => chk (decide (ownIx s rs).Nodup) <| (m as).bind fun p => (ofO (backA rs p.2 s)).bind fun s' => match p.1 with
  | .bor _ => .bad
  | r => .ok (r, s')
theorem argsS_get : ∀ {rs : List R} {as : S} {j : Nat} {sl : Sl}, argsS s rs = some as → as[j]? = some sl → ∃ r, rs[j]? = some r ∧ argS s r = some sl
  | [], as, j, sl, h, e => by cases h; cases e
  | r :: rs, as, j, sl, h, e => by
    unfold argsS at h
    cases q : argS s r with
    | none => rw [q] at h; cases h
    | some a =>
      cases q2 : argsS s rs with
      | none => rw [q, q2] at h; cases h
      | some bs =>
        rw [q, q2] at h
        cases h
        cases j with
        | zero => cases e; exact ⟨r, rfl, q⟩
        | succ j =>
          obtain ⟨r', e1, e2⟩ := argsS_get (j := j) q2 (by simpa using e)
          exact ⟨r', by simpa using e1, e2⟩
theorem argsS_len : ∀ {rs : List R} {as : S}, argsS s rs = some as → as.length = rs.length
  | [], as, h => by cases h; rfl
  | r :: rs, as, h => by
    unfold argsS at h
    cases q : argS s r with
    | none => rw [q] at h; cases h
    | some a =>
      cases q2 : argsS s rs with
      | none => rw [q, q2] at h; cases h
      | some bs =>
        rw [q, q2] at h
        cases h
        simp [argsS_len q2]
theorem paired_get {α β : Type} {F : α → β → Prop} {l₁ : List α} {l₂ : List β} (h : Paired F l₁ l₂) : ∀ {j : Nat} {a : α}, l₁[j]? = some a → ∃ b, l₂[j]? = some b ∧ F a b := by
  induction h with
  | nil => intro j a e; cases e
  | cons h _ ih =>
    intro j a e
    cases j with
    | zero => cases e; exact ⟨_, rfl, h⟩
    | succ j => obtain ⟨b, e1, e2⟩ := ih (j := j) (by simpa using e); exact ⟨b, by simpa using e1, e2⟩
theorem ownI_of {i : Nat} {p : Bool} {w : W} (e : s[i]? = some (Sl.own p w)) : ownI s (R.bor i) = some i := by
  show (match s[i]? with
    | some (.own _ _) => some i
    | _ => none) = some i
  rw [e]
theorem ownIx_of : ∀ {rs : List R} {i j : Nat} {p : Bool} {w : W}, rs[j]? = some (R.bor i) → s[i]? = some (Sl.own p w) → i ∈ ownIx s rs
  | r :: rs, i, 0, p, w, h, e => by
    cases h
    unfold ownIx
    rw [ownI_of e]
    exact List.mem_cons_self
  | r :: rs, i, j + 1, p, w, h, e => by
    have := ownIx_of (rs := rs) (j := j) (by simpa using h) e
    unfold ownIx
    split
    · exact List.mem_cons_of_mem _ this
    · exact this
theorem ownIx_tl {rs : List R} (n : (ownIx s (r :: rs)).Nodup) : (ownIx s rs).Nodup := by
  unfold ownIx at n
  split at n
  · exact (List.nodup_cons.mp n).2
  · exact n
theorem ownIx_hd {i : Nat} {p : Bool} {w : W} {rs : List R} (n : (ownIx s (R.bor i :: rs)).Nodup) (e : s[i]? = some (.own p w)) : i ∉ ownIx s rs := by
  unfold ownIx at n
  rw [ownI_of e] at n
  exact (List.nodup_cons.mp n).1
theorem ownIx_inj : ∀ {rs : List R} {i j l : Nat} {p : Bool} {w : W}, (ownIx s rs).Nodup → s[i]? = some (Sl.own p w) → rs[j]? = some (R.bor i) → rs[l]? = some (R.bor i) → j = l
  | r :: rs, i, 0, 0, p, w, _, _, _, _ => rfl
  | r :: rs, i, 0, l + 1, p, w, n, e, e1, e2 => by
    cases e1
    exact absurd (ownIx_of (rs := rs) (j := l) (by simpa using e2) e) (ownIx_hd n e)
  | r :: rs, i, j + 1, 0, p, w, n, e, e1, e2 => by
    cases e2
    exact absurd (ownIx_of (rs := rs) (j := j) (by simpa using e1) e) (ownIx_hd n e)
  | r :: rs, i, j + 1, l + 1, p, w, n, e, e1, e2 => by
    have := ownIx_inj (j := j) (l := l) (ownIx_tl n) e (by simpa using e1) (by simpa using e2)
    omega
/-- the arguments by themselves -/
theorem rel_args (R : Rel c P s σ H) (ra : Paired (fun r v => RvR c P s σ H0 H r v) rs xs) (e : argsS s rs = some as) (n : (ownIx s rs).Nodup) : Rel c P as (xs.map some) H ∧
    ∀ (j : Nat) (p : Bool) (w : W) (a : Addr), as[j]? = some (Sl.own p w) → (xs.map some)[j]? = some (some (V.ref a)) → ∃ (i : Nat) (q : Bool) (w : W), rs[j]? = some (Qs.R.bor i) ∧ s[i]? = some (Sl.own q w) ∧ σ[i]? = some (some (V.ref a)) := by
  have fo : ∀ (j : Nat) (p : Bool) (w : W), as[j]? = some (Sl.own p w) → ∃ (i : Nat) (q : Bool) (v : V), rs[j]? = some (Qs.R.bor i) ∧ s[i]? = some (Sl.own q w) ∧ σ[i]? = some (some v) ∧ xs[j]? = some v := fun j p w h => by
    obtain ⟨r, e1, e2⟩ := argsS_get e h
    obtain ⟨v, e3, rv⟩ := paired_get ra e1
    cases r with
    | fro w => cases e2
    | new w => cases e2
    | bor i =>
      rw [argS_bor] at e2
      cases q : s[i]? with
      | none => rw [q] at e2; cases e2
      | some sl =>
        rw [q] at e2
        cases sl with
        | un => cases e2
        | fro w => cases e2
        | own p' w' => cases e2; exact ⟨i, p', v, e1, q, rv.1, e3⟩
  refine ⟨⟨by rw [List.length_map, argsS_len e, paired_len ra], fun j w h => ?_, fun j p w h => ?_, fun j l p q u w a e1 e2 e3 e4 => ?_, R.tbs, R.dom⟩, fun j p w a h h2 => ?_⟩
  · obtain ⟨r, e1, e2⟩ := argsS_get e h
    obtain ⟨v, e3, rv⟩ := paired_get ra e1
    refine ⟨v, by rw [List.getElem?_map, e3]; rfl, ?_⟩
    cases r with
    | fro w => cases e2; exact rv
    | new w => cases e2
    | bor i =>
      rw [argS_bor] at e2
      cases q : s[i]? with
      | none => rw [q] at e2; cases e2
      | some sl =>
        rw [q] at e2
        cases sl with
        | un => cases e2
        | own _ _ => cases e2
        | fro w' =>
          cases e2
          obtain ⟨v', e4, rr⟩ := R.fro i _ q
          rw [rv.1] at e4
          cases e4
          exact rr
  · obtain ⟨i, q, v, e1, e2, e3, e4⟩ := fo j p w h
    obtain ⟨a, e5, na, cl⟩ := R.own i q w e2
    rw [e3] at e5; cases e5
    exact ⟨a, by rw [List.getElem?_map, e4]; rfl, na, cl⟩
  · obtain ⟨i1, q1, v1, f1, f2, f3, f4⟩ := fo j p u e1
    obtain ⟨i2, q2, v2, g1, g2, g3, g4⟩ := fo l q w e2
    rw [List.getElem?_map, f4] at e3
    rw [List.getElem?_map, g4] at e4
    cases e3
    cases e4
    have := R.inj i1 i2 q1 q2 u w a f2 g2 f3 g3
    subst this
    exact ownIx_inj n f2 f1 g1
  · obtain ⟨i, q, v, e1, e2, e3, e4⟩ := fo j p w h
    rw [List.getElem?_map, e4] at h2
    cases h2
    exact ⟨i, q, w, e1, e2, e3⟩
/-- what a call does to the slots -/
theorem backA_ok : ∀ {rs : List R} {as s s' : S}, backA rs as s = some s' → s'.length = s.length ∧ as.length = rs.length ∧ ∀ i : Nat, (s'[i]? = s[i]? ∧ ∀ p w, s[i]? = some (Sl.own p w) → ∀ j : Nat, rs[j]? ≠ some (R.bor i)) ∨
    ∃ (j : Nat) (p : Bool) (w0 : W), rs[j]? = some (Qs.R.bor i) ∧ s[i]? = some (Sl.own p w0) ∧ ((∃ q w', as[j]? = some (Sl.own q w') ∧ s'[i]? = some (Sl.own p w')) ∨ ∃ w', as[j]? = some (Sl.fro w') ∧ s'[i]? = some (Sl.fro w'))
  | [], [], s, s', h => by
    cases h
    exact ⟨rfl, rfl, fun i => .inl ⟨rfl, fun _ _ _ j e => by cases e⟩⟩
  | .bor i0 :: rs, [], s, s', h => by cases h
  | .fro _ :: rs, [], s, s', h => by cases h
  | .new _ :: rs, _, s, s', h => by cases h
  | [], _ :: _, s, s', h => by cases h
  | .fro w0 :: rs, a :: as, s, s', h => by
    obtain ⟨h1, h2, h3⟩ := backA_ok (rs := rs) (as := as) h
    refine ⟨h1, by simp [h2], fun i => ?_⟩
    rcases h3 i with ⟨e, n⟩ | ⟨j, p, w0, e1, e2, e3⟩
    · refine .inl ⟨e, fun p w e j z => ?_⟩
      cases j with
      | zero => cases z
      | succ j => exact n p w e j (by simpa using z)
    · exact .inr ⟨j + 1, p, w0, by simpa using e1, e2, by simpa using e3⟩
  | .bor i0 :: rs, a :: as, s, s', h => by
    unfold backA at h
    have put : ∀ (sl : Sl) (p : Bool) (w0 : W), s[i0]? = some (.own p w0) → backA rs as (s.set i0 sl) = some s' → ((∃ q w', a = .own q w' ∧ sl = .own p w') ∨ ∃ w', a = .fro w' ∧ sl = .fro w') → s'.length = s.length ∧ (a :: as).length = (Qs.R.bor i0 :: rs).length ∧ ∀ i : Nat, (s'[i]? = s[i]? ∧ ∀ p w, s[i]? = some (Sl.own p w) → ∀ j : Nat, (Qs.R.bor i0 :: rs)[j]? ≠ some (Qs.R.bor i)) ∨
        ∃ (j : Nat) (p : Bool) (w0 : W), (Qs.R.bor i0 :: rs)[j]? = some (Qs.R.bor i) ∧ s[i]? = some (Sl.own p w0) ∧ ((∃ q w', (a :: as)[j]? = some (Sl.own q w') ∧ s'[i]? = some (Sl.own p w')) ∨ ∃ w', (a :: as)[j]? = some (Sl.fro w') ∧ s'[i]? = some (Sl.fro w')) := fun sl p w0 e h ha => by
      obtain ⟨h1, h2, h3⟩ := backA_ok h
      have hl : i0 < s.length := (List.getElem?_eq_some_iff.mp e).1
      refine ⟨by rw [h1, List.length_set], by simp [h2], fun i => ?_⟩
      by_cases hi : i0 = i
      · subst hi
        rcases h3 i0 with ⟨e1, n⟩ | ⟨j, p', w', e1, e2, e3⟩
        · rw [List.getElem?_set_self hl] at e1
          refine .inr ⟨0, p, w0, rfl, e, ?_⟩
          rcases ha with ⟨q, w', rfl, rfl⟩ | ⟨w', rfl, rfl⟩
          · exact .inl ⟨q, w', rfl, e1⟩
          · exact .inr ⟨w', rfl, e1⟩
        · rw [List.getElem?_set_self hl] at e2
          cases e2
          rcases ha with ⟨q, w'', rfl, z⟩ | ⟨w'', rfl, z⟩
          · cases z
            exact .inr ⟨j + 1, p, w0, by simpa using e1, e, by simpa using e3⟩
          · cases z
      · rcases h3 i with ⟨e1, n⟩ | ⟨j, p', w', e1, e2, e3⟩
        · rw [List.getElem?_set_ne hi] at e1
          refine .inl ⟨e1, fun p w e j z => ?_⟩
          cases j with
          | zero => cases z; exact hi rfl
          | succ j => exact n p w (by rw [List.getElem?_set_ne hi]; exact e) j (by simpa using z)
        · rw [List.getElem?_set_ne hi] at e2
          exact .inr ⟨j + 1, p', w', by simpa using e1, e2, by simpa using e3⟩
    split at h
    · rename_i p _ _ _ e
      exact put _ p _ e h (.inl ⟨_, _, rfl, rfl⟩)
    · rename_i p _ _ e
      exact put _ p _ e h (.inr ⟨_, rfl, rfl⟩)
    · rename_i e
      obtain ⟨h1, h2, h3⟩ := backA_ok h
      refine ⟨h1, by simp [h2], fun i => ?_⟩
      rcases h3 i with ⟨e1, n⟩ | ⟨j, p, w0, e1, e2, e3⟩
      · refine .inl ⟨e1, fun p w e2 j z => ?_⟩
        cases j with
        | zero => cases z; rw [e] at e2; cases e2
        | succ j => exact n p w e2 j (by simpa using z)
      · exact .inr ⟨j + 1, p, w0, by simpa using e1, e2, by simpa using e3⟩
    · cases h
/-- a call seen from its caller -/
theorem call_out {m : SE} (R : Rel c P s σ H) (ra : Paired (fun r v => RvR c P s σ H0 H r v) rs xs)
    (h : Out c Wx σ P s H Q ((ofO (argsS s rs)).bind fun as => chk (decide (ownIx s rs).Nodup) <| (m as).bind fun p => (ofO (backA rs p.2 s)).bind fun s' => match p.1 with
      | .bor _ => .bad
      | r => .ok (r, s'))) : ∃ P as, Rel c P as (xs.map some) H ∧ Out c (fun cls d _ H' => Wx cls d σ H') (xs.map some) P as H Q (m as) := by
  cases eA : argsS s rs with
  | none => rw [eA] at h; exact h.elim
  | some as =>
    simp only [eA, ofO_some, Res.bind_ok] at h
    unfold chk at h
    split at h
    case isFalse => exact h.elim
    rename_i nd
    have nd := of_decide_eq_true nd
    obtain ⟨RA, oA⟩ := rel_args R ra eA nd
    have ow : ∀ a, Own as (xs.map some) a → Own s σ a := fun a ⟨j, p, w, e1, e2⟩ => by
      obtain ⟨i, q, w', _, e3, e4⟩ := oA j p w a e1 e2
      exact ⟨i, q, w', e3, e4⟩
    refine ⟨P, as, RA, ?_⟩
    cases em : m as with
    | bad => rw [em] at h; exact h.elim
    | exc x =>
      rw [em] at h
      intro cls d P' H' u xr
      refine h cls d P' H' ⟨fun a o e n nt => u.keep a o e (fun z => n (ow a z)) nt, u.pin, fun a z => ?_, u.tbs, u.dom, u.there⟩ xr
      rcases u.new a z with z | z | z
      · exact .inl z
      · exact .inr (.inl z)
      · exact .inr (.inr (ow a z))
    | ok pr =>
      obtain ⟨r, as'⟩ := pr
      simp only [em, Res.bind_ok] at h
      cases eB : backA rs as' s with
      | none => rw [eB] at h; exact h.elim
      | some s' =>
        simp only [eB, ofO_some, Res.bind_ok] at h
        obtain ⟨l1, l2, bk⟩ := backA_ok eB
        intro v P' H' t RA' rv
        have kp := Stp.kp RA t.toStp
        have os : ∀ (i : Nat) (p : Bool) (w : W), s'[i]? = some (Sl.own p w) → ∃ w0, s[i]? = some (Sl.own p w0) := fun i p w e => by
          rcases bk i with ⟨e1, _⟩ | ⟨j, p', w0, _, e2, ⟨q, w', _, e4⟩ | ⟨w', _, e4⟩⟩
          · rw [e1] at e; exact ⟨w, e⟩
          · rw [e] at e4; cases e4; exact ⟨w0, e2⟩
          · rw [e] at e4; cases e4
        have os' : ∀ a, Own s' σ a → Own s σ a := fun a ⟨i, p, w, e1, e2⟩ => by
          obtain ⟨w0, e3⟩ := os i p w e1
          exact ⟨i, p, w0, e3, e2⟩
        have lx : as.length = xs.length := by rw [argsS_len eA, paired_len ra]
        have hx : ∀ (j i : Nat), rs[j]? = some (Qs.R.bor i) → ∃ v, xs[j]? = some v ∧ σ[i]? = some (some v) := fun j i e => by
          obtain ⟨v, e3, rv⟩ := paired_get ra e
          exact ⟨v, e3, rv.1⟩
        have t' : StE P s σ H P' s' H' := ⟨⟨fun a o e n nt => t.keep a o e (fun z => n (ow a z)) nt, t.there, t.pin, fun a z => by
          rcases t.new a z with z | z | z
          · exact .inl z
          · exact .inr (.inl z)
          · exact .inr (.inr (ow a z)), fun a z => .inl (os' a z), fun i w e => ⟨os i true w e, rfl⟩⟩, fun i => by
          rcases bk i with ⟨e1, _⟩ | ⟨j, p', w0, _, e2, ⟨q, w', _, e4⟩ | ⟨w', _, e4⟩⟩
          · exact .inl e1
          · exact .inr ⟨p', w0, e2, w', .inl e4⟩
          · exact .inr ⟨p', w0, e2, w', .inr e4⟩⟩
        have R' : Rel c P' s' σ H' := by
          refine ⟨by rw [l1]; exact R.len, fun i w e => ?_, fun i p w e => ?_, fun i l p q u w a e1 e2 e3 e4 => ?_, RA'.tbs, RA'.dom⟩
          · rcases bk i with ⟨e1, _⟩ | ⟨j, p', w0, e0, e2, ⟨q, w', _, e4⟩ | ⟨w', e3, e4⟩⟩
            · rw [e1] at e
              obtain ⟨v, e5, rr⟩ := R.fro i w e
              exact ⟨v, e5, Rep.mono kp _ _ rr⟩
            · rw [e] at e4; cases e4
            · rw [e] at e4; cases e4
              obtain ⟨v, e5, rr⟩ := RA'.fro j w e3
              obtain ⟨v', e6, e7⟩ := hx j i e0
              rw [List.getElem?_map, e6] at e5
              cases e5
              exact ⟨_, e7, rr⟩
          · rcases bk i with ⟨e1, nb⟩ | ⟨j, p', w0, e0, e2, ⟨q, w', e3, e4⟩ | ⟨w', e3, e4⟩⟩
            · rw [e1] at e
              obtain ⟨a, e5, na, cl⟩ := R.own i p w e
              have no : ¬ Own as (xs.map some) a := fun ⟨j, p', w', f1, f2⟩ => by
                obtain ⟨i', q, w'', f3, f4, f5⟩ := oA j p' w' a f1 f2
                have := R.inj i i' p q w w'' a e f4 e5 f5
                subst this
                exact nb p w e j f3
              obtain ⟨o, eo, _⟩ := Cell.ex cl
              refine ⟨a, e5, fun z => ?_, Cell.mono kp cl fun o e nt => t.keep a o e no nt⟩
              rcases t.new a z with z | z | z
              · exact na z
              · rw [eo] at z; cases z
              · exact no z
            · rw [e] at e4; cases e4
              obtain ⟨a, e5, na, cl⟩ := RA'.own j q w e3
              obtain ⟨v', e6, e7⟩ := hx j i e0
              rw [List.getElem?_map, e6] at e5
              cases e5
              exact ⟨a, e7, na, cl⟩
            · rw [e] at e4; cases e4
          · obtain ⟨w1, f1⟩ := os i p u e1
            obtain ⟨w2, f2⟩ := os l q w e2
            exact R.inj i l p q w1 w2 a f1 f2 e3 e4
        cases r with
        | bor i => exact h.elim
        | fro w => exact h v P' H' t' R' rv
        | new w =>
          obtain ⟨a, rfl, na, _, hn, cl⟩ := rv
          refine h _ P' H' t' R' ⟨a, rfl, na, fun z => ?_, hn, cl⟩
          obtain ⟨_, w', cl'⟩ := R.ownP (os' a z)
          obtain ⟨o, eo, _⟩ := Cell.ex cl'
          rw [hn] at eo; cases eo
theorem rd_call {m : SE} {fs : List SE} {n : Nat} (hl : fs.length = n) (h : rd c Wx (eCall m fs) σ H Q) : tCallS (spM c n m) (WE Wx) (tArgs c Wx (fs.map eFz)) σ H Q := by
  have len : ∀ {fs : List SE} {σ : L2.St} {H : Hp} {Z : List V → Hp → Prop}, tArgs c Wx fs σ H Z → tArgs c Wx fs σ H fun xs H1 => xs.length = fs.length ∧ Z xs H1 := by
    intro fs
    induction fs with
    | nil => intro σ H Z h; exact ⟨rfl, h⟩
    | cons f fs ih =>
      intro σ H Z h
      obtain ⟨P, s, R, h⟩ := h
      refine ⟨P, s, R, h.imp fun v H' h => ?_⟩
      have := ih h
      refine Eq.mp ?_ this
      congr 1
      funext xs H1
      simp
  refine (?_ : tArgs c Wx (fs.map eFz) σ H fun vs H1 => spM c n m vs H1 Q (WE Wx σ))
  have h2 : tArgs c Wx (fs.map eFz) σ H fun xs H1 => ∃ P as, Rel c P as (xs.map some) H1 ∧ Out c (fun cls d _ H' => Wx cls d σ H') (xs.map some) P as H1 Q (m as) := rd_args h fun P0 s0 P s rs xs H1 R0 t R ra h => call_out R ra (Out.at_ h t R)
  refine Eq.mp ?_ (len h2)
  congr 1
  funext xs H1
  unfold spM
  simp [hl]
end
end Qs
/-! # A def's body -/
namespace Qs
open PySem PySem.Spec PyProof.Rows L2
section
variable {c : Cst} {Wx Wb : WX} {k n : Nat} {X : Cx} {P P0 P1 P2 PB P' : Addr → Prop} {s s' s0 s1 sF sN : S} {σ σ0 σ' : L2.St} {H H0 H1 H2 H' : Hp} {Q : VK} {E : XK} {u w : W} {ws wsF : List W} {vs xs : List V} {r z : R} {x y v : V} {pos p p2 : Pos} {rs : List R} {as as' : S} {N ps : List Str} {f : SS}
def toP : Sl → Sl
  | .own _ w => .own true w
  | x => x
def startS (n : Nat) (as : S) : S := as.map toP ++ List.replicate (n - as.length) .un
/-- the arguments' slots at the end -/
def endA : S → S → Option S
  | [], _ => some []
  | .fro w :: as, _ :: s => (endA as s).map (.fro w :: ·)
  | .own p _ :: as, .own true w :: s => (endA as s).map (.own p w :: ·)
  | _, _ => none
def retR (s : S) : R → Option R
  | .fro w => some (.fro w)
  | .new w => some (.new w)
  | .bor i => match s[i]? with
    | some (.fro w) => some (.fro w)
    | some (.own false w) => some (.new w)
    | _ => none
/-- a def by its body's statements; n: how many names it has -/
def callM (n : Nat) (f : SS) : SE := fun as => (nfLs (startS n as) f).bind fun
  | .nx s' => (ofO (endA as s')).bind fun as' => .ok (.fro .non, as')
  | .rt r s' => (ofO (retR s' r)).bind fun r' => (ofO (endA as s')).bind fun as' => .ok (r', as')
  | _ => .bad
theorem endA_get : ∀ {as s as' : S} {j : Nat} {sl : Sl}, endA as s = some as' → as'[j]? = some sl → (∃ w, as[j]? = some (Sl.fro w) ∧ sl = .fro w) ∨ ∃ p w0 w, as[j]? = some (Sl.own p w0) ∧ s[j]? = some (Sl.own true w) ∧ sl = .own p w
  | [], s, as', j, sl, h, e => by cases h; cases e
  | .fro w :: as, x :: s, as', j, sl, h, e => by
    unfold endA at h
    cases q : endA as s with
    | none => rw [q] at h; cases h
    | some bs =>
      rw [q] at h; cases h
      cases j with
      | zero => cases e; exact .inl ⟨w, rfl, rfl⟩
      | succ j => simpa using endA_get (j := j) q (by simpa using e)
  | .own p w0 :: as, .own true w :: s, as', j, sl, h, e => by
    unfold endA at h
    cases q : endA as s with
    | none => rw [q] at h; cases h
    | some bs =>
      rw [q] at h; cases h
      cases j with
      | zero => cases e; exact .inr ⟨p, w0, w, rfl, rfl, rfl⟩
      | succ j => simpa using endA_get (j := j) q (by simpa using e)
  | .un :: as, s, as', j, sl, h, e => by cases s <;> cases h
  | .fro _ :: as, [], as', j, sl, h, e => by cases h
  | .own _ _ :: as, [], as', j, sl, h, e => by cases h
  | .own _ _ :: as, .un :: _, as', j, sl, h, e => by cases h
  | .own _ _ :: as, .fro _ :: _, as', j, sl, h, e => by cases h
  | .own _ _ :: as, .own false _ :: _, as', j, sl, h, e => by cases h
theorem endA_len : ∀ {as s as' : S}, endA as s = some as' → as'.length = as.length
  | [], s, as', h => by cases h; rfl
  | .fro w :: as, x :: s, as', h => by
    unfold endA at h
    cases q : endA as s with
    | none => rw [q] at h; cases h
    | some bs => rw [q] at h; cases h; simp [endA_len q]
  | .own p w0 :: as, .own true w :: s, as', h => by
    unfold endA at h
    cases q : endA as s with
    | none => rw [q] at h; cases h
    | some bs => rw [q] at h; cases h; simp [endA_len q]
  | .un :: as, s, as', h => by cases s <;> cases h
  | .fro _ :: as, [], as', h => by cases h
  | .own _ _ :: as, [], as', h => by cases h
  | .own _ _ :: as, .un :: _, as', h => by cases h
  | .own _ _ :: as, .fro _ :: _, as', h => by cases h
  | .own _ _ :: as, .own false _ :: _, as', h => by cases h
theorem startS_get {i : Nat} {sl : Sl} (e : (startS n as)[i]? = some sl) (hs : sl ≠ .un) : ∃ sl0, as[i]? = some sl0 ∧ sl = toP sl0 ∧ i < as.length := by
  unfold startS at e
  by_cases h : i < (as.map toP).length
  · rw [List.getElem?_append_left h, List.getElem?_map] at e
    cases q : as[i]? with
    | none => rw [q] at e; cases e
    | some sl0 => rw [q] at e; cases e; exact ⟨sl0, rfl, rfl, (List.getElem?_eq_some_iff.mp q).1⟩
  · rw [List.getElem?_append_right (Nat.le_of_not_lt h)] at e
    have := List.mem_of_getElem? e
    exact absurd (List.eq_of_mem_replicate this) hs
theorem start_get {i : Nat} (h : i < vs.length) : (L2.start N vs)[i]? = (vs.map some)[i]? := by
  unfold L2.start
  rw [List.getElem?_append_left (by simpa using h)]
theorem toP_own {sl : Sl} {p : Bool} {w : W} (e : Sl.own p w = toP sl) : p = true ∧ ∃ q, sl = .own q w := by
  cases sl with
  | un => cases e
  | fro _ => cases e
  | own q _ => cases e; exact ⟨rfl, q, rfl⟩
theorem toP_fro {sl : Sl} {w : W} (e : Sl.fro w = toP sl) : sl = .fro w := by
  cases sl with
  | un => cases e
  | fro _ => cases e; rfl
  | own q _ => cases e
theorem start_own {i : Nat} {p : Bool} {w : W} (hl : as.length = vs.length) (e : (startS n as)[i]? = some (.own p w)) : p = true ∧ (∃ q, as[i]? = some (.own q w)) ∧ (L2.start N vs)[i]? = (vs.map some)[i]? := by
  obtain ⟨sl0, e1, e2, e3⟩ := startS_get e (fun z => nomatch z)
  obtain ⟨rfl, q, rfl⟩ := toP_own e2
  exact ⟨rfl, ⟨q, e1⟩, start_get (by omega)⟩
theorem start_ofOwn {i : Nat} {p : Bool} {w : W} (hl : as.length = vs.length) (e : as[i]? = some (.own p w)) : (startS n as)[i]? = some (.own true w) ∧ (L2.start N vs)[i]? = (vs.map some)[i]? := by
  have h : i < as.length := (List.getElem?_eq_some_iff.mp e).1
  refine ⟨?_, start_get (by omega)⟩
  unfold startS
  rw [List.getElem?_append_left (by simpa using h), List.getElem?_map, e]
  rfl
theorem own_start {a : Addr} (hl : as.length = vs.length) (h : Own (startS n as) (L2.start N vs) a) : Own as (vs.map some) a := by
  obtain ⟨i, p, w, e1, e2⟩ := h
  obtain ⟨rfl, ⟨q, e3⟩, e4⟩ := start_own (N := N) hl e1
  exact ⟨i, q, w, e3, by rw [← e4]; exact e2⟩
theorem start_own' {a : Addr} (hl : as.length = vs.length) (h : Own as (vs.map some) a) : Own (startS n as) (L2.start N vs) a := by
  obtain ⟨i, p, w, e1, e2⟩ := h
  obtain ⟨e3, e4⟩ := start_ofOwn (N := N) (n := n) hl e1
  exact ⟨i, true, w, e3, by rw [e4]; exact e2⟩
theorem rel_start (R : Rel c P as (vs.map some) H) : Rel c P (startS N.length as) (L2.start N vs) H := by
  have hl : as.length = vs.length := by have := R.len; simpa using this
  refine ⟨by unfold startS L2.start; simp [hl], fun i w e => ?_, fun i p w e => ?_, fun i j p q u w a e1 e2 e3 e4 => ?_, R.tbs, R.dom⟩
  · obtain ⟨sl0, e1, e2, e3⟩ := startS_get e (fun z => nomatch z)
    cases toP_fro e2
    rw [start_get (by omega)]
    exact R.fro i w e1
  · obtain ⟨rfl, ⟨q, e3⟩, e4⟩ := start_own (N := N) hl e
    rw [e4]
    exact R.own i q w e3
  · obtain ⟨_, ⟨q1, f1⟩, f2⟩ := start_own (N := N) hl e1
    obtain ⟨_, ⟨q2, g1⟩, g2⟩ := start_own (N := N) hl e2
    rw [f2] at e3
    rw [g2] at e4
    exact R.inj i j q1 q2 u w a f1 g1 e3 e4
theorem end_ok (RA : Rel c P as (vs.map some) H) (t : Stp P (startS N.length as) (L2.start N vs) H P' s' σ' H') (R' : Rel c P' s' σ' H') (e : endA as s' = some as') :
    StE P as (vs.map some) H P' as' H' ∧ Rel c P' as' (vs.map some) H' ∧ (∀ (j : Nat) (p : Bool) (w : W), as[j]? = some (Sl.own p w) → ∃ w', s'[j]? = some (Sl.own true w') ∧ σ'[j]? = (vs.map some)[j]?) ∧ (∀ a, Own as' (vs.map some) a → Own as (vs.map some) a) := by
  have hl : as.length = vs.length := by have := RA.len; simpa using this
  have ll := endA_len e
  have kp := Stp.kp (rel_start RA) t
  have par : ∀ (j : Nat) (w : W) (p : Bool) (w0 : W), s'[j]? = some (Sl.own true w) → as[j]? = some (Sl.own p w0) → σ'[j]? = (vs.map some)[j]? := fun j w p w0 e1 e2 => by
    rw [(t.par j w e1).2]
    exact (start_ofOwn (N := N) (n := N.length) hl e2).2
  have ow : ∀ (j : Nat) (p : Bool) (w : W), as'[j]? = some (Sl.own p w) → ∃ w0, as[j]? = some (Sl.own p w0) ∧ s'[j]? = some (Sl.own true w) ∧ σ'[j]? = (vs.map some)[j]? := fun j p w h => by
    rcases endA_get e h with ⟨_, _, z⟩ | ⟨p', w0, w', e1, e2, z⟩
    · cases z
    · cases z; exact ⟨w0, e1, e2, par j _ _ _ e2 e1⟩
  have oo : ∀ a, Own as' (vs.map some) a → Own as (vs.map some) a := fun a ⟨j, p, w, e1, e2⟩ => by
    obtain ⟨w0, e3, _⟩ := ow j p w e1
    exact ⟨j, p, w0, e3, e2⟩
  refine ⟨⟨⟨fun a o e n nt => t.keep a o e (fun z => n (own_start hl z)) nt, t.there, t.pin, fun a h => ?_, fun a h => .inl (oo a h), fun i w h => ?_⟩, fun i => ?_⟩, ⟨by rw [ll]; exact RA.len, fun i w h => ?_, fun i p w h => ?_, fun i j p q u w a e1 e2 e3 e4 => ?_, R'.tbs, R'.dom⟩, fun j p w h => ?_, oo⟩
  · rcases t.new a h with z | z | z
    · exact .inl z
    · exact .inr (.inl z)
    · exact .inr (.inr (own_start hl z))
  · obtain ⟨w0, e1, _⟩ := ow i true w h
    exact ⟨⟨w0, e1⟩, rfl⟩
  · cases q : as'[i]? with
    | none =>
      have : as.length ≤ i := by rw [← ll]; exact List.getElem?_eq_none_iff.mp q
      exact .inl (List.getElem?_eq_none this).symm
    | some sl =>
      rcases endA_get e q with ⟨w, e1, rfl⟩ | ⟨p, w0, w, e1, e2, rfl⟩
      · exact .inl e1.symm
      · exact .inr ⟨p, w0, e1, w, .inl rfl⟩
  · rcases endA_get e h with ⟨w', e1, z⟩ | ⟨p, w0, w', _, _, z⟩
    · cases z
      obtain ⟨v, e2, r⟩ := RA.fro i _ e1
      exact ⟨v, e2, Rep.mono kp _ _ r⟩
    · cases z
  · obtain ⟨w0, e1, e2, e3⟩ := ow i p w h
    obtain ⟨a, e4, n, cl⟩ := R'.own i true w e2
    exact ⟨a, by rw [← e3]; exact e4, n, cl⟩
  · obtain ⟨w1, _, f2, f3⟩ := ow i p u e1
    obtain ⟨w2, _, g2, g3⟩ := ow j q w e2
    exact R'.inj i j true true u w a f2 g2 (by rw [f3]; exact e3) (by rw [g3]; exact e4)
  · have hj : j < as'.length := by rw [ll]; exact (List.getElem?_eq_some_iff.mp h).1
    rcases endA_get e (List.getElem?_eq_getElem hj) with ⟨w', e1, z⟩ | ⟨p', w0, w', e1, e2, z⟩
    · rw [h] at e1; cases e1
    · exact ⟨w', e2, par j _ _ _ e2 h⟩
theorem body_rd (h : spM c n (callM N.length f) vs H Q E) : rdS c (fun cls d _ H' => E cls d H') f { nx := fun _ H' => Q .non H', rt := Q } (L2.start N vs) H := by
  obtain ⟨_, P, as, RA, h⟩ := h
  have hl : as.length = vs.length := by have := RA.len; simpa using this
  refine ⟨P, startS N.length as, rel_start RA, ?_⟩
  unfold callM at h
  rw [nfLs_eq] at h
  cases e : f (startS N.length as) with
  | bad => rw [e] at h; exact h.elim
  | exc x =>
    rw [e] at h
    intro σ' cls d P' H' u xr
    refine h cls d P' H' ⟨fun a o e n nt => u.keep a o e (fun z => n (own_start hl z)) nt, u.pin, fun a z => ?_, u.tbs, u.dom, u.there⟩ xr
    rcases u.new a z with z | z | z
    · exact .inl z
    · exact .inr (.inl z)
    · exact .inr (.inr (own_start hl z))
  | ok fl =>
    rw [e] at h
    cases fl with
    | bk s' => exact h.elim
    | ct s' => exact h.elim
    | nx s' =>
      intro σ' P' H' t R'
      have h : Out c _ (vs.map some) P as H Q ((ofO (endA as s')).bind fun as' => .ok (.fro .non, as')) := h
      cases eE : endA as s' with
      | none => rw [eE] at h; exact h.elim
      | some as' =>
        rw [eE] at h
        obtain ⟨h1, h2, _, _⟩ := end_ok RA t R' eE
        exact h .non P' H' h1 h2 (by show Rep c.T c.K P' H' .non .non; unfold Rep; rfl)
    | rt r s' =>
      intro σ' v P' H' t R' rv
      have h : Out c _ (vs.map some) P as H Q ((ofO (retR s' r)).bind fun r' => (ofO (endA as s')).bind fun as' => .ok (r', as')) := h
      cases eR : retR s' r with
      | none => rw [eR] at h; exact h.elim
      | some r' =>
        simp only [eR, ofO_some, Res.bind_ok] at h
        cases eE : endA as s' with
        | none => rw [eE] at h; exact h.elim
        | some as' =>
          simp only [eE, ofO_some, Res.bind_ok] at h
          obtain ⟨h1, h2, h3, h4⟩ := end_ok RA t R' eE
          refine h v P' H' h1 h2 ?_
          cases r with
          | fro w => cases eR; exact rv
          | new w =>
            cases eR
            obtain ⟨a, rfl, n, no, hn, cl⟩ := rv
            refine ⟨a, rfl, n, fun z => no ?_, hn, cl⟩
            obtain ⟨j, p, w', e1, e2⟩ := h4 a z
            obtain ⟨w2, e3, e4⟩ := h3 j p w' e1
            exact ⟨j, true, w2, e3, by rw [e4]; exact e2⟩
          | bor i =>
            have eR : (match s'[i]? with
              | some (.fro w) => some (R.fro w)
              | some (.own false w) => some (.new w)
              | _ => none) = some r' := eR
            cases q : s'[i]? with
            | none => rw [q] at eR; cases eR
            | some sl =>
              rw [q] at eR
              cases sl with
              | un => cases eR
              | fro w =>
                cases eR
                obtain ⟨v', e1, rr⟩ := R'.fro i w q
                rw [rv.1] at e1; cases e1
                exact rr
              | own p w =>
                cases p with
                | true => cases eR
                | false =>
                  cases eR
                  obtain ⟨a, e1, n, cl⟩ := R'.own i false w q
                  rw [rv.1] at e1; cases e1
                  have nA : ¬ Own as (vs.map some) a := fun ⟨j, p, w', f1, f2⟩ => by
                    obtain ⟨w2, e3, e4⟩ := h3 j p w' f1
                    have := R'.inj i j false true w w2 a q e3 rv.1 (by rw [e4]; exact f2)
                    subst this
                    rw [q] at e3; cases e3
                  refine ⟨a, rfl, n, fun z => nA (h4 a z), ?_, cl⟩
                  rcases t.own a ⟨i, false, w, q, rv.1⟩ with z | z
                  · exact absurd (own_start hl z) nA
                  · exact z
end
end Qs
namespace L2
open PySem PySem.Spec PyProof.Rows
theorem rev_made (x : Str) (t k : Tok) : sliceMade x t none none (some (-1, k)) = .str ⟨x.cps.toList.reverse.toArray⟩ := by
  have e : Builtin.Str.strSliceIndices none none (-1) x.length = (List.range x.length).reverse := by
    exact (PySem.W.krv_sliceRange x.length).trans (PySem.W.krv_range x.length)
  unfold sliceMade slicePicked
  rw [if_neg (by simp)]
  show Made.str ⟨((Builtin.Str.strSliceIndices none none (-1) x.length).filterMap _).toArray⟩ = _
  rw [e, List.filterMap_reverse]
  show Made.str ⟨((List.range x.cps.size).filterMap (x.cps[·]?)).reverse.toArray⟩ = _
  rw [PySem.W.krv_all]
section
variable {X : Cx}
def tRevA (K : PySem.W.Frag) (te : TE) : TE := fun σ H Q => te σ H fun v H1 => (∃ (a : Addr) (xs : List V), v = .ref a ∧ SqL K H1 a xs ∧ ∀ q, H1 q = none → Q (.ref q) (upd H1 q (.lst xs.reverse))) ∨
  ∃ x : Str, v = .str x ∧ x.length ≤ sizeLine ∧ Q (.str ⟨x.cps.toList.reverse.toArray⟩) H1
theorem pe_revA {e : Expr} {te : TE} {k : Nat} {p1 p2 p3 pos : Pos} (he : PE X e te) : PE X (.Subscript e (.Slice none none (some (.UnaryOp .USub (.Constant (.int 1) k p1) p2)) p3) pos) (tRevA X.K te) := by
  refine ⟨fun pins s σ H Q I h => ?_⟩
  refine Subscript_ (thn (he.run pins s σ H _ I h) fun v s1 ⟨x, H1, I1, r1, q1⟩ => ?_)
  have hst : PO X (some (.UnaryOp .USub (.Constant (.int 1) k p1) p2)) (tPart (tUn (rU fun i => .int (-i)) (tC (.int 1)))) := po_some (pe_un un_neg pe_int)
  refine wpAny_Slice (thn (po_none.run pins s1 σ H1 (fun o H2 => o = none ∧ H2 = H1) I1 ⟨rfl, rfl⟩) fun vl s2 ⟨l, H2, I2, pl, el, e2⟩ => ?_)
  subst el e2
  refine thn (po_none.run pins s2 σ H2 (fun o H3 => o = none ∧ H3 = H2) I2 ⟨rfl, rfl⟩) fun vu s3 ⟨u, H3, I3, pu, eu, e3⟩ => ?_
  subst eu e3
  refine thn (hst.run pins s3 σ H3 (fun o H4 => o = some (-1) ∧ H4 = H3) I3 ⟨1, rfl, -1, rfl, rfl, rfl⟩) fun vs s4 ⟨o, H4, I4, ps, eo, e4⟩ => ?_
  subst eo e4
  have I5 : Inv X pins σ H4 { s4 with heap := s4.heap.push { cls := .type "slice", data := .fields #[vl, vu, vs] } } := I4.kept (t' := s4.toks) fun b ob q => Heap.get?_push_of_some _ q
  rcases q1 with ⟨a, xs, ex, hx, q⟩ | ⟨y, ex, hz, q⟩
  · subst ex
    cases r1
    obtain ⟨its, r, ht, hz⟩ := I5.list hx
    have hlen := r.length
    show wpAny (model X.prog X.w) X.A (subscriptTail e (.Slice none none (some (.UnaryOp .USub (.Constant (.int 1) k p1) p2)) p3) (.ref a) (.ref s4.heap.objs.size)) (EP X pins σ Q) X.xe { s4 with heap := s4.heap.push { cls := .type "slice", data := .fields #[vl, vu, vs] } }
    refine tail_any (ops := [.ref a, .ref s4.heap.objs.size]) ht.isList.typeIs (PySem.slot_list_getitem.lookup) ?_ (by with_unfolding_all rfl)
    refine wpAny_getItem_list_slice ht.isList (Heap.IsSliceOf.new _ vl vu vs) pl pu ps (by decide) ?_ (by rw [List.size_toArray]; omega)
    rw [PySem.W.krv_pick]
    refine ⟨.ref _, _, I5.laid (t' := s4.toks) (o := .lst xs.reverse) (fun b ob q => Heap.get?_push_of_some _ q) (Nat.le_refl _) ?_, rfl, q _ (I5.hok.fresh (Nat.le_refl _))⟩
    exact ⟨by rw [List.length_reverse]; exact hz, _, 0, r.reverse, Heap.get?_push_size _ rfl⟩
  · subst ex
    obtain ⟨t, rfl⟩ := r1
    cases pl
    cases pu
    cases ps with
    | int i tk =>
      show wpAny (model X.prog X.w) X.A (subscriptTail e (.Slice none none (some (.UnaryOp .USub (.Constant (.int 1) k p1) p2)) p3) (.str y t) (.ref s4.heap.objs.size)) (EP X pins σ Q) X.xe _
      refine tail_any (ops := [.str y t, .ref s4.heap.objs.size]) (typeIs_str _ _ _) (PySem.F.slot_str_getitem.lookup) ?_ (by with_unfolding_all rfl)
      refine wpAny_getItem_str_slice (l := none) (u := none) (st := some (-1, tk)) ⟨_, Heap.get?_push_size _ rfl, rfl, rfl⟩ rfl ?_
      rw [rev_made]
      exact ⟨by simpa [Str.length] using hz, ⟨.str _, H4, I5.tok _, ⟨_, rfl⟩, q⟩⟩
end
end L2
/-! # Further pieces -/
namespace Qs
open PySem PySem.Spec PyProof.Rows L2
section
variable {c : Cst} {Wx Wb : WX} {k n : Nat} {X : Cx} {P P0 P1 P2 PB P' : Addr → Prop} {s s' s0 s1 sF sN : S} {σ σ0 σ' : L2.St} {H H0 H1 H2 H' : Hp} {Q : VK} {E : XK} {u w : W} {ws wsF : List W} {vs xs : List V} {r z : R} {x y v : V} {pos p p2 p3 : Pos} {rs : List R} {as as' : S} {N ps : List Str} {f : SS} {a b e : Expr} {fa fb : SE}
/-! ### built-in types as values -/
theorem pe_tyN {x : Str} {T : String} (hg : Gl X x) (hm : X.mg x = none) (hv : bootBuiltins x = some (.type T)) (hn : x ≠ "__name__") (hdb : (x == ("__debug__" : Str)) = false) : PE X (.Name x pos) (tC (.ty T)) :=
  ⟨fun pins s σ H Q I h => ld_blt I hg hm hv ⟨.ty T, H, I, rfl, h⟩ hn hdb⟩
def tyW : W → Option String
  | .non => some "NoneType"
  | .bl _ => some "bool"
  | .int _ => some "int"
  | .str _ => some "str"
  | .tup _ => some "tuple"
  | .lst _ => some "list"
  | .dic _ _ => some "dict"
  | _ => none
def isiN (t n : String) : Option Bool :=
  if t = n then some true else if t = "bool" ∧ n = "int" then some true else if n = "int" ∨ n = "bool" ∨ n = "str" ∨ n = "tuple" ∨ n = "list" ∨ n = "dict" then some false else none
def isiW : List W → Option R
  | [w, .ty n] => (tyW w).bind fun t => (isiN t n).map fun b => .fro (.bl b)
  | _ => none
theorem kit_isi {K : PySem.W.Frag} {t n : String} {b : Bool} (ht : t = "NoneType" ∨ t = "bool" ∨ t = "int" ∨ t = "str" ∨ t = "tuple" ∨ t = "list" ∨ t = "dict") (h : isiN t n = some b) : PySem.W.kitOne K (.type t) (.type n) = some b := by
  unfold isiN at h
  split at h
  · rename_i e; subst e; cases h
    rcases ht with rfl | rfl | rfl | rfl | rfl | rfl | rfl <;> kernel_rfl
  · split at h
    · rename_i e; obtain ⟨rfl, rfl⟩ := e; cases h; kernel_rfl
    · split at h
      · rename_i n1 n2 e
        cases h
        rcases ht with rfl | rfl | rfl | rfl | rfl | rfl | rfl <;> rcases e with rfl | rfl | rfl | rfl | rfl | rfl <;> first | (exact absurd rfl n1) | (exact absurd ⟨rfl, rfl⟩ n2) | kernel_rfl
      · cases h
theorem tyx_sqt {K : PySem.W.Frag} {a : Addr} {xs : List V} (h : SqT K H a xs) : TyX K H (.ref a) (.type "tuple") := by
  rcases h with h | h
  · rcases h with h | ⟨o, h⟩
    · exact .base (.tup h)
    · exact .fTuple h
  · obtain ⟨o, its, n, h1, h2, _⟩ := h
    exact .kTuple h1 h2
theorem fn_isi : FnOkW c Wx isiW (rIsi c.K) := fun {P s σ H Q ws z xs} R e hx h => by
  unfold isiW at e
  split at e
  · rename_i w n
    obtain ⟨x, y, rfl, h1, hy⟩ := two_of hx
    clear hx
    have ey : y = .ty n := by unfold View Rep at hy; exact hy
    subst ey
    cases q : tyW w with
    | none => rw [q] at e; cases e
    | some t =>
      rw [q] at e
      cases q2 : isiN t n with
      | none => simp [q2] at e
      | some b =>
        simp only [Option.bind_some, q2, Option.map_some, Option.some.injEq] at e
        subst e
        have key : (t = "NoneType" ∨ t = "bool" ∨ t = "int" ∨ t = "str" ∨ t = "tuple" ∨ t = "list" ∨ t = "dict") ∧ TyX c.K H x (.type t) := by
          unfold tyW at q
          split at q <;> cases q
          · exact ⟨.inl rfl, by rw [h1.non]; exact .base .non⟩
          · exact ⟨.inr (.inl rfl), by rw [h1.bl]; exact .base (.bl _)⟩
          · exact ⟨.inr (.inr (.inl rfl)), by rw [h1.int]; exact .base (.int _)⟩
          · exact ⟨.inr (.inr (.inr (.inl rfl))), by rw [h1.str]; exact .base (.str _)⟩
          · obtain ⟨a, vs, rfl, qa, _⟩ := h1.tup
            exact ⟨.inr (.inr (.inr (.inr (.inl rfl)))), tyx_sqt qa⟩
          · obtain ⟨a, vs, rfl, qa, _⟩ := h1.lst
            exact ⟨.inr (.inr (.inr (.inr (.inr (.inl rfl))))), .base (.lst qa)⟩
          · obtain ⟨a, vs, rfl, dd, _⟩ := h1
            refine ⟨.inr (.inr (.inr (.inr (.inr (.inr rfl))))), ?_⟩
            cases dd with
            | k _ r =>
              rcases r with r | ⟨o, r⟩
              · exact .base (.dK r)
              · exact .fDict r
            | t _ r => exact .base (.dT r)
        exact ⟨x, .ty n, .type t, .type n, b, rfl, .ty n, key.2, kit_isi key.1 q2, outB R h⟩
  · cases e
/-! ### sorted: integers -/
def insI (x : Int) : List Int → List Int
  | [] => [x]
  | y :: ys => if x ≤ y then x :: y :: ys else y :: insI x ys
def sortI : List Int → List Int
  | [] => []
  | x :: xs => insI x (sortI xs)
theorem insI_perm (x : Int) : ∀ l : List Int, (insI x l).Perm (x :: l)
  | [] => .refl _
  | y :: ys => by
    unfold insI
    split
    · exact .refl _
    · exact ((insI_perm x ys).cons y).trans (.swap x y ys)
theorem sortI_perm : ∀ l : List Int, (sortI l).Perm l
  | [] => .refl _
  | x :: xs => (insI_perm x _).trans ((sortI_perm xs).cons x)
theorem insI_pw (x : Int) : ∀ l : List Int, l.Pairwise (· ≤ ·) → (insI x l).Pairwise (· ≤ ·)
  | [], _ => by simp [insI]
  | y :: ys, h => by
    obtain ⟨h1, h2⟩ := List.pairwise_cons.mp h
    unfold insI
    split
    · rename_i hx
      refine List.pairwise_cons.mpr ⟨fun z hz => ?_, h⟩
      rcases List.mem_cons.mp hz with hz | hz
      · rw [hz]; exact hx
      · exact Int.le_trans hx (h1 z hz)
    · rename_i hx
      refine List.pairwise_cons.mpr ⟨fun z hz => ?_, insI_pw x ys h2⟩
      rcases List.mem_cons.mp ((insI_perm x ys).mem_iff.mp hz) with hz | hz
      · rw [hz]; omega
      · exact h1 z hz
theorem sortI_pw : ∀ l : List Int, (sortI l).Pairwise (· ≤ ·)
  | [] => .nil
  | x :: xs => insI_pw x _ (sortI_pw xs)
theorem sortI_eq {l l' : List Int} (p : l'.Perm l) (h : l'.Pairwise (· ≤ ·)) : l' = sortI l :=
  List.Perm.eq_of_pairwise (le := (· ≤ ·)) (fun a b _ _ h1 h2 => Int.le_antisymm h1 h2) h (sortI_pw l) (p.trans (sortI_perm l).symm)
def sortW : List W → Option R
  | [.lst ws] => (intsOf ws).map fun ns => .new (.lst ((sortI ns).map W.int))
  | _ => none
theorem reps_intmap {T : Tab} {K : PySem.W.Frag} : ∀ {ns : List Int}, Reps T K P H (ns.map W.int) (ns.map V.int)
  | [] => Reps.nil
  | n :: ns => Reps.cons (by unfold Rep; rfl) reps_intmap
theorem fn_sort : FnOkW c Wx sortW (rSortedI c.K) := fun {P s σ H Q ws z xs} R e hx h => by
  unfold sortW at e
  split at e
  · rename_i us
    obtain ⟨x, rfl, h1⟩ := one_of hx
    obtain ⟨a, vs, rfl, qa, rr⟩ := h1.lst
    cases q : intsOf us with
    | none => rw [q] at e; cases e
    | some ns =>
      rw [q] at e
      cases e
      cases reps_ints rr q
      refine ⟨a, ns, rfl, .of qa, fun ns' p hp hs hn => ?_⟩
      rw [sortI_eq hp hs]
      exact Out.lst R h reps_intmap p hn
  · cases e
/-! ### xs[::-1] -/
def revW : W → Option R
  | .lst ws => some (.new (.lst ws.reverse))
  | .str x => guard' (decide (x.length ≤ lim)) (.fro (.str x.reverse))
  | _ => none
theorem mkS_rev {x : List Nat} : (⟨(mkS x).cps.toList.reverse.toArray⟩ : Str) = mkS x.reverse := by unfold mkS; simp
theorem pe_rev {kk : Nat} (hK : X.K = c.K) (ha : PE X a (rd c Wx fa)) : PE X (.Subscript a (.Slice none none (some (.UnaryOp .USub (.Constant (.int 1) kk p) p2)) p3) pos) (rd c Wx (eOne revW fa)) :=
  pe_imp (pe_revA ha) fun σ H Q h => rd_one h fun P s r x H1 R rx h2 => by
    obtain ⟨u, z, e, hx, h3⟩ := Out.onW R rx h2
    unfold revW at e
    split at e
    · cases e
      obtain ⟨ad, vs, rfl, qa, rr⟩ := hx.lst
      exact .inl ⟨ad, vs, rfl, .of qa, Out.lst R h3 rr.rev⟩
    · obtain ⟨g, e2⟩ := guard'_some e
      subst e2
      refine .inr ⟨_, hx.str, by rw [mkS_len, lim_eq]; exact of_decide_eq_true g, ?_⟩
      rw [mkS_rev]
      exact outS R h3
    · cases e
end
end Qs
/-! # enumerate of a tuple -/
namespace Qs
open PySem PySem.Spec PyProof.Rows L2
open PySem.Sem (wp)
theorem new_enum {v : Value} {o : Obj} {Z : Heap → Prop} (B : Begins v o Z) :
    Meets (Builtin.«enumerate.__new__» ⟨[.type "enumerate", v], []⟩) (fun _ R s => Z s.heap ∧
      R (.ok (.ret (.ref (s.heap.push o).objs.size))) { s with heap := (s.heap.push o).push { cls := .type "enumerate", data := .fields #[.none, .bool false, .ref s.heap.objs.size, rawInt 0, .none, .none] } }) :=
  .of_wp fun prog w A R s h => by
    obtain ⟨hz, h⟩ := h
    obtain ⟨hp, g, d, tk, os⟩ := s
    have sub := sub_enumerate
    have it : ∀ (A : Around) (E : Value → Shared → Prop) (Q : Value → Shared → Prop), Q (.ref hp.objs.size) ⟨hp.push o, g, d, tk, os⟩ → wpAny (model prog w) A (pyIter v) Q E ⟨hp, g, d, tk, os⟩ := fun A E Q q => B.iter prog w A E ⟨hp, g, d, tk, os⟩ Q hz q
    wp_walk
    refine wpAny_stack_any fun st => (wpAny_pure ?_)
    split
    · rename_i c _ _ _ _ _
      cases (c == Value.type "enumerate") <;> (wp_walk using it; exact ⟨_, rfl, h⟩)
    · wp_walk using it
      exact ⟨_, rfl, h⟩
end Qs
namespace Qs
open PySem PySem.Spec PyProof.Rows L2
/-- the tuple at a, each item in a new pair with its place -/
def IteT (K : PySem.W.Frag) (a : Addr) : It where
  go := fun i H => ∃ (xs : List V) (x : V), SqT K H a xs ∧ xs[i]? = some x
  yld := fun i H v H' => ∃ T x, v = .ref T ∧ H T = none ∧ H' = upd H T (.tup [.int (i : Nat), x]) ∧ ∀ xs, SqT K H a xs → xs[i]? = some x
  stop := fun i H => ∃ xs : List V, SqT K H a xs ∧ xs.length ≤ i
theorem turn_enumT {P : Program} {w : World} {K : PySem.W.Frag} {elts : List Expr} {kk : Nat} {tpos : Pos} (a e it : Addr) :
    Turn P w K (.Tuple elts kk tpos) (IteT K a) [e, it] e (fun i h => (∃ old, IsEnum h e it ((i : Nat) : Int) old) ∧ h.IsTupleIter it a i ∧ e ≠ it ∧ a ≠ e ∧ a ≠ it) where
  mem := List.mem_cons_self
  obj := fun i h st b hb => by
    obtain ⟨⟨old, he⟩, ⟨o, ho, hc, hd⟩, _⟩ := st
    rcases List.mem_cons.mp hb with rfl | hb
    · exact ⟨_, he, fun v q => nomatch q⟩
    · cases List.mem_singleton.mp hb
      exact ⟨o, ho, fun v q => by (rw [hd] at q; cases q)⟩
  keep := fun i h h' st k => by
    obtain ⟨⟨old, he⟩, hi, r⟩ := st
    exact ⟨⟨old, k e List.mem_cons_self _ he⟩, hi.at (fun o q => k it (by simp) o q), r⟩
  item := by
    rintro X rfl rfl rfl hc i pins s σ H E I hf ⟨⟨old, he⟩, hit, hne, hae, hai⟩ ⟨xs, x, hq, hx⟩
    obtain ⟨its, rv, p, _⟩ := I.tuple hq
    obtain ⟨u, hu, ru⟩ := rv.get hx
    have el : e < s.heap.objs.size := Heap.lt_size he
    have il : it < s.heap.objs.size := by obtain ⟨_, q, _⟩ := hit; exact Heap.lt_size q
    have D := Draws.tuple (prog := X.prog) (w := X.w) (A := X.A.in1) (I.ok.hd hc) it a hai its.toArray
    have hlt : i < its.toArray.size := by simpa using (List.getElem?_eq_some_iff.mp hu).1
    refine wpAny_pyNext_enum_itemD D he ⟨hit, p⟩ hlt hne (by simp [hne, Ne.symm hae]) fun y h' tk hy ho hst hT hsz hk => ?_
    have ey : y = u := by
      have : its.toArray[i]? = some u := by simpa using hu
      rw [this] at hy; exact (Option.some.inj hy).symm
    subst ey
    refine ⟨_, rfl, wpAny_letOwnedTupleGo_enum (s := { s with heap := h', toks := tk + 1 }) ho fun h2 he2 sb => ?_⟩
    have hT2 : h2.get? s.heap.objs.size = some { cls := .type "tuple", data := .seq #[.int i tk, y] } := (sb.2 _ (Nat.ne_of_gt el)).trans hT
    have nw : ObjOk X.prog X.w (upd H s.heap.objs.size (.tup [.int (i : Nat), x])) h2 s.heap.objs.size (.tup [.int (i : Nat), x]) :=
      ⟨(by decide : 2 ≤ sizeLine), [.int i tk, y], .cons ⟨_, rfl⟩ (.cons ru .nil), ⟨_, hT2, rfl, _, rfl⟩⟩
    have I1 : Inv X pins σ (upd H s.heap.objs.size (.tup [.int (i : Nat), x])) { s with heap := h2, toks := tk + 1 } :=
      I.turnedNew (ch := [e, it]) (fun b ob hb q => (sb.2 b fun z => hb (by simp [z])).trans (hk b ob (fun z => hb (by simp [z])) (fun z => hb (by simp [z])) q)) hf (Nat.le_refl _) nw
    refine ⟨.ref s.heap.objs.size, _, I1, rfl, ⟨_, x, rfl, I.hok.fresh (Nat.le_refl _), rfl, fun ys hy => by (rw [I.tuple_inj hy hq]; exact hx)⟩, ⟨⟨y, ?_⟩, hst.1.at (fun o q => (sb.2 it (Ne.symm hne)).trans q), hne, hae, hai⟩, fun b hb => ?_⟩
    · have e1 : (((i + 1) : Nat) : Int) = (i : Int) + 1 := Int.natCast_succ i
      rw [e1]
      exact he2
    · have hb2 : b < s.heap.objs.size := by
        rcases List.mem_cons.mp hb with rfl | hb
        · exact el
        · cases List.mem_singleton.mp hb; exact il
      rw [upd_ne (Nat.ne_of_lt hb2)]
      exact (hf b hb).1
  done := by
    rintro X rfl rfl rfl hc i pins s σ H E I hf ⟨⟨old, he⟩, hit, hne, hae, hai⟩ ⟨xs, hq, hx⟩
    obtain ⟨its, rv, p, _⟩ := I.tuple hq
    obtain ⟨f0, f1, f2, f3, f4, f5⟩ := hf it (by simp)
    have hl := rv.length
    have D : Draws X.prog X.w X.A.in1 it [it, a] 0 (fun _ _ => False) (fun _ h => h.IsTupleIter it a i ∧ h.IsTuple a its.toArray) := {
      live := fun _ _ st => let ⟨o, ho, _⟩ := st.1; ⟨o, ho⟩
      frame := fun _ _ _ st hk => ⟨st.1.at (fun o z => hk it (by simp) o z), st.2.at (fun o z => hk a (by simp) o z)⟩
      item := fun j _ _ _ hj => absurd hj (Nat.not_lt_zero j)
      done := fun s2 Q2 E2 st hE => wpAny_nextOf_tuple_end (I.ok.hd hc) st.1 st.2 (by simp; omega) hE }
    exact wpAny_pyNext_enum_endD D he ⟨hit, p⟩ fun h' eb => ⟨rfl, I.turned (t' := s.toks) (fun b o hb q => eb b o hb q) f0 f1 f3 f4 f5⟩
  self := fun A i s Q E st h => by
    obtain ⟨⟨_, he⟩, _⟩ := st
    exact wpAny_pyIter_enum he h
def iEnumA (K : PySem.W.Frag) (ta : TA) : TI := fun σ H R => ta σ H fun vs H1 => ∃ a xs, vs = [.ref a] ∧ ((SqL K H1 a xs ∧ R (Ite K a) H1) ∨ (SqT K H1 a xs ∧ R (IteT K a) H1))
theorem call_enumT {prog : Program} {w : World} {A : Around} {E : Value → Shared → Prop} {s : Shared} {v : Value} {o : Obj} {Z : Heap → Prop} {Q : Value → Shared → Prop} (B : Begins v o Z) (hz : Z s.heap)
    (h : ∀ h', IsEnum h' (s.heap.objs.size + 1) s.heap.objs.size 0 .none → h'.get? s.heap.objs.size = some o → (∀ b u, s.heap.get? b = some u → h'.get? b = some u) → Q (.ref (s.heap.objs.size + 1)) { s with heap := h' }) :
    wpAny (model prog w) A (call (.type "enumerate") [v]) Q E s := by
  refine callType_new F.called_enumerate (by decide) (F.typeCall_enumerate_1 _) (F.newCall_enumerate_1 _) (fun ob => F.args_object_init_2 ob _) F.entry_enumerate_new (new_enum B) ⟨hz, ?_⟩
  have sz : (s.heap.push o).objs.size = s.heap.objs.size + 1 := Heap.size_push ..
  show _ ∧ _
  rw [sz]
  have he : IsEnum ((s.heap.push o).push { cls := .type "enumerate", data := .fields #[.none, .bool false, .ref s.heap.objs.size, rawInt 0, .none, .none] }) (s.heap.objs.size + 1) s.heap.objs.size 0 .none := by
    have q := Heap.get?_push_size (s.heap.push o) (o := { cls := .type "enumerate", data := .fields #[.none, .bool false, .ref s.heap.objs.size, rawInt 0, .none, .none] }) rfl
    rw [sz] at q
    exact q
  exact ⟨⟨_, he, rfl⟩, h _ he (Heap.get?_push_of_some _ (Heap.get?_push_size _ B.free)) fun b u x => Heap.get?_push_of_some _ (Heap.get?_push_of_some _ x)⟩
theorem pi_enumB {X : Cx} {e : Expr} {ta : TA} {p pos tpos : Pos} {elts : List Expr} {kk : Nat} (hg : Gl X "enumerate") (hm : X.mg "enumerate" = none) (ha : PA X [e] ta) (hs : starEach [e] X.env = [(false, eval e X.env)]) :
    PI X (.Tuple elts kk tpos) (.Call (.Name "enumerate" p) [e] [] pos) (iEnumA X.K ta) := by
  refine ⟨fun pins s σ H R I h => Call_ (ld_blt I hg hm boot_enumerate (PyProof.Rows.callWith_type1 (thn (ha.run pos pins s σ H _ I h) fun us s1 ⟨vs, H1, I1, r1, q1⟩ => ?_) hs rfl))⟩
  obtain ⟨a, xs, rfl, q⟩ := q1
  cases r1 with
  | cons r rr =>
    cases rr
    cases r
    have fp : ∀ b ∈ [s1.heap.objs.size + 1, s1.heap.objs.size], FpOk X pins H1 b := fun b hb => by
      have hle : s1.heap.objs.size ≤ b := by
        rcases List.mem_cons.mp hb with rfl | hb
        · exact Nat.le_succ _
        · cases List.mem_singleton.mp hb; exact Nat.le_refl _
      exact I1.fpOk hle (I1.hok.fresh hle)
    rcases q with ⟨hq, q⟩ | ⟨hq, q⟩
    · obtain ⟨its, rv, pl, _⟩ := I1.list hq
      refine call_enumerate_list pl.isList fun h' he hit _ hk => (wpAny_pyIter_enum he ?_)
      have I2 : Inv X pins σ H1 { s1 with heap := h' } := I1.kept (t' := s1.toks) hk
      exact ⟨s1.heap.objs.size + 1, [s1.heap.objs.size + 1, s1.heap.objs.size], _, _, H1, rfl, I2, turn_enum a _ _, ⟨⟨.none, he⟩, hit, Nat.succ_ne_self _⟩, fp, q⟩
    · obtain ⟨its, rv, pl, _⟩ := I1.tuple hq
      refine call_enumT (begins_tuple a its.toArray) pl fun h' he ho hk => (wpAny_pyIter_enum he ?_)
      have I2 : Inv X pins σ H1 { s1 with heap := h' } := I1.kept (t' := s1.toks) hk
      have al : a < s1.heap.objs.size := by obtain ⟨_, z, _⟩ := pl; exact Heap.lt_size z
      exact ⟨s1.heap.objs.size + 1, [s1.heap.objs.size + 1, s1.heap.objs.size], _, _, H1, rfl, I2, turn_enumT a _ _, ⟨⟨.none, he⟩, ⟨_, ho, rfl, rfl⟩, Nat.succ_ne_self _, Nat.ne_of_lt (Nat.lt_succ_of_lt al), Nat.ne_of_lt al⟩, fp, q⟩
section
variable {c : Cst} {Wx : WX} {X : Cx} {a : Expr} {fa : SE} {p pos tpos : Pos}
def enumA : List W → Option (List W)
  | [.lst ws] => some (numL ws)
  | [.tup ws] => some (numL ws)
  | _ => none
theorem pi_enumA {elts : List Expr} {kk : Nat} (na : PySem.W.isStarred a = false) (hK : X.K = c.K) (hg : Gl X "enumerate") (hm : X.mg "enumerate" = none) (ha : PA X [a] (tArgs c Wx [fa])) :
    PI X (.Tuple elts kk tpos) (.Call (.Name "enumerate" p) [a] [] pos) (rdI c Wx (iArgs enumA [fa])) :=
  pi_imp (pi_enumB hg hm ha (star_no na)) fun σ H R h => rd_iargs h fun P us ws xs H1 ra eg k => by
    have key : ∀ (us' : List W) (vx : List V) (J : It), Reps c.T c.K P H1 us' vx → ws = numL us' →
        (∀ P2 H2, Kp P P2 H1 H2 → ∀ (i : Nat) (y : V), vx[i]? = some y → J.go i H2 ∧ ∀ v H3, J.yld i H2 v H3 → ∃ t, v = .ref t ∧ H2 t = none ∧ H3 = upd H2 t (.tup [.int (i : Nat), y])) →
        (∀ P2 H2, Kp P P2 H1 H2 → ∀ i : Nat, vx.length ≤ i → J.stop i H2) → Wk c J ws P H1 := fun us' vx J rx e hgo hst => by
      subst e
      refine wk_pair reps_rng rx (fun P2 H2 kp i x y e1 e2 => ?_) fun P2 H2 kp i hi => hst P2 H2 kp i ?_
      · have hx : x = V.int ((i : Nat) : Int) := by
          have hi : i < us'.length := by rw [rx.length]; exact (List.getElem?_eq_some_iff.mp e2).1
          rw [List.getElem?_map, List.getElem?_range hi] at e1
          exact (Option.some.inj e1).symm
        subst hx
        exact hgo P2 H2 kp i y e2
      · rcases hi with hi | hi
        · have hi : us'.length ≤ i := by simpa using hi
          rw [← rx.length]; exact hi
        · exact hi
    unfold enumA at eg
    split at eg
    · cases eg
      obtain ⟨x, rfl, rx⟩ := reps1 ra
      unfold Rep at rx
      obtain ⟨ax, vx, rfl, qx, rx⟩ := rx
      rw [hK]
      refine ⟨ax, vx, rfl, .inl ⟨.of qx.2, k _ (key _ _ _ rx rfl (fun P2 H2 kp i y e2 => ?_) fun P2 H2 kp i hi => ?_)⟩⟩
      · have h1 : H2 ax = some (.lst vx) := kp.keep _ _ qx.2 (.inr ⟨qx.1, fun z => z⟩)
        refine ⟨⟨vx, y, .of h1, e2⟩, fun v H3 hy => ?_⟩
        obtain ⟨t, x', rfl, ht, rfl, k1⟩ := hy
        have := k1 vx (.of h1)
        rw [e2] at this; cases this
        exact ⟨t, rfl, ht, rfl⟩
      · exact ⟨vx, .of (kp.keep _ _ qx.2 (.inr ⟨qx.1, fun z => z⟩)), hi⟩
    · cases eg
      obtain ⟨x, rfl, rx⟩ := reps1 ra
      unfold Rep at rx
      obtain ⟨ax, vx, rfl, qx, rx⟩ := rx
      rw [hK]
      refine ⟨ax, vx, rfl, .inr ⟨qx, k _ (key _ _ _ rx rfl (fun P2 H2 kp i y e2 => ?_) fun P2 H2 kp i hi => ?_)⟩⟩
      · have h1 : SqT c.K H2 ax vx := kp.sqt qx
        refine ⟨⟨vx, y, h1, e2⟩, fun v H3 hy => ?_⟩
        obtain ⟨t, x', rfl, ht, rfl, k1⟩ := hy
        have := k1 vx h1
        rw [e2] at this; cases this
        exact ⟨t, rfl, ht, rfl⟩
      · exact ⟨vx, kp.sqt qx, hi⟩
    · cases eg
end
end Qs
/-! # Checks of the text -/
namespace Qs
open PySem PySem.Spec PyProof.Rows L2
section
variable {c : Cst} {Wx Wb : WX} {k n : Nat} {X : Cx} {pos p p2 p3 : Pos} {a b e : Expr} {es : List Expr}
/-- no star -/
def noSt : Expr → Bool
  | .Starred _ _ => false
  | _ => true
theorem noSt_ok (h : noSt e = true) : PySem.W.isStarred e = false := by cases e <;> first | rfl | cases h
theorem star_each (h : es.all noSt = true) (env : Env) : starEach es env = es.map fun e => (false, eval e env) :=
  star_all (by
    rw [List.all_eq_true] at h ⊢
    intro x hx
    rw [noSt_ok (h x hx)]; rfl)
theorem asg_each : ∀ {es : List Expr} (env : Env), es.all noSt = true → assignEach es env = es.map fun e => (false, assign e env)
  | [], _, _ => by simp only [assignEach]; rfl
  | e :: es, env, h => by
    rw [List.all_cons, Bool.and_eq_true] at h
    rw [List.map_cons, ← asg_each env h.2]
    cases e <;> first | (cases h.1; done) | simp only [assignEach]
/-- a subscript by a value -/
def plIx : Expr → Bool
  | .Slice _ _ _ _ => false
  | _ => true
theorem plIx_ok (h : plIx b = true) : PlainIx b := by
  intro o i
  cases b <;> first | rfl | cases h
theorem plIx_aug (h : plIx b = true) : ∀ ov iv new, augStore b ov iv new = (do holding [new, ov, iv] (setItem ov iv new); release [new, ov, iv] []; pure .next) := by
  intro ov iv new
  cases b <;> first | rfl | cases h
theorem plIx_asg (h : plIx b = true) (env : Env) : ∀ v, assign (.Subscript a b pos) env v = (do
      let ov ← holding [v] (eval a env)
      let iv ← holding [v, ov] (eval b env)
      standAt pos
      holding [v, ov, iv] (setItem ov iv v)
      release [v, ov, iv] []) := by
  intro v
  cases b <;> first | (unfold assign; rfl) | cases h
/-- no comprehension, no set display -/
def plE : Expr → Bool
  | .ListComp _ _ _ _ => false
  | .SetComp _ _ _ _ => false
  | .DictComp _ _ _ _ _ => false
  | .Set _ _ _ => false
  | _ => true
theorem plE_sw (h : plE e = true) {t : Option Expr} {l : Nat} {env : Env} : swapsWith e t l env = pure false := by
  cases e <;> first | rfl | cases h
theorem plE_set (h : plE e = true) {env : Env} : ∀ x, foldedSetIterable e env x = pure x := by
  intro x
  cases e <;> first | rfl | cases h
def noSet : Expr → Bool
  | .Set _ _ _ => false
  | _ => true
theorem noSet_set (h : noSet e = true) {env : Env} : ∀ x, foldedSetIterable e env x = pure x := by
  intro x
  cases e <;> first | rfl | cases h
theorem noSet_marks {op : CmpOp} (h : noSet e = true) : behindInMarks op e = false := by
  cases e <;> first | rfl | cases h
/-- a test by its value -/
def plT : Expr → Bool
  | .UnaryOp .Not _ _ => false
  | .BoolOp _ _ _ => false
  | .IfExp _ _ _ _ => false
  | .Compare _ _ _ _ => false
  | _ => true
theorem plT_ok (h : plT e = true) {env : Env} : ∀ whole, isTrue e env whole = (do let v ← whole; standAt e.pos; holding [v] (truthy v)) := by
  intro whole
  cases e with
  | UnaryOp op a p => cases op <;> first | (cases h; done) | simp only [PySem.isTrue]
  | _ => first | (cases h; done) | simp only [PySem.isTrue]
/-- an object by whose attribute nothing more is done -/
def plO : Expr → Bool
  | .Call _ _ _ _ => false
  | _ => true
theorem plO_ok (h : plO e = true) {m : Str} {env : Env} {w : Sem Value} : attributeBase e m env w = w := by
  cases e <;> first | rfl | cases h
def swNames (look : Str → Option NameKind) (ts : List Expr) : List Str := ts.filterMap fun
    | .Name id pos => if look id == some .local && pos.line == (ts.head?.map (·.pos.line)).getD 0 then some id else none
    | _ => none
/-- a tuple's stores: none as they stand, some as the names -/
def swD (k : ScopeKind) (look : Str → Option NameKind) (ts vs : List Expr) : Option (Option (List Str)) :=
  if !(ts.length == 2 || ts.length == 3) || vs.length != ts.length || k != .function then some none else
  if vs.any (fun | .Starred .. => true | _ => false) then some none else
  if (swNames look ts).length != ts.length || (swNames look ts).eraseDups.length != (swNames look ts).length then some none else
  if vs.all (foldedForSure 8) then some none else
  if vs.all (constantsAlone 8) then none else some (some (swNames look ts))
theorem swD_ok {env : Env} {ts vs : List Expr} {n m : Nat} {o : Option (List Str)} (hk : env.scope.kind = .function) (h : swD .function (fun x => env.scope.names.lookup x) ts vs = some o) : swappedStores [.Tuple ts n p] (.Tuple vs m p2) env = pure o := by
  have hb : env.blockKind = .function := by unfold Env.blockKind; rw [hk]; rfl
  unfold swD at h
  unfold swappedStores
  simp only [hb]
  split at h
  · rename_i q
    cases h
    exact if_pos q
  · rename_i q
    refine (if_neg q).trans ?_
    split at h
    · rename_i q2
      cases h
      exact if_pos q2
    · rename_i q2
      refine (if_neg q2).trans ?_
      split at h
      · rename_i q3
        cases h
        exact if_pos q3
      · rename_i q3
        refine (if_neg q3).trans ?_
        split at h
        · rename_i q4
          cases h
          exact if_pos q4
        · rename_i q4
          refine (if_neg q4).trans ?_
          split at h
          · cases h
          · rename_i q5
            cases h
            exact if_neg q5
end
end Qs
/-! # An own exception whose __init__ is: super().__init__(x); self.f = x (over any of the built-in exceptions) -/
namespace PySem
namespace Qx
open PySem.W PySem.Calls PyProof.Rows
section
open Builtin Builtin.ObjectAttr
variable {prog : Program} {w : World} {A : Around} {R : Result → Shared → Prop} {hp : Heap} {g : Array GenState} {d : Drawn} {t : Nat} {os : OsState}
/-- self.name = v, the first one: any base by its StoreFacts -/
theorem store_first {B : String} {bmB : List Value} (SF : StoreFacts B bmB "object.__setattr__" "object") {K : W.Frag} {name : Str} {tk : Tok} {v : Value} {x C : Addr} {fv : Array Value} {cd : ClassData}
    (X : K.In hp) (hx : hp.get? x = some { cls := .ref C, data := .fields fv }) (hcd : W.clsIn K C = some cd) (hm : excTail bmB cd.mro = true) (hne : cd.mro.isEmpty = false) (hh : cd.hasDict = true) (ha : W.findIn K (.ref C) name = some none)
    (hq : ∀ h' tk' dx, (∀ b o, b ≠ x → hp.get? b = some o → h'.get? b = some o) → hp.objs.size ≤ dx → dx ≠ x → h'.get? x = some { cls := .ref C, dict := some dx, data := .fields fv } →
      h'.Ns1 dx (fun y => if y = name then some v else none) → R (.ok (.ret .none)) ⟨h', g, d, tk', os⟩) :
    codeAny (model prog w) A (.call (.builtin "object.__setattr__") ⟨[.ref x, .str name tk, v], []⟩) R ⟨hp, g, d, t, os⟩ := by
  have J : W.InstAt hp x { cls := .ref C, data := .fields fv } C none := ⟨hx, rfl, rfl, trivial⟩
  have S := F.store_object
  have ob : cd.mro.contains (.type "object") = true := (excTail_contains "object" _ hm).trans SF.hasOwner
  have nx : x ≠ hp.objs.size := Nat.ne_of_lt (Heap.lt_size hx)
  have isO : W.Looks (model prog w) hp (isInstance (.ref x) (.type "object")) true := by
    refine J.type.andThen (W.looks_mroIn X ?_)
    unfold W.mroIn
    rw [hcd, Option.bind_some, if_neg (by rw [hne]; exact Bool.false_ne_true), ob]
  refine codeAny_call_builtin S.slot.plain S.entry ?_
  refine @W.check_slot (model prog w) _ _ ⟨hp, g, d, t, os⟩ "object.__setattr__" "object" "__setattr__" (.ref x) [.str name tk, v] [] _ S.kind S.split isO (S.args (.ref x) (.str name tk) v) ?_
  have mroL : W.Looks (model prog w) hp (mroOf (.ref C)) cd.mro := (W.looks_clsIn X hcd).andThen .now
  have takL : W.Looks (model prog w) hp (storeTaker? none) none := .now
  have clsL := W.looks_clsIn (M := model prog w) X hcd
  rw [W.osa_eq, refuse_eq]
  refine wpAny_bind (wpAny_bind ?_)
  refine J.type.at (wpAny_bind ?_)
  refine mroL.at ?_
  rw [excTail_pass _ (SF.passes _) _ hm]
  refine wpAny_pure (wpAny_bind ?_)
  refine J.type.at (wpAny_bind ?_)
  refine (W.looks_findIn X ha).at (wpAny_bind ?_)
  refine takL.at ?_
  show wpAny _ _ (storeInOwnDict (.ref x) (.ref C) (.str name tk) name v false) _ _ _
  obtain ⟨c1, c2, c3, c4, c5, c6, c7, c8, c9, c10, c11⟩ := cd
  dsimp only at hh
  subst hh
  unfold storeInOwnDict ownDictForStores
  repeat (first | with_reducible refine HandSPX.store_in_new ?_ ?_ | with_reducible refine clsL.at ?_ | with_reducible refine wpAny_loadPart_at hx ?_ | wp_step)
  · exact ⟨_, #[], _, (Heap.get?_update_ne _ _ _ _ nx.symm).trans (Heap.get?_push_at rfl rfl), rfl, fun e he => absurd he (by simp), fun _ => rfl⟩
  · intro h' tk' hn' hs
    have up : (hp.push { cls := .type "dict", data := .dict #[] }).get? x = some { cls := .ref C, data := .fields fv } := Heap.get?_push_of_some _ hx
    refine hq h' tk' hp.objs.size (fun b o hb ho => ?_) (Nat.le_refl _) nx.symm ?_ hn'
    · refine (hs.2 b (Nat.ne_of_lt (Heap.lt_size ho))).trans ?_
      exact (Heap.get?_update_ne _ _ _ _ hb).trans (Heap.get?_push_of_some _ ho)
    · exact (hs.2 x nx).trans (Heap.get?_update_self _ up rfl)
end
end Qx
end PySem
/-! # .. its __init__ called -/
namespace PySem
namespace Qx
open PySem.W PySem.Calls PyProof.Rows
theorem ns_at {h h' : Heap} {a : Addr} {m : Str → Option Value} (x : h.Ns a m) (k : ∀ o, h.get? a = some o → h'.get? a = some o) : h'.Ns a m :=
  let ⟨o, es, ep, e, r⟩ := x; ⟨o, es, ep, k o e, r⟩
/-- what the written part must say of the class at C and of its __init__ at fI; fl: the field; sf, gv: the parameters -/
structure SupC (prog : Program) (K : Frag) (C fI : Addr) (B newId initId : String) (bmB : List Value) (fl sf gv : Str) : Prop where
  FB : ExcBaseFacts B newId initId bmB
  KF : KxsFacts B initId
  SF : StoreFacts B bmB "object.__setattr__" "object"
  q : excInitIn K C bmB newId = true
  sa : findIn K (.ref C) "__setattr__" = some (some (.builtin "object.__setattr__"))
  no : findIn K (.ref C) fl = some none
  hd : hasDictIn K C = true
  ini : findIn K (.ref C) "__init__" = some (some (.ref fI))
  tI : typeIn K (.ref fI) = some (.type "function")
  own : mroIn K C (.ref C) = some true
  ms : ks_superIn K C C "__init__" = some (some (.builtin initId))
  sub : subIn K (.ref C) (.type B) = some true
  sup : nsIn K mainGlobals "super" = some none
  op : nsIn K cStatics "thirdparty.any" = some none
  fn : ∃ (oc : Value) (od : Option Addr) (nm qual : Str) (params : Arguments) (scope : Scope) (dV kV doc pm ct : Value) (an : Option Addr) (cda cc : Addr) (osl : Array (Option Value)) (p0 p1 p2 p3 p4 p5 p6 p7 p8 p9 : Pos),
    K.lookup fI = some ⟨oc, od, .func (ksFn nm qual params [.Expr (.Call (.Attribute (.Call (.Name "super" p0) [] [] p1) "__init__" p2) [.Name gv p3] [] p4) p5, .Assign [.Attribute (.Name sf p6) fl p7] (.Name gv p8) p9] scope dV kV doc pm an (.ref cda) ct cc), osl⟩ ∧
    codeIn K (.ref cda) qual = true ∧ (∃ (ccl : Value) (cdd : Option Addr) (vs : Array Value) (ccs : Array (Option Value)) (file : Str) (tf : Tok), K.lookup cda = some ⟨ccl, cdd, .fields vs, ccs⟩ ∧ vs[2]? = some (.str file tf) ∧ ((prog.main.file : Str) == file) = true) ∧
    (∃ (cl : Value) (cld : Option Addr) (csl : Array (Option Value)), K.lookup cc = some ⟨cl, cld, .cell (some (.ref C)), csl⟩) ∧
    (∃ ar : Arg, (params.posonlyargs ++ params.args).head? = some ar ∧ ar.arg = sf) ∧
    (∀ (s : Shared) (u v : Value), BindsTo s (ksFn nm qual params [.Expr (.Call (.Attribute (.Call (.Name "super" p0) [] [] p1) "__init__" p2) [.Name gv p3] [] p4) p5, .Assign [.Attribute (.Name sf p6) fl p7] (.Name gv p8) p9] scope dV kV doc pm an (.ref cda) ct cc) ⟨[u, v], []⟩ [(sf, u), (gv, v)]) ∧
    scope.kind = .function ∧ scope.isCoroutine = false ∧ scope.isGenerator = false ∧ (∀ x ∈ scope.names, x.2 ≠ .cell) ∧
    scope.names.lookup ("super" : Str) = some .globalImplicit ∧ scope.names.lookup ("__class__" : Str) = some .free ∧ scope.names.lookup sf = some .local ∧ scope.names.lookup gv = some .local ∧ (p2.endLine == p4.line) = true
  htop : (prog.main.scope.names.lookup ("super" : Str)).isSome = false
  sg : (sf == gv) = false
  nsf : (sf == ("__debug__" : Str)) = false
  ngv : (gv == ("__debug__" : Str)) = false
theorem mcall_eq {o : Expr} {m : Str} {apos pos : Pos} {env : Env} {a : Expr} (hl : (apos.endLine == pos.line) = true) (hs : starEach [a] env = [(false, eval a env)]) :
    eval (.Call (.Attribute o m apos) [a] [] pos) env = (do
      let ov ← attributeBase o m env (eval o env)
      standAt apos.atName
      let (f, first) ← holding [ov] (getMethod ov m (L2.plainOf o env))
      callWith pos f first (backTo pos (starEach [a] env)) []) := by
  rw [arm_eval_Call]
  have e : (fun ov => methodCall o m apos pos env ov ([a].length + ([] : List Keyword).length) (backTo pos (starEach [a] env)) (backToKw pos (keywordEach [] env))) = fun ov => (do
      let (f, first) ← holding [ov] (getMethod ov m (L2.plainOf o env))
      callWith pos f first (backTo pos (starEach [a] env)) []) := by
    funext ov
    exact L2.mcall_line (by rw [hs]; rfl) hl
  show (attributeBase o m env (eval o env) >>= fun ov => standAt apos.atName >>= fun _ => methodCall o m apos pos env ov ([a].length + ([] : List Keyword).length) (backTo pos (starEach [a] env)) (backToKw pos (keywordEach [] env))) = _
  simp only [congrFun e]
section
variable {prog : Program} {w : World} {A : Around} {E : Value → Shared → Prop} {h : Heap} {g : Array GenState} {d : Drawn} {t : Nat} {os : OsState} {K : Frag} {C fI : Addr} {B newId initId : String} {bmB : List Value} {fl sf gv : Str}
/-- the bound built-in __init__ called -/
theorem call_wrapped {u e t0 : Addr} {rest : List Value} {Q : Value → Shared → Prop} (FB : ExcBaseFacts B newId initId bmB) (X : K.In h) (q : excInitIn K C bmB newId = true) (he : h.get? e = some (excObj C t0 none .none)) (hu : h.get? u = some (kxs_mw initId e)) (hz : rest.length ≤ sizeLine)
    (hq : ∀ h' t1, (∀ b o, b ≠ e → h.get? b = some o → h'.get? b = some o) → h'.get? e = some (excObj C t1 none .none) → Q .none ⟨h', g, d, t, os⟩) :
    wpAny (model prog w) A (call (.ref u) rest) Q E ⟨h, g, d, t, os⟩ := by
  obtain ⟨nm, N', qn, bs, bm, hdct, sn, sub, ab, col, dd, k0, k1, k2, k3, k5, hC, hT⟩ := excInit_of X q
  refine wpAny_call (codeAny_of_tree ?_)
  show wpAny _ A.in1 (callAny (.ref u) ⟨rest, []⟩) _ _ _
  simp only [callAny]
  refine wpAny_bind (wpAny_load hu ?_)
  have k1 : (Value.type "method-wrapper" == Value.type "method" || Value.type "method-wrapper" == Value.type "builtin_function_or_method" || Value.type "method-wrapper" == Value.type "method-wrapper") = true := by decide
  simp only [kxs_mw, k1, if_true]
  refine KFB.if_so (by decide) ?_
  refine wpAny_bind (check_bound_init FB.toExcCallFacts hC he rfl ?_)
  refine wpAny_bind (wpAny_pure (wpAny_pure ?_))
  refine ⟨plainId_quiet FB.init.plain _, codeAny_builtin FB.initEntry ?_⟩
  exact exc_init_tree (cls := .ref C) (t0 := t0) (dv := none) (c2 := .none) (c3 := .none) (b4 := .bool false) he hz fun h' k e' _ => hq h' _ k e'
end
end Qx
end PySem
/-! # .. the walk through its __init__ -/
namespace PySem
namespace Qx
open PySem.W PySem.Calls PyProof.Rows
theorem exc_cls {K : Frag} {C : Addr} {bmB : List Value} {newId : String} (q : excInitIn K C bmB newId = true) :
    ∃ (cl : Value) (dd : Option Addr) (cd : ClassData) (sl : Array (Option Value)), K.lookup C = some ⟨cl, dd, .cls cd, sl⟩ ∧ clsIn K C = some cd ∧ excTail bmB cd.mro = true ∧ cd.mro.isEmpty = false ∧ ∃ bm, cd.mro = .ref C :: bm := by
  unfold excInitIn at q
  split at q
  · rename_i dd cd sl ho
    split at q
    · rename_i C' bm k0 k1 k2 k3 n k5 hm hs
      simp only [Bool.and_eq_true, beq_iff_eq, Bool.not_eq_true'] at q
      obtain ⟨⟨⟨rfl, _⟩, _⟩, ht⟩ := q
      refine ⟨_, dd, cd, sl, ho, ?_, ?_, ?_, bm, hm⟩
      · unfold clsIn; rw [ho] <;> rfl
      · rw [hm]; exact ht
      · rw [hm]; rfl
    · cases q
  · cases q
section
variable {prog : Program} {w : World} {A : Around} {E : Value → Shared → Prop} {s : Shared} {K : Frag} {C fI : Addr} {B newId initId : String} {bmB : List Value} {fl sf gv : Str} {mg mb : Str → Option Value}
theorem init_run {R : Result → Shared → Prop} {e t0 : Addr} {u : Value} (T : SupC prog K C fI B newId initId bmB fl sf gv) (X : K.In s.heap) (hG : s.heap.Ns mainGlobals mg) (hB : s.heap.Ns builtinsNs mb) (hbb : ∀ x : Str, x ≠ "__name__" → mb x = bootBuiltins x)
    (hlim : s.heap.NoLimit) (hroom : A.depth < recursionLimit) (hx : s.heap.get? e = some (excObj C t0 none .none)) (hKe : K.lookup e = none)
    (hR : ∀ h' tk dx t1, (∀ b o, b ≠ e → s.heap.get? b = some o → h'.get? b = some o) → s.heap.objs.size ≤ dx → dx ≠ e → h'.get? e = some (excObj C t1 (some dx) .none) → h'.Ns1 dx (fun y => if y = fl then some u else none) →
      R (.ok (.ret .none)) { s with heap := h', toks := tk }) :
    codeAny (model prog w) A (.call (.ref fI) ⟨[.ref e, u], []⟩) R s := by
  obtain ⟨oc, od, nm, qual, params, scope, dV, kV, doc, pm, ct, an, cda, cc, osl, p0, p1, p2, p3, p4, p5, p6, p7, p8, p9, hf, hcd, hfile, hcell, ⟨ar, har, hsf⟩, hbind, sk, sco, sgen, scell, s1, s2, s3, s4, hln⟩ := T.fn
  obtain ⟨ccl, cdd, vs, ccs, file, tf, hcda, hvs, hfl⟩ := hfile
  obtain ⟨cl, cld, csl, hcc⟩ := hcell
  obtain ⟨clC, ddC, cd, slC, hC, hcls, hm, hne, bm, hmro⟩ := exc_cls T.q
  have hh : cd.hasDict = true := by
    have z := T.hd
    unfold hasDictIn at z
    rw [hcls] at z
    simpa using z
  have nL : ∀ {b : Addr} {o : Obj}, s.heap.get? b = some o → b ≠ s.heap.objs.size := fun e => Nat.ne_of_lt (Heap.lt_size e)
  refine ks_codeAny_call_defAt (binds := [(sf, .ref e), (gv, u)]) hroom (X _ _ hf) rfl hlim (codeRec_of X hcd) rfl (hbind s (.ref e) u) scell (fun x hx => ?_) (fun h₁ hns hk₁ => ?_) sco sgen sk
  · rcases List.mem_cons.mp hx with rfl | hx
    · exact s3
    · rcases List.mem_cons.mp hx with rfl | hx
      · exact s4
      · cases hx
  have ms : (List.lookup sf [(sf, Value.ref e), (gv, u)].reverse) = some (.ref e) := by
    show List.lookup sf [(gv, u), (sf, Value.ref e)] = _
    rw [List.lookup_cons, T.sg, List.lookup_cons, beq_self_eq_true]
  have mv : (List.lookup gv [(sf, Value.ref e), (gv, u)].reverse) = some u := by
    show List.lookup gv [(gv, u), (sf, Value.ref e)] = _
    rw [List.lookup_cons, beq_self_eq_true]
  have X₁ : K.In h₁ := X.keeps hk₁
  have hx₁ := hk₁ _ _ hx
  have neL : e ≠ s.heap.objs.size := nL hx
  have LI : ∀ {h : Heap}, K.In h → ∀ {t : Addr} {dv : Option Addr} {od : Option Obj}, InstAt h e (excObj C t dv .none) C od → Looks (model prog w) h (isInstance (.ref e) (.type B)) true := fun X _ _ _ I => I.type.andThen (looks_subIn X T.sub)
  refine ks_wpAt_execs_cons (ks_wpAt_Expr_any (ks_wpAt_MethodCall ?_ (mcall_eq hln rfl)) (by unfold interactive; simp [callEnv, newEnv, sk]))
  refine ks_wpAt_super_base (hks := s1) (hkc := s2) (hat := by decide) (hfu := rfl) (hf := X₁ _ _ hf) (hfd := rfl) (hp := har) (hco := rfl) (hcc := X₁ _ _ hcda) (hoc := rfl) (hvs := hvs) (hfile := hfl) (htop := T.htop) ?_
  refine ks_loadName_global sk s1 (loadGlobal_builtin (mg := mg) (mb := mb) ?_ ?_ ?_ ?_ ⟨rfl, ?_⟩)
  · exact ns_at hG fun o q => hk₁ _ _ q
  · exact mg_none_of X hG T.sup
  · exact ns_at hB fun o q => hk₁ _ _ q
  · exact (hbb _ (by decide +kernel)).trans (by decide +kernel)
  refine wpAny_loadName_free sk s2 rfl ⟨_, X₁ _ _ hcc, rfl⟩ ?_
  rw [hsf]
  refine wpAny_loadName_local sk s3 hns ms ?_
  refine ks_wpAny_isType_cls (X₁ _ _ hC) rfl ⟨rfl, ?_⟩
  refine ks_wpAny_call_super (X₁ _ _ hC) rfl hx₁ rfl (fun c z => by cases z) (looks_mroIn X₁ T.own) (fun h₂ hso hk₂ => ?_)
  have X₂ : K.In h₂ := X₁.keeps hk₂
  have hx₂ := hk₂ _ _ hx₁
  have hsup : ks_superIn K C C "__init__" = some (some (.builtin initId)) := T.ms
  unfold ks_superIn at hsup
  rw [hcls] at hsup
  refine kxs_getMethod T.KF hso (looks_opaque X₂ T.op) (l₀ := cd.mro) (fun A Q E s k q => wpAny_bind ((looks_clsIn X₂ hcls) A _ E s k (wpAny_pure q))) rfl X₂ hsup (LI X₂ (od := none) ⟨hx₂, rfl, rfl, trivial⟩) (ks_ne (odx := none) X₂ ⟨hx₂, rfl, rfl, trivial⟩ hcls) (by decide) ?_
  have hk₃ : ∀ b o, h₂.get? b = some o → (h₂.push (kxs_mw initId e)).get? b = some o := fun b o z => Heap.get?_push_of_some _ z
  have hmw : (h₂.push (kxs_mw initId e)).get? h₂.objs.size = some (kxs_mw initId e) := Heap.get?_push_at rfl rfl
  refine kxs_callWith (i := initId) (x := e) (by rfl) (evalArgs_plain ?_)
  refine Calls.spliced_cons ?_
  refine wpAny_Name (wpAny_loadName_local sk s4 (ns_at hns fun o q => hk₃ _ _ (hk₂ _ _ q)) mv ?_) T.ngv
  refine Calls.spliced_nil ⟨hmw, ?_⟩
  refine call_wrapped T.FB (X₂.keeps hk₃) T.q (hk₃ _ _ hx₂) hmw (by show 1 ≤ sizeLine; rw [sizeLine_eq]; omega) fun h₄ t1 k4 hx₄ => ?_
  have up4 : ∀ b o, b ≠ e → h₁.get? b = some o → h₄.get? b = some o := fun b o nb z => k4 b o nb (hk₃ _ _ (hk₂ _ _ z))
  have X₄ : K.In h₄ := fun b o z => up4 b o (fun q => by rw [q, hKe] at z; cases z) (X₁ _ _ z)
  have L4 : h₄.Ns s.heap.objs.size fun x => List.lookup x [(sf, Value.ref e), (gv, u)].reverse := ns_at hns fun o q => up4 _ _ (Ne.symm neL) q
  refine ks_wpAt_execs_cons (ks_wpAt_Assign_Attr (wpAt_of_wpAny ?_))
  refine wpAny_Name (wpAny_loadName_local sk s4 L4 mv ?_) T.ngv
  refine wpAny_Name (wpAny_loadName_local sk s3 L4 ms ?_) T.nsf
  refine set_plain X₄ (od := none) ⟨hx₄, rfl, rfl, trivial⟩ T.sa (store_first T.SF X₄ hx₄ hcls hm hne hh T.no fun h₅ tk dx k5 hdx ndx hx₅ hn5 => ?_)
  refine wpAt_of_wpAny (wpAny_execs_nil ?_)
  have sz : s.heap.objs.size ≤ h₄.objs.size := by
    obtain ⟨o, _, _, q, _⟩ := L4
    exact Nat.le_of_lt (Heap.lt_size q)
  exact hR h₅ tk dx t1 (fun b o nb z => k5 b o nb (up4 b o nb (hk₁ _ _ z))) (Nat.le_trans sz hdx) ndx hx₅ hn5
end
end Qx
end PySem
/-! # C(e) for such a class: what is made -/
namespace Qx
open PySem PySem.Spec PyProof.Rows L2
/-- C(e): the argument's value, a new dict that keeps it -/
def tMkS (C : Addr) (fl : Str) (te : TE) : L2.St → Hp → XK → Prop := fun σ H Q => te σ H fun v H1 => ∀ d, H1 d = none → Q (.ref C) (some d) (upd H1 d (.xd [(fl, v)]))
section
variable {X : Cx} {C fI : Addr} {B newId initId : String} {bmB : List Value} {fl sf gv x : Str} {e : Expr} {te : TE} {p pos : Pos} {k : Nat}
theorem pmk_sup (T : PySem.Qx.SupC X.prog X.K C fI B newId initId bmB fl sf gv) (kC : PySem.W.keepIn X.K (.ref C) = true) (r : Raises X (.ref C)) (hr : Room (k + 1) X.A) (hg : Gl X x) (hm : X.mg x = some (.ref C)) (he : PE X e te) (hst : starEach [e] X.env = (false, eval e X.env) :: starEach [] X.env)
    (hdb : (x == ("__debug__" : Str)) = false) : PMk X (.Call (.Name x p) [e] [] pos) (tMkS C fl te) := by
  intro pins s σ H Q I h
  refine wpAny_Call_Name_kw (ld_glob I hg hm ?_ hdb)
  refine PySem.W.callWith_K (h₀ := X.base) I.ok.mod.kin kC ?_ hst (by rfl)
  rw [hst]
  show wpAny _ _ (spliced ((false, eval e X.env) :: backTo pos (starEach [] X.env))) _ _ s
  refine Calls.spliced_cons (thn (he.run pins s σ H _ I h) fun u s1 ⟨v, H1, I1, r1, q1⟩ => ?_)
  refine Calls.spliced_nil ⟨I1.kIn, ?_⟩
  show wpAny _ _ (call (.ref C) [u]) _ _ _
  obtain ⟨hp, g, dr, tk, os⟩ := s1
  obtain ⟨nm, N', qn, bs, bm, hdct, sn, sub, ab, col, dd, k0, k1, k2, k3, k5, hC, hT⟩ := PySem.W.excInit_of I1.kIn T.q
  have up : ∀ b o, hp.get? b = some o → ((hp.push (PySem.W.kdv_tup [u])).push (PySem.HandSPX.excO C hp.objs.size)).get? b = some o := fun b o z => Heap.get?_push_of_some _ (Heap.get?_push_of_some _ z)
  have hget : ((hp.push (PySem.W.kdv_tup [u])).push (PySem.HandSPX.excO C hp.objs.size)).get? (hp.objs.size + 1) = some (PySem.HandSPX.excO C hp.objs.size) := by heap_get
  have fresh : ∀ {b : Addr} {o : Obj}, hp.get? b = some o → b ≠ hp.objs.size + 1 := fun z => Nat.ne_of_lt (Nat.lt_succ_of_lt (Heap.lt_size z))
  have X1 : X.K.In hp := I1.kIn
  obtain ⟨mb, hB, hbb⟩ := I1.mod.blt
  have hKe : X.K.lookup (hp.objs.size + 1) = none := by
    cases z : X.K.lookup (hp.objs.size + 1) with
    | none => rfl
    | some o => exact absurd rfl (fresh (X1 _ _ z))
  refine wpAny_call (PySem.HandSPX.call_own T.FB hT hC (PySem.W.looks_findIn X1 T.ini) (fun self => PySem.W.bind_fn X1 self T.tI) (by show 1 ≤ sizeLine; rw [sizeLine_eq]; omega) ?_)
  refine PySem.Qx.init_run (mg := X.mg) (mb := mb) T (X1.keeps up) (PySem.Qx.ns_at (I1.mod.glob.keeps I1.bk) fun o z => up _ _ z) (PySem.Qx.ns_at (hB.keeps I1.bk) fun o z => up _ _ z) hbb (I1.nolimit.keeps up) (hr.make C [u] []).depth hget hKe fun h' tk' dx t1 k' hdx ndx hx' hn' => ?_
  have k1 : ∀ b o, hp.get? b = some o → h'.get? b = some o := fun b o z => k' b o (fresh z) (up b o z)
  obtain ⟨G, g1, g2⟩ := restrict h' fun b => decide (b ≠ hp.objs.size + 1)
  have gk : ∀ b, b ≠ hp.objs.size + 1 → G.get? b = h'.get? b := fun b hb => g1 b (decide_eq_true hb)
  have ge : G.get? (hp.objs.size + 1) = none := g2 _ (by simp)
  have kG : ∀ b o, G.get? b = some o → h'.get? b = some o := fun b o z => by
    by_cases hb : b = hp.objs.size + 1
    · rw [hb, ge] at z; cases z
    · exact (gk b hb).symm.trans z
  have hdx' : hp.objs.size ≤ dx := by
    have : hp.objs.size ≤ ((hp.push (PySem.W.kdv_tup [u])).push (PySem.HandSPX.excO C hp.objs.size)).objs.size := by
      rw [Heap.size_push, Heap.size_push]; omega
    exact Nat.le_trans this hdx
  have hd1 : H1 dx = none := I1.hok.fresh hdx'
  have I3 : Inv X pins σ (upd H1 dx (.xd [(fl, v)])) ⟨G, g, dr, tk', os⟩ :=
    I1.laid (t' := tk') (a := dx) (o := .xd [(fl, v)]) (h' := G) (fun b o z => (gk b (fresh z)).trans (k1 b o z)) hdx' ⟨_, hn'.at fun o z => (gk dx ndx).trans z, fun f => by
      rw [List.lookup_cons]
      by_cases q : f = fl
      · subst q
        rw [beq_self_eq_true, if_pos rfl]
        exact r1
      · rw [if_neg q, beq_eq_false_iff_ne.mpr q]
        exact True.intro⟩
  have na : (upd H1 dx (.xd [(fl, v)])) (hp.objs.size + 1) = none := by
    rw [upd_ne (Ne.symm ndx)]
    exact I1.hok.fresh (Nat.le_succ _)
  exact ⟨rfl, hp.objs.size + 1, _, _, ⟨G, g, dr, tk', os⟩, _, .ref C, some dx, rfl, I3, kG, ge, hx', ⟨rfl, rfl⟩, rfl, rfl, na, rfl, I1.bare, r, q1 dx hd1⟩
end
end Qx
/-! # try: body, except clauses with and without a name, whose suites return; no other exception comes -/
namespace Qx
open PySem PySem.Spec PyProof.Rows L2
/-- a clause: the class, the slot of its name, its suite's reading -/
abbrev Clause : Type := Value × Option Nat × (Addr → Value → Option Addr → TS)
def rtE (D : Ends) : Ends := { nx := fun _ _ => False, rt := D.rt, bk := fun _ _ => False, ct := fun _ _ => False }
def wMix (K : PySem.W.Frag) (D : Ends) : List Clause → WX
  | [] => fun _ _ _ _ => False
  | q :: l => fun cls d σ H => ∃ b, PySem.W.exmOne K cls q.1 = some b ∧ (b = true → ∀ a, H a = none → ∀ σ2 : L2.St, (∀ i, q.2.1 = some i → σ2[i]? = some (some (.ref a))) → q.2.2 a cls d (rtE D) σ2 H) ∧ (b = false → wMix K D l cls d σ H)
abbrev SuiteOk (X : Cx) (body : List Stmt) (ts : Addr → Value → Option Addr → TS) : Prop :=
  ∀ (a : Addr) (o : Obj) (c : Value) (d : Option Addr) (pn : List (Addr × Obj)), Zc c d o → (∃ vs, o.data = .fields vs) → PSs (X.suite a ((a, o) :: pn)) body (ts a c d)
inductive MixOk (X : Cx) : List ExceptHandler → List Clause → Prop
  | nil : MixOk X [] []
  | bare {x : Str} {c : Value} {ts : Addr → Value → Option Addr → TS} {b₀ : Stmt} {su : List Stmt} {p q : Pos} {hs : List ExceptHandler} {l : List Clause} (hc : Names X x c) (hsu : SuiteOk X (b₀ :: su) ts) (r : MixOk X hs l) :
      MixOk X (.ExceptHandler (some (.Name x p)) none (b₀ :: su) q :: hs) ((c, none, ts) :: l)
  | named {x n : Str} {i : Nat} {c : Value} {ts : Addr → Value → Option Addr → TS} {b₀ : Stmt} {su : List Stmt} {p q : Pos} {hs : List ExceptHandler} {l : List Clause} (hc : Names X x c) (hi : X.N[i]? = some n) (hn : X.env.kindOf n = some .local)
      (hsu : SuiteOk X (b₀ :: su) ts) (r : MixOk X hs l) : MixOk X (.ExceptHandler (some (.Name x p)) (some n) (b₀ :: su) q :: hs) ((c, some i, ts) :: l)
section
variable {X : Cx} {body : List Stmt} {h₀ : ExceptHandler} {hs : List ExceptHandler} {l : List Clause} {pos : Pos} {tb : WX → TS}
theorem ps_try_mix (hst : X.stack = X.env :: X.outer) (hfm : X.env.frame = some X.env.locals) (hN : X.N.Nodup)
    (hb : ∀ (W : WX) (pn : List (Addr × Obj)) (xe : Value → Shared → Prop), Takes (X.tr pn xe) W → PassesOwn (model X.prog X.w) X.A X.env xe → PSs (X.tr pn xe) body (tb W)) (hh : MixOk X (h₀ :: hs) l) :
    PS X (.Try body (h₀ :: hs) [] [] pos) (fun D σ H => tb (wMix X.K D l) D σ H) := by
  refine ⟨fun pins s σ H D I h => ?_⟩
  have ok := I.ok
  have hA : X.A.frames = some (X.env :: X.outer) := by rw [ok.frames, hst]
  refine wpAny_Try_except ?_
  have tk : Takes (X.tr (X.pn ++ pins) (fun e z₁ => wpAny (model X.prog X.w) X.A (noteFrame e X.env) (fun _ z₂ => wpAny (model X.prog X.w) X.A (setFlight e none)
      (fun _ z₃ => wpAny (model X.prog X.w) X.A (handleBy e X.env (h₀ :: hs)) (SP X pins D) X.xe z₃) X.xe z₂) X.xe z₁)) (wMix X.K D l) := by
    intro u s' xx
    obtain ⟨a, B, sI, pins', σ', H', cls, d, rfl, J0, nb, up, sky, na, os, ag, w⟩ := xx
    have J : Inv X pins σ' H' sI := J0.ofTry ok
    have sky : Sky B (X.env :: X.outer) a (Zc cls d) X.env.locals s'.heap := by rw [← hst]; exact sky
    show wpAny (model X.prog X.w) X.A (noteFrame (.ref a) X.env) _ _ _
    refine Sky.land Zc.steady hA hfm sky fun g1 fl1 up1 => ?_
    have J1 : Inv X pins σ' H' { s' with heap := g1 } := J.landed nb fl1.1 (up.trans up1) os ag
    obtain ⟨o1, v1, e1, z1, d1⟩ := fl1.there
    have nfr : a ∉ frs (X.env :: X.outer) := fun hm => by
      obtain ⟨_, o', e', hnf⟩ := fl1.2.2.1.mem hm
      rw [e1] at e'
      cases e'
      exact hnf _ d1
    have nL : a ≠ X.env.locals := fun z => nfr (List.mem_filterMap.mpr ⟨X.env, List.mem_cons_self, by rw [hfm, z]⟩)
    have nF : a ∉ X.fs := fun hm => by
      obtain ⟨e, he, q⟩ := List.mem_filterMap.mp hm
      exact nfr (List.mem_filterMap.mpr ⟨e, List.mem_cons_of_mem _ he, q⟩)
    have S1 := J1.suite e1 d1 na nL nF
    have LT : PySem.W.Looks (model X.prog X.w) g1 (typeOf (.ref a)) cls := fun A Q E z k q => wpAny_typeOf_ref (k _ _ e1) (by rw [z1.1]; exact q)
    -- the clause's class is read
    have test : ∀ {x : Str} {c : Value} {p : Pos} {b : Bool} {Q E : Value → Shared → Prop} {Q2 : Bool → Shared → Prop}, Names X x c → PySem.W.exmOne X.K cls c = some b → Q2 b { s' with heap := g1 } →
        wpAny (model X.prog X.w) (X.A.mark (some (.ref a))) (eval (.Name x p) X.env) (fun v z => wpAny (model X.prog X.w) (X.A.mark (some (.ref a))) (excMatches (.ref a) v) Q2 E z) E { s' with heap := g1 } := fun {x c p b Q E Q2} hc hb q => by
      have LM := PySem.W.exm_one (M := model X.prog X.w) J1.kIn LT hb
      obtain ⟨hg, hdb, hm | ⟨hm, hv, hnn⟩⟩ := hc
      · exact ld_glob (X := X.suite a ((a, o1) :: (X.pn ++ pins))) S1 hg hm (LM.here q) hdb
      · exact ld_blt (X := X.suite a ((a, o1) :: (X.pn ++ pins))) S1 hg hm hv (LM.here q) hnn hdb
    have go : ∀ {hs' : List ExceptHandler} {l' : List Clause}, MixOk X hs' l' → wMix X.K D l' cls d σ' H' → wpAny (model X.prog X.w) X.A (handleBy (.ref a) X.env hs') (SP X pins D) X.xe { s' with heap := g1 } := by
      intro hs' l' hk
      induction hk with
      | nil => exact fun w => w.elim
      | @bare x c ts b₀ su p q hs2 l2 hc hsu r ih =>
        rintro ⟨b, hb1, yes, no⟩
        refine wpAny_handleBy_cons (codeAny_handlers_test (test (Q := fun _ _ => True) hc hb1 ?_)) (by intro q; cases q)
        cases b with
        | false => exact ih (no rfl)
        | true =>
          refine codeAny_handlers_suite ?_
          refine HandSPX.lands_againZ fl1 fun g2 fl2 up2 => ?_
          have J2 : Inv X pins σ' H' { s' with heap := g2 } := J.landed nb fl2.1 ((up.trans up1).trans up2) os ag
          obtain ⟨o2, v2, e2, z2, d2⟩ := fl2.there
          have S2 := J2.suite e2 d2 na nL nF
          refine wpAny_mono ((hsu a o2 cls d (X.pn ++ pins) z2 ⟨_, d2⟩).run [] _ _ H' _ S2 (yes rfl a na _ fun i z => nomatch z)) (fun f s6 hsp => ?_) (fun _ _ z => False.elim z)
          cases f with
          | ret u =>
            obtain ⟨v6, σ6, H6, S6, r6, q6⟩ := hsp
            exact ⟨_, _, _, S6.unsuite ok, r6, q6⟩
          | _ => obtain ⟨_, _, _, z⟩ := hsp; exact z.elim
      | @named x n i c ts b₀ su p q hs2 l2 hc hi hn hsu r ih =>
        rintro ⟨b, hb1, yes, no⟩
        refine wpAny_handleBy_cons (codeAny_handlers_test (test (Q := fun _ _ => True) hc hb1 ?_)) (by intro q; cases q)
        cases b with
        | false => exact ih (no rfl)
        | true =>
          refine codeAny_handlers_suite_as ?_
          refine HandSPX.lands_againZ fl1 fun g2 fl2 up2 => ?_
          have J2 : Inv X pins σ' H' { s' with heap := g2 } := J.landed nb fl2.1 ((up.trans up1).trans up2) os ag
          obtain ⟨o2, v2, e2, z2, d2⟩ := fl2.there
          have S2 := J2.suite e2 d2 na nL nF
          refine store_ok (X := X.suite a ((a, o2) :: (X.pn ++ pins))) (v := .ref a) S2 hN hi (.inl hn) rfl (fun s5 S5 => ?_) (.inr hn)
          refine wpAny_mono ((hsu a o2 cls d (X.pn ++ pins) z2 ⟨_, d2⟩).run [] s5 _ H' _ S5 (yes rfl a na _ fun j z => by
            cases z
            exact List.getElem?_set_self (by rw [J2.len]; exact (List.getElem?_eq_some_iff.mp hi).1))) (fun f s6 hsp => ?_) (fun _ _ z => False.elim z)
          cases f with
          | ret u =>
            obtain ⟨v6, σ6, H6, S6, r6, q6⟩ := hsp
            exact gone_ok (S6.unsuite ok) hN hi hn fun s7 J7 => ⟨_, _, _, J7, r6, q6⟩
          | _ => obtain ⟨_, _, _, z⟩ := hsp; exact z.elim
    exact go hh w
  refine wpAny_mono ((hb _ _ _ tk PassesOwn.looking).run [] s σ H D (I.toTry _) h) (fun f s1 hsp => ?_) (fun e s1 he => he)
  cases f with
  | next =>
    obtain ⟨σ', H', J', q⟩ := hsp
    exact wpAny_execs_nil ⟨σ', H', J'.ofTry ok, q⟩
  | ret u =>
    obtain ⟨v, σ', H', J', r, q⟩ := hsp
    exact ⟨v, σ', H', J'.ofTry ok, r, q⟩
  | brk =>
    obtain ⟨σ', H', J', q⟩ := hsp
    exact ⟨σ', H', J'.ofTry ok, q⟩
  | cont =>
    obtain ⟨σ', H', J', q⟩ := hsp
    exact ⟨σ', H', J'.ofTry ok, q⟩
end
end Qx
/-! # A lambda handed to a def: what stays is told more sharply -/
namespace Qx
open PySem PySem.Spec PyProof.Rows L2 LamX
/-- from the heap ahead of a lambda to the one behind: all but the tables stays, nothing goes -/
def LamStep (H H1 : Hp) : Prop := ExtN H H1 ∧ ∀ b, H b ≠ none → H1 b ≠ none
section
variable {X : Cx} {pins : List (Addr × Obj)} {σ : L2.St} {H : Hp} {s : Shared}
theorem lam_made {T : List (Addr × Str)} {c P : Addr} {params : Arguments} {body : Expr} {scope : Scope} {pos : Pos} {E : Value → Shared → Prop} {Q : Value → Shared → Prop} (I : Inv X pins σ H s) (TB : TabB X.base X.mg c P) (hcode : X.env.code = .ref c)
    (hm : (P, X.env.qual ++ "<lambda>") ∈ T) (hu : ∀ p ∈ T, p.1 = P → p.2 = X.env.qual ++ "<lambda>") (hT : Tabs T H) (hdef : defaultsOf params X.env = ([], [])) (hfree : ∀ y ∈ scope.names, y.2 = .free → ∃ c, X.env.cells.lookup y.1 = some c)
    (h : ∀ (f c' : Addr) (pm ctv : Value) (H1 : Hp) (s' : Shared), Inv X pins σ H1 s' → LamStep H H1 → Tabs T H1 →
      s'.heap.get? f = some (PySem.W.kla_obj "<lambda>" (X.env.qual ++ "<lambda>") params body scope (cloFrom X.env.cells scope.names []) pm c' ctv) → H1 f = none → f ∉ frs X.stack → H1 c' = some (CodeO c' (X.env.qual ++ "<lambda>")) → Q (.ref f) s') :
    wpAny (model X.prog X.w) X.A (eval (.Lambda params body scope pos) X.env) Q E s := by
  obtain ⟨tb, hP, tri, all⟩ := hT _ hm
  refine PySem.W.kla_eval hdef ?_
  have bP := TB.bm.keeps I.bk
  have heapP : s.heap.get? P = some { cls := .none, data := .fields tb } := I.hok P _ hP
  have offStack : ∀ f, s.heap.objs.size ≤ f → f ∉ frs X.stack := fun f hf z => by
    rcases List.mem_cons.mp (I.stkSub _ z) with e | e
    · have h1 := I.lt
      rw [← e] at h1
      exact absurd h1 (Nat.not_lt.mpr hf)
    · exact I.nofs hf e
  have clo := closure_ok (scope := scope) hfree
  have gl := I.mod.glob.keeps I.bk
  have cd := TB.code.keeps I.bk
  cases hc : codeAmong pos tb.toList with
  | some cv =>
    obtain ⟨c', rfl, hco⟩ := all pos cv hc
    refine PySem.W.kla_makeFunctionHit (mg := X.mg) (c := c) (P := P) (ps := tb) clo I.ok.glob gl hcode cd heapP tri hc bP fun ctv h' tk hx hsz => ?_
    refine h h'.objs.size c' ((X.mg "__name__").getD .none) ctv H _ (I.kept fun b o e => Heap.get?_push_of_some _ (hx b o e)) ⟨ExtN.refl H, fun _ z => z⟩ hT (Heap.get?_push_size _ rfl) (I.hok.fresh hsz) (offStack _ hsz) hco
  | none =>
    refine PySem.W.kla_makeFunction (mg := X.mg) (c := c) (P := P) (ps := tb) clo I.ok.glob gl hcode cd heapP tri hc TB.gP bP fun c' ctv h' tk hx hge hlt hrec htb => ?_
    obtain ⟨c2, oc, vs, t, e2, hoc, hd, hv⟩ := hrec
    cases e2
    have big : s.heap.objs.size ≤ h'.objs.size := by omega
    have freeC : H c' = none := I.hok.fresh hge
    have J := inv_table (t' := tk) (more := #[rawInt pos.line, rawInt pos.col, .ref c']) (h' := h'.push (PySem.W.kla_obj "<lambda>" (X.env.qual ++ "<lambda>") params body scope (cloFrom X.env.cells scope.names []) ((X.mg "__name__").getD .none) c' ctv)) I hP
      (fun b o hb e => Heap.get?_push_of_some _ (hx b o hb e)) (Heap.get?_push_of_some _ htb) hge ⟨oc, vs, t, Heap.get?_push_of_some _ hoc, hd, hv⟩
    have nPc : P ≠ c' := ne_of_none hP freeC
    have ext : ExtN H (upd (upd H P (.tbl (tb ++ #[rawInt pos.line, rawInt pos.col, .ref c']))) c' (CodeO c' (X.env.qual ++ "<lambda>"))) := fun b o e n => by
      have nb : b ≠ P := fun z => by
        rw [z, hP] at e
        exact n tb (Option.some.inj e).symm
      rw [upd_ne (ne_of_none e freeC), upd_ne nb]
      exact e
    have rows : (tb ++ #[rawInt pos.line, rawInt pos.col, .ref c']).toList = tb.toList ++ [rawInt pos.line, rawInt pos.col, .ref c'] := by simp
    refine h h'.objs.size c' ((X.mg "__name__").getD .none) ctv _ _ J ⟨ext, fun b hb => ?_⟩ (fun p hp => ?_) (Heap.get?_push_size _ rfl) ?_ (offStack _ big) upd_same
    · by_cases h1 : b = c'
      · rw [h1, upd_same]; exact fun z => nomatch z
      · rw [upd_ne h1]
        by_cases h2 : b = P
        · rw [h2, upd_same]; exact fun z => nomatch z
        · rw [upd_ne h2]; exact hb
    · by_cases hb : p.1 = P
      · rw [hu p hp hb, hb]
        refine ⟨_, by rw [upd_ne nPc, upd_same], by rw [rows]; exact PySem.TriplesOk_snoc _ _ _ _ tri, fun p' cv hcv => ?_⟩
        rw [rows] at hcv
        rcases among_app _ tri hcv with z | z
        · obtain ⟨c0, e1, e2⟩ := all p' cv z
          exact ⟨c0, e1, ext _ _ e2 codeO_ne⟩
        · exact ⟨c', z, upd_same⟩
      · obtain ⟨tb', a1, a2, a3⟩ := hT p hp
        refine ⟨tb', by rw [upd_ne (ne_of_none a1 freeC), upd_ne hb]; exact a1, a2, fun p' cv hcv => ?_⟩
        obtain ⟨c0, e1, e2⟩ := a3 p' cv hcv
        exact ⟨c0, e1, ext _ _ e2 codeO_ne⟩
    · have n1 : h'.objs.size ≠ c' := Nat.ne_of_gt hlt
      have n2 : h'.objs.size ≠ P := Nat.ne_of_gt (Nat.lt_of_lt_of_le (Heap.lt_size heapP) big)
      rw [upd_ne n1, upd_ne n2]
      exact I.hok.fresh big
end
def tMet (T : List (Addr × Str)) (TT : (XK → Hp → VK → Prop) → Hp → VK → Prop) (t : XK → TE) : TE := fun σ H Q => Tabs T H ∧ ∀ H1, LamStep H H1 → Tabs T H1 → TT (fun E H' Q' => t E σ H' Q') H1 Q
section
variable {X : Cx}
theorem pe_met {T : List (Addr × Str)} {TT : (XK → Hp → VK → Prop) → Hp → VK → Prop} {x a : Str} {g c P : Addr} {k : Nat} {pg : Arguments} {bg : List Stmt} {sg : Scope} {dV kV doc pm cdv ct oc : Value} {an od : Option Addr} {osl : Array (Option Value)} {Ng : List Str}
    {params : Arguments} {body : Expr} {scope : Scope} {t : XK → TE} {p lpos pos : Pos} (hg : Gl X x) (hm : X.mg x = some (.ref g)) (hk : PySem.W.keepIn X.K (.ref g) = true)
    (lk : X.K.lookup g = some ⟨oc, od, .func (PySem.W.fnOf x x pg bg sg dV kV doc pm an cdv ct), osl⟩) (hcg : PySem.W.codeIn X.K cdv x = true) (hb : L2.Binds X.K (PySem.W.fnOf x x pg bg sg dV kV doc pm an cdv ct) [a] []) (Sg : FnScope Ng [a] sg) (hNg : Ng[0]? = some a) (hva : Vis sg a)
    (hG : GivesTo X Ng x sg g cdv bg a (X.env.qual ++ "<lambda>") TT)
    (TB : TabB X.base X.mg c P) (hcode : X.env.code = .ref c) (hmT : (P, X.env.qual ++ "<lambda>") ∈ T) (hu : ∀ p ∈ T, p.1 = P → p.2 = X.env.qual ++ "<lambda>") (hr : Room (k + 2) X.A) (L : LamS X.env.scope scope) (hdef : defaultsOf params X.env = ([], []))
    (hbind : ∀ (q : Str) (cl : List (Str × Addr)) (pm cv ctv : Value), bindArgs (PySem.W.kla_fn "<lambda>" q params body scope cl pm cv ctv) ⟨[], []⟩ = pure [])
    (hbody : ∀ (A : Around) (outer : List Env) (s : Shared) (H : Hp) (E : XK) (f c' : Addr), Room k (A.deeper (lamEnv X scope s.heap.objs.size f c')) → PE (lamCx X A outer s H E scope f c') body (t E))
    (hdb : (x == ("__debug__" : Str)) = false) (hd : (a == ("__debug__" : Str)) = false) (hcd : (a == ("__classdict__" : Str)) = false) :
    PE X (.Call (.Name x p) [.Lambda params body scope lpos] [] pos) (tMet T TT t) := by
  refine ⟨fun pins s σ H Q I ⟨hT, h⟩ => ?_⟩
  refine wpAny_Call_Name_kw (ld_glob I hg hm ?_ hdb)
  refine PySem.W.callWith_K (h₀ := X.base) I.ok.mod.kin hk ?_ (by rfl) (by rfl)
  show wpAny _ _ (spliced ((false, eval (.Lambda params body scope lpos) X.env) :: backTo pos (starEach [] X.env))) _ _ s
  refine Calls.spliced_cons (lam_made I TB hcode hmT hu hT hdef (L.has I.ok) fun f c' pm' ctv H1 s' I1 st T1 hf hfn hfr hco => ?_)
  refine Calls.spliced_nil ⟨I1.kIn, ?_⟩
  refine wpAny_call (codeAny_mono (?_ : codeAny (model X.prog X.w) X.A (.call (.ref g) ⟨[.ref f], []⟩) (CR C8.CX0 X.stack X.prog X.w H1 s' Q C8.E0) s') fun r s2 hq => ?_)
  · refine run_ofS (N := Ng) (ps := [a]) (us := [.ref f]) (vs := [.ref f]) lk hcg Sg hr I1.env0 (hb s' [.ref f] I1.kIn rfl) (.cons rfl .nil) rfl fun hr' => ?_
    obtain ⟨t', ht', hq'⟩ := hG f c' s' H1 Q (fun E H' Q' => t E σ H' Q')
      (fun W pn xe E p1 p2 tk hW => pe_act (i := 0) I1 L hf hfn hfr (hbind _ _ _ _ _) tk hW hr' (fun A outer s H hr2 => hbody A outer s H E f c' hr2) hNg hva hd hcd) hco (h H1 st T1)
    exact ⟨t', ht'.nox, hq'⟩
  · cases r with
    | error e => exact (show False from hq).elim
    | ok fl =>
      cases fl with
      | ret u => exact I1.after hq
      | _ => exact False.elim hq
end
end Qx
/-! # raise, {}, repr, calls of functions that are values -/
namespace Qs
open PySem PySem.Spec PyProof.Rows L2
section
variable {c : Cst} {Wx : WX} {k n : Nat} {X : Cx} {P P' : Addr → Prop} {s s' : S} {σ σ' : L2.St} {H H' : Hp} {Q : VK} {u w : W} {ws : List W} {vs xs : List V} {r z : R} {x y v : V} {pos p : Pos} {e : Expr} {es : List Expr} {fa : SE}
/-! ### raise -/
def sRaise0 (k : Nat) : SS := fun _ => .exc ⟨k, none⟩
def sRaise1 (k : Nat) (fa : SE) : SS := fun s => (fa s).bind fun p => (ofO (frz p.2 p.1)).bind fun q => .exc ⟨k, some q.1⟩
theorem ps_raise0 {C : Addr} (hT : c.T.cl k = some C) (hc : X.calm = true) (tk : Takes X Wx) (hp : PMk X e (fun _ H Q => Q (.ref C) none H)) : PS X (.Raise (some e) none pos) (rdS c Wx (sRaise0 k)) :=
  ps_imp (ps_raise hc tk hp) fun D σ H ⟨P, s, R, h⟩ => h σ (.ref C) none P H ⟨fun a o e _ _ => e, fun _ z => z, fun _ z => .inl z, R.tbs, R.dom, fun _ z => z⟩ ⟨⟨C, hT, rfl⟩, trivial⟩
theorem ps_raise1 {C : Addr} (hT : c.T.cl k = some C) (hc : X.calm = true) (tk : Takes X Wx) (hp : PMk X e (Qx.tMkS C (c.fld k) (rd c Wx fa))) : PS X (.Raise (some e) none pos) (rdS c Wx (sRaise1 k fa)) :=
  ps_imp (ps_raise hc tk hp) fun D σ H ⟨P, s, R, h⟩ => ⟨P, s, R, h.exp fun r s1 v P1 H1 _ t1 R1 rv h1 d hd => by
    dsimp only at h1
    cases q : frz s1 r with
    | none => rw [q] at h1; exact h1.elim
    | some p =>
      obtain ⟨w, s2⟩ := p
      rw [q] at h1
      obtain ⟨P2, t2, R2, rw2, _⟩ := frz_ok t1 R1 rv q
      have kp := keep_upd (o := .xd [(c.fld k, v)]) hd
      refine h1 σ (.ref C) (some d) P2 _ ⟨fun a o e n nt => kp _ _ (t2.keep a o e n nt), t2.pin, t2.new, R2.tbs.ext kp, (R2.more kp).dom, fun a e => (Stp.more (P := P2) (s := s2) (σ := σ) kp).there a (t2.there a e)⟩ ⟨⟨C, hT, rfl⟩, d, v, rfl, upd_same, Rep.mono ⟨fun _ h => h, fun a o q _ => kp a o q⟩ _ _ rw2⟩⟩
/-! ### {} -/
def eDic0 : SE := fun s => .ok (.new (.dic [] []), s)
theorem size_big {pins : List (Addr × Obj)} {st : Shared} (I : Inv X pins σ H st) : st.heap.objs.size ≠ sysModules := by
  obtain ⟨o, _, _, e, _⟩ := I.mod.glob
  have h1 : mainGlobals < st.heap.objs.size := Heap.lt_size (I.bk _ _ e)
  intro z
  rw [z] at h1
  exact absurd h1 (by decide)
theorem pe_dic0 : PE X (.Dict [] [] pos) (rd c Wx eDic0) := ⟨fun pins st σ H Q I ⟨P, s, R, h⟩ => by
  have hn : H st.heap.objs.size = none := I.hok.fresh (Nat.le_refl _)
  have J := I.laid (a := st.heap.objs.size) (o := .dK []) (t' := st.toks) (fun _ _ q => Heap.get?_push_of_some _ q) (Nat.le_refl _) (dk_empty st.heap I.big)
  have kp := keep_upd (o := .dK []) hn
  refine wpAny_Dict_empty ⟨.ref st.heap.objs.size, _, J, rfl, h _ P _ (Stp.more kp) (R.more kp) ⟨_, rfl, fun z => absurd hn (R.dom _ z), fun z => ?_, hn, size_big I, [], .inl ⟨[], upd_same, rfl, rfl⟩, Reps.nil⟩⟩
  obtain ⟨_, w, q⟩ := R.ownP z
  obtain ⟨o, eo, _⟩ := Cell.ex q
  rw [hn] at eo; cases eo⟩
/-! ### repr -/
/-- what repr tells of a value -/
def Shows (K : PySem.W.Frag) (H : Hp) (x : V) (t : Str) : Prop := t.length ≤ sizeLine ∧ ((∃ d : PyData, Dp K H x d ∧ d.showable = true ∧ d.hasDict = false ∧ d.depth ≤ 60 ∧ d.shown = t) ∨ ∃ a vs, x = .ref a ∧ DicAt H a [] vs ∧ (PyData.dict []).shown = t)
def rRepr (K : PySem.W.Frag) : List V → Hp → VK → Prop := fun xs H Q => ∃ x t, xs = [x] ∧ Shows K H x t ∧ Q (.str t) H
theorem dict0_reads {pins : List (Addr × Obj)} {st : Shared} {a : Addr} {ks : List W} (I : Inv X pins σ H st) (h : DicAt H a ks vs) (e : ks = []) : Reads st.heap (.ref a) (.dict []) [a] ∧ a ≠ sysModules := by
  cases h with
  | k n r =>
    rename_i kvs
    cases kvs with
    | cons p l => cases e
    | nil =>
      obtain ⟨_, _, us, kv, o, es, ep, g, ex, dt, _, pr, _⟩ := dk_rd I.hok r
      cases kv
      cases z : es.toList with
      | cons x l => rw [z] at pr; cases pr
      | nil => exact ⟨by simpa using Reads.dict (as := []) (bs := []) (kvs := []) g ex.1 dt (by rw [z]; exact ReadsAll.nil) (by rw [z]; exact ReadsAll.nil), n⟩
  | t n r =>
    rename_i kvs
    cases kvs with
    | cons p l => cases e
    | nil =>
      obtain ⟨_, _, us, kv, o, es, ep, g, ex, dt, z, _, _⟩ := dt_rd I.hok (.inl r)
      cases kv
      exact ⟨by simpa using Reads.dict (as := []) (bs := []) (kvs := []) g ex.1 dt (by rw [z]; exact ReadsAll.nil) (by rw [z]; exact ReadsAll.nil), n⟩
theorem call_reprD (hg : X.A.guards = some []) (hu : X.A.units + 64 < cLine) : CallR X (.builtin "repr") (rRepr X.K) := by
  intro pins st σ H xs us Q I r h
  obtain ⟨x, t, rfl, ⟨h4, h⟩, q⟩ := h
  obtain ⟨u, rfl, hx⟩ := vals1 r
  rcases h with ⟨d, hd, h1, h2, h3, rfl⟩ | ⟨a, vs, rfl, hd, rfl⟩
  · obtain ⟨as, rr⟩ := Dp.reads I d x u hd hx
    have ref : ∀ {a : Addr}, u = .ref a → wpAny (model X.prog X.w) X.A (call (.builtin "repr") [u]) (EP X pins σ Q) X.xe st := fun {a} e => by
      subst e
      exact repr_of_reads' rr h1 (fun z => by rw [h2] at z; cases z) hg (by omega) (fun _ _ z => z) (fun h' tk t' kp => ⟨.str d.shown, H, I.kept kp, ⟨_, rfl⟩, q⟩) h4
    cases rr with
    | none => exact PySem.P.repr_of_none ⟨.str _, H, I.tok _, ⟨_, rfl⟩, q⟩
    | bool b => exact PySem.P.repr_of_bool ⟨.str _, H, I.tok _, ⟨_, rfl⟩, q⟩
    | int i t => exact PySem.P.repr_of_int (of_decide_eq_true h1) ⟨.str _, H, I.tok _, ⟨_, rfl⟩, q⟩
    | str y t => exact PySem.P.repr_of_str ⟨.str _, H, I.tok _, ⟨_, rfl⟩, q⟩ h4
    | list _ _ _ _ => exact ref rfl
    | tuple _ _ _ _ => exact ref rfl
    | dict _ _ _ _ _ => exact ref rfl
  · obtain ⟨rd, ns⟩ := dict0_reads I hd rfl
    obtain rfl : u = Value.ref a := hx
    have dp : PyData.depth (.dict []) ≤ 60 := by decide +kernel
    exact repr_of_reads' rd (by decide +kernel) (fun _ z => ns (List.mem_singleton.mp z).symm) hg (by omega) (fun _ _ z => z) (fun h' tk t' kp => ⟨.str _, H, I.kept kp, ⟨_, rfl⟩, q⟩) h4
def reprW : W → Option (List Nat)
  | .dic [] [] => some [123, 125]
  | w => guard' (datW 60 w && PyData.showable (pd w) && !PyData.hasDict (pd w) && decide ((PyData.shown (pd w)).cps.toList.length ≤ lim)) (PyData.shown (pd w)).cps.toList
theorem mkS_list {x : Str} : mkS x.cps.toList = x := by unfold mkS; simp
theorem repr_ok {l : List Nat} (h : View c P H w x) (e : reprW w = some l) : Shows c.K H x (mkS l) := by
  unfold reprW at e
  split at e
  · cases e
    obtain ⟨a, vs, rfl, hd, _⟩ := h
    exact ⟨by decide +kernel, .inr ⟨a, vs, rfl, hd, by decide +kernel⟩⟩
  · obtain ⟨g, rfl⟩ := guard'_some e
    simp only [Bool.and_eq_true, decide_eq_true_eq, Bool.not_eq_true'] at g
    obtain ⟨⟨⟨g1, g2⟩, g3⟩, g4⟩ := g
    refine ⟨?_, .inl ⟨pd w, dp_view g1 h, g2, g3, (lay_pd 60 w g1).2, mkS_list.symm⟩⟩
    rw [mkS_len, lim_eq]
    exact g4
def reprF : List W → Option R
  | [w] => (reprW w).map fun l => .fro (.str l)
  | _ => none
theorem fn_repr : FnOkW c Wx reprF (rRepr c.K) := fun {P s σ H Q ws z xs} R e hx h => by
  unfold reprF at e
  split at e
  · rename_i w
    obtain ⟨x, rfl, h1⟩ := one_of hx
    cases q : reprW w with
    | none => rw [q] at e; cases e
    | some l =>
      rw [q] at e
      cases e
      exact ⟨x, mkS l, rfl, repr_ok h1 q, outS R h⟩
  · cases e
/-! ### f(..), f a function in a slot -/
def eCallV (i : Nat) (tab : Nat → Option (Nat × SE)) (fs : List SE) : SE := fun s => match s[i]? with
  | some (.fro (.fn k)) => (match tab k with
    | some (n, m) => if fs.length = n then eCall m fs s else .bad
    | none => .bad)
  | _ => .bad
theorem pe_callV {i : Nat} {nm : Str} {ta : TA} (hN : X.N[i]? = some nm) (hv : Vis X.env.scope nm) (hd : (nm == ("__debug__" : Str)) = false) (hcd : (nm == ("__classdict__" : Str)) = false) (hr : Room k X.A) (tk : Takes X Wx) (ha : PA X (e :: es) ta)
    (he : starEach (e :: es) X.env = (false, eval e X.env) :: starEach es X.env) (hpl : (backTo pos (starEach es X.env)).any (·.1) = false) :
    PE X (.Call (.Name nm p) (e :: es) [] pos) (fun σ H Q => ∃ (f : Addr) (fd : FuncData) (ps : List Str) (sp : Sp), σ[i]? = some (some (.ref f)) ∧ FnOk X.prog X.w X.K X.mg X.base (L2.CX X.prog X.w) k f fd ps sp ∧ PySem.W.keepIn X.K (.ref f) = true ∧ Binds X.K fd ps [] ∧ tCallS sp (WE Wx) ta σ H Q) := by
  refine ⟨fun pins st σ H Q I ⟨f, fd, ps, sp, hs, F, hk, hb, h⟩ => ?_⟩
  refine wpAny_Call_Name_kw (thn ((pe_var (pos := p) (i := i) hN hv hd hcd).run pins st σ H (fun v H1 => v = .ref f ∧ H1 = H) I ⟨.ref f, hs, rfl, rfl⟩) fun u s1 ⟨v, H1, I1, r1, ev, eH⟩ => ?_)
  subst ev
  subst eH
  obtain rfl : u = Value.ref f := r1
  refine PySem.W.callWith_K (h₀ := X.base) I1.ok.mod.kin hk (thn (ha.run pos pins s1 σ H1 _ I1 h) fun us s2 ⟨vs, H2, I2, r2, q2⟩ => ⟨I2.kIn, ?_⟩) he hpl
  exact run_fnS F hr hb (passAt tk σ) I2 r2 q2
end
end Qs
/-! # A def that calls what it is given, its except clauses told by tables -/
namespace Qs
open PySem PySem.Spec PyProof.Rows L2 Qx
/-- an item of what a clause returns: a text, a text and the repr of what the exception keeps, the repr, the thing itself -/
inductive HI where
  | s (x : List Nat)
  | sr (x : List Nat)
  | r
  | a
def HI.use : HI → Bool
  | .s _ => false
  | _ => true
def HI.reps : HI → Bool
  | .sr _ => true
  | .r => true
  | _ => false
def itemW (arg : Option W) : HI → Option W
  | .s x => some (.str x)
  | .sr x => arg.bind fun w => (reprW w).bind fun y => guard' (decide (x.length + y.length ≤ lim)) (.str (x ++ y))
  | .r => arg.bind fun w => (reprW w).map fun y => .str y
  | .a => arg
def itemsW (arg : Option W) : List HI → Option (List W)
  | [] => some []
  | i :: is => (itemW arg i).bind fun w => (itemsW arg is).map fun ws => w :: ws
structure Met where
  hs : List (Nat × List HI)
  fin : W
def handW (ex : Nat → Nat → Bool) (x : Ex) : List (Nat × List HI) → Option W
  | [] => none
  | q :: l => if ex x.cls q.1 then (if q.2.any HI.use && !(x.cls == q.1) then none else (itemsW x.arg q.2).bind fun ws => guard' (decide (ws.length ≤ lim)) (.tup ws)) else handW ex x l
def hideS (s : S) : S := s.map fun
  | .own _ _ => .un
  | x => x
def eMet (ex : Nat → Nat → Bool) (M : Met) (fb : SE) : SE := fun s => nfLs (hideS s) fun s' => match fb s' with
  | .ok _ => .ok (.fro M.fin, s)
  | .exc x => (ofO (handW ex x M.hs)).bind fun w => .ok (.fro w, s)
  | .bad => .bad
/-! ### the machine's side of a clause -/
/-- the item's value; K, fl: the field; d: the exception's dict -/
def itV (K : PySem.W.Frag) (fl : Str) (d : Option Addr) (H : Hp) : HI → V → Prop
  | .s x, v => v = .str (mkS x)
  | .sr x, v => ∃ (dd : Addr) (w : V) (t : Str), d = some dd ∧ H dd = some (.xd [(fl, w)]) ∧ Shows K H w t ∧ (mkS x).length + t.length ≤ sizeLine ∧ v = .str (mkS x ++ t)
  | .r, v => ∃ (dd : Addr) (w : V) (t : Str), d = some dd ∧ H dd = some (.xd [(fl, w)]) ∧ Shows K H w t ∧ v = .str t
  | .a, v => ∃ dd : Addr, d = some dd ∧ H dd = some (.xd [(fl, v)])
def itemA (nm : Option Str) (fl : Str) : Expr → Option HI
  | .Constant (.str x) _ _ => some (.s x.cps.toList)
  | .BinOp (.Constant (.str x) _ _) .Add (.Call (.Name f _) [.Attribute (.Name e _) g _] [] _) _ => if f = "repr" ∧ nm = some e ∧ g = fl then some (.sr x.cps.toList) else none
  | .Call (.Name f _) [.Attribute (.Name e _) g _] [] _ => if f = "repr" ∧ nm = some e ∧ g = fl then some .r else none
  | .Attribute (.Name e _) g _ => if nm = some e ∧ g = fl then some .a else none
  | _ => none
/-- what the context must give for a clause of the class at C -/
structure ClOk (rp : Bool) (X : Cx) (C : Addr) (fl : Str) (nm : Option Str) (i : Nat) : Prop where
  xf : XfC X.K C
  no : PySem.W.findIn X.K (.ref C) fl = some none
  gd : X.A.guards = some []
  un : X.A.units + 64 < cLine
  rg : rp = true → Gl X "repr"
  rm : X.mg "repr" = none
  nd : X.N.Nodup
  nm : ∀ e, nm = some e → X.N[i]? = some e ∧ Vis X.env.scope e ∧ (e == ("__debug__" : Str)) = false ∧ (e == ("__classdict__" : Str)) = false
section
variable {c : Cst} {Wx : WX} {rp : Bool} {X : Cx} {C a : Addr} {fl : Str} {nm : Option Str} {i : Nat} {oe : Obj} {cls : Value} {d : Option Addr} {pn : List (Addr × Obj)}
def tIt (K : PySem.W.Frag) (C a : Addr) (cls : Value) (d : Option Addr) (fl : Str) (i : Nat) (it : HI) : TE := fun σ H Q => ∃ v, itV K fl d H it v ∧ (it.use = true → cls = .ref C ∧ σ[i]? = some (some (.ref a))) ∧ Q v H
theorem pe_attr (G : ClOk rp X C fl nm i) (hz : Zc cls d oe) (hf : ∃ vs, oe.data = .fields vs) {e : Str} {p pos : Pos} (he : nm = some e) : PE (X.suite a ((a, oe) :: pn)) (.Attribute (.Name e p) fl pos) (tIt X.K C a cls d fl i .a) := by
  obtain ⟨h1, h2, h3, h4⟩ := G.nm e he
  have hv : PE (X.suite a ((a, oe) :: pn)) (.Name e p) (tVar i) := pe_var h1 h2 h3 h4
  refine pe_imp (pe_xf G.xf G.no hz hf hv) fun σ H Q ⟨v, ⟨dd, e1, e2⟩, hc, q⟩ => ?_
  obtain ⟨h5, h6⟩ := hc rfl
  exact ⟨.ref a, h6, rfl, h5, dd, _, v, e1, e2, by rw [List.lookup_cons, beq_self_eq_true], q⟩
theorem pe_rep (hrp : rp = true) (G : ClOk rp X C fl nm i) (hz : Zc cls d oe) (hf : ∃ vs, oe.data = .fields vs) {e : Str} {p p2 p3 pos : Pos} (he : nm = some e) : PE (X.suite a ((a, oe) :: pn)) (.Call (.Name "repr" p2) [.Attribute (.Name e p) fl p3] [] pos) (tIt X.K C a cls d fl i .r) := by
  have h := pe_callB (X := X.suite a ((a, oe) :: pn)) (p := p2) (pos := pos) (call_reprD (X := X.suite a ((a, oe) :: pn)) G.gd G.un) (by exact G.rg hrp) (by exact G.rm) (by decide +kernel) (pa_cons (pe_attr G hz hf (p := p) (pos := p3) he) pa_nil)
  exact pe_imp h fun σ H Q ⟨v, ⟨dd, w, t, e1, e2, sh, ev⟩, hc, q⟩ => ⟨w, ⟨dd, e1, e2⟩, hc, w, t, rfl, sh, ev ▸ q⟩
theorem item_ok (G : ClOk rp X C fl nm i) (hz : Zc cls d oe) (hf : ∃ vs, oe.data = .fields vs) {e : Expr} {it : HI} (h : itemA nm fl e = some it) (hi : it.reps = true → rp = true) : PE (X.suite a ((a, oe) :: pn)) e (tIt X.K C a cls d fl i it) ∧ PySem.W.isStarred e = false := by
  unfold itemA at h
  split at h
  · rename_i x j p
    cases h
    refine ⟨pe_imp pe_str fun σ H Q ⟨v, e1, _, q⟩ => ?_, rfl⟩
    have e1 : v = .str (mkS x.cps.toList) := e1
    rw [e1, mkS_list] at q
    exact q
  · split at h
    · rename_i x j p f p2 e p3 g p4 p5 p6 hh
      obtain ⟨rfl, h2, rfl⟩ := hh
      cases h
      refine ⟨pe_imp (pe_op op_add_str pe_str (pe_rep (hi rfl) G hz hf h2)) fun σ H Q ⟨v, ⟨dd, w, t, e1, e2, a1, a2, ev⟩, hc, q⟩ => ?_, rfl⟩
      refine ⟨.str t, ⟨dd, w, t, e1, e2, a1, rfl⟩, hc, x, t, rfl, rfl, ?_, ?_⟩
      · rw [mkS_list] at a2; exact a2
      · rw [ev, mkS_list] at q; exact q
    · cases h
  · split at h
    · rename_i hh
      obtain ⟨rfl, h2, rfl⟩ := hh
      cases h
      exact ⟨pe_rep (hi rfl) G hz hf h2, rfl⟩
    · cases h
  · split at h
    · rename_i hh
      obtain ⟨h2, rfl⟩ := hh
      cases h
      exact ⟨pe_attr G hz hf h2, rfl⟩
    · cases h
  · cases h
def itemsA (nm : Option Str) (fl : Str) : List Expr → Option (List HI)
  | [] => some []
  | e :: es => (itemA nm fl e).bind fun i => (itemsA nm fl es).map fun is => i :: is
def tIts (K : PySem.W.Frag) (C a : Addr) (cls : Value) (d : Option Addr) (fl : Str) (i : Nat) (is : List HI) : TA := fun σ H Q => ∃ vs, Paired (itV K fl d H) is vs ∧ (is.any HI.use = true → cls = .ref C ∧ σ[i]? = some (some (.ref a))) ∧ Q vs H
theorem pa_imp {X : Cx} {es : List Expr} {t t' : TA} (h : PA X es t) (k : ∀ σ H Q, t' σ H Q → t σ H Q) : PA X es t' := ⟨fun pos pins s σ H Q I hq => h.run pos pins s σ H Q I (k σ H Q hq)⟩
theorem items_ok' (G : ClOk rp X C fl nm i) (hz : Zc cls d oe) (hf : ∃ vs, oe.data = .fields vs) : ∀ {es : List Expr} {is : List HI}, itemsA nm fl es = some is → (is.any HI.reps = true → rp = true) → PA (X.suite a ((a, oe) :: pn)) es (tIts X.K C a cls d fl i is)
  | [], is, h, _ => by
    cases h
    exact pa_imp pa_nil fun σ H Q ⟨vs, h1, _, q⟩ => by cases h1; exact q
  | e :: es, is, h, hi => by
    unfold itemsA at h
    cases h1 : itemA nm fl e with
    | none => rw [h1] at h; cases h
    | some it =>
      cases h2 : itemsA nm fl es with
      | none => rw [h1, h2] at h; cases h
      | some is' =>
        rw [h1, h2] at h
        cases h
        obtain ⟨g1, g2⟩ := item_ok (a := a) (oe := oe) (pn := pn) (cls := cls) (d := d) G hz hf h1 (fun z => hi (by rw [List.any_cons, z]; rfl))
        refine pa_imp (pa_cons' g1 (items_ok' G hz hf h2 (fun z => hi (by rw [List.any_cons, z, Bool.or_true]))) g2) fun σ H Q ⟨vs, hv, hc, q⟩ => ?_
        cases hv with
        | cons hv1 hv2 =>
          exact ⟨_, hv1, fun z => hc (by rw [List.any_cons, z]; rfl), _, hv2, fun z => hc (by rw [List.any_cons, z, Bool.or_true]), q⟩
/-- a clause's suite -/
def tsM (K : PySem.W.Frag) (C : Addr) (fl : Str) (i : Nat) (is : List HI) : Addr → Value → Option Addr → TS := fun a cls d D σ H =>
  ∃ vs, Paired (itV K fl d H) is vs ∧ (is.any HI.use = true → cls = .ref C ∧ σ[i]? = some (some (.ref a))) ∧ vs.length ≤ sizeLine ∧ ∀ p, H p = none → D.rt (.ref p) (upd H p (.tup vs))
theorem suite_ok (G : ClOk rp X C fl nm i) {es : List Expr} {is : List HI} {n : Nat} {p q : Pos} (h : itemsA nm fl es = some is) (hi : is.any HI.reps = true → rp = true) : SuiteOk X [.Return (some (.Tuple es n p)) q] (tsM X.K C fl i is) :=
  fun a o cl d pn hz hf => pss_one (ps_imp (ps_ret (pe_tup (items_ok' (a := a) (oe := o) (pn := pn) (cls := cl) (d := d) G hz hf h hi))) fun D σ H ⟨vs, h1, h2, h3, h4⟩ => ⟨vs, h1, h2, h3, h4⟩)
end
end Qs
/-! # .. such a def's text; what it makes of a lambda -/
namespace Qs
open PySem PySem.Spec PyProof.Rows L2 Qx LamX
/-- a class by its name: k its place -/
def ClsFact (c : Cst) (K : PySem.W.Frag) (mg : Str → Option Value) (x : Str) (k : Nat) : Prop := ∃ C, c.T.cl k = some C ∧ mg x = some (.ref C) ∧ XfC K C ∧ PySem.W.findIn K (.ref C) (c.fld k) = some none ∧
  ∀ j D, c.T.cl j = some D → PySem.W.exmOne K (.ref D) (.ref C) = some (c.ex j k)
abbrev HC : Type := Nat × Option Str × List HI
def clauseA (cl : Str → Option Nat) (fld : Nat → Str) : ExceptHandler → Option HC
  | .ExceptHandler (some (.Name x _)) nm [.Return (some (.Tuple es _ _)) _] _ => (cl x).bind fun k => (itemsA nm (fld k) es).map fun is => (k, nm, is)
  | _ => none
def clausesA (cl : Str → Option Nat) (fld : Nat → Str) : List ExceptHandler → Option (List HC)
  | [] => some []
  | h :: hs => (clauseA cl fld h).bind fun q => (clausesA cl fld hs).map fun qs => q :: qs
def flatA : Expr → Option W
  | .Constant .none _ _ => some .non
  | .Constant (.str x) _ _ => some (.str x.cps.toList)
  | _ => none
def flatsA : List Expr → Option (List W)
  | [] => some []
  | .Constant (.str x) _ _ :: es => (flatsA es).map fun ws => .str x.cps.toList :: ws
  | _ => none
def finA : Option Expr → Option W
  | none => some .non
  | some (.Tuple es _ _) => (flatsA es).bind fun ws => guard' (decide (ws.length ≤ lim)) (.tup ws)
  | some e => flatA e
def fV : W → V
  | .str x => .str (mkS x)
  | _ => .non
def finR (w : W) (Q : VK) (H : Hp) : Prop := match w with
  | .tup ws => ∀ p, H p = none → Q (.ref p) (upd H p (.tup (ws.map fV)))
  | w => Q (fV w) H
theorem flats_ok {X : Cx} : ∀ {es : List Expr} {ws : List W}, flatsA es = some ws → PA X es (fun _ H Q => Q (ws.map fV) H)
  | [], ws, h => by cases h; exact pa_nil
  | .Constant (.str x) j p :: es, ws, h => by
    unfold flatsA at h
    cases h1 : flatsA es with
    | none => rw [h1] at h; cases h
    | some us =>
      rw [h1] at h
      cases h
      refine pa_imp (pa_cons' pe_str (flats_ok h1) rfl) fun σ H Q q => ?_
      have q : Q (.str (mkS x.cps.toList) :: us.map fV) H := q
      rw [mkS_list] at q
      exact q
  | .Constant .none _ _ :: _, _, h => by unfold flatsA at h; cases h
  | .Constant (.bool _) _ _ :: _, _, h => by unfold flatsA at h; cases h
  | .Constant (.int _) _ _ :: _, _, h => by unfold flatsA at h; cases h
theorem fin_ok {X : Cx} {fe : Option Expr} {w : W} {pos : Pos} (h : finA fe = some w) : PS X (.Return fe pos) (fun D _ H => finR w D.rt H) := by
  unfold finA at h
  split at h
  · cases h
    exact ps_imp ps_retN fun D σ H q => q
  · rename_i es n p
    cases h1 : flatsA es with
    | none => rw [h1] at h; cases h
    | some ws =>
      rw [h1] at h
      obtain ⟨g, rfl⟩ := guard'_some h
      refine ps_imp (ps_ret (pe_tup (flats_ok h1))) fun D σ H q => ⟨?_, q⟩
      rw [List.length_map, lim_eq]
      exact of_decide_eq_true g
  · unfold flatA at h
    split at h
    · cases h
      exact ps_imp (ps_ret pe_non) fun D σ H q => q
    · rename_i x j p z
      cases h
      refine ps_imp (ps_ret pe_str) fun D σ H q => ?_
      have q : D.rt (.str (mkS x.cps.toList)) H := q
      rw [mkS_list] at q
      exact q
    · cases h
/-! ### the clauses -/
section
variable {c : Cst} {Wx : WX}
def ixO (N : List Str) : Option Str → Nat
  | some e => N.idxOf e
  | none => 0
def clC (c : Cst) (k : Nat) : Addr := (c.T.cl k).getD 0
def clauseL (c : Cst) (K : PySem.W.Frag) (N : List Str) (q : HC) : Clause := (.ref (clC c q.1), q.2.1.map fun e => N.idxOf e, tsM K (clC c q.1) (c.fld q.1) (ixO N q.2.1) q.2.2)
/-- what the context of the def must give -/
structure MetOk (rp : Bool) (c : Cst) (X : Cx) (cl : Str → Option Nat) (qs : List HC) : Prop where
  gd : X.A.guards = some []
  un : X.A.units + 64 < cLine
  rg : rp = true → Gl X "repr"
  rq : ∀ q ∈ qs, q.2.2.any HI.reps = true → rp = true
  rm : X.mg "repr" = none
  nd : X.N.Nodup
  cl : ∀ y k, cl y = some k → ClsFact c X.K X.mg y k ∧ Gl X y ∧ (y == ("__debug__" : Str)) = false
  nm : ∀ q ∈ qs, ∀ e, q.2.1 = some e → X.N[X.N.idxOf e]? = some e ∧ X.env.scope.names.lookup e = some .local ∧ (e == ("__debug__" : Str)) = false ∧ (e == ("__classdict__" : Str)) = false
theorem mix_ok {rp : Bool} {X : Cx} {cl : Str → Option Nat} : ∀ {hs : List ExceptHandler} {qs : List HC}, MetOk rp c X cl qs → clausesA cl c.fld hs = some qs → MixOk X hs (qs.map (clauseL c X.K X.N))
  | [], qs, _, h => by cases h; exact .nil
  | h0 :: hs, qs, G, h => by
    unfold clausesA at h
    cases h1 : clauseA cl c.fld h0 with
    | none => rw [h1] at h; cases h
    | some q =>
      cases h2 : clausesA cl c.fld hs with
      | none => rw [h1, h2] at h; cases h
      | some qs' =>
        rw [h1, h2] at h
        cases h
        have ih := mix_ok (hs := hs) ⟨G.gd, G.un, G.rg, fun q hq => G.rq q (List.mem_cons_of_mem _ hq), G.rm, G.nd, G.cl, fun q hq => G.nm q (List.mem_cons_of_mem _ hq)⟩ h2
        unfold clauseA at h1
        split at h1
        · rename_i x p1 nm es n p2 p3 p4
          cases h3 : cl x with
          | none => rw [h3] at h1; cases h1
          | some k =>
            cases h4 : itemsA nm (c.fld k) es with
            | none => simp only [h3, Option.bind_some, h4] at h1; cases h1
            | some is =>
              simp only [h3, Option.bind_some, h4, Option.map_some, Option.some.injEq] at h1
              subst h1
              obtain ⟨⟨C, c1, c2, c3, c4, _⟩, hg, hdb⟩ := G.cl x k h3
              have eC : clC c k = C := by unfold clC; rw [c1]; rfl
              have K1 : ClOk rp X C (c.fld k) nm (ixO X.N nm) := ⟨c3, c4, G.gd, G.un, G.rg, G.rm, G.nd, fun e he => by
                subst he
                obtain ⟨a1, a2, a3, a4⟩ := G.nm _ List.mem_cons_self e rfl
                exact ⟨a1, .inl a2, a3, a4⟩⟩
              have su := suite_ok (n := n) (p := p2) (q := p3) K1 h4 (G.rq _ List.mem_cons_self)
              cases nm with
              | none =>
                rw [List.map_cons]
                show MixOk X _ ((.ref (clC c k), none, tsM X.K (clC c k) (c.fld k) _ is) :: _)
                rw [eC]
                exact .bare ⟨hg, hdb, .inl c2⟩ su ih
              | some e =>
                obtain ⟨a1, a2, _, _⟩ := G.nm _ List.mem_cons_self e rfl
                rw [List.map_cons]
                show MixOk X _ ((.ref (clC c k), some (X.N.idxOf e), tsM X.K (clC c k) (c.fld k) _ is) :: _)
                rw [eC]
                exact .named ⟨hg, hdb, .inl c2⟩ a1 a2 su ih
        · cases h1
theorem wMix_any {K : PySem.W.Frag} {D : Ends} {cls : Value} {d : Option Addr} {H : Hp} {σ σ' : L2.St} : ∀ {l : List Clause}, wMix K D l cls d σ H → wMix K D l cls d σ' H
  | [], h => h
  | q :: l, ⟨b, h1, h2, h3⟩ => ⟨b, h1, h2, fun z => wMix_any (h3 z)⟩
def rtD (Q : VK) : Ends := { nx := fun _ _ => False, rt := Q }
def TTm (K : PySem.W.Frag) (l : List Clause) (w : W) : (XK → Hp → VK → Prop) → Hp → VK → Prop := fun tl H Q => tl (fun cls d H' => wMix K (rtD Q) l cls d [] H') H fun _ H' => finR w Q H'
theorem wMix_rt {K : PySem.W.Frag} {D D' : Ends} (h : D.rt = D'.rt) {cls : Value} {d : Option Addr} {H : Hp} {σ : L2.St} : ∀ {l : List Clause}, wMix K D l cls d σ H → wMix K D' l cls d σ H
  | [], h => h
  | q :: l, ⟨b, h1, h2, h3⟩ => ⟨b, h1, fun z a ha σ2 hs => by
      have e : rtE D = rtE D' := by unfold rtE; rw [h]
      rw [← e]; exact h2 z a ha σ2 hs, fun z => wMix_rt h (h3 z)⟩
theorem met_gives {rp : Bool} {X : Cx} {Ng : List Str} {x a q : Str} {sg : Scope} {g : Addr} {cdg : Value} {h0 : ExceptHandler} {hs : List ExceptHandler} {fe : Option Expr} {p1 p2 p3 p4 p5 : Pos} {cl : Str → Option Nat} {qs : List HC} {w : W}
    (hc : clausesA cl c.fld (h0 :: hs) = some qs) (hf : finA fe = some w) (G : ∀ (s : Shared) (H : Hp), MetOk rp c (cxOf C8.CX0 X.prog X.w X.K X.mg X.base Ng x sg g cdg X.A X.stack s H C8.E0).nox cl qs) (h0a : ∀ f : Addr, (L2.start Ng [V.ref f])[0]? = some (some (V.ref f))) :
    GivesTo X Ng x sg g cdg [.Try [.Expr (.Call (.Name a p1) [] [] p2) p3] (h0 :: hs) [] [] p4, .Return fe p5] a q (TTm X.K (qs.map (clauseL c X.K Ng)) w) := by
  intro f c' s H Q tl act hco h
  have mx := mix_ok (G s H) hc
  refine ⟨_, pss_cons (ps_try_mix (X := (cxOf C8.CX0 X.prog X.w X.K X.mg X.base Ng x sg g cdg X.A X.stack s H C8.E0).nox)
      (tb := fun W D σ H => ∃ Ech : XK, (∀ cls d σ' H', Ech cls d H' → W cls d σ' H') ∧ σ[0]? = some (some (.ref f)) ∧ H c' = some (CodeO c' q) ∧ tl Ech H fun _ H' => D.nx σ H')
      rfl rfl (G s H).nd (fun W pn xe tk _ => ?_) mx) (pss_one (fin_ok hf)), ?_⟩
  · refine ⟨fun pins s' σ H' D I ⟨Ech, hW, h1, h2, h3⟩ => ?_⟩
    have hp := act W pn xe Ech p1 p2 tk hW
    exact (pss_one (ps_expr (pos := p3) hp rfl)).run pins s' σ H' D I ⟨h1, h2, h3⟩
  · exact ⟨fun cls d H' => wMix X.K (rtD Q) (qs.map (clauseL c X.K Ng)) cls d [] H', fun cls d σ' H' z => by
      have y := wMix_any (σ' := σ') z
      refine wMix_rt (D := rtD Q) ?_ y
      rfl, h0a f, hco, h⟩
end
end Qs
/-! # f(lambda: ..) for such a def: sound -/
namespace Qs
open PySem PySem.Spec PyProof.Rows L2 Qx LamX
section
variable {c : Cst} {Wx : WX} {P P' : Addr → Prop} {s s1 : S} {σ : L2.St} {H H1 H' : Hp} {Q : VK}
theorem hide_get {i : Nat} {x : Sl} (h : (hideS s)[i]? = some x) (hx : x ≠ .un) : s[i]? = some x ∧ ∀ p w, x ≠ .own p w := by
  unfold hideS at h
  rw [List.getElem?_map] at h
  cases q : s[i]? with
  | none => rw [q] at h; cases h
  | some y =>
    rw [q] at h
    cases y with
    | un => cases h; exact absurd rfl hx
    | fro w => cases h; exact ⟨rfl, fun p w => fun z => nomatch z⟩
    | own p w => cases h; exact absurd rfl hx
theorem own_hide {a : Addr} : ¬ Own (hideS s) σ a := fun ⟨i, p, w, e, _⟩ => (hide_get e (fun z => nomatch z)).2 p w rfl
theorem tbl_not {o : HO} (h : ¬ Tbl o) : ∀ ps, o ≠ .tbl ps := fun ps z => h (by rw [z]; exact trivial)
theorem rel_hide (R : Rel c P s σ H) (st : LamStep H H1) (T1 : Tabs c.tbs H1) : Rel c P (hideS s) σ H1 where
  len := by unfold hideS; rw [List.length_map]; exact R.len
  fro := fun i w e => by
    obtain ⟨v, e2, r⟩ := R.fro i w (hide_get e (fun z => nomatch z)).1
    refine ⟨v, e2, Rep.mono ⟨fun _ h => h, fun a o q h => st.1 a o q (tbl_not ?_)⟩ _ _ r⟩
    rcases h with h | h
    · cases o <;> first | exact h.elim | exact fun z => z
    · exact h.2
  own := fun i p w e => absurd rfl ((hide_get e (fun z => nomatch z)).2 p w)
  inj := fun i j p q u w a e => absurd rfl ((hide_get e (fun z => nomatch z)).2 p u)
  tbs := T1
  dom := fun a h => st.2 a (R.dom a h)
/-- the slots as they were -/
theorem unhide (R : Rel c P s σ H) (st : LamStep H H1) (keep : ∀ a o, H1 a = some o → ¬ Tbl o → H' a = some o) (there : ∀ a, H1 a ≠ none → H' a ≠ none) (pin : ∀ a, P a → P' a) (new : ∀ a, P' a → P a ∨ H1 a = none) (tbs : Tabs c.tbs H')
    (dom : ∀ a, P' a → H' a ≠ none) : StE P s σ H P' s H' ∧ Rel c P' s σ H' := by
  have kk : ∀ a o, H a = some o → ¬ Tbl o → H' a = some o := fun a o e n => keep a o (st.1 a o e (tbl_not n)) n
  have nn : ∀ a, P' a → P a ∨ H a = none := fun a e => by
    rcases new a e with z | z
    · exact .inl z
    · refine .inr ?_
      cases q : H a with
      | none => rfl
      | some o => exact absurd z (st.2 a (by rw [q]; exact fun z => nomatch z))
  have kp : Kp P P' H H' := ⟨pin, fun a o e h => kk a o e (by
    rcases h with h | h
    · cases o <;> first | exact h.elim | exact fun z => z
    · exact h.2)⟩
  refine ⟨⟨⟨fun a o e _ n => kk a o e n, fun a e => there a (st.2 a e), pin, fun a e => ?_, fun a e => .inl e, fun i w e => ⟨⟨w, e⟩, rfl⟩⟩, fun i => .inl rfl⟩, ⟨R.len, fun i w e => ?_, fun i p w e => ?_, R.inj, tbs, dom⟩⟩
  · rcases nn a e with z | z
    · exact .inl z
    · exact .inr (.inl z)
  · obtain ⟨v, e2, r⟩ := R.fro i w e
    exact ⟨v, e2, Rep.mono kp _ _ r⟩
  · obtain ⟨a, e2, n, q⟩ := R.own i p w e
    obtain ⟨o, eo, _, _⟩ := Cell.ex q
    refine ⟨a, e2, fun z => ?_, Cell.mono kp q fun o e nt => kk a o e nt⟩
    rcases nn a z with z | z
    · exact n z
    · rw [eo] at z; cases z
/-- what a clause returns, by the exception's tree and by the machine's -/
theorem items_rep {x : Ex} {cls : Value} {d : Option Addr} {fl : Str} (xr : XRel c P' H' x cls d) : ∀ {is : List HI} {ws : List W}, (is.any HI.use = true → fl = c.fld x.cls) → itemsW x.arg is = some ws → ∃ vs, Paired (itV c.K fl d H') is vs ∧ Reps c.T c.K P' H' ws vs
  | [], ws, _, h => by cases h; exact ⟨[], .nil, Reps.nil⟩
  | it :: is, ws, hu, h => by
    unfold itemsW at h
    cases h1 : itemW x.arg it with
    | none => rw [h1] at h; cases h
    | some w =>
      cases h2 : itemsW x.arg is with
      | none => rw [h1, h2] at h; cases h
      | some us =>
        rw [h1, h2] at h
        cases h
        obtain ⟨vs, p, r⟩ := items_rep xr (is := is) (fun z => hu (by rw [List.any_cons, z, Bool.or_true])) h2
        have key : ∃ v, itV c.K fl d H' it v ∧ Rep c.T c.K P' H' w v := by
          have kept : it.use = true → ∀ u, x.arg = some u → ∃ dd v, d = some dd ∧ H' dd = some (.xd [(fl, v)]) ∧ Rep c.T c.K P' H' u v := fun z u e => by
            have e2 := hu (by rw [List.any_cons, z]; rfl)
            have y := xr.2
            rw [e] at y
            obtain ⟨dd, v, e3, e4, e5⟩ := y
            exact ⟨dd, v, e3, by rw [e2]; exact e4, e5⟩
          cases it with
          | s y => cases h1; exact ⟨_, rfl, rep_str⟩
          | a =>
            obtain ⟨dd, v, e3, e4, e5⟩ := kept rfl w h1
            exact ⟨v, ⟨dd, e3, e4⟩, e5⟩
          | r =>
            have h1 : (x.arg.bind fun w => (reprW w).map fun y => W.str y) = some w := h1
            cases ea : x.arg with
            | none => rw [ea] at h1; cases h1
            | some u =>
              rw [ea] at h1
              cases er : reprW u with
              | none => simp only [Option.bind_some, er, Option.map_none] at h1; cases h1
              | some y =>
                simp only [Option.bind_some, er, Option.map_some, Option.some.injEq] at h1
                subst h1
                obtain ⟨dd, v, e3, e4, e5⟩ := kept rfl u ea
                exact ⟨.str (mkS y), ⟨dd, v, mkS y, e3, e4, repr_ok (Rep.view e5) er, rfl⟩, rep_str⟩
          | sr z =>
            have h1 : (x.arg.bind fun w => (reprW w).bind fun y => guard' (decide (z.length + y.length ≤ lim)) (W.str (z ++ y))) = some w := h1
            cases ea : x.arg with
            | none => rw [ea] at h1; cases h1
            | some u =>
              rw [ea] at h1
              cases er : reprW u with
              | none => simp only [Option.bind_some, er, Option.bind_none] at h1; cases h1
              | some y =>
                simp only [Option.bind_some, er] at h1
                obtain ⟨g, rfl⟩ := guard'_some h1
                obtain ⟨dd, v, e3, e4, e5⟩ := kept rfl u ea
                refine ⟨.str (mkS z ++ mkS y), ⟨dd, v, mkS y, e3, e4, repr_ok (Rep.view e5) er, ?_, rfl⟩, ?_⟩
                · rw [mkS_len, mkS_len, lim_eq]; exact of_decide_eq_true g
                · rw [mkS_app]; exact rep_str
        obtain ⟨v, k1, k2⟩ := key
        exact ⟨v :: vs, .cons k1 p, Reps.cons k2 r⟩
/-- texts alone -/
def strOnly : W → Bool
  | .str _ => true
  | _ => false
def finF : W → Bool
  | .tup ws => ws.all strOnly
  | .str _ => true
  | .non => true
  | _ => false
theorem reps_fin : ∀ {ws : List W}, ws.all strOnly = true → Reps c.T c.K P' H' ws (ws.map fV)
  | [], _ => Reps.nil
  | .str x :: ws, h => Reps.cons (v := .str (mkS x)) rep_str (reps_fin (by rw [List.all_cons, Bool.and_eq_true] at h; exact h.2))
  | .non :: _, h => by cases h
  | .bl _ :: _, h => by cases h
  | .int _ :: _, h => by cases h
  | .tup _ :: _, h => by cases h
  | .lst _ :: _, h => by cases h
  | .dic _ _ :: _, h => by cases h
  | .fn _ :: _, h => by cases h
  | .cl _ :: _, h => by cases h
  | .ty _ :: _, h => by cases h
  | .ins _ _ :: _, h => by cases h
  | .scr _ :: _, h => by cases h
theorem fin_out {w : W} (hf : finF w = true) (t : StE P s σ H P' s H') (R : Rel c P' s σ H') (h : Out c Wx σ P s H Q (.ok (.fro w, s))) : finR w Q H' := by
  have h2 := Out.at_ h t R
  cases w with
  | tup ws => exact fun p hp => h2.tup R (reps_fin hf) p hp
  | str x => exact outS R h2
  | non => exact h2.flat R rep_non
  | _ => cases hf
structure ClausesOk (c : Cst) (qs : List HC) : Prop where
  cl : ∀ q ∈ qs, ∃ C, c.T.cl q.1 = some C ∧ ∀ j D, c.T.cl j = some D → PySem.W.exmOne c.K (.ref D) (.ref C) = some (c.ex j q.1)
  use : ∀ q ∈ qs, q.2.2.any HI.use = true → ∃ e, q.2.1 = some e
theorem mix_of {x : Ex} {cls : Value} {d : Option Addr} {w : W} {N : List Str} (xr : XRel c P' H' x cls d) (t : StE P s σ H P' s H') (R : Rel c P' s σ H') (h : Out c Wx σ P s H Q (.ok (.fro w, s))) :
    ∀ {qs : List HC}, ClausesOk c qs → handW c.ex x (qs.map fun q => (q.1, q.2.2)) = some w → wMix c.K (rtD Q) (qs.map (clauseL c c.K N)) cls d [] H'
  | [], _, e => by cases e
  | q :: qs, G, e => by
    obtain ⟨C, hT, hex⟩ := G.cl q List.mem_cons_self
    obtain ⟨Cx, hx, ec⟩ := xr.1
    have eC : clC c q.1 = C := by unfold clC; rw [hT]; rfl
    rw [List.map_cons] at e
    unfold handW at e
    refine ⟨c.ex x.cls q.1, ?_, fun hb a ha σ2 hs => ?_, fun hb => ?_⟩
    · show PySem.W.exmOne c.K cls (.ref (clC c q.1)) = _
      rw [ec, eC]
      exact hex _ _ hx
    · rw [if_pos hb] at e
      split at e
      · cases e
      · rename_i nu
        cases h1 : itemsW x.arg q.2.2 with
        | none => rw [h1] at e; cases e
        | some ws =>
          rw [h1] at e
          obtain ⟨g, rfl⟩ := guard'_some e
          have hu : q.2.2.any HI.use = true → x.cls = q.1 := fun z => by
            rw [z] at nu
            simpa using nu
          obtain ⟨vs, p1, r1⟩ := items_rep (fl := c.fld q.1) xr (fun z => by rw [hu z]) h1
          refine ⟨vs, p1, fun z => ⟨?_, ?_⟩, ?_, fun p hp => (Out.at_ h t R).tup R r1 p hp⟩
          · rw [ec, eC]
            have := hu z
            rw [this, hT] at hx
            cases hx; rfl
          · obtain ⟨e3, h3⟩ := G.use q List.mem_cons_self z
            refine hs _ ?_
            show q.2.1.map _ = _
            rw [h3]; rfl
          · rw [← r1.length, lim_eq]; exact of_decide_eq_true g
    · rw [if_neg (by rw [hb]; exact Bool.false_ne_true)] at e
      exact mix_of xr t R h ⟨fun q hq => G.cl q (List.mem_cons_of_mem _ hq), fun q hq => G.use q (List.mem_cons_of_mem _ hq)⟩ e
theorem rd_met {M : Met} {qs : List HC} {N : List Str} {fb : SE} (hM : M.hs = qs.map fun q => (q.1, q.2.2)) (hf : finF M.fin = true) (G : ClausesOk c qs) (h : rd c Wx (eMet c.ex M fb) σ H Q) :
    tMet c.tbs (TTm c.K (qs.map (clauseL c c.K N)) M.fin) (fun E => rd c (fun cls d _ H => E cls d H) fb) σ H Q := by
  obtain ⟨P, s, R, h⟩ := h
  refine ⟨R.tbs, fun H1 st T1 => ⟨P, hideS s, rel_hide R st T1, ?_⟩⟩
  unfold eMet at h
  rw [nfLs_eq] at h
  cases e : fb (hideS s) with
  | bad => rw [e] at h; exact h.elim
  | ok pr =>
    obtain ⟨r, s1⟩ := pr
    rw [e] at h
    intro v P' H' t R' rv
    obtain ⟨t2, R2⟩ := unhide R st (fun a o e n => t.keep a o e own_hide n) t.there t.pin (fun a z => by
      rcases t.new a z with z | z | z
      · exact .inl z
      · exact .inr z
      · exact absurd z own_hide) R'.tbs R'.dom
    exact fin_out hf t2 R2 h
  | exc x =>
    rw [e] at h
    dsimp only at h
    intro cls d P' H' u xr
    cases ew : handW c.ex x M.hs with
    | none => rw [ew] at h; exact h.elim
    | some w =>
      rw [ew] at h
      obtain ⟨t2, R2⟩ := unhide R st (fun a o e n => u.keep a o e own_hide n) u.there u.pin (fun a z => by
        rcases u.new a z with z | z | z
        · exact .inl z
        · exact .inr z
        · exact absurd z own_hide) u.tbs u.dom
      rw [hM] at ew
      exact mix_of xr t2 R2 h G ew
end
end Qs
/-! # f(lambda: g(..)) where the arguments change own lists: they are worked out first, the call itself knows none of them -/
namespace Qs
open PySem PySem.Spec PyProof.Rows L2 Qx LamX
def argL : List SE → S → Res (List R × S)
  | [], s => .ok ([], s)
  | f :: fs, s => (f s).bind fun p => (argL fs p.2).bind fun q => .ok (p.1 :: q.1, q.2)
def isFroS : Sl → Bool
  | .fro _ => true
  | _ => false
def metEnd (ex : Nat → Nat → Bool) (M : Met) (s : S) : Res (R × S) → Res (R × S)
  | .ok _ => .ok (.fro M.fin, s)
  | .exc x => (ofO (handW ex x M.hs)).bind fun w => .ok (.fro w, s)
  | .bad => .bad
def eMetA (ex : Nat → Nat → Bool) (M : Met) (m : SE) (fs : List SE) : SE := fun s => match argL (fs.map eFz) s with
  | .ok p => (ofO (argsS p.2 p.1)).bind fun as => chk (as.all isFroS) (metEnd ex M p.2 (m as))
  | _ => .bad
def eMetF (ex : Nat → Nat → Bool) (M : Met) (fb m : SE) (fs : List SE) : SE := fun s => match eMet ex M fb s with
  | .bad => eMetA ex M m fs s
  | r => r
section
variable {c : Cst} {Wx Wy : WX} {P P0 P1 P' : Addr → Prop} {s s0 s1 : S} {σ : L2.St} {H H0 H1 H' : Hp} {Q : VK}
theorem argL_bind : ∀ (fs : List SE) (k : List R → SE) (s : S), bindL fs k s = (argL fs s).bind fun p => k p.1 p.2
  | [], k, s => rfl
  | f :: fs, k, s => by
    show (f s).bind (fun p => bindL fs (fun rs => k (p.1 :: rs)) p.2) = ((f s).bind fun p => (argL fs p.2).bind fun q => .ok (p.1 :: q.1, q.2)).bind fun p => k p.1 p.2
    cases f s with
    | ok p =>
      simp only [Res.bind_ok]
      rw [argL_bind fs]
      cases argL fs p.2 <;> rfl
    | exc x => rfl
    | bad => rfl
theorem rel_show (R : Rel c P s σ H) (st : LamStep H H1) (T1 : Tabs c.tbs H1) : Rel c P s σ H1 where
  len := R.len
  fro := fun i w e => by
    obtain ⟨v, e2, r⟩ := R.fro i w e
    refine ⟨v, e2, Rep.mono ⟨fun _ h => h, fun a o q h => st.1 a o q (tbl_not ?_)⟩ _ _ r⟩
    rcases h with h | h
    · cases o <;> first | exact h.elim | exact fun z => z
    · exact h.2
  own := fun i p w e => by
    obtain ⟨a, e2, n, q⟩ := R.own i p w e
    refine ⟨a, e2, n, Cell.mono ⟨fun _ h => h, fun a o q h => st.1 a o q (tbl_not ?_)⟩ q fun o e nt => st.1 a o e (tbl_not nt)⟩
    rcases h with h | h
    · cases o <;> first | exact h.elim | exact fun z => z
    · exact h.2
  inj := R.inj
  tbs := T1
  dom := fun a h => st.2 a (R.dom a h)
/-- a step from behind the lambda's making is one from ahead of it -/
theorem StE.lam (st : LamStep H H1) (t : StE P s σ H1 P' s1 H') : StE P s σ H P' s1 H' := by
  have nn : ∀ a, H1 a = none → H a = none := fun a z => by
    cases q : H a with
    | none => rfl
    | some o => exact absurd z (st.2 a (by rw [q]; exact fun z => nomatch z))
  refine ⟨⟨fun a o e n nt => t.keep a o (st.1 a o e (tbl_not nt)) n nt, fun a e => t.there a (st.2 a e), t.pin, fun a e => ?_, fun a e => ?_, t.par⟩, t.sl⟩
  · rcases t.new a e with z | z | z
    · exact .inl z
    · exact .inr (.inl (nn a z))
    · exact .inr (.inr z)
  · rcases t.own a e with z | z
    · exact .inl z
    · exact .inr (nn a z)
theorem lamStep_refl : LamStep H H := ⟨ExtN.refl H, fun _ z => z⟩
theorem own_fro {as : S} {τ : L2.St} {a : Addr} (h : as.all isFroS = true) : ¬ Own as τ a := fun ⟨i, p, w, e, _⟩ => by
  have := List.all_eq_true.mp h _ (List.mem_of_getElem? e)
  cases this
theorem argL_len : ∀ (gs : List SE) (s : S) (rs : List Qs.R) (s' : S), argL gs s = .ok (rs, s') → rs.length = gs.length := by
  intro gs
  induction gs with
  | nil => intro s rs s' e; cases e; rfl
  | cons g gs ih =>
    intro s rs s' e
    unfold argL at e
    cases q : g s with
    | bad => rw [q] at e; cases e
    | exc x => rw [q] at e; cases e
    | ok p =>
      rw [q] at e
      simp only [Res.bind_ok] at e
      cases q2 : argL gs p.2 with
      | bad => rw [q2] at e; cases e
      | exc x => rw [q2] at e; cases e
      | ok r =>
        rw [q2] at e
        cases e
        simp [ih _ _ _ q2]
open Classical in
theorem rd_metA {M : Met} {qs : List HC} {N : List Str} {m : SE} {fs : List SE} {n : Nat} (hn : fs.length = n) (hM : M.hs = qs.map fun q => (q.1, q.2.2)) (hf : finF M.fin = true) (G : ClausesOk c qs) (h : rd c Wx (eMetA c.ex M m fs) σ H Q) :
    tMet c.tbs (TTm c.K (qs.map (clauseL c c.K N)) M.fin) (fun E => tCallS (spM c n m) (WE (fun cls d _ H => E cls d H)) (tArgs c (fun cls d _ H => E cls d H) (fs.map eFz))) σ H Q := by
  obtain ⟨P, s, R, h⟩ := h
  refine ⟨R.tbs, fun H1 st T1 => ?_⟩
  unfold eMetA at h
  cases ea : argL (fs.map eFz) s with
  | bad => rw [ea] at h; exact h.elim
  | exc x => rw [ea] at h; exact h.elim
  | ok p =>
    obtain ⟨rs0, s1⟩ := p
    rw [ea] at h
    dsimp only at h
    cases es : argsS s1 rs0 with
    | none => rw [es] at h; exact h.elim
    | some as =>
      simp only [es, ofO_some, Res.bind_ok] at h
      unfold chk at h
      split at h
      case isFalse => exact h.elim
      rename_i hfr
      have R1 := rel_show R st T1
      let Ech : XK := fun cls d H' => wMix c.K (rtD Q) (qs.map (clauseL c c.K N)) cls d [] H'
      show tArgs c (fun cls d _ H => Ech cls d H) (fs.map eFz) σ H1 fun vs H2 => spM c n m vs H2 (fun _ H' => finR M.fin Q H') (WE (fun cls d _ H => Ech cls d H) σ)
      let kk : List Qs.R → SE := fun rs s' => if rs = rs0 ∧ s' = s1 then .ok (.fro .non, s') else .bad
      have hb : Out c (fun cls d _ H => Ech cls d H) σ P s H1 (fun _ _ => True) (bindL (fs.map eFz) kk s) := by
        rw [argL_bind, ea]
        show Out c _ σ P s H1 _ (kk rs0 s1)
        show Out c _ σ P s H1 _ (if rs0 = rs0 ∧ s1 = s1 then .ok (.fro .non, s1) else .bad)
        rw [if_pos ⟨rfl, rfl⟩]
        exact fun _ _ _ _ _ _ => trivial
      have key := args_aux (c := c) (Wx := fun cls d _ H => Ech cls d H) (σ := σ) (Q := fun _ _ => True) (fs.map eFz) kk (fun vs H2 => spM c n m vs H2 (fun _ H' => finR M.fin Q H') (WE (fun cls d _ H => Ech cls d H) σ)) P s H1 [] [] R1 StE.refl R1 .nil (by simpa using hb)
        (fun P2 s2 rs xs H2 t R2 ra hk => by
          have hk : Out c _ σ P s H1 _ (if rs = rs0 ∧ s2 = s1 then .ok (.fro .non, s2) else .bad) := hk
          by_cases z : rs = rs0 ∧ s2 = s1
          · obtain ⟨rfl, rfl⟩ := z
            obtain ⟨RA, oA⟩ := rel_args R2 ra es (by
              have : ownIx s2 rs = [] := by
                cases q : ownIx s2 rs with
                | nil => rfl
                | cons i l =>
                  exfalso
                  have gen : ∀ (rs : List Qs.R) (as : S) (i : Nat) (l : List Nat), argsS s2 rs = some as → ownIx s2 rs = i :: l → as.all isFroS = true → False := by
                    intro rs
                    induction rs with
                    | nil => intro as i l _ e _; cases e
                    | cons r rs ih =>
                      intro as i l e1 e2 e3
                      unfold argsS at e1
                      cases q1 : argS s2 r with
                      | none => rw [q1] at e1; cases e1
                      | some a =>
                        cases q2 : argsS s2 rs with
                        | none => rw [q1, q2] at e1; cases e1
                        | some bs =>
                          rw [q1, q2] at e1
                          cases e1
                          rw [List.all_cons, Bool.and_eq_true] at e3
                          unfold ownIx at e2
                          cases q3 : ownI s2 r with
                          | none => rw [q3] at e2; exact ih bs i l q2 e2 e3.2
                          | some j =>
                            cases r with
                            | fro w => cases q3
                            | new w => cases q3
                            | bor b =>
                              rw [argS_bor] at q1
                              have q3 : (match s2[b]? with | some (.own _ _) => some b | _ => none) = some j := q3
                              cases q4 : s2[b]? with
                              | none => rw [q4] at q1; cases q1
                              | some sl =>
                                rw [q4] at q1 q3
                                cases sl with
                                | un => cases q1
                                | fro w => cases q3
                                | own p w =>
                                  cases q1
                                  cases e3.1
                  exact gen rs as i l es q hfr
              rw [this]
              exact List.nodup_nil)
            refine ⟨by rw [← paired_len ra]; exact (argL_len _ _ _ _ ea).trans (by rw [List.length_map, hn]), P2, as, RA, ?_⟩
            · have t0 : StE P s σ H P2 s2 H2 := StE.lam st t
              cases em : m as with
              | bad => rw [em] at h; exact h.elim
              | ok pr =>
                obtain ⟨r, as'⟩ := pr
                rw [em] at h
                intro v P' H' tc Rc rv
                obtain ⟨t3, R3⟩ := unhide R2 lamStep_refl (fun a o e nt => tc.keep a o e (own_fro hfr) nt) tc.there tc.pin (fun a z => by
                  rcases tc.new a z with z | z | z
                  · exact .inl z
                  · exact .inr z
                  · exact absurd z (own_fro hfr)) Rc.tbs Rc.dom
                have h : Out c Wx σ P s H Q (.ok (.fro M.fin, s2)) := h
                exact fin_out hf t3 R3 (Out.at_ h t0 R2)
              | exc x =>
                rw [em] at h
                have h : Out c Wx σ P s H Q ((ofO (handW c.ex x M.hs)).bind fun w => .ok (.fro w, s2)) := h
                intro cls d P' H' u xr
                cases ew : handW c.ex x M.hs with
                | none => rw [ew] at h; exact h.elim
                | some w =>
                  rw [ew] at h
                  have h : Out c Wx σ P s H Q (.ok (.fro w, s2)) := h
                  obtain ⟨t3, R3⟩ := unhide R2 lamStep_refl (fun a o e nt => u.keep a o e (own_fro hfr) nt) u.there u.pin (fun a z => by
                    rcases u.new a z with z | z | z
                    · exact .inl z
                    · exact .inr z
                    · exact absurd z (own_fro hfr)) u.tbs u.dom
                  rw [hM] at ew
                  exact mix_of xr t3 R3 (Out.at_ h t0 R2) G ew
          · rw [if_neg z] at hk
            exact hk.elim)
      simpa using key
end
end Qs
/-! # f(g(..)): what is new is handed on as the callee's own -/
namespace Qs
open PySem PySem.Spec PyProof.Rows L2
section
variable {c : Cst} {Wx : WX} {P P' P'' : Addr → Prop} {s s1 as' : S} {σ : L2.St} {H H' H'' : Hp} {Q : VK} {w : W} {f : SE} {a : Addr}
def eCallP (m : SE) (f : SE) : SE := fun s => match f s with
  | .ok (.new w, s1) => (m [.own false w]).bind fun p => (match p.1 with
    | .bor _ => .bad
    | r => .ok (r, s1))
  | _ => eCall m [f] s
theorem own_one {b : Addr} (h : Own [Sl.own false w] [some (V.ref a)] b) : b = a := by
  obtain ⟨i, p, u, e1, e2⟩ := h
  cases i with
  | zero => cases e2; rfl
  | succ i => cases e1
theorem rel_one (R : Rel c P s1 σ H) (n : ¬ P a) (q : Cell c.T c.K P H w a) : Rel c P [Sl.own false w] [some (V.ref a)] H := by
  refine ⟨rfl, fun i u e => ?_, fun i p u e => ?_, fun i j p q u w b e1 e2 _ _ => ?_, R.tbs, R.dom⟩
  · cases i with
    | zero => cases e
    | succ i => cases e
  · cases i with
    | zero => cases e; exact ⟨a, rfl, n, q⟩
    | succ i => cases e
  · cases i with
    | zero => cases j with
      | zero => rfl
      | succ j => cases e2
    | succ i => cases e1
/-- the call seen from its caller, the argument new -/
theorem callO_out {m : SE} (t : StE P s σ H P' s1 H') (R : Rel c P' s1 σ H') (n : ¬ P' a) (no : ¬ Own s1 σ a) (hn : H a = none) (q : Cell c.T c.K P' H' w a)
    (h : Out c Wx σ P s H Q ((m [.own false w]).bind fun p => (match p.1 with
    | .bor _ => .bad
    | r => .ok (r, s1)))) : Out c (fun cls d _ H' => Wx cls d σ H') [some (V.ref a)] P' [Sl.own false w] H' Q (m [.own false w]) := by
  have RA := rel_one R n q
  have ne : ∀ {b : Addr} {o : HO}, H b = some o → ¬ Own [Sl.own false w] [some (V.ref a)] b := fun e z => by
    rw [own_one z, hn] at e; cases e
  have nn : ∀ {b : Addr}, H' b = none → H b = none := fun {b} z => by
    cases y : H b with
    | none => rfl
    | some o => exact absurd z (t.there b (by rw [y]; exact fun z => nomatch z))
  have newP : ∀ {b : Addr}, (P' b ∨ H' b = none ∨ Own [Sl.own false w] [some (V.ref a)] b) → P b ∨ H b = none ∨ Own s σ b := fun {b} z => by
    rcases z with z | z | z
    · exact t.new b z
    · exact .inr (.inl (nn z))
    · exact .inr (.inl (by rw [own_one z]; exact hn))
  cases em : m [.own false w] with
  | bad => rw [em] at h; exact h.elim
  | exc x =>
    rw [em] at h
    intro cls d P2 H2 u xr
    exact h cls d P2 H2 ⟨fun b o e n nt => u.keep b o (t.keep b o e n nt) (ne e) nt, fun b z => u.pin b (t.pin b z), fun b z => newP (u.new b z), u.tbs, u.dom, fun b z => u.there b (t.there b z)⟩ xr
  | ok pr =>
    obtain ⟨r, as'⟩ := pr
    rw [em] at h
    intro v P2 H2 u R2 rv
    have kp := Stp.kp RA u.toStp
    have t2 : StE P s σ H P2 s1 H2 := ⟨⟨fun b o e n nt => u.keep b o (t.keep b o e n nt) (ne e) nt, fun b z => u.there b (t.there b z), fun b z => u.pin b (t.pin b z), fun b z => newP (u.new b z), t.own, t.par⟩, t.sl⟩
    have ob : ∀ {b : Addr}, Own s1 σ b → ¬ Own [Sl.own false w] [some (V.ref a)] b := fun z y => by
      rw [own_one y] at z; exact no z
    have RR : Rel c P2 s1 σ H2 := by
      refine ⟨R.len, fun i u' e => ?_, fun i p u' e => ?_, R.inj, R2.tbs, R2.dom⟩
      · obtain ⟨v', e1, e2⟩ := R.fro i u' e
        exact ⟨v', e1, Rep.mono kp _ _ e2⟩
      · obtain ⟨b, e1, e2, e3⟩ := R.own i p u' e
        have oo : Own s1 σ b := ⟨i, p, u', e, e1⟩
        refine ⟨b, e1, fun z => ?_, Cell.mono kp e3 fun o eo nt => u.keep b o eo (ob oo) nt⟩
        rcases u.new b z with z | z | z
        · exact e2 z
        · obtain ⟨o, eo, _⟩ := Cell.ex e3
          rw [z] at eo; cases eo
        · exact ob oo z
    cases r with
    | bor i => exact h.elim
    | fro z => exact h v P2 H2 t2 RR rv
    | new z =>
      obtain ⟨b, rfl, n1, n2, n3, n4⟩ := rv
      refine h _ P2 H2 t2 RR ⟨b, rfl, n1, fun y => ?_, nn n3, n4⟩
      obtain ⟨i, p, w', e1, e2⟩ := y
      obtain ⟨b', e3, _, e4⟩ := R.own i p w' e1
      rw [e2] at e3; cases e3
      obtain ⟨o, eo, _⟩ := Cell.ex e4
      rw [n3] at eo; cases eo
theorem tArgs_fz : ∀ {fs : List SE} {σ : L2.St} {H : Hp} {Z : List V → Hp → Prop}, tArgs c Wx (fs.map eFz) σ H Z → tArgs c Wx fs σ H Z
  | [], _, _, _, h => h
  | f :: fs, σ, H, Z, h => by
    have h2 : rd c Wx (eFz f) σ H (fun v H1 => tArgs c Wx (fs.map eFz) σ H1 fun vs => Z (v :: vs)) := h
    have h3 := rd_fz h2
    obtain ⟨P, s, R, h4⟩ := h3
    exact ⟨P, s, R, h4.imp fun v H1 h5 => tArgs_fz h5⟩
theorem rd_callP {m : SE} {n : Nat} (hl : 1 = n) (h : rd c Wx (eCallP m f) σ H Q) : tCallS (spM c n m) (WE Wx) (tArgs c Wx [f]) σ H Q := by
  subst hl
  obtain ⟨P, s, R, h⟩ := h
  unfold eCallP at h
  split at h
  · rename_i w s1 e
    refine (?_ : rd c Wx f σ H _)
    refine ⟨P, s, R, ?_⟩
    rw [e]
    intro v P' H' t R' rv
    obtain ⟨a, rfl, n, no, hn, q⟩ := rv
    exact ⟨rfl, P', [.own false w], rel_one R' n q, callO_out t R' n no hn q h⟩
  · have := rd_call (m := m) (fs := [f]) (n := 1) rfl ⟨P, s, R, h⟩
    exact rd_fz (f := f) this
/-- f(x), x new: f's own, or as it is from then on -/
def eCallO (m : SE) (f : SE) : SE := fun s => match eCallP m f s with
  | .bad => eCall m [f] s
  | r => r
theorem rd_callO {m : SE} {n : Nat} (hl : 1 = n) (h : rd c Wx (eCallO m f) σ H Q) : tCallS (spM c n m) (WE Wx) (tArgs c Wx [f]) σ H Q := by
  obtain ⟨P, s, R, h⟩ := h
  unfold eCallO at h
  cases e : eCallP m f s with
  | bad =>
    rw [e] at h
    exact tArgs_fz (rd_call (m := m) (fs := [f]) (n := n) (by simpa using hl) ⟨P, s, R, h⟩)
  | ok p =>
    rw [e] at h
    exact rd_callP hl ⟨P, s, R, by rw [e]; exact h⟩
  | exc x =>
    rw [e] at h
    exact rd_callP hl ⟨P, s, R, by rw [e]; exact h⟩
/-- what is handed over stays as it is from then on -/
def eFr (f : SE) : SE := fun s => (f s).bind fun p => (ofO (frz p.2 p.1)).bind fun q => .ok (.fro q.1, q.2)
theorem rd_fr (h : rd c Wx (eFr f) σ H Q) : rd c Wx f σ H Q := by
  obtain ⟨P, s, R, h⟩ := h
  refine ⟨P, s, R, ?_⟩
  unfold eFr at h
  cases e : f s with
  | exc x => rw [e] at h; exact h
  | bad => rw [e] at h; exact h
  | ok p =>
    obtain ⟨r, s1⟩ := p
    rw [e] at h
    cases e2 : frz s1 r with
    | none =>
      have h' : Out c Wx σ P s H Q ((ofO (frz s1 r)).bind fun q => .ok (.fro q.1, q.2)) := h
      rw [e2] at h'
      exact h'.elim
    | some q =>
      have h' : Out c Wx σ P s H Q ((ofO (frz s1 r)).bind fun q => .ok (.fro q.1, q.2)) := h
      rw [e2] at h'
      intro v P' H' t R' rv
      obtain ⟨P2, t2, R2, rw2, _⟩ := frz_ok t R' rv e2
      exact h' v P2 H' t2 R2 rw2
/-- f(x), x a list's name: as it is, or from then on as it is -/
def eCallX (m f : SE) : SE := fun s => match eCall m [f] s with
  | .bad => eCall m [eFr f] s
  | r => r
theorem rd_callX {m : SE} {n : Nat} (hl : 1 = n) (h : rd c Wx (eCallX m f) σ H Q) : tCallS (spM c n m) (WE Wx) (tArgs c Wx [f]) σ H Q := by
  obtain ⟨P, s, R, h⟩ := h
  unfold eCallX at h
  cases e : eCall m [f] s with
  | bad =>
    rw [e] at h
    have h1 := rd_call (m := m) (fs := [eFr f]) (n := n) (by simpa using hl) ⟨P, s, R, h⟩
    exact rd_fr (tArgs_fz (fs := [eFr f]) h1)
  | ok p =>
    rw [e] at h
    exact tArgs_fz (rd_call (m := m) (fs := [f]) (n := n) (by simpa using hl) ⟨P, s, R, by rw [e]; exact h⟩)
  | exc x =>
    rw [e] at h
    exact tArgs_fz (rd_call (m := m) (fs := [f]) (n := n) (by simpa using hl) ⟨P, s, R, by rw [e]; exact h⟩)
end
end Qs
/-! # a, b = x, y by way of a tuple -/
namespace Qs
open PySem PySem.Spec PyProof.Rows L2
section
variable {c : Cst} {Wx : WX} {X : Cx} {D : Ends} {σ : L2.St} {H : Hp} {fa fb : SE} {a b : Expr} {pos : Pos}
theorem partup_rd {is : List Nat} {fs : List SE} (h : rdS c Wx (sPar is fs) D σ H) : tArgs c Wx fs σ H fun xs H1 => xs.length = is.length ∧ ∀ p, H1 p = none → D.nx (setsL is xs σ) (upd H1 p (.tup xs)) := by
  obtain ⟨P0, s0, R0, h⟩ := h
  have q := side_aux (ρ := sr0) (Q := D.nx) fs (asgL is) (fun xs H1 => xs.length = is.length ∧ ∀ p, H1 p = none → D.nx (setsL is xs σ) (upd H1 p (.tup xs))) P0 s0 H [] [] R0 StE.refl R0 ⟨.nil, (fun _ z => nomatch z), List.Pairwise.nil⟩ (by simpa using OutS.gt h)
    (fun P s rs xs H1 t R sd h => by
      by_cases hp : ∃ p, H1 p = none
      · obtain ⟨p0, hp0⟩ := hp
        have kp0 := keep_upd (o := .tup xs) hp0
        refine ⟨(asgL_all is rs xs s σ (t.trans (Stp.more kp0)).toStp (R.more kp0) (Side.over R (Stp.more kp0) sd) h).1, fun p hp => ?_⟩
        have kp := keep_upd (o := .tup xs) hp
        exact (asgL_all is rs xs s σ (t.trans (Stp.more kp)).toStp (R.more kp) (Side.over R (Stp.more kp) sd) h).2
      · exact ⟨(asgL_all is rs xs s σ t.toStp R sd h).1, fun p z => absurd ⟨p, z⟩ hp⟩)
  simpa using q
theorem ps_tup2 {i j : Nat} {nx ny : Str} {px py pt : Pos} {kt k2 pt2} (hK : X.K = c.K) (hc : X.calm = true) (hN : X.N.Nodup) (hi : X.N[i]? = some nx) (hj : X.N[j]? = some ny) (hx : Loc X.env.scope nx) (hy : Loc X.env.scope ny) (fx : X.fn nx = true) (fy : X.fn ny = true)
    (ha : PE X a (rd c Wx fa)) (hb : PE X b (rd c Wx fb)) (na : PySem.W.isStarred a = false) (nb : PySem.W.isStarred b = false)
    (hw : swappedStores [.Tuple [.Name nx px, .Name ny py] kt pt] (.Tuple [a, b] k2 pt2) X.env = pure none)
    (hs : swapsWithSole [.Tuple [.Name nx px, .Name ny py] kt pt] (.Tuple [a, b] k2 pt2) pos.line X.env = pure false) :
    PS X (.Assign [.Tuple [.Name nx px, .Name ny py] kt pt] (.Tuple [a, b] k2 pt2) pos) (rdS c Wx (sPar [i, j] [fa, fb])) :=
  ps_imp (ps_asg (pe_tup (pa_cons' ha (pa_cons' hb pa_nil nb) na)) (pg_tup (n := 2) hc (pgs_cons (pg_name hN hi hx (.inl fx)) (pgs_cons (pg_name hN hj hy (.inl fy)) pgs_nil))) hs hw) fun D σ H h => by
    have q := partup_rd h
    refine (?_ : ∀ (Z Z' : List V → Hp → Prop), (∀ xs H1, Z xs H1 → Z' xs H1) → tArgs c Wx [fa, fb] σ H Z → tArgs c Wx [fa, fb] σ H Z') _ _ ?_ q
    · exact fun Z Z' k h => rd_mono (fun x H1 h => rd_mono (fun y H2 h => k _ _ h) h) h
    · rintro xs H1 ⟨e, h⟩
      match xs, e with
      | [v, w], _ =>
        refine ⟨by show 2 ≤ sizeLine; rw [sizeLine_eq]; omega, fun p hp => ⟨p, [v, w], rfl, ?_, rfl, v, [w], rfl, w, [], rfl, rfl, h p hp⟩⟩
        exact .inl (.inl upd_same)
theorem ps_tup3 {i j l : Nat} {nx ny nz : Str} {d : Expr} {fd : SE} {px py pz pt : Pos} {kt k2 pt2} (hK : X.K = c.K) (hc : X.calm = true) (hN : X.N.Nodup) (hi : X.N[i]? = some nx) (hj : X.N[j]? = some ny) (hl : X.N[l]? = some nz) (hx : Loc X.env.scope nx) (hy : Loc X.env.scope ny) (hz : Loc X.env.scope nz) (fx : X.fn nx = true) (fy : X.fn ny = true) (fz : X.fn nz = true)
    (ha : PE X a (rd c Wx fa)) (hb : PE X b (rd c Wx fb)) (hd : PE X d (rd c Wx fd)) (na : PySem.W.isStarred a = false) (nb : PySem.W.isStarred b = false) (nd : PySem.W.isStarred d = false)
    (hw : swappedStores [.Tuple [.Name nx px, .Name ny py, .Name nz pz] kt pt] (.Tuple [a, b, d] k2 pt2) X.env = pure none)
    (hs : swapsWithSole [.Tuple [.Name nx px, .Name ny py, .Name nz pz] kt pt] (.Tuple [a, b, d] k2 pt2) pos.line X.env = pure false) :
    PS X (.Assign [.Tuple [.Name nx px, .Name ny py, .Name nz pz] kt pt] (.Tuple [a, b, d] k2 pt2) pos) (rdS c Wx (sPar [i, j, l] [fa, fb, fd])) :=
  ps_imp (ps_asg (pe_tup (pa_cons' ha (pa_cons' hb (pa_cons' hd pa_nil nd) nb) na)) (pg_tup (n := 3) hc (pgs_cons (pg_name hN hi hx (.inl fx)) (pgs_cons (pg_name hN hj hy (.inl fy)) (pgs_cons (pg_name hN hl hz (.inl fz)) pgs_nil)))) hs hw) fun D σ H h => by
    have q := partup_rd h
    refine (?_ : ∀ (Z Z' : List V → Hp → Prop), (∀ xs H1, Z xs H1 → Z' xs H1) → tArgs c Wx [fa, fb, fd] σ H Z → tArgs c Wx [fa, fb, fd] σ H Z') _ _ ?_ q
    · exact fun Z Z' k h => rd_mono (fun x H1 h => rd_mono (fun y H2 h => rd_mono (fun z H3 h => k _ _ h) h) h) h
    · rintro xs H1 ⟨e, h⟩
      match xs, e with
      | [v, w, z], _ =>
        refine ⟨by show 3 ≤ sizeLine; rw [sizeLine_eq]; omega, fun p hp => ⟨p, [v, w, z], rfl, ?_, rfl, v, [w, z], rfl, w, [z], rfl, z, [], rfl, rfl, h p hp⟩⟩
        exact .inl (.inl upd_same)
end
end Qs
/-! # Comprehensions with two fors -/
namespace Qs
open PySem PySem.Spec PyProof.Rows L2
section
variable {c : Cst} {Wx Wb : WX} {P P0 P1 P2 PB P' P6 : Addr → Prop} {s s' s0 s1 sF sN sB s6 : S} {σ σ0 σ' σB σ6 σ2 : L2.St} {H H0 H1 H2 H' H6 : Hp} {Q : VK} {vs vs1 : List Nat} {ft fe ft1 : SE} {fi fi1 : IE} {g g1 : GT} {D : Addr}
theorem wipe_sub (h : ∀ i ∈ vs1, i ∈ vs) : wipe (wipe σ vs1) vs = wipe σ vs := by
  apply List.ext_getElem?
  intro i
  by_cases hm : i ∈ vs
  · by_cases hl : i < σ.length
    · have h1 : i < (wipe (wipe σ vs1) vs).length := by rw [wipe_length, wipe_length]; exact hl
      have h2 : i < (wipe σ vs).length := by rw [wipe_length]; exact hl
      have e1 := wipe_in (List.getElem?_eq_getElem h1) hm
      have e2 := wipe_in (List.getElem?_eq_getElem h2) hm
      rw [List.getElem?_eq_getElem h1, List.getElem?_eq_getElem h2, e1, e2]
    · rw [List.getElem?_eq_none (by rw [wipe_length, wipe_length]; omega), List.getElem?_eq_none (by rw [wipe_length]; omega)]
  · rw [wipe_out hm, wipe_out hm, wipe_out fun z => hm (h i z)]
def compL2 (g : GT) (ft : SE) (fi1 : IE) (g1 : GT) (ft1 fe : SE) (vs vs1 : List Nat) : List W → S → Res (List W × S)
  | [], s => .ok ([], s)
  | w :: ws, s => (g (.fro w) s).bind fun s1 => (ft s1).bind fun p => match val p.2 p.1 with
    | some (.bl true) => (fi1 p.2).bind fun q => (compL g1 ft1 fe vs1 q.1 (wipeS q.2 vs1)).bind fun z => (compL2 g ft fi1 g1 ft1 fe vs vs1 ws (wipeS z.2 vs)).bind fun y => .ok (z.1 ++ y.1, y.2)
    | some (.bl false) => compL2 g ft fi1 g1 ft1 fe vs vs1 ws (wipeS p.2 vs)
    | _ => .bad
def lenMost2 : Nat := 1000000
def eLc2 (fi : IE) (g : GT) (ft : SE) (fi1 : IE) (g1 : GT) (ft1 fe : SE) (vs vs1 : List Nat) : SE := fun s => (fi s).bind fun p => (noX (compL2 g ft fi1 g1 ft1 fe vs vs1 p.1 (wipeS p.2 vs))).bind fun q => chk (decide (q.1.length ≤ lenMost2)) <| (ofO (backS vs 0 p.2 q.2)).bind fun s' => .ok (.new (.lst q.1), s')
/-- the list that grows, behind other steps -/
theorem list_stays {accW : List W} {acc : List V} (RB : Rel c PB sB σB H2) (hB : H2 D = some (.lst acc)) (nB : ¬ PB D) (oB : ¬ Own sB σB D) (rB : Reps c.T c.K PB H2 accW acc) (T : Stp PB sB σB H2 P6 s6 σ6 H6) :
    H6 D = some (.lst acc) ∧ ¬ P6 D ∧ ¬ Own s6 σ6 D ∧ Reps c.T c.K P6 H6 accW acc := by
  refine ⟨T.keep _ _ hB oB (fun z => z), fun z => ?_, fun z => ?_, Reps.mono (Stp.kp RB T) _ _ rB⟩
  · rcases T.new D z with z | z | z
    · exact nB z
    · rw [hB] at z; cases z
    · exact oB z
  · rcases T.own D z with z | z
    · exact oB z
    · rw [hB] at z; cases z
/-- where the block stands: from (P1, s1, σ1, H1) at the start -/
structure At (c : Cst) (P1 : Addr → Prop) (s1 : S) (σ1 : L2.St) (H1 : Hp) (D : Addr) (σB : L2.St) (H' : Hp) (PB : Addr → Prop) (sB : S) (accW : List W) (acc : List V) : Prop where
  st : Stp P1 s1 σ1 H1 PB sB σB H'
  rl : Rel c PB sB σB H'
  hd : H' D = some (.lst acc)
  rp : Reps c.T c.K PB H' accW acc
  np : ¬ PB D
  no : ¬ Own sB σB D
theorem At.step {accW : List W} {acc : List V} (a : At c P1 s1 σ0 H1 D σB H2 PB sB accW acc) (T : Stp PB sB σB H2 P6 s6 σ6 H6) (R : Rel c P6 s6 σ6 H6) : At c P1 s1 σ0 H1 D σ6 H6 P6 s6 accW acc := by
  obtain ⟨f1, f2, f3, f4⟩ := list_stays a.rl a.hd a.np a.no a.rp T
  exact ⟨a.st.trans T, R, f1, f4, f2, f3⟩
theorem At.wiped {accW : List W} {acc : List V} (a : At c P1 s1 σ0 H1 D σB H2 PB sB accW acc) : At c P1 s1 σ0 H1 D (wipe σB vs) H2 PB (wipeS sB vs) accW acc := by
  obtain ⟨t, R⟩ := rel_wipe (vs := vs) a.rl
  exact a.step t R
theorem At.app {accW : List W} {acc : List V} {u : W} {y : V} (hD : H1 D = none) (a : At c P1 s1 σ0 H1 D σB H2 PB sB accW acc) (ru : Rep c.T c.K PB H2 u y) : At c P1 s1 σ0 H1 D σB (upd H2 D (.lst (acc ++ [y]))) PB sB (accW ++ [u]) (acc ++ [y]) := by
  have kl := kp_loose (l' := acc ++ [y]) a.hd a.np
  exact ⟨stp_loose a.st hD, rel_loose (l' := acc ++ [y]) a.rl a.hd a.np a.no, upd_same, Reps.app (Reps.mono kl _ _ a.rp) (Reps.cons (Rep.mono kl _ _ ru) Reps.nil), a.np, a.no⟩
/-- the inner for -/
theorem lc2_inner {J1 : It} {ws1 wsM : List W} {sJ : S} {H4 : Hp} {accW l : List W} {acc : List V} {Nx : Hp → Prop} (hD : H1 D = none) (wk : Wk c J1 ws1 P6 H4) (hs : ∀ H' PB acc, At c P1 s1 σ0 H1 D (wipe σ2 vs1) H' PB sJ wsM acc → Nx H') (hl : wsM.length ≤ lenMost2)
    (a : At c P1 s1 σ0 H1 D (wipe σ2 vs1) H4 P6 sB accW acc) (eL : compL g1 ft1 fe vs1 ws1 sB = .ok (l, sJ)) (eA : accW ++ l = wsM) :
    ∃ W1 : Nat → Nat → Hp → Prop, (∃ m, W1 0 m H4) ∧ ∀ j k H, W1 j k H → (J1.stop j H ∧ Nx H) ∨ (J1.go j H ∧ ∃ Nx1 : Hp → Prop, (∀ H', Nx1 H' → ∃ k', k' < k ∧ W1 (j + 1) k' H') ∧ ∀ x H', J1.yld j H x H' → rdG c Wb (srW vs1) g1 x (wipe σ2 vs1) H' fun σ3 H5 => wipe σ3 vs1 = wipe σ2 vs1 ∧ rdT c Wb ft1 σ3 H5 fun b H6 =>
      if b = true then rd c Wb fe σ3 H6 fun y H7 => ∃ acc, H7 D = some (.lst acc) ∧ acc.length < sizeLine ∧ Nx1 (upd H7 D (.lst (acc ++ [y]))) else Nx1 H6) := by
  refine ⟨fun j k H' => ∃ PB sB accW acc l, k = (ws1.drop j).length ∧ At c P1 s1 σ0 H1 D (wipe σ2 vs1) H' PB sB accW acc ∧ Kp P6 PB H4 H' ∧ compL g1 ft1 fe vs1 (ws1.drop j) sB = .ok (l, sJ) ∧ accW ++ l = wsM,
    ⟨_, P6, sB, accW, acc, l, rfl, a, ⟨fun _ h => h, fun _ _ e _ => e⟩, eL, eA⟩, ?_⟩
  rintro j k H2 ⟨PB, sB, accW, acc, l, rfl, aB, kB, eL, eA⟩
  cases q : ws1.drop j with
  | nil =>
    rw [q] at eL
    cases eL
    rw [List.append_nil] at eA
    subst eA
    exact .inl ⟨wk.stop PB H2 kB j (List.drop_eq_nil_iff.mp q), hs H2 PB acc aB⟩
  | cons w ws =>
    rw [q] at eL
    have ew : ws1[j]? = some w := by
      have := List.getElem?_drop (xs := ws1) (i := j) (j := 0)
      rw [q] at this
      simpa using this.symm
    have ed : ws1.drop (j + 1) = ws := by rw [← List.drop_drop, q]; rfl
    obtain ⟨g2, g3⟩ := wk.go PB H2 kB j w ew
    refine .inr ⟨g2, fun H' => ∃ PB sB accW acc l, ws.length = (ws1.drop (j + 1)).length ∧ At c P1 s1 σ0 H1 D (wipe σ2 vs1) H' PB sB accW acc ∧ Kp P6 PB H4 H' ∧ compL g1 ft1 fe vs1 (ws1.drop (j + 1)) sB = .ok (l, sJ) ∧ accW ++ l = wsM,
      fun H' nx => ⟨ws.length, by simp, nx⟩, fun x H3 hy => ?_⟩
    obtain ⟨ke, rx⟩ := g3 x H3 hy
    have t3 : Stp PB sB (wipe σ2 vs1) H2 PB sB (wipe σ2 vs1) H3 := (Stp.more ke).toStp
    have R3 := aB.rl.more ke
    refine rdG_fro R3 rx ?_
    unfold compL at eL
    cases e1 : g1 (.fro w) sB with
    | exc x => rw [e1] at eL; cases eL
    | bad => rw [e1] at eL; cases eL
    | ok s2 =>
      simp only [e1, Res.bind_ok] at eL
      intro σ4 P4 H5 t4 R4 hr
      have hr : wipe σ4 vs1 = wipe (wipe σ2 vs1) vs1 := hr
      rw [wipe_wipe] at hr
      refine ⟨hr, P4, s2, R4, ?_⟩
      cases e2 : ft1 s2 with
      | exc x => rw [e2] at eL; cases eL
      | bad => rw [e2] at eL; cases eL
      | ok p =>
        obtain ⟨r5, s5⟩ := p
        simp only [e2, Res.bind_ok] at eL
        intro v5 P5 H5' t5 R5 rv5
        have T5 := (t3.trans t4).trans t5.toStp
        split at eL
        · rename_i ev
          refine ⟨true, (rv5.view R5 ev).bl, ?_⟩
          refine (if_pos rfl).mpr ?_
          refine ⟨P5, s5, R5, ?_⟩
          cases e3 : fe s5 with
          | exc x => rw [e3] at eL; cases eL
          | bad => rw [e3] at eL; cases eL
          | ok p6 =>
            obtain ⟨r6, s6⟩ := p6
            simp only [e3, Res.bind_ok] at eL
            intro y P7 H7 t6 R6 ry
            cases e4 : frz s6 r6 with
            | none => rw [e4] at eL; cases eL
            | some u7 =>
              obtain ⟨u, s7⟩ := u7
              simp only [e4, ofO_some, Res.bind_ok] at eL
              obtain ⟨P8, t7, R7, ru, _⟩ := frz_ok t6 R6 ry e4
              have T7 := T5.trans t7.toStp
              have a7 := aB.step T7 R7
              cases e5 : compL g1 ft1 fe vs1 ws (wipeS s7 vs1) with
              | exc x => rw [e5] at eL; cases eL
              | bad => rw [e5] at eL; cases eL
              | ok z =>
                obtain ⟨l', s'⟩ := z
                simp only [e5, Res.bind_ok] at eL
                cases eL
                have hz : acc.length < sizeLine := by
                  rw [← aB.rp.length]
                  have h1 : (accW ++ u :: l').length = wsM.length := by rw [eA]
                  rw [List.length_append, List.length_cons] at h1
                  have : sizeLine = 16777216 := rfl
                  have : lenMost2 = 1000000 := rfl
                  omega
                refine ⟨acc, a7.hd, hz, ?_⟩
                have a8 := (At.app hD a7 ru (y := y)).wiped (vs := vs1)
                rw [hr] at a8
                exact ⟨P8, wipeS s7 vs1, accW ++ [u], acc ++ [y], l', by rw [ed], a8, kB.trans ((Stp.kp aB.rl T7).trans (kp_loose a7.hd a7.np)), by rw [ed]; exact e5, by rw [← eA]; simp⟩
        · rename_i ev
          refine ⟨false, (rv5.view R5 ev).bl, ?_⟩
          refine (if_neg (by decide)).mpr ?_
          have a8 := (aB.step T5 R5).wiped (vs := vs1)
          rw [hr] at a8
          exact ⟨P5, wipeS s5 vs1, accW, acc, l, by rw [ed], a8, kB.trans (Stp.kp aB.rl T5), by rw [ed]; exact eL, eA⟩
        · cases eL
theorem lc2_rd (hv : ∀ i ∈ vs1, i ∈ vs) : rd c Wx (eLc2 fi g ft fi1 g1 ft1 fe vs vs1) σ H Q → tLc2 (rdI c Wx fi) (rdG c Wb (srW vs) g) (rdT c Wb ft) (rdI c Wb fi1) (rdG c Wb (srW vs1) g1) (rdT c Wb ft1) (rd c Wb fe) vs vs1 σ H Q := fun ⟨P, s, R, h⟩ => by
  show rdI c Wx fi σ H _
  refine ⟨P, s, R, ?_⟩
  unfold eLc2 at h
  cases e : fi s with
  | exc x => rw [e] at h; exact h
  | bad => rw [e] at h; exact h.elim
  | ok pr =>
    obtain ⟨ws0, s1⟩ := pr
    simp only [e, Res.bind_ok] at h
    cases eC : noX (compL2 g ft fi1 g1 ft1 fe vs vs1 ws0 (wipeS s1 vs)) with
    | exc x => exfalso; cases q : compL2 g ft fi1 g1 ft1 fe vs vs1 ws0 (wipeS s1 vs) <;> rw [q] at eC <;> cases eC
    | bad => rw [eC] at h; exact h.elim
    | ok q =>
      obtain ⟨wsF, sF⟩ := q
      simp only [eC, Res.bind_ok] at h
      have eC := noX_ok eC
      unfold chk at h
      split at h
      case isFalse => exact h.elim
      rename_i hlen
      have hlen := of_decide_eq_true hlen
      cases eB : backS vs 0 s1 sF with
      | none => rw [eB] at h; exact h.elim
      | some sN =>
        simp only [eB, ofO_some, Res.bind_ok] at h
        intro J P1 H1 t1 R1 wk D hD
        have RD := R1.more (keep_upd (o := .lst []) hD)
        obtain ⟨tW, RW⟩ := rel_wipe (vs := vs) RD
        have tW : Stp P1 (wipeS s1 vs) (wipe σ vs) H1 P1 (wipeS s1 vs) (wipe σ vs) (upd H1 D (.lst [])) := (Stp.more (keep_upd hD)).toStp
        have nPD : ¬ P1 D := fun z => R1.dom D z hD
        have nOD : ¬ Own s1 σ D := fun z => by
          obtain ⟨_, w, q⟩ := R1.ownP z
          obtain ⟨o, eo, _⟩ := Cell.ex q
          rw [hD] at eo; cases eo
        refine ⟨fun i m H' => ∃ PB sB accW acc l, m = (ws0.drop i).length ∧ At c P1 (wipeS s1 vs) (wipe σ vs) H1 D (wipe σ vs) H' PB sB accW acc ∧ compL2 g ft fi1 g1 ft1 fe vs vs1 (ws0.drop i) sB = .ok (l, sF) ∧ accW ++ l = wsF,
          ⟨_, P1, _, [], [], wsF, rfl, ⟨tW, RW, upd_same, Reps.nil, nPD, fun z => nOD z.ofW⟩, eC, rfl⟩, ?_⟩
        rintro i m H2 ⟨PB, sB, accW, acc, l, rfl, aB, eL, eA⟩
        have kB : Kp P1 PB H1 H2 := Stp.kp (rel_wipe (vs := vs) R1).2 aB.st
        cases q : ws0.drop i with
        | nil =>
          rw [q] at eL
          cases eL
          rw [List.append_nil] at eA
          subst eA
          refine .inl ⟨wk.stop PB H2 kB i (List.drop_eq_nil_iff.mp q), ?_⟩
          obtain ⟨t2, R2, o2⟩ := back_ok R1 aB.st aB.rl eB
          exact h _ PB H2 (t1.trans t2) R2 ⟨D, rfl, aB.np, fun z => nOD (o2 _ z), t1.there' hD, acc, aB.hd, aB.rp⟩
        | cons w ws =>
          rw [q] at eL
          have ew : ws0[i]? = some w := by
            have := List.getElem?_drop (xs := ws0) (i := i) (j := 0)
            rw [q] at this
            simpa using this.symm
          have ed : ws0.drop (i + 1) = ws := by rw [← List.drop_drop, q]; rfl
          obtain ⟨g2, g3⟩ := wk.go PB H2 kB i w ew
          refine .inr ⟨g2, fun H' => ∃ PB sB accW acc l, ws.length = (ws0.drop (i + 1)).length ∧ At c P1 (wipeS s1 vs) (wipe σ vs) H1 D (wipe σ vs) H' PB sB accW acc ∧ compL2 g ft fi1 g1 ft1 fe vs vs1 (ws0.drop (i + 1)) sB = .ok (l, sF) ∧ accW ++ l = wsF,
            fun H' nx => ⟨ws.length, by simp, nx⟩, fun x H3 hy => ?_⟩
          obtain ⟨ke, rx⟩ := g3 x H3 hy
          have t3 : Stp PB sB (wipe σ vs) H2 PB sB (wipe σ vs) H3 := (Stp.more ke).toStp
          have R3 := aB.rl.more ke
          refine rdG_fro R3 rx ?_
          unfold compL2 at eL
          cases e1 : g (.fro w) sB with
          | exc x => rw [e1] at eL; cases eL
          | bad => rw [e1] at eL; cases eL
          | ok s2 =>
            simp only [e1, Res.bind_ok] at eL
            intro σ4 P4 H5 t4 R4 hr
            have hr : wipe σ4 vs = wipe (wipe σ vs) vs := hr
            rw [wipe_wipe] at hr
            refine ⟨hr, P4, s2, R4, ?_⟩
            cases e2 : ft s2 with
            | exc x => rw [e2] at eL; cases eL
            | bad => rw [e2] at eL; cases eL
            | ok p =>
              obtain ⟨r5, s5⟩ := p
              simp only [e2, Res.bind_ok] at eL
              intro v5 P5 H5' t5 R5 rv5
              have T5 := (t3.trans t4).trans t5.toStp
              split at eL
              · rename_i ev
                refine ⟨true, (rv5.view R5 ev).bl, ?_⟩
                refine (if_pos rfl).mpr ?_
                refine ⟨P5, s5, R5, ?_⟩
                cases e3 : fi1 s5 with
                | exc x => rw [e3] at eL; cases eL
                | bad => rw [e3] at eL; cases eL
                | ok p6 =>
                  obtain ⟨ws1, s6⟩ := p6
                  simp only [e3, Res.bind_ok] at eL
                  intro J1 P6 H6 t6 R6 wk1
                  have aw := (aB.step (T5.trans t6.toStp) R6).wiped (vs := vs1)
                  cases e4 : compL g1 ft1 fe vs1 ws1 (wipeS s6 vs1) with
                  | exc x => rw [e4] at eL; cases eL
                  | bad => rw [e4] at eL; cases eL
                  | ok z =>
                    obtain ⟨l1, sJ⟩ := z
                    simp only [e4, Res.bind_ok] at eL
                    cases e5 : compL2 g ft fi1 g1 ft1 fe vs vs1 ws (wipeS sJ vs) with
                    | exc x => rw [e5] at eL; cases eL
                    | bad => rw [e5] at eL; cases eL
                    | ok y =>
                      obtain ⟨l2, s'⟩ := y
                      simp only [e5, Res.bind_ok] at eL
                      cases eL
                      refine lc2_inner (wsM := accW ++ l1) hD wk1 (fun H' PE acc' aE => ?_) ?_ aw e4 rfl
                      · have a9 := aE.wiped (vs := vs)
                        rw [wipe_sub hv, hr] at a9
                        exact ⟨PE, wipeS sJ vs, accW ++ l1, acc', l2, by rw [ed], a9, by rw [ed]; exact e5, by rw [← eA]; simp⟩
                      · have h1 : (accW ++ (l1 ++ l2)).length = wsF.length := by rw [eA]
                        rw [List.length_append, List.length_append] at h1
                        rw [List.length_append]
                        omega
              · rename_i ev
                refine ⟨false, (rv5.view R5 ev).bl, ?_⟩
                refine (if_neg (by decide)).mpr ?_
                have a8 := (aB.step T5 R5).wiped (vs := vs)
                rw [hr] at a8
                exact ⟨P5, wipeS s5 vs, accW, acc, l, by rw [ed], a8, by rw [ed]; exact eL, eA⟩
              · cases eL
end
end Qs
/-! # Instances with slots that never change behind their __init__: made, read, asked for their class -/
namespace Qs
open PySem PySem.Spec PyProof.Rows L2
/-- no exception may leave -/
def noEx {α : Type} : Res α → Res α
  | .exc _ => .bad
  | r => r
def callR (m : SE) (rs : List R) : SE := fun s => (ofO (argsS s rs)).bind fun as => chk (decide (ownIx s rs).Nodup) <| (m as).bind fun p => (ofO (backA rs p.2 s)).bind fun s' => match p.1 with
  | .bor _ => .bad
  | r => .ok (r, s')
/-! ### attributes -/
/-- what stands for an attribute: a slot, a property -/
inductive AK where
  | slot (i : Nat)
  | prop (m : SE)
  | meth (m : SE)
def eAtt (l : List (Nat × AK)) (fe : SE) : SE := fun s => (fe s).bind fun p => match val p.2 p.1 with
  | some (.ins j ws) => (match l.lookup j with
    | some (.slot i) => (ofO ws[i]?).bind fun w => .ok (.fro w, p.2)
    | some (.prop m) => callR (fun as => noEx (m as)) [.fro (.ins j ws)] p.2
    | _ => .bad)
  | _ => .bad
/-- a property of the class at C: its getter at g -/
structure PropF (K : PySem.W.Frag) (C : Addr) (f : Str) (p g : Addr) : Prop where
  at_ : PySem.W.findIn K (.ref C) f = some (some (.ref p))
  get : PySem.W.specialIn K (.ref p) "__get__" = some (some (.builtin "property.__get__"))
  tk : PySem.W.takesIn K (.ref p) = some true
  rc : ∃ rest, PySem.W.recIn K p "property" = some (.ref g :: rest)
/-- a promise of a getter: nothing is raised -/
def spC (c : Cst) (n : Nat) (m : SE) : Sp := fun vs H Q _ => spM c n m vs H Q fun _ _ _ => False
/-- what the written part must say of an attribute of the class at place j -/
def AtOk (c : Cst) (k : Nat) (P : Program) (w : World) (K : PySem.W.Frag) (mg : Str → Option Value) (base : Heap) (f : Str) (j : Nat) : AK → Prop
  | .slot i => ∃ C p, c.T.ic j = some C ∧ L2.SCls K C ∧ L2.Slt K C f i p
  | .prop m => ∃ C p g kk, kk < k ∧ c.T.ic j = some C ∧ L2.SCls K C ∧ PropF K C f p g ∧ FnR P w K mg base CX0 kk g (spC c 1 m)
  | .meth m => ∃ C g kk, kk < k ∧ c.T.ic j = some C ∧ L2.SCls K C ∧ PySem.W.findIn K (.ref C) f = some (some (.ref g)) ∧ PySem.W.isFn K (.ref g) = true ∧ FnR P w K mg base CX0 kk g (spC c 2 m)
def tAtt (X : Cx) (ta : TE) (f : Str) : TE := fun σ H Q => ta σ H fun x H1 => ∃ a C dx vs, x = .ref a ∧ L2.SlAt H1 a C dx vs ∧ L2.SCls X.K C ∧
  ((∃ i p v, L2.Slt X.K C f i p ∧ vs[i]? = some (some v) ∧ Q v H1) ∨ (∃ p g sp kk, Room (kk + 1) X.A ∧ PropF X.K C f p g ∧ FnR X.prog X.w X.K X.mg X.base CX0 kk g sp ∧ sp [.ref a] H1 Q (fun _ _ _ => False)))
section
variable {c : Cst} {Wx : WX} {k n : Nat} {X : Cx} {P P0 P1 P2 P' : Addr → Prop} {s s' s0 s1 : S} {σ σ0 σ' : L2.St} {H H0 H1 H' : Hp} {Q : VK} {u w : W} {ws : List W} {vs xs : List V} {r : R} {x y v : V} {a b e : Expr} {es : List Expr} {fa fb fe : SE} {pos p p2 : Pos} {f : Str}
theorem pe_tAtt {ta : TE} (he : PE X e ta) (hb : attributeBase e f X.env (eval e X.env) = eval e X.env) : PE X (.Attribute e f pos) (tAtt X ta f) := by
  refine ⟨fun pins s σ H Q I h => ?_⟩
  refine attr_of hb (thn (he.run pins s σ H _ I h) fun u s1 ⟨x, H1, I1, rx, a, C, dx, vs, ex, ea, sc, q⟩ => ?_)
  subst ex
  obtain rfl : u = Value.ref a := rx
  rcases q with ⟨i, p, v, kk, l, q⟩ | ⟨p, g, sp, kk, hr, pf, F, q⟩
  · exact L2.getslot_ok I1 ea sc kk l fun u' s2 I2 ru => ⟨v, H1, I2, ru, q⟩
  · obtain ⟨us, od, _, _, J⟩ := slAt_get I1 ea
    obtain ⟨rest, hrec⟩ := pf.rc
    have I2 : Inv X pins σ H1 { s1 with toks := s1.toks + 1 } := I1.tok (s1.toks + 1)
    have pg : PySem.W.plainGet X.K C f = true := sc.pg
    refine PySem.W.get_bind I1.kIn J (PySem.W.plainGet_of pg).1 (PySem.W.findObj_data sc.ic pf.at_ pf.get pf.tk) (PySem.W.plainGet_of pg).2 (wpAny_call (PySem.W.prop_get (s := { s1 with toks := s1.toks + 1 }) I1.kIn hrec ?_))
    refine codeAny_mono (F X.A.in1 X.stack { s1 with toks := s1.toks + 1 } H1 [.ref a] [.ref a] Q _ hr.in1 I2.env0.in1 (.cons rfl .nil) q) fun r s' hq => ?_
    cases r with
    | error e => exact hq.elim
    | ok fl =>
      cases fl with
      | ret u =>
        obtain ⟨v, H', I3, rv, q⟩ := I2.after hq
        exact wpAny_of_eq (PySem.W.handedOut_of (handed_of rv)) ⟨v, H', I3, rv, q⟩
      | next => exact False.elim hq
      | brk => exact False.elim hq
      | cont => exact False.elim hq
theorem callR_out {m : SE} {rs : List R} (R : Rel c P s σ H) (ra : Paired (fun r v => RvR c P s σ H0 H r v) rs xs) (h : Out c Wx σ P s H Q (callR m rs s)) : ∃ P as, Rel c P as (xs.map some) H ∧ Out c (fun cls d _ H' => Wx cls d σ H') (xs.map some) P as H Q (m as) := call_out R ra h
theorem noEx_out {W1 W2 : WX} {res : Res (R × S)} (h : Out c W1 σ P s H Q (noEx res)) : Out c W2 σ P s H Q res := by
  cases res with
  | ok p => exact h
  | exc x => exact h.elim
  | bad => exact h.elim
theorem pe_att {l : List (Nat × AK)} (he : PE X e (rd c Wx fe)) (hr : Room k X.A) (ha : ∀ j ak, l.lookup j = some ak → AtOk c k X.prog X.w X.K X.mg X.base f j ak) (hb : attributeBase e f X.env (eval e X.env) = eval e X.env) :
    PE X (.Attribute e f pos) (rd c Wx (eAtt l fe)) :=
  pe_imp (pe_tAtt he hb) fun σ H Q ⟨P, s, R, h⟩ => rd_sub R StE.refl R (show Out c Wx σ P s H Q ((fe s).bind _) from h) fun P1 r s1 v H1 t1 _ R1 rv h1 => by
    dsimp only at h1
    cases hv : val s1 r with
    | none => rw [hv] at h1; exact h1.elim
    | some w =>
      rw [hv] at h1
      cases w with
      | ins j ws =>
        dsimp only at h1
        have vw := rv.view R1 hv
        unfold View Rep at vw
        obtain ⟨a, C, dx, vs, rfl, hT, pa, pd, sl, rr⟩ := vw
        cases hl : l.lookup j with
        | none => rw [hl] at h1; exact h1.elim
        | some ak =>
          rw [hl] at h1
          have hak := ha j ak hl
          cases ak with
          | meth m => exact h1.elim
          | slot i =>
            dsimp only at h1
            obtain ⟨C', p, hT', sc, st⟩ := hak
            rw [hT] at hT'; cases hT'
            cases hw : ws[i]? with
            | none => rw [hw] at h1; exact h1.elim
            | some w =>
              rw [hw] at h1
              obtain ⟨v, e1, rw1⟩ := rr.get hw
              refine ⟨a, C, dx, _, rfl, sl, sc, .inl ⟨i, p, v, st, by rw [List.getElem?_map, e1]; rfl, ?_⟩⟩
              exact h1 v P1 H1 t1 R1 rw1
          | prop m =>
            dsimp only at h1
            obtain ⟨C', p, g, kk, hkk, hT', sc, pf, F⟩ := hak
            rw [hT] at hT'; cases hT'
            have h2 := Out.at_ h1 t1 R1
            have rp : Rep c.T c.K P1 H1 (.ins j ws) (.ref a) := by unfold Rep; exact ⟨a, C, dx, vs, rfl, hT, pa, pd, sl, rr⟩
            obtain ⟨P2, as, RA, h3⟩ := callR_out (H0 := H1) (rs := [Qs.R.fro (W.ins j ws)]) (xs := [V.ref a]) R1 (.cons (show RvR c P1 s1 σ H1 H1 (Qs.R.fro (W.ins j ws)) (.ref a) from rp) .nil) h2
            exact ⟨a, C, dx, _, rfl, sl, sc, .inr ⟨p, g, _, kk, hr.mono hkk, pf, F, rfl, P2, as, RA, noEx_out h3⟩⟩
      | _ => exact h1.elim
/-! ### isinstance -/
def eIsi (j : Nat) (fe : SE) : SE := fun s => (fe s).bind fun p => match val p.2 p.1 with
  | some (.ins i _) => .ok (.fro (.bl (i == j)), p.2)
  | some w => (match tyW w with
    | some _ => .ok (.fro (.bl false), p.2)
    | none => .bad)
  | none => .bad
def tys7 : List String := ["NoneType", "bool", "int", "str", "tuple", "list", "dict"]
/-- what isinstance asks of the class at place j -/
def IsiF (c : Cst) (K : PySem.W.Frag) (j : Nat) (C : Addr) : Prop := c.T.ic j = some C ∧ (∀ t ∈ tys7, PySem.W.kitOne K (.type t) (.ref C) = some false) ∧
  ∀ i D, c.T.ic i = some D → L2.SCls K D ∧ SlX.SIsi K D ∧ PySem.W.kitOne K (.ref D) (.ref C) = some (i == j)
def rIsiI (K : PySem.W.Frag) : List V → Hp → VK → Prop := fun xs H Q => ∃ (a C dx : Addr) (vs : List (Option V)) (u : Addr) (b : Bool), xs = [V.ref a, V.ref u] ∧ L2.SlAt H a C dx vs ∧ L2.SCls K C ∧ SlX.SIsi K C ∧ PySem.W.kitOne K (.ref C) (.ref u) = some b ∧ Q (.bl b) H
theorem call_isiI : CallR X (.builtin "isinstance") (rIsiI X.K) := by
  intro pins s σ H xs us Q I r h
  obtain ⟨a, C, dx, vs, u, b, rfl, hsl, hc, hi, hk, q⟩ := h
  obtain ⟨u1, u2, rfl, r1, r2⟩ := r.two
  cases (show u1 = Value.ref a from r1)
  cases (show u2 = Value.ref u from r2)
  obtain ⟨us, od, _, _, J⟩ := slAt_get I hsl
  have pg : PySem.W.plainGet X.K C "__class__" = true := hc.pg
  exact PySem.W.kia_one (OwX.kitx_slt hc.ic pg hi.ca hi.cn hi.ct hi.cm) I.kIn J hk (fun z => nomatch z) fun tk => ⟨.bl b, H, I.tok _, rfl, q⟩
def rIsi2 (K : PySem.W.Frag) : List V → Hp → VK → Prop := fun xs H Q => rIsi K xs H Q ∨ rIsiI K xs H Q
theorem call_isi2 : CallR X (.builtin "isinstance") (rIsi2 X.K) := by
  intro pins s σ H xs us Q I r h
  rcases h with h | h
  · exact call_isi pins s σ H xs us Q I r h
  · exact call_isiI pins s σ H xs us Q I r h
theorem tyx_view {t : String} (h1 : View c P H w x) (q : tyW w = some t) : t ∈ tys7 ∧ TyX c.K H x (.type t) := by
  unfold tyW at q
  split at q <;> cases q
  · exact ⟨by decide, by rw [h1.non]; exact .base .non⟩
  · exact ⟨by decide, by rw [h1.bl]; exact .base (.bl _)⟩
  · exact ⟨by decide, by rw [h1.int]; exact .base (.int _)⟩
  · exact ⟨by decide, by rw [h1.str]; exact .base (.str _)⟩
  · obtain ⟨a, vs, rfl, qa, _⟩ := h1.tup
    exact ⟨by decide, tyx_sqt qa⟩
  · obtain ⟨a, vs, rfl, qa, _⟩ := h1.lst
    exact ⟨by decide, .base (.lst qa)⟩
  · obtain ⟨a, vs, rfl, dd, _⟩ := h1
    refine ⟨by decide, ?_⟩
    cases dd with
    | k _ r =>
      rcases r with r | ⟨o, r⟩
      · exact .base (.dK r)
      · exact .fDict r
    | t _ r => exact .base (.dT r)
theorem isi_arg {j : Nat} {C : Addr} (F : IsiF c c.K j C) (h : rd c Wx (eIsi j fe) σ H Q) : rd c Wx fe σ H fun x H1 => rIsi2 c.K [x, .ref C] H1 Q := by
  obtain ⟨P, s, R, h⟩ := h
  refine rd_sub R StE.refl R (show Out c Wx σ P s H Q ((fe s).bind _) from h) fun P1 r s1 v H1 t1 _ R1 rv h1 => ?_
  dsimp only at h1
  have oth : ∀ w t, val s1 r = some w → tyW w = some t → Out c Wx σ P s H Q (.ok (.fro (.bl false), s1)) → rIsi2 c.K [v, .ref C] H1 Q := fun w t hv ht h1 => by
    obtain ⟨m, ty⟩ := tyx_view (rv.view R1 hv) ht
    exact .inl ⟨v, .ref C, .type t, .ref C, false, rfl, .own C, ty, F.2.1 t m, h1 (.bl false) P1 H1 t1 R1 (rep_bl (c := c) (P := P1) (H := H1))⟩
  split at h1
  · rename_i i ws hv
    have vw := rv.view R1 hv
    unfold View Rep at vw
    obtain ⟨a, D, dx, vs, rfl, hT, pa, pd, sl, rr⟩ := vw
    obtain ⟨z1, z2, z3⟩ := F.2.2 i D hT
    exact .inr ⟨a, D, dx, _, C, _, rfl, sl, z1, z2, z3, h1 _ P1 H1 t1 R1 (rep_bl (c := c) (P := P1) (H := H1))⟩
  · rename_i w _ hv
    split at h1
    · rename_i t ht
      exact oth w t hv ht h1
    · exact h1.elim
  · exact h1.elim
end
end Qs
/-! # C(..): __init__ as checks, then self.f = e, one by one -/
namespace Qs
open PySem PySem.Spec PyProof.Rows L2 LamX
/-- the checks -/
def preM : List SE → S → Res S
  | [], s => .ok s
  | f :: r, s => (f s).bind fun p => nfLs p.2 (preM r)
/-- self.f = e: i the place in the instance -/
def iniF (n : Nat) : List (Nat × SE) → List (Nat × W) → S → Res (List (Nat × W))
  | [], l, _ => .ok l
  | (i, f) :: r, l, s => match f s with
    | .ok p => (ofO (frz p.2 p.1)).bind fun q => chk (decide (i < n)) <| nfLs q.2 fun s' => nfW q.1 fun w => iniF n r ((i, w) :: l) s'
    | _ => .bad
def getF (l : List (Nat × W)) : Nat → Nat → Option (List W)
  | _, 0 => some []
  | i, n + 1 => (l.lookup i).bind fun w => (getF l (i + 1) n).map (w :: ·)
/-- n: slots of the instance; m: names of the def, self ahead -/
def iniM (j n m : Nat) (pre : List SE) (fs : List (Nat × SE)) : S → Res W := fun as => nfLs (.un :: startS (m - 1) as) fun s0 => (preM pre s0).bind fun s1 => (iniF n fs [] s1).bind fun l => (ofO (getF l 0 n)).bind fun ws => .ok (.ins j ws)
def froS : Sl → Bool
  | .fro _ => true
  | _ => false
def eNew (m : S → Res W) (fs : List SE) : SE := bindL (fs.map eFz) fun rs s => (ofO (argsS s rs)).bind fun as => chk (decide (ownIx s rs).Nodup && as.all froS) <| (m as).bind fun w => .ok (.fro w, s)
/-! ### a store into the instance -/
section
variable {X : Cx} {o e value : Expr} {f : Str} {pos pos' tpos : Pos} {ta tv : TE} {C p : Addr} {i : Nat}
def sSlotC (C : Addr) (i : Nat) (ta tv : TE) : TS := fun D σ H => tv σ H fun y H1 => ta σ H1 fun x H2 => ∃ a dx vs, x = .ref a ∧ SlAt H2 a C dx vs ∧ ((∀ q, H2 a ≠ some (CodeO a q)) → D.nx σ (upd H2 a (SlO C dx a (L2.putS i y vs))))
theorem ps_slotC (c : L2.SCls X.K C) (k : L2.Slt X.K C f i p) (ha : PE X o ta) (hv : PE X value tv) (hs : swapsWith value (some (.Attribute o f pos')) pos.line X.env = pure false) :
    PS X (.Assign [.Attribute o f pos'] value pos) (sSlotC C i ta tv) := by
  refine ⟨fun pins s σ H D I h => ?_⟩
  refine plainObj_wpAny_Assign_Attribute (thn (hv.run pins s σ H _ I h) fun u s1 ⟨y, H1, I1, ry, q⟩ => thn (ha.run pins s1 σ H1 _ I1 q) fun ov s2 ⟨x, H2, I2, rx, a, dx, vs, ex, ea, q2⟩ => ?_) hs
  subst ex
  obtain rfl : ov = Value.ref a := rx
  refine L2.setslot_ok I2 ea c k ry fun s3 I3 => ⟨σ, _, I3, q2 fun q z => ?_⟩
  obtain ⟨us, od, _, g, _⟩ := slAt_get I2 ea
  obtain ⟨⟨oc, fs, t, g2, d, _⟩, _⟩ := I2.hok a _ z
  rw [g] at g2
  cases g2
  cases d
end
section
variable {c : Cst} {Wx : WX} {k n j : Nat} {X : Cx} {P P0 P1 P2 P' : Addr → Prop} {s s' s0 s1 : S} {σ σ0 σ' : L2.St} {H H0 H1 H' : Hp} {Q : VK} {D : Ends} {u w : W} {ws : List W} {vs xs : List V} {r : R} {v : V} {a b e : Expr} {es : List Expr} {fa fb fe : SE} {pos p p2 : Pos} {f : Str} {C x dx : Addr} {l l' : List (Nat × W)}
/-- a state within __init__; from (P0, H0) on -/
structure Ini (c : Cst) (n : Nat) (C x dx : Addr) (P0 : Addr → Prop) (H0 : Hp) (P : Addr → Prop) (s : S) (σ : L2.St) (H : Hp) (l : List (Nat × W)) : Prop where
  rel : Rel c P s σ H
  no : ∀ (i : Nat) (p : Bool) (w : W), s[i]? ≠ some (Sl.own p w)
  self : σ[0]? = some (some (V.ref x))
  nx : ¬ P x
  nd : ¬ P dx
  sl : ∃ vs, SlAt H x C dx vs ∧ vs.length ≤ n ∧ ∀ i w, l.lookup i = some w → ∃ v, vs[i]? = some (some v) ∧ Rep c.T c.K P H w v
  keep : ∀ a o, H0 a = some o → ¬ Tbl o → (a = x ∧ l ≠ []) ∨ H a = some o
  there : ∀ a, H0 a ≠ none → H a ≠ none
  pin : ∀ a, P0 a → P a
  new : ∀ a, P a → P0 a ∨ H0 a = none
theorem Ini.own (I : Ini c n C x dx P0 H0 P s σ H l) (a : Addr) : ¬ Own s σ a := fun ⟨i, p, w, e, _⟩ => I.no i p w e
theorem slAt_ex {a C dx : Addr} {vs : List (Option V)} (h : SlAt H a C dx vs) : (∃ o, H a = some o ∧ ¬ Imm o ∧ ¬ Tbl o) ∧ H dx = some (.own a) := by
  obtain ⟨h1, _, h2 | ⟨_, h2⟩⟩ := h
  · exact ⟨⟨_, h2, fun z => z, fun z => z⟩, h1⟩
  · exact ⟨⟨_, h2, fun z => z, fun z => z⟩, h1⟩
/-- through an expression -/
theorem Ini.exp (I : Ini c n C x dx P0 H0 P s σ H l) (t : StE P s σ H P1 s1 H1) (R1 : Rel c P1 s1 σ H1) : Ini c n C x dx P0 H0 P1 s1 σ H1 l := by
  obtain ⟨vs, h1, h2, h3⟩ := I.sl
  obtain ⟨⟨o, eo, ni, nt⟩, ed⟩ := slAt_ex h1
  have kp := Stp.kp I.rel t.toStp
  have hx : H1 x = some o := t.keep x o eo (I.own x) nt
  have hd : H1 dx = some (.own x) := t.keep dx _ ed (I.own dx) (fun z => z)
  refine ⟨R1, fun i p w e => ?_, I.self, fun z => ?_, fun z => ?_, ⟨vs, ⟨hd, h1.2.1, ?_⟩, h2, fun i w e => ?_⟩, fun a o' e nt' => ?_, fun a e => t.there a (I.there a e), fun a e => t.pin a (I.pin a e), fun a e => ?_⟩
  · rcases t.sl i with q | ⟨p', w', q, _⟩
    · rw [q] at e; exact I.no i p w e
    · exact I.no i p' w' q
  · rcases t.new x z with z | z | z
    · exact I.nx z
    · rw [eo] at z; cases z
    · exact I.own x z
  · rcases t.new dx z with z | z | z
    · exact I.nd z
    · rw [ed] at z; cases z
    · exact I.own dx z
  · rcases h1.2.2 with q | ⟨q1, q⟩
    · rw [eo] at q; cases q; exact .inl hx
    · rw [eo] at q; cases q; exact .inr ⟨q1, hx⟩
  · obtain ⟨v, e1, r⟩ := h3 i w e
    exact ⟨v, e1, Rep.mono kp _ _ r⟩
  · rcases I.keep a o' e nt' with q | q
    · exact .inl q
    · exact .inr (t.keep a o' q (I.own a) nt')
  · rcases t.new a e with z | z | z
    · exact I.new a z
    · refine .inr ?_
      cases q : H0 a with
      | none => rfl
      | some o => exact absurd z (I.there a (by rw [q]; exact fun z => nomatch z))
    · exact absurd z (I.own a)
/-- a field is stored -/
theorem Ini.put {i : Nat} {vs : List (Option V)} (I : Ini c n C x dx P0 H0 P s σ H l) (h1 : SlAt H x C dx vs) (h2 : vs.length ≤ n) (h3 : ∀ i w, l.lookup i = some w → ∃ v, vs[i]? = some (some v) ∧ Rep c.T c.K P H w v) (rw1 : Rep c.T c.K P H w v) (hi : i < n) (nc : ∀ q, H x ≠ some (CodeO x q)) :
    Ini c n C x dx P0 H0 P s σ (upd H x (SlO C dx x (L2.putS i v vs))) ((i, w) :: l) := by
  obtain ⟨⟨o, eo, ni, nt⟩, ed⟩ := slAt_ex h1
  have oth : ∀ b u, H b = some u → u ≠ o → upd H x (SlO C dx x (L2.putS i v vs)) b = some u := fun b u e ne => by
    rw [upd_ne (fun z => by rw [z, eo] at e; cases e; exact ne rfl)]; exact e
  have kp : Kp P P H (upd H x (SlO C dx x (L2.putS i v vs))) := ⟨fun _ h => h, fun b u e h => by
    by_cases q : b = x
    · subst q
      rw [eo] at e; cases e
      rcases h with h | h
      · exact absurd h ni
      · exact absurd h.1 I.nx
    · rw [upd_ne q]; exact e⟩
  have some_ : ∀ b, H b ≠ none → upd H x (SlO C dx x (L2.putS i v vs)) b ≠ none := fun b e => by
    by_cases q : b = x
    · subst q; rw [upd_same]; exact fun z => nomatch z
    · rw [upd_ne q]; exact e
  refine ⟨⟨I.rel.len, fun i w e => ?_, fun i p w e => absurd e (I.no i p w), fun i j p q u w a e => absurd e (I.no i p u), fun t ht => ?_, fun a h => some_ a (I.rel.dom a h)⟩, I.no, I.self, I.nx, I.nd, ⟨L2.putS i v vs, SlAt.here h1, ?_, fun k w' e => ?_⟩, fun a u e nt' => ?_, fun a e => some_ a (I.there a e), I.pin, I.new⟩
  · obtain ⟨v, e1, r⟩ := I.rel.fro i w e
    exact ⟨v, e1, Rep.mono kp _ _ r⟩
  · obtain ⟨ps, g1, g2, g3⟩ := I.rel.tbs t ht
    refine ⟨ps, oth _ _ g1 (fun z => nt (by rw [← z]; exact trivial)), g2, fun pos cv hc => ?_⟩
    obtain ⟨cc, e1, e2⟩ := g3 pos cv hc
    refine ⟨cc, e1, ?_⟩
    rw [upd_ne (fun z => nc _ (by rw [z] at e2; exact e2))]
    exact e2
  · unfold L2.putS
    rw [List.length_set, List.length_append, List.length_replicate]
    omega
  · by_cases hk : k = i
    · subst hk
      rw [List.lookup_cons, beq_self_eq_true] at e
      cases e
      exact ⟨v, SlX.putS_get k v vs, Rep.mono kp _ _ rw1⟩
    · rw [List.lookup_cons, beq_eq_false_iff_ne.mpr hk] at e
      obtain ⟨v', e1, r⟩ := h3 k w' e
      exact ⟨v', (SlX.putS_ne hk).mpr e1, Rep.mono kp _ _ r⟩
  · by_cases q : a = x
    · exact .inl ⟨q, fun z => nomatch z⟩
    · rcases I.keep a u e nt' with z | z
      · exact absurd z.1 q
      · right; rw [upd_ne q]; exact z
/-- what is told of the end -/
def rdF (c : Cst) (C : Addr) (n : Nat) (fs : List (Nat × SE)) : TS := fun D σ H => ∃ (P0 : Addr → Prop) (H0 : Hp) (x dx : Addr) (P : Addr → Prop) (s : S) (l l' : List (Nat × W)), Ini c n C x dx P0 H0 P s σ H l ∧ iniF n fs l s = .ok l' ∧
  ∀ σ' P' s' H', Ini c n C x dx P0 H0 P' s' σ' H' l' → D.nx σ' H'
/-- the stores of the text -/
inductive Flds (X : Cx) (c : Cst) (Wx : WX) (C : Addr) (self : Str) : List Stmt → List (Nat × SE) → Prop where
  | nil : Flds X c Wx C self [] []
  | cons {f : Str} {q1 q2 q3 : Pos} {e : Expr} {i : Nat} {p : Addr} {fe : SE} {r : List Stmt} {fs : List (Nat × SE)} (st : L2.Slt X.K C f i p) (he : PE X e (rd c Wx fe)) (hs : swapsWith e (some (.Attribute (.Name self q1) f q2)) q3.line X.env = pure false) (t : Flds X c Wx C self r fs) :
    Flds X c Wx C self (.Assign [.Attribute (.Name self q1) f q2] e q3 :: r) ((i, fe) :: fs)
theorem flds_ok {self : Str} {sts : List Stmt} {fs : List (Nat × SE)} (sc : L2.SCls X.K C) (hv : ∀ q, PE X (.Name self q) (tVar 0)) (F : Flds X c Wx C self sts fs) : PSs X sts (rdF c C n fs) := by
  induction F with
  | nil =>
    refine pss_imp pss_nil fun D σ H ⟨P0, H0, x, dx, P, s, l, l', I, e, h⟩ => ?_
    cases e
    exact h σ P s H I
  | cons st he hs t ih =>
    rename_i f q1 q2 q3 e i p fe r fs
    refine pss_imp (pss_cons (ps_slotC sc st (hv q1) he hs) ih) fun D σ H ⟨P0, H0, x, dx, P, s, l, l', I, e, h⟩ => ?_
    unfold iniF at e
    refine ⟨P, s, I.rel, ?_⟩
    cases e1 : fe s with
    | exc y => rw [e1] at e; cases e
    | bad => rw [e1] at e; cases e
    | ok pr =>
      obtain ⟨r1, s1⟩ := pr
      rw [e1] at e
      intro v P1 H1 t1 R1 rv
      dsimp only at e
      cases e2 : frz s1 r1 with
      | none => rw [e2] at e; cases e
      | some q =>
        obtain ⟨w, s2⟩ := q
        rw [e2] at e
        simp only [ofO_some, Res.bind_ok] at e
        obtain ⟨P2, t2, R2, rw2, _⟩ := frz_ok t1 R1 rv e2
        unfold chk at e
        split at e
        case isFalse => cases e
        rename_i hi
        have hi := of_decide_eq_true hi
        rw [nfLs_eq, nfW_eq] at e
        have I2 := I.exp t2 R2
        obtain ⟨vs, h1, h2, h3⟩ := I2.sl
        refine ⟨.ref x, I2.self, x, dx, vs, rfl, h1, fun nc => ?_⟩
        exact ⟨P0, H0, x, dx, P2, s2, _, l', I2.put h1 h2 h3 rw2 hi nc, e, h⟩
/-- behind an exception of a check -/
structure SxI (c : Cst) (P0 : Addr → Prop) (H0 : Hp) (P' : Addr → Prop) (H' : Hp) : Prop where
  keep : ∀ a o, H0 a = some o → ¬ Tbl o → H' a = some o
  pin : ∀ a, P0 a → P' a
  new : ∀ a, P' a → P0 a ∨ H0 a = none
  tbs : Tabs c.tbs H'
  dom : ∀ a, P' a → H' a ≠ none
  there : ∀ a, H0 a ≠ none → H' a ≠ none
def OutP (c : Cst) (Wx : WX) (C : Addr) (n : Nat) (fs : List (Nat × SE)) (P0 : Addr → Prop) (H0 : Hp) (x dx : Addr) (D : Ends) : Res S → Prop
  | .ok s => ∃ l', iniF n fs [] s = .ok l' ∧ ∀ σ' P' s' H', Ini c n C x dx P0 H0 P' s' σ' H' l' → D.nx σ' H'
  | .exc y => ∀ σ' cls d P' H', SxI c P0 H0 P' H' → XRel c P' H' y cls d → Wx cls d σ' H'
  | .bad => False
def rdP (c : Cst) (Wx : WX) (C : Addr) (n : Nat) (pre : List SE) (fs : List (Nat × SE)) : TS := fun D σ H => ∃ (P0 : Addr → Prop) (H0 : Hp) (x dx : Addr) (P : Addr → Prop) (s : S), Ini c n C x dx P0 H0 P s σ H [] ∧ OutP c Wx C n fs P0 H0 x dx D (preM pre s)
inductive Pres (X : Cx) (c : Cst) (Wx : WX) (C : Addr) (self : Str) (fs : List (Nat × SE)) : List Stmt → List SE → Prop where
  | nil {sts : List Stmt} (h : Flds X c Wx C self sts fs) : Pres X c Wx C self fs sts []
  | cons {e : Expr} {q : Pos} {fe : SE} {r : List Stmt} {pre : List SE} (he : PE X e (rd c Wx fe)) (hs : swapsWith e none q.line X.env = pure false) (t : Pres X c Wx C self fs r pre) : Pres X c Wx C self fs (.Expr e q :: r) (fe :: pre)
theorem pres_ok {self : Str} {sts : List Stmt} {fs : List (Nat × SE)} {pre : List SE} (sc : L2.SCls X.K C) (hv : ∀ q, PE X (.Name self q) (tVar 0)) (F : Pres X c Wx C self fs sts pre) : PSs X sts (rdP c Wx C n pre fs) := by
  induction F with
  | nil h =>
    refine pss_imp (flds_ok (n := n) sc hv h) fun D σ H ⟨P0, H0, x, dx, P, s, I, h⟩ => ?_
    obtain ⟨l', e, h⟩ := h
    exact ⟨P0, H0, x, dx, P, s, [], l', I, e, h⟩
  | cons he hs t ih =>
    rename_i e q fe r pre
    refine pss_imp (pss_cons (ps_expr he hs) ih) fun D σ H ⟨P0, H0, x, dx, P, s, I, h⟩ => ?_
    unfold preM at h
    refine ⟨P, s, I.rel, ?_⟩
    cases e1 : fe s with
    | bad => rw [e1] at h; exact h.elim
    | exc y =>
      rw [e1] at h
      intro cls d P' H' u xr
      refine h σ cls d P' H' ⟨fun a o e nt => ?_, fun a e => u.pin a (I.pin a e), fun a e => ?_, u.tbs, u.dom, fun a e => u.there a (I.there a e)⟩ xr
      · rcases I.keep a o e nt with z | z
        · exact absurd rfl z.2
        · exact u.keep a o z (I.own a) nt
      · rcases u.new a e with z | z | z
        · exact I.new a z
        · refine .inr ?_
          cases q : H0 a with
          | none => rfl
          | some o => exact absurd z (I.there a (by rw [q]; exact fun z => nomatch z))
        · exact absurd z (I.own a)
    | ok pr =>
      obtain ⟨r1, s1⟩ := pr
      rw [e1] at h
      intro v P1 H1 t1 R1 rv
      rw [Res.bind_ok, nfLs_eq] at h
      exact ⟨P0, H0, x, dx, P1, s1, I.exp t1 R1, h⟩
/-! ### what __init__ promises -/
structure StI (P : Addr → Prop) (H : Hp) (x dx : Addr) (P' : Addr → Prop) (H' : Hp) : Prop where
  keep : ∀ a o, H a = some o → a ≠ x → ¬ Tbl o → H' a = some o
  there : ∀ a, H a ≠ none → H' a ≠ none
  pin : ∀ a, P a → P' a
  new : ∀ a, P' a → P a ∨ H a = none ∨ a = x ∨ a = dx
def OutN (c : Cst) (E : XK) (P : Addr → Prop) (H : Hp) (x dx : Addr) (Q : VK) : Res W → Prop
  | .ok w => ∀ P' H', StI P H x dx P' H' → Rep c.T c.K P' H' w (.ref x) → Tabs c.tbs H' → (∀ a, P' a → H' a ≠ none) → Q .non H'
  | .exc y => ∀ cls d P' H', SxI c P H P' H' → XRel c P' H' y cls d → E cls d H'
  | .bad => False
def spI (c : Cst) (C : Addr) (n : Nat) (m : S → Res W) : Sp := fun vs H Q E => ∃ (x dx : Addr) (us : List V) (as : S) (P : Addr → Prop), vs = .ref x :: us ∧ us.length = n ∧ dx ≠ x ∧ H dx = some (.own x) ∧ H x = some (.ins C dx []) ∧ ¬ P x ∧ ¬ P dx ∧ as.all froS = true ∧ Rel c P as (us.map some) H ∧ OutN c E P H x dx Q (m as)
theorem getF_ok {P : Addr → Prop} : ∀ {m i : Nat} {ws : List W} {vs : List (Option V)}, getF l i m = some ws → (∀ i w, l.lookup i = some w → ∃ v, vs[i]? = some (some v) ∧ Rep c.T c.K P H w v) → ∃ us, Reps c.T c.K P H ws us ∧ us.length = m ∧ ∀ k, k < m → vs[i + k]? = (us.map some)[k]?
  | 0, i, ws, vs, e, h => by cases e; exact ⟨[], Reps.nil, rfl, fun k hk => absurd hk (Nat.not_lt_zero k)⟩
  | m + 1, i, ws, vs, e, h => by
    unfold getF at e
    cases q : l.lookup i with
    | none => rw [q] at e; cases e
    | some w =>
      rw [q] at e
      cases q2 : getF l (i + 1) m with
      | none => rw [q2] at e; cases e
      | some ws' =>
        rw [q2] at e
        cases e
        obtain ⟨v, e1, r⟩ := h i w q
        obtain ⟨us, r2, hl, hk⟩ := getF_ok (vs := vs) q2 h
        refine ⟨v :: us, Reps.cons r r2, by simp [hl], fun k hlt => ?_⟩
        cases k with
        | zero => simpa using e1
        | succ k =>
          have := hk k (by omega)
          rw [show i + (k + 1) = i + 1 + k by omega, this]
          simp
theorem Ini.end_ (I : Ini c n C x dx P0 H0 P s σ H l) (hT : c.T.ic j = some C) (e : getF l 0 n = some ws) : ∃ P', Kp P P' H H ∧ Rep c.T c.K P' H (.ins j ws) (.ref x) ∧ P' = fun b => P b ∨ b = x ∨ b = dx := by
  obtain ⟨vs, h1, h2, h3⟩ := I.sl
  obtain ⟨us, r, hl, hk⟩ := getF_ok (vs := vs) e h3
  have ev : vs = us.map some := by
    apply List.ext_getElem?
    intro k
    by_cases hlt : k < n
    · have := hk k hlt
      rw [Nat.zero_add] at this
      exact this
    · rw [List.getElem?_eq_none (by omega), List.getElem?_eq_none (by rw [List.length_map]; omega)]
  have kp : Kp P (fun b => P b ∨ b = x ∨ b = dx) H H := ⟨fun _ h => .inl h, fun _ _ h _ => h⟩
  refine ⟨_, kp, ?_, rfl⟩
  unfold Rep
  exact ⟨x, C, dx, us, rfl, hT, .inr (.inl rfl), .inr (.inr rfl), by rw [← ev]; exact h1, Reps.mono kp _ _ r⟩
theorem fro_all {as : S} (h : as.all froS = true) (i : Nat) (p : Bool) (w : W) : as[i]? ≠ some (Sl.own p w) := fun e => by
  have := List.all_eq_true.mp h _ (List.mem_of_getElem? e)
  cases this
theorem init_rd {N : List Str} {ms : Nat} {pre : List SE} {fs : List (Nat × SE)} {E : XK} (hT : c.T.ic j = some C) (hN : N.length = ms) (hm : 0 < ms) (h : spI c C k (iniM j n ms pre fs) vs H Q E) : rdP c (fun cls d _ H' => E cls d H') C n pre fs { nx := fun _ H' => Q .non H', rt := Q } (L2.start N vs) H := by
  obtain ⟨x, dx, us, as, P, rfl, hl, nd, hd, hx, npx, npd, ha, R, h⟩ := h
  have hl2 : as.length = us.length := by have := R.len; simpa using this
  unfold iniM at h
  rw [nfLs_eq] at h
  have own : ∀ (i : Nat) (p : Bool) (w : W), (Sl.un :: startS (ms - 1) as)[i]? ≠ some (Sl.own p w) := fun i p w e => by
    cases i with
    | zero => cases e
    | succ i =>
      have e : (startS (ms - 1) as)[i]? = some (Sl.own p w) := by simpa using e
      obtain ⟨_, ⟨q, e2⟩, _⟩ := start_own (N := []) (n := ms - 1) (vs := us) hl2 e
      exact fro_all ha i q w e2
  refine ⟨P, H, x, dx, P, .un :: startS (ms - 1) as, ⟨⟨?_, fun i w e => ?_, fun i p w e => absurd e (own i p w), fun i j p q u w a e => absurd e (own i p u), R.tbs, R.dom⟩, own, ?_, npx, npd, ⟨[], ⟨hd, nd, .inr ⟨rfl, hx⟩⟩, Nat.zero_le _, fun i w e => by cases e⟩, fun a o e _ => .inr e, fun a e => e, fun a e => e, fun a e => .inl e⟩, ?_⟩
  · unfold startS L2.start
    simp only [List.length_cons, List.length_append, List.length_map, List.length_replicate, hl2]
    omega
  · cases i with
    | zero => cases e
    | succ i =>
      have e : (startS (ms - 1) as)[i]? = some (Sl.fro w) := by simpa using e
      obtain ⟨sl0, e1, e2, e3⟩ := startS_get e (fun z => nomatch z)
      cases toP_fro e2
      rw [start_get (by simp only [List.length_cons]; omega)]
      simpa using R.fro i w e1
  · unfold L2.start; rfl
  · cases e1 : preM pre (.un :: startS (ms - 1) as) with
    | bad => rw [e1] at h; exact h.elim
    | exc y => rw [e1] at h; exact fun σ' cls d P' H' u xr => h cls d P' H' u xr
    | ok s1 =>
      rw [e1, Res.bind_ok] at h
      cases e2 : iniF n fs [] s1 with
      | bad => rw [e2] at h; exact h.elim
      | exc y =>
        exfalso
        have no : ∀ (fs : List (Nat × SE)) (l : List (Nat × W)) (s : S) (y : Ex), iniF n fs l s ≠ .exc y := by
          intro fs
          induction fs with
          | nil => intro l s y z; cases z
          | cons f fs ih =>
            obtain ⟨i, f⟩ := f
            intro l s y z
            unfold iniF at z
            split at z
            · rename_i p _
              cases q : frz p.2 p.1 with
              | none => rw [q] at z; cases z
              | some q' =>
                rw [q] at z
                simp only [ofO_some, Res.bind_ok] at z
                unfold chk at z
                split at z
                · rw [nfLs_eq, nfW_eq] at z; exact ih _ _ _ z
                · cases z
            · cases z
        exact no _ _ _ _ e2
      | ok l =>
        rw [e2, Res.bind_ok] at h
        cases e3 : getF l 0 n with
        | none => rw [e3] at h; exact h.elim
        | some ws =>
          rw [e3] at h
          refine ⟨l, e2, fun σ' P' s' H' I => ?_⟩
          obtain ⟨P2, kp, r, e4⟩ := I.end_ hT e3
          refine h P2 H' ⟨fun a o e ne nt => ?_, I.there, fun a e => kp.pin a (I.pin a e), fun a e => ?_⟩ r I.rel.tbs fun a e => ?_
          · rcases I.keep a o e nt with z | z
            · exact absurd z.1 ne
            · exact z
          · rw [e4] at e
            rcases e with e | e | e
            · rcases I.new a e with z | z
              · exact .inl z
              · exact .inr (.inl z)
            · exact .inr (.inr (.inl e))
            · exact .inr (.inr (.inr e))
          · rw [e4] at e
            obtain ⟨vs, h1, _⟩ := I.sl
            obtain ⟨⟨o, eo, _⟩, ed⟩ := slAt_ex h1
            rcases e with e | e | e
            · exact I.rel.dom a e
            · rw [e, eo]; exact fun z => nomatch z
            · rw [e, ed]; exact fun z => nomatch z
end
end Qs
/-! # C(..) seen from its caller -/
namespace Qs
open PySem PySem.Spec PyProof.Rows L2 LamX
def tMakeS (C : Addr) (sp : Sp) (E : L2.St → XK) (t : TA) : TE := fun σ H Q => t σ H fun vs H1 => ∀ x dx, H1 x = none → H1 dx = none → dx ≠ x →
  sp (.ref x :: vs) (upd (upd H1 dx (.own x)) x (.ins C dx [])) (fun v H2 => v = .non ∧ Q (.ref x) H2) (E σ)
section
variable {X : Cx} {CX : CXT} {k : Nat} {f C : Addr} {fd : FuncData} {ps : List Str} {sp : Sp} {E : L2.St → XK} {x : Str} {p pos : Pos} {e : Expr} {es : List Expr} {t : TA} {σ : L2.St} {H : Hp} {s : Shared}
theorem run_makeS {pins : List (Addr × Obj)} {Q : VK} {us : List Value} {vs : List V} (M : L2.Mk X.K C f) (F : FnOk X.prog X.w X.K X.mg X.base CX k f fd ps sp) (hr : Room (k + 1) X.A) (hb : Binds X.K fd ps []) (hx : PassesAt CX X σ (E σ)) (I : Inv X pins σ H s) (r : Vals vs us)
    (h : ∀ x dx, H x = none → H dx = none → dx ≠ x → sp (.ref x :: vs) (upd (upd H dx (.own x)) x (.ins C dx [])) (fun v H2 => v = .non ∧ Q (.ref x) H2) (E σ)) :
    wpAny (model X.prog X.w) X.A (call (.ref C) us) (EP X pins σ Q) X.xe s := by
  have hq := h (s.heap.objs.size + 1) s.heap.objs.size (I.hok.fresh (Nat.le_succ _)) (I.hok.fresh (Nat.le_refl _)) (Nat.ne_of_lt (Nat.lt_succ_self _))
  have I2 := Inv.made (C := C) I
  have r2 : Vals (V.ref (s.heap.objs.size + 1) :: vs) (Value.ref (s.heap.objs.size + 1) :: us) := .cons rfl r
  have hl : (Value.ref (s.heap.objs.size + 1) :: us ++ []).length = ps.length := by
    have e := r2.length
    rw [F.len _ _ _ _ hq] at e
    rw [List.append_nil]
    exact e.symm
  have b := hb _ (Value.ref (s.heap.objs.size + 1) :: us) I2.kIn hl
  rw [List.append_nil] at b
  refine wpAny_call (make_map (f := f) I.kIn M.makes M.init (beq_iff_eq.mp M.fn) (codeAny_mono (F.run _ X.stack _ _ ⟨Value.ref (s.heap.objs.size + 1) :: us, []⟩ (Value.ref (s.heap.objs.size + 1) :: us) _ _ (E σ) (hr.make C us [])
    (I2.env0.make C us []) b r2 hq) fun r s' hq' => ?_))
  cases r with
  | error e => exact hx pins _ _ e s' I2 hq'
  | ok fl =>
    cases fl with
    | ret u =>
      obtain ⟨v, H', I3, rv, ev, q3⟩ := I2.after hq'
      subst ev
      exact ⟨rv, ⟨V.ref (s.heap.objs.size + 1), H', I3, rfl, q3⟩⟩
    | next => exact False.elim hq'
    | brk => exact False.elim hq'
    | cont => exact False.elim hq'
theorem pe_makeS (M : L2.Mk X.K C f) (F : FnOk X.prog X.w X.K X.mg X.base CX k f fd ps sp) (hr : Room (k + 1) X.A) (hg : Gl X x) (hm : X.mg x = some (.ref C)) (hb : Binds X.K fd ps []) (hx : ∀ σ, PassesAt CX X σ (E σ))
    (ha : PA X (e :: es) t) (hdb : (x == ("__debug__" : Str)) = false) (he : starEach (e :: es) X.env = (false, eval e X.env) :: starEach es X.env) (hpl : (backTo pos (starEach es X.env)).any (·.1) = false) :
    PE X (.Call (.Name x p) (e :: es) [] pos) (tMakeS C sp E t) := by
  refine ⟨fun pins s σ H Q I h => ?_⟩
  refine wpAny_Call_Name_kw (ld_glob I hg hm ?_ hdb)
  refine PySem.W.callWith_K (h₀ := X.base) I.ok.mod.kin M.kp (thn (ha.run pos pins s σ H _ I h) fun us s1 ⟨vs, H1, I1, r, q⟩ => ⟨I1.kIn, ?_⟩) he hpl
  exact run_makeS M F hr hb (hx σ) I1 r q
end
section
variable {c : Cst} {Wx : WX} {k n j : Nat} {X : Cx} {P P0 P1 P2 P' : Addr → Prop} {s s' s0 s1 : S} {σ σ0 σ' : L2.St} {H H0 H1 H' : Hp} {Q : VK} {C : Addr}
theorem new_out {m : S → Res W} {rs : List R} {xs : List V} (hT : c.T.ic j = some C) (hx : xs.length = n) (R : Rel c P s σ H) (ra : Paired (fun r v => RvR c P s σ H0 H r v) rs xs)
    (h : Out c Wx σ P s H Q ((ofO (argsS s rs)).bind fun as => chk (decide (ownIx s rs).Nodup && as.all froS) <| (m as).bind fun w => .ok (.fro w, s))) (x dx : Addr) (h1 : H x = none) (h2 : H dx = none) (h3 : dx ≠ x) :
    spI c C n m (.ref x :: xs) (upd (upd H dx (.own x)) x (.ins C dx [])) (fun v H2 => v = .non ∧ Q (.ref x) H2) (WE Wx σ) := by
  cases eA : argsS s rs with
  | none => rw [eA] at h; exact h.elim
  | some as =>
    simp only [eA, ofO_some, Res.bind_ok] at h
    unfold chk at h
    split at h
    case isFalse => exact h.elim
    rename_i hc
    rw [Bool.and_eq_true] at hc
    obtain ⟨hc1, hc2⟩ := hc
    obtain ⟨RA, _⟩ := rel_args R ra eA (of_decide_eq_true hc1)
    have hu2 : (upd H dx (.own x)) x = none := by rw [upd_ne (Ne.symm h3)]; exact h1
    have kp : ∀ b o, H b = some o → upd (upd H dx (.own x)) x (.ins C dx []) b = some o := fun b o e => keep_upd hu2 b o (keep_upd h2 b o e)
    have nn : ∀ b, (upd (upd H dx (.own x)) x (.ins C dx [])) b = none → H b = none := fun b e => by
      cases q : H b with
      | none => rfl
      | some o => rw [kp b o q] at e; cases e
    have np : ¬ P x := fun z => R.dom x z h1
    have nd : ¬ P dx := fun z => R.dom dx z h2
    refine ⟨x, dx, xs, as, P, rfl, hx, h3, by rw [upd_ne h3, upd_same], upd_same, np, nd, hc2, RA.more kp, ?_⟩
    cases em : m as with
    | bad => rw [em] at h; exact h.elim
    | exc y =>
      rw [em] at h
      exact fun cls d P' H' u xr => h cls d P' H' ⟨fun a o e _ nt => u.keep a o (kp a o e) nt, u.pin, fun a e => by
        rcases u.new a e with z | z
        · exact .inl z
        · exact .inr (.inl (nn a z)), u.tbs, u.dom, fun a e => u.there a (fun z => e (nn a z))⟩ xr
    | ok w =>
      rw [em] at h
      intro P' H' t r tb dm
      refine ⟨rfl, ?_⟩
      have keep : ∀ a o, H a = some o → ¬ Tbl o → H' a = some o := fun a o e nt => t.keep a o (kp a o e) (fun z => by rw [z, h1] at e; cases e) nt
      have new : ∀ a, P' a → P a ∨ H a = none := fun a e => by
        rcases t.new a e with z | z | z | z
        · exact .inl z
        · exact .inr (nn a z)
        · exact .inr (by rw [z]; exact h1)
        · exact .inr (by rw [z]; exact h2)
      have k2 : Kp P P' H H' := ⟨t.pin, fun a o e q => keep a o e (by
        rcases q with q | q
        · cases o <;> first | exact q.elim | exact fun z => z
        · exact q.2)⟩
      refine h (.ref x) P' H' ⟨⟨fun a o e _ nt => keep a o e nt, fun a e => t.there a (fun z => e (nn a z)), t.pin, fun a e => ?_, fun a e => .inl e, fun i w e => ⟨⟨w, e⟩, rfl⟩⟩, fun i => .inl rfl⟩ ⟨R.len, fun i w e => ?_, fun i p w e => ?_, R.inj, tb, dm⟩ r
      · rcases new a e with z | z
        · exact .inl z
        · exact .inr (.inl z)
      · obtain ⟨v, e1, r⟩ := R.fro i w e
        exact ⟨v, e1, Rep.mono k2 _ _ r⟩
      · obtain ⟨a, e1, na, cl⟩ := R.own i p w e
        obtain ⟨o, eo, _⟩ := Cell.ex cl
        refine ⟨a, e1, fun z => ?_, Cell.mono k2 cl fun o e nt => keep a o e nt⟩
        rcases new a z with z | z
        · exact na z
        · rw [eo] at z; cases z
theorem rd_new {m : S → Res W} {fs : List SE} (hT : c.T.ic j = some C) (hl : fs.length = n) (h : rd c Wx (eNew m fs) σ H Q) : tMakeS C (spI c C n m) (WE Wx) (tArgs c Wx (fs.map eFz)) σ H Q := by
  have len : ∀ {fs : List SE} {σ : L2.St} {H : Hp} {Z : List V → Hp → Prop}, tArgs c Wx fs σ H Z → tArgs c Wx fs σ H fun xs H1 => xs.length = fs.length ∧ Z xs H1 := by
    intro fs
    induction fs with
    | nil => intro σ H Z h; exact ⟨rfl, h⟩
    | cons f fs ih =>
      intro σ H Z h
      obtain ⟨P, s, R, h⟩ := h
      refine ⟨P, s, R, h.imp fun v H' h => ?_⟩
      have := ih h
      refine Eq.mp ?_ this
      congr 1
      funext xs H1
      simp
  have h2 : tArgs c Wx (fs.map eFz) σ H fun xs H1 => xs.length = n → ∀ x dx, H1 x = none → H1 dx = none → dx ≠ x → spI c C n m (.ref x :: xs) (upd (upd H1 dx (.own x)) x (.ins C dx [])) (fun v H2 => v = .non ∧ Q (.ref x) H2) (WE Wx σ) :=
    rd_args h fun P0 s0 P s rs xs H1 R0 t R ra h hx => new_out hT hx R ra (Out.at_ h t R)
  have imp : ∀ {fs : List SE} {σ : L2.St} {H : Hp} {Z Z' : List V → Hp → Prop}, (∀ xs H, Z xs H → Z' xs H) → tArgs c Wx fs σ H Z → tArgs c Wx fs σ H Z' := by
    intro fs
    induction fs with
    | nil => intro σ H Z Z' k h; exact k _ _ h
    | cons f fs ih =>
      intro σ H Z Z' k h
      obtain ⟨P, s, R, h⟩ := h
      exact ⟨P, s, R, h.imp fun v H' h => ih (fun xs H1 => k (v :: xs) H1) h⟩
  exact imp (fun xs H1 ⟨h1, h2⟩ => h2 (by rw [h1, List.length_map]; exact hl)) (len h2)
end
end Qs
/-! # math.comb, math.isqrt; max, min of a list -/
namespace Qs
open PySem PySem.Spec PyProof.Rows L2
def combW : List W → Option R
  | [.int a, .int b] => guard' (decide (0 ≤ a) && decide (0 ≤ b) && decide (a < 18446744073709551616) && (decide (b ≤ 9000) || decide (a ≤ 18000))) (.fro (.int (PySem.W.mcComb a b)))
  | _ => none
def isqrtW : List W → Option R
  | [.int a] => guard' (decide (0 ≤ a) && decide (a.toNat.log2 ≤ 4000)) (.fro (.int ((Float64.isqrt a.toNat : Nat) : Int)))
  | _ => none
/-- built-in functions that the text imports -/
def bfW (id : String) : Option (List W → Option R) := if id = "math.comb" then some combW else if id = "math.isqrt" then some isqrtW else none
def maxI : List Int → Option Int
  | [] => none
  | x :: xs => some (xs.foldl (fun a b => if a < b then b else a) x)
def minI : List Int → Option Int
  | [] => none
  | x :: xs => some (xs.foldl (fun a b => if b < a then b else a) x)
theorem maxF : ∀ (xs : List Int) (x : Int), (xs.foldl (fun a b => if a < b then b else a) x = x ∨ xs.foldl (fun a b => if a < b then b else a) x ∈ xs) ∧ x ≤ xs.foldl (fun a b => if a < b then b else a) x ∧ ∀ y ∈ xs, y ≤ xs.foldl (fun a b => if a < b then b else a) x
  | [], x => ⟨.inl rfl, Int.le_refl _, fun y h => by cases h⟩
  | y :: xs, x => by
    obtain ⟨h1, h2, h3⟩ := maxF xs (if x < y then y else x)
    rw [List.foldl_cons]
    have hx : x ≤ (if x < y then y else x) := by split <;> omega
    have hy : y ≤ (if x < y then y else x) := by split <;> omega
    refine ⟨?_, Int.le_trans hx h2, fun z hz => ?_⟩
    · rcases h1 with h1 | h1
      · rw [h1]
        split
        · exact .inr List.mem_cons_self
        · exact .inl rfl
      · exact .inr (List.mem_cons_of_mem _ h1)
    · rcases List.mem_cons.mp hz with e | e
      · rw [e]; exact Int.le_trans hy h2
      · exact h3 z e
theorem minF : ∀ (xs : List Int) (x : Int), (xs.foldl (fun a b => if b < a then b else a) x = x ∨ xs.foldl (fun a b => if b < a then b else a) x ∈ xs) ∧ xs.foldl (fun a b => if b < a then b else a) x ≤ x ∧ ∀ y ∈ xs, xs.foldl (fun a b => if b < a then b else a) x ≤ y
  | [], x => ⟨.inl rfl, Int.le_refl _, fun y h => by cases h⟩
  | y :: xs, x => by
    obtain ⟨h1, h2, h3⟩ := minF xs (if y < x then y else x)
    rw [List.foldl_cons]
    have hx : (if y < x then y else x) ≤ x := by split <;> omega
    have hy : (if y < x then y else x) ≤ y := by split <;> omega
    refine ⟨?_, Int.le_trans h2 hx, fun z hz => ?_⟩
    · rcases h1 with h1 | h1
      · rw [h1]
        split
        · exact .inr List.mem_cons_self
        · exact .inl rfl
      · exact .inr (List.mem_cons_of_mem _ h1)
    · rcases List.mem_cons.mp hz with e | e
      · rw [e]; exact Int.le_trans h2 hy
      · exact h3 z e
def max1W : List W → Option R
  | [.lst ws] => (intsOf ws).bind fun ns => (maxI ns).map fun m => .fro (.int m)
  | _ => none
def min1W : List W → Option R
  | [.lst ws] => (intsOf ws).bind fun ns => (minI ns).map fun m => .fro (.int m)
  | _ => none
section
variable {c : Cst} {Wx : WX} {k n : Nat} {X : Cx} {P P' : Addr → Prop} {s s' : S} {σ σ' : L2.St} {H H' : Hp} {Q : VK} {e : Expr} {es : List Expr} {t : TA} {x : Str} {p pos : Pos} {r : List V → Hp → VK → Prop} {id : String}
theorem pe_callGB (hc : CallR X (.builtin id) r) (hg : Gl X x) (hm : X.mg x = some (.builtin id)) (ha : PA X (e :: es) t) (hdb : (x == ("__debug__" : Str)) = false)
    (he : starEach (e :: es) X.env = (false, eval e X.env) :: starEach es X.env) (hpl : (backTo pos (starEach es X.env)).any (·.1) = false) : PE X (.Call (.Name x p) (e :: es) [] pos) (tCB r t) := by
  refine ⟨fun pins s σ H Q I h => ?_⟩
  refine wpAny_Call_Name_kw (ld_glob I hg hm ?_ hdb)
  exact PyProof.Rows.callWith_builtin1 (thn (ha.run pos pins s σ H _ I h) fun us s1 ⟨vs, H1, I1, r1, q1⟩ => hc pins s1 σ H1 vs us Q I1 r1 q1) he hpl
theorem call_comb : CallR X (.builtin "math.comb") (fun xs H Q => ∃ a b : Int, xs = [.int a, .int b] ∧ 0 ≤ a ∧ 0 ≤ b ∧ a < 2 ^ 64 ∧ (b ≤ 9000 ∨ a ≤ 18000) ∧ Q (.int (PySem.W.mcComb a b)) H) := by
  intro pins s σ H xs us Q I r h
  obtain ⟨a, b, rfl, h1, h2, h3, h4, q⟩ := h
  obtain ⟨u, w', rfl, ⟨t, rfl⟩, ⟨t', rfl⟩⟩ := vals2 r
  exact PySem.W.mc_comb h1 h2 h3 h4 fun _ => ⟨.int _, H, I.tok _, ⟨_, rfl⟩, q⟩
theorem call_isqrt : CallR X (.builtin "math.isqrt") (fun xs H Q => ∃ a : Int, xs = [.int a] ∧ 0 ≤ a ∧ a.toNat.log2 ≤ 4000 ∧ Q (.int ((Float64.isqrt a.toNat : Nat) : Int)) H) := by
  intro pins s σ H xs us Q I r h
  obtain ⟨a, rfl, h1, h2, q⟩ := h
  obtain ⟨u, rfl, t, rfl⟩ := vals1 r
  exact PySem.call_function_meets PySem.W.MGF.kind_isqrt PySem.W.MGF.plain_isqrt PySem.W.MGF.entry_isqrt (PySem.W.MGF.args_isqrt _) (PySem.W.mg_run_isqrt a t (by omega) (by omega) (by omega)).meets ⟨.int _, H, I.tok _, ⟨_, rfl⟩, q⟩
theorem fn_comb : FnOkW c Wx combW (fun xs H Q => ∃ a b : Int, xs = [.int a, .int b] ∧ 0 ≤ a ∧ 0 ≤ b ∧ a < 2 ^ 64 ∧ (b ≤ 9000 ∨ a ≤ 18000) ∧ Q (.int (PySem.W.mcComb a b)) H) := fun {P s σ H Q ws z xs} R e hx h => by
  unfold combW at e
  split at e
  · obtain ⟨g, e⟩ := guard'_some e
    subst e
    simp only [Bool.and_eq_true, Bool.or_eq_true, decide_eq_true_eq] at g
    obtain ⟨_, _, rfl, h1, h2⟩ := two_of hx
    rw [h1.int, h2.int]
    exact ⟨_, _, rfl, g.1.1.1, g.1.1.2, g.1.2, g.2, outI R h⟩
  · cases e
theorem fn_isqrt : FnOkW c Wx isqrtW (fun xs H Q => ∃ a : Int, xs = [.int a] ∧ 0 ≤ a ∧ a.toNat.log2 ≤ 4000 ∧ Q (.int ((Float64.isqrt a.toNat : Nat) : Int)) H) := fun {P s σ H Q ws z xs} R e hx h => by
  unfold isqrtW at e
  split at e
  · obtain ⟨g, e⟩ := guard'_some e
    subst e
    simp only [Bool.and_eq_true, decide_eq_true_eq] at g
    obtain ⟨_, rfl, h1⟩ := one_of hx
    rw [h1.int]
    exact ⟨_, rfl, g.1, g.2, outI R h⟩
  · cases e
theorem bf_ok {g : List W → Option R} (h : bfW id = some g) : ∃ r, FnOkW c Wx g r ∧ CallR X (.builtin id) r := by
  unfold bfW at h
  split at h
  · rename_i q; subst q; cases h; exact ⟨_, fn_comb, call_comb⟩
  split at h
  · rename_i q; subst q; cases h; exact ⟨_, fn_isqrt, call_isqrt⟩
  cases h
theorem fn_max1 : FnOkW c Wx max1W (rMax c.K) := fun {P s σ H Q ws z xs} R e hx h => by
  unfold max1W at e
  split at e
  · rename_i us
    obtain ⟨x, rfl, h1⟩ := one_of hx
    obtain ⟨a, vs, rfl, qa, rr⟩ := h1.lst
    cases q : intsOf us with
    | none => rw [q] at e; cases e
    | some ns =>
      rw [q] at e
      cases ns with
      | nil => cases e
      | cons n ns =>
        simp only [Option.bind_some, maxI, Option.map_some, Option.some.injEq] at e
        subst e
        have ev := reps_ints rr q
        subst ev
        refine ⟨a, _, rfl, .inl (.inl qa), Nat.succ_pos _, fun m hm hall => ?_⟩
        obtain ⟨h1, h2, h3⟩ := maxF ns n
        have e1 : ns.foldl (fun a b => if a < b then b else a) n ≤ m := by
          rcases h1 with h1 | h1
          · rw [h1]; exact hall n List.mem_cons_self
          · exact hall _ (List.mem_cons_of_mem _ h1)
        have e2 : m ≤ ns.foldl (fun a b => if a < b then b else a) n := by
          rcases List.mem_cons.mp hm with z | z
          · rw [z]; exact h2
          · exact h3 m z
        rw [show m = ns.foldl (fun a b => if a < b then b else a) n by omega]
        exact outI R h
  · cases e
theorem fn_min1 : FnOkW c Wx min1W (rMin c.K) := fun {P s σ H Q ws z xs} R e hx h => by
  unfold min1W at e
  split at e
  · rename_i us
    obtain ⟨x, rfl, h1⟩ := one_of hx
    obtain ⟨a, vs, rfl, qa, rr⟩ := h1.lst
    cases q : intsOf us with
    | none => rw [q] at e; cases e
    | some ns =>
      rw [q] at e
      cases ns with
      | nil => cases e
      | cons n ns =>
        simp only [Option.bind_some, minI, Option.map_some, Option.some.injEq] at e
        subst e
        have ev := reps_ints rr q
        subst ev
        refine ⟨a, _, rfl, .inl (.inl qa), Nat.succ_pos _, fun m hm hall => ?_⟩
        obtain ⟨h1, h2, h3⟩ := minF ns n
        have e1 : m ≤ ns.foldl (fun a b => if b < a then b else a) n := by
          rcases h1 with h1 | h1
          · rw [h1]; exact hall n List.mem_cons_self
          · exact hall _ (List.mem_cons_of_mem _ h1)
        have e2 : ns.foldl (fun a b => if b < a then b else a) n ≤ m := by
          rcases List.mem_cons.mp hm with z | z
          · rw [z]; exact h2
          · exact h3 m z
        rw [show m = ns.foldl (fun a b => if b < a then b else a) n by omega]
        exact outI R h
  · cases e
end
end Qs
/-! # Methods of texts: join, count -/
namespace Qs
open PySem PySem.Spec PyProof.Rows L2
def strsOf : List W → Option (List (List Nat))
  | [] => some []
  | .str a :: ws => (strsOf ws).map (a :: ·)
  | _ => none
def joinW (a : List Nat) : W → Option R
  | .lst ws => (strsOf ws).bind fun ys => guard' (decide ((ys.map (·.length)).sum + ys.length * a.length ≤ lim)) (.fro (.str (Txt.join (mkS a) (ys.map mkS)).cps.toList))
  | _ => none
def countW (a : List Nat) : W → Option R
  | .str b => some (.fro (.int (Txt.count (mkS a) (mkS b))))
  | _ => none
def eStr1 (g : List Nat → W → Option R) (fo fe : SE) : SE := fun s => (fo s).bind fun p => match val p.2 p.1 with
  | some (.str a) => (fe p.2).bind fun t => (match val t.2 t.1 with
    | some w => (ofO (g a w)).bind fun z => .ok (z, t.2)
    | none => .bad)
  | _ => .bad
section
variable {c : Cst} {Wx : WX} {k n : Nat} {X : Cx} {P P' : Addr → Prop} {s s' : S} {σ σ' : L2.St} {H H' : Hp} {Q : VK} {o e : Expr} {fo fe : SE} {apos pos : Pos}
theorem reps_strs {T : Tab} {K : PySem.W.Frag} : ∀ {ws : List W} {vs : List V} {ys : List (List Nat)}, Reps T K P H ws vs → strsOf ws = some ys → vs = (ys.map mkS).map V.str
  | [], vs, ys, r, e => by
    cases e
    unfold Reps at r
    exact r
  | w :: ws, vs, ys, r, e => by
    unfold Reps at r
    obtain ⟨v, vs', rfl, h1, h2⟩ := r
    unfold strsOf at e
    split at e
    · rename_i heq; cases heq
    · rename_i a ws' heq
      cases heq
      cases q : strsOf ws with
      | none => rw [q] at e; cases e
      | some zs =>
        rw [q] at e
        cases e
        unfold Rep at h1
        rw [h1, reps_strs h2 q]
        rfl
    · cases e
theorem pe_str1' {id : String} {nm : Str} {g : List Nat → W → Option R} {rr : V → List V → Hp → VK → Prop} (slot : Slot "str" nm id) (hty : typeOf (.builtin id) = pure (.type "method_descriptor")) (hm : MtR X id rr)
    (hg : ∀ {σ : L2.St} {P : Addr → Prop} {s : S} {H : Hp} {a : List Nat} {w : W} {z : Qs.R} {v : V} {Q : VK}, Rel c P s σ H → g a w = some z → View c P H w v → Out c Wx σ P s H Q (.ok (z, s)) → rr (.str (mkS a)) [v] H Q)
    (ho : PE X o (rd c Wx fo)) (he : PE X e (rd c Wx fe)) (hb : attributeBase o nm X.env (eval o X.env) = eval o X.env) (hn : PySem.W.isStarred e = false)
    (hline : (apos.endLine == pos.line) = true) : PE X (.Call (.Attribute o nm apos) [e] [] pos) (rd c Wx (eStr1 g fo fe)) := by
  refine pe_imp (pe_bm PySem.F.plainAttrs_str slot hty hm ho (pa_cons' he pa_nil hn) hb ?_ hline (star_no hn) rfl) fun σ H Q ⟨P, s, R, h⟩ => ?_
  · have : starEach [e] X.env = [(false, eval e X.env)] := star_no hn
    rw [this]; rfl
  · refine rd_sub R StE.refl R h fun P1 r s1 v H1 t1 _ R1 rv h1 => ?_
    dsimp only at h1
    split at h1
    · rename_i a hv
      have ev : v = .str (mkS a) := (rv.view R1 hv).str
      subst ev
      refine ⟨rfl, ?_⟩
      refine rd_sub R t1 R1 h1 fun P2 r2 s2 v2 H2 t2 t2' R2 rv2 h2 => ?_
      dsimp only at h2
      split at h2
      · rename_i w hw
        obtain ⟨z, ez, h2⟩ := Out.ofO h2
        exact hg R2 ez (rv2.view R2 hw) (Out.at_ h2 t2 R2)
      · exact h2.elim
    · exact h1.elim
theorem pe_join' (ho : PE X o (rd c Wx fo)) (he : PE X e (rd c Wx fe)) (hb : attributeBase o "join" X.env (eval o X.env) = eval o X.env) (hn : PySem.W.isStarred e = false)
    (hline : (apos.endLine == pos.line) = true) : PE X (.Call (.Attribute o "join" apos) [e] [] pos) (rd c Wx (eStr1 joinW fo fe)) :=
  pe_str1' PySem.F.slot_str_join PySem.F.type_str_join mt_join (fun {σ P s H a w z v Q} R ez vw h => by
    unfold joinW at ez
    split at ez
    · rename_i ws
      obtain ⟨b, vs, rfl, qb, rr⟩ := vw.lst
      cases q : strsOf ws with
      | none => rw [q] at ez; cases ez
      | some ys =>
        rw [q] at ez
        obtain ⟨g, e2⟩ := guard'_some ez
        subst e2
        have ev := reps_strs rr q
        subst ev
        refine ⟨mkS a, b, ys.map mkS, rfl, rfl, .inl (.inl (.inl qb)), ?_, ?_⟩
        · have g := of_decide_eq_true g
          rw [List.map_map, List.length_map, mkS_len]
          have e3 : (ys.map ((fun x : Str => x.length) ∘ mkS)).sum = (ys.map (·.length)).sum := congrArg List.sum (List.map_congr_left (f := (fun x : Str => x.length) ∘ mkS) (g := fun x : List Nat => x.length) fun x _ => mkS_len x)
          rw [e3]
          exact g
        · have := outS R h
          rw [show mkS (Txt.join (mkS a) (ys.map mkS)).cps.toList = Txt.join (mkS a) (ys.map mkS) from mkS_list] at this
          exact this
    · cases ez) ho he hb hn hline
theorem pe_count' (ho : PE X o (rd c Wx fo)) (he : PE X e (rd c Wx fe)) (hb : attributeBase o "count" X.env (eval o X.env) = eval o X.env) (hn : PySem.W.isStarred e = false)
    (hline : (apos.endLine == pos.line) = true) : PE X (.Call (.Attribute o "count" apos) [e] [] pos) (rd c Wx (eStr1 countW fo fe)) :=
  pe_str1' PySem.F.slot_str_count PySem.F.type_str_count mt_count (fun {σ P s H a w z v Q} R ez vw h => by
    unfold countW at ez
    split at ez
    · cases ez
      exact ⟨mkS a, _, rfl, by rw [vw.str], outI R h⟩
    · cases ez) ho he hb hn hline
end
end Qs
/-! # any, all of a list of bools and ints -/
namespace Qs
open PySem PySem.Spec PyProof.Rows L2
def truV : V → Option Bool
  | .bl b => some b
  | .int i => some (decide (i ≠ 0))
  | _ => none
def truW : W → Option Bool
  | .bl b => some b
  | .int i => some (decide (i ≠ 0))
  | _ => none
def trusW : List W → Option (List Bool)
  | [] => some []
  | w :: ws => (truW w).bind fun b => (trusW ws).map (b :: ·)
def trusV : List V → Option (List Bool)
  | [] => some []
  | w :: ws => (truV w).bind fun b => (trusV ws).map (b :: ·)
def any2W : List W → Option R
  | [.lst ws] => (trusW ws).map fun bs => .fro (.bl (bs.any id))
  | _ => none
def all2W : List W → Option R
  | [.lst ws] => (trusW ws).map fun bs => .fro (.bl (bs.all id))
  | _ => none
theorem tru_get : ∀ {vs : List V} {bs : List Bool} {i : Nat} {x : V}, trusV vs = some bs → vs[i]? = some x → truV x = some (bs.getD i false)
  | [], bs, i, x, e, h => by cases h
  | v :: vs, bs, i, x, e, h => by
    unfold trusV at e
    cases q : truV v with
    | none => rw [q] at e; cases e
    | some b =>
      cases q2 : trusV vs with
      | none => rw [q, q2] at e; cases e
      | some cs =>
        rw [q, q2] at e
        cases e
        cases i with
        | zero => cases h; exact q
        | succ i => exact tru_get (i := i) q2 (by simpa using h)
theorem tru_len : ∀ {vs : List V} {bs : List Bool}, trusV vs = some bs → bs.length = vs.length
  | [], bs, e => by cases e; rfl
  | v :: vs, bs, e => by
    unfold trusV at e
    cases q : truV v with
    | none => rw [q] at e; cases e
    | some b =>
      cases q2 : trusV vs with
      | none => rw [q, q2] at e; cases e
      | some cs => rw [q, q2] at e; cases e; simp [tru_len q2]
theorem vals_get : ∀ {vs : List V} {us : List Value} {i : Nat} {u : Value}, Vals vs us → us[i]? = some u → ∃ x, vs[i]? = some x ∧ RelV x u
  | _, _, _, _, .nil, e => by simp at e
  | _, _, 0, _, .cons r _, e => by simp at e; subst e; exact ⟨_, rfl, r⟩
  | _, _, i + 1, u, .cons _ t, e => by
    obtain ⟨x, h1, h2⟩ := vals_get (i := i) (u := u) t (by simpa using e)
    exact ⟨x, by simpa using h1, h2⟩
theorem truth_mix {prog : Program} {w : World} {A : Around} {vs : List V} {bs : List Bool} {its : List Value} (r : Vals vs its) (e : trusV vs = some bs) :
    TruthOf prog w A (fun i v => its.toArray[i]? = some v) (fun i => bs.getD i false) := fun i v s Q E hv hq => by
  have hv' : its[i]? = some v := by simpa using hv
  obtain ⟨x, h1, h2⟩ := vals_get r hv'
  have ht := tru_get e h1
  have hq' : Q (bs.getD i false) s := hq
  cases x with
  | bl b =>
    cases (show v = Value.bool b from h2)
    have : b = bs.getD i false := Option.some.inj ht
    rw [← this] at hq'
    exact wpAny_truthy_bool hq'
  | int n =>
    obtain ⟨t, rfl⟩ := (show ∃ t, v = Value.int n t from h2)
    have : decide (n ≠ 0) = bs.getD i false := Option.some.inj ht
    rw [← this] at hq'
    refine PySem.P.truthy_int ?_
    have e2 : (n != 0) = decide (n ≠ 0) := by
      by_cases h : n = 0
      · subst h; rfl
      · simp [h]
    first | exact hq' | (rw [e2]; exact hq')
  | _ => cases ht
def rAny2 (K : PySem.W.Frag) : List V → Hp → VK → Prop := fun xs H Q => ∃ (a : Addr) (vs : List V) (bs : List Bool), xs = [V.ref a] ∧ SqL K H a vs ∧ trusV vs = some bs ∧ Q (.bl (bs.any id)) H
def rAll2 (K : PySem.W.Frag) : List V → Hp → VK → Prop := fun xs H Q => ∃ (a : Addr) (vs : List V) (bs : List Bool), xs = [V.ref a] ∧ SqL K H a vs ∧ trusV vs = some bs ∧ Q (.bl (bs.all id)) H
theorem cr_any2 {X : Cx} (hc : X.calm = true) : CallR X (.builtin "any") (rAny2 X.K) := by
  intro pins s σ H vs us Q I r h
  obtain ⟨a, xs, bs, rfl, hs, ht, q⟩ := h
  obtain ⟨its, rv, hl, _⟩ := I.list hs
  rw [Vals.ref1 r]
  refine call_any_walk (iter_any hl.isList fun s₂ e2 st hne => ?_)
  subst e2
  refine ⟨_, _, _, _, _, _, _, rfl, Walks.list (A := X.A.in1) (I.ok.hd hc) _ a hne its.toArray, st, truth_mix rv ht, fun h' tk hk => ?_⟩
  refine ⟨.bl _, H, I.kept fun b o eo => hk b o (fun hmem => ?_) (Heap.get?_push_of_some _ eo), ?_, q⟩
  · rcases List.mem_cons.mp hmem with e1 | hmem
    · exact absurd (e1 ▸ Heap.lt_size eo) (Nat.lt_irrefl _)
    · cases hmem
  · show Value.bool _ = Value.bool _
    rw [← L2.any_range, List.size_toArray, tru_len ht, rv.length]
theorem cr_all2 {X : Cx} (hc : X.calm = true) : CallR X (.builtin "all") (rAll2 X.K) := by
  intro pins s σ H vs us Q I r h
  obtain ⟨a, xs, bs, rfl, hs, ht, q⟩ := h
  obtain ⟨its, rv, hl, _⟩ := I.list hs
  rw [Vals.ref1 r]
  refine call_all_walk (iter_any hl.isList fun s₂ e2 st hne => ?_)
  subst e2
  refine ⟨_, _, _, _, _, _, _, rfl, Walks.list (A := X.A.in1) (I.ok.hd hc) _ a hne its.toArray, st, truth_mix rv ht, fun h' tk hk => ?_⟩
  refine ⟨.bl _, H, I.kept fun b o eo => hk b o (fun hmem => ?_) (Heap.get?_push_of_some _ eo), ?_, q⟩
  · rcases List.mem_cons.mp hmem with e1 | hmem
    · exact absurd (e1 ▸ Heap.lt_size eo) (Nat.lt_irrefl _)
    · cases hmem
  · show Value.bool _ = Value.bool _
    rw [← L2.all_range, List.size_toArray, tru_len ht, rv.length]
theorem reps_tru {T : Tab} {K : PySem.W.Frag} {P : Addr → Prop} {H : Hp} : ∀ {ws : List W} {vs : List V} {bs : List Bool}, Reps T K P H ws vs → trusW ws = some bs → trusV vs = some bs
  | [], vs, bs, r, e => by cases e; unfold Reps at r; subst r; rfl
  | w :: ws, vs, bs, r, e => by
    unfold Reps at r
    obtain ⟨v, vs', rfl, h1, h2⟩ := r
    unfold trusW at e
    cases q : truW w with
    | none => rw [q] at e; cases e
    | some b =>
      cases q2 : trusW ws with
      | none => rw [q, q2] at e; cases e
      | some cs =>
        rw [q, q2] at e
        cases e
        unfold trusV
        have : truV v = some b := by
          unfold truW at q
          split at q
          · unfold Rep at h1; subst h1; exact q
          · unfold Rep at h1; subst h1; exact q
          · cases q
        rw [this, reps_tru h2 q2]; rfl
section
variable {c : Cst} {Wx : WX}
theorem fn_any2 : FnOkW c Wx any2W (rAny2 c.K) := fun {P s σ H Q ws z xs} R e hx h => by
  unfold any2W at e
  split at e
  · rename_i ws
    cases q : trusW ws with
    | none => rw [q] at e; cases e
    | some ns =>
      rw [q] at e; cases e
      obtain ⟨_, rfl, h1⟩ := one_of hx
      obtain ⟨p, vs, rfl, qa, rr⟩ := h1.lst
      exact ⟨p, vs, ns, rfl, .of qa, reps_tru rr q, outB R h⟩
  · cases e
theorem fn_all2 : FnOkW c Wx all2W (rAll2 c.K) := fun {P s σ H Q ws z xs} R e hx h => by
  unfold all2W at e
  split at e
  · rename_i ws
    cases q : trusW ws with
    | none => rw [q] at e; cases e
    | some ns =>
      rw [q] at e; cases e
      obtain ⟨_, rfl, h1⟩ := one_of hx
      obtain ⟨p, vs, rfl, qa, rr⟩ := h1.lst
      exact ⟨p, vs, ns, rfl, .of qa, reps_tru rr q, outB R h⟩
  · cases e
end
end Qs
/-! # max, min with default= -/
namespace Qs
open PySem PySem.Spec PyProof.Rows L2
open PySem.W (HoldAll Holds minOf maxOf DatumOrd Datum)
abbrev dfS : Str := Str.ofString "default"
section
variable {X : Cx} {H : Hp} {s : Shared} {pins : List (Addr × Obj)} {σ : L2.St}
theorem hold_ints {h : Heap} : ∀ {ns : List Int} {us : List Value}, Vals (ns.map V.int) us → HoldAll h us ns
  | [], _, .nil => .nil
  | n :: ns, _, .cons r rs => by
    obtain ⟨t, rfl⟩ := r
    exact .cons ⟨_, .int n t⟩ (hold_ints rs)
/-- a pair of ints stands at v -/
def PairAt (K : PySem.W.Frag) (H : Hp) (v : V) (p : Int × Int) : Prop := ∃ t, v = .ref t ∧ SqT K H t [.int p.1, .int p.2]
theorem pair_hold (I : Inv X pins σ H s) {v : V} {u : Value} {p : Int × Int} (h : PairAt X.K H v p) (r : RelV v u) : Holds s.heap u p := by
  obtain ⟨t, rfl, q⟩ := h
  obtain rfl : u = Value.ref t := r
  obtain ⟨its, rv, hp, _⟩ := I.tuple q
  have hp : s.heap.IsTuple t its.toArray := hp
  obtain ⟨o, ho, hc, n, hd⟩ := hp
  cases rv with
  | cons r1 rr =>
    cases rr with
    | cons r2 rr =>
      cases rr
      obtain ⟨t1, rfl⟩ := r1
      obtain ⟨t2, rfl⟩ := r2
      exact ⟨_, .tuple ho hc hd (.cons (.int _ _) (.cons (.int _ _) .nil))⟩
theorem hold_pairs (I : Inv X pins σ H s) : ∀ {vs : List V} {us : List Value} {ps : List (Int × Int)}, Vals vs us → Paired (fun v p => PairAt X.K H v p) vs ps → HoldAll s.heap us ps
  | _, _, _, .nil, .nil => .nil
  | _, _, _, .cons r rs, .cons h hs => .cons (pair_hold I h r) (hold_pairs I rs hs)
/-- min, max: g tells the first of the best -/
def rMD (K : PySem.W.Frag) (g : ∀ {α : Type} [DecidableEq α] [Datum α] [DatumOrd α], α → List α → α) : List V → List V → Hp → VK → Prop := fun xs zs H Q => ∃ (a : Addr) (d : V) (vs : List V), xs = [.ref a] ∧ zs = [d] ∧ (SqL K H a vs ∨ SqT K H a vs) ∧
  ((∃ ns : List Int, vs = ns.map V.int ∧ (ns = [] → Q d H) ∧ ∀ y ys, ns = y :: ys → Q (.int (g y ys)) H) ∨
   (∃ ps : List (Int × Int), Paired (fun v p => PairAt K H v p) vs ps ∧ (ps = [] → Q d H) ∧ ∀ y ys, ps = y :: ys → ∀ v, PairAt K H v (g y ys) → Q v H))
theorem hold_pair_at (I : Inv X pins σ H s) {u : Value} {p q : Int × Int} {v : V} {h' : Heap} (hk : ∀ b o, s.heap.get? b = some o → h'.get? b = some o) (h : PairAt X.K H v p) (r : RelV v u) (h2 : Holds h' u q) : p = q := by
  obtain ⟨as, r1⟩ := (pair_hold I h r).keeps hk
  obtain ⟨bs, r2⟩ := h2
  have e := (Reads.unique r1 _ _ r2).1
  have e : (PyData.tuple [.int p.1, .int p.2]) = .tuple [.int q.1, .int q.2] := e
  injection e with e
  injection e with e1 e
  injection e with e2 _
  injection e1 with e1
  injection e2 with e2
  exact Prod.ext e1 e2
theorem units1 {n : Nat} {A : Around} (h : A.units + 64 < cLine) (hn : n ≤ 10) : A.units + 1 + n < cLine := by omega
theorem dep_int : (Datum.depth Int) ≤ 10 := by decide
theorem dep_pair : (Datum.depth (Int × Int)) ≤ 10 := by decide
theorem paired_at {α β : Type} {F : α → β → Prop} : ∀ {xs : List α} {ys : List β} {i : Nat} {a : α}, Paired F xs ys → xs[i]? = some a → ∃ b, ys[i]? = some b ∧ F a b
  | _, _, _, _, .nil, e => by cases e
  | _, _, 0, _, .cons h _, e => by cases e; exact ⟨_, rfl, h⟩
  | _, _, i + 1, _, .cons _ t, e => by
    obtain ⟨b, e1, e2⟩ := paired_at (i := i) t (by simpa using e)
    exact ⟨b, by simpa using e1, e2⟩
theorem valsR_at : ∀ {vs : List V} {us : List Value} {i : Nat} {u : Value}, Vals vs us → us[i]? = some u → ∃ v, vs[i]? = some v ∧ RelV v u
  | _, _, _, _, .nil, e => by cases e
  | _, _, 0, _, .cons h _, e => by cases e; exact ⟨_, rfl, h⟩
  | _, _, i + 1, _, .cons _ t, e => by
    obtain ⟨b, e1, e2⟩ := valsR_at (i := i) t (by simpa using e)
    exact ⟨b, by simpa using e1, e2⟩
theorem holds_int {h : Heap} {u : Value} {i : Int} (H : Holds h u i) : ∃ t, u = .int i t := by
  obtain ⟨as, r⟩ := H
  have r : Reads h u (.int i) as := r
  cases r with
  | int i t => exact ⟨t, rfl⟩
theorem cr_minD (hc : X.calm = true) (hu : X.A.units + 64 < cLine) : CallRK X (.builtin "min") [dfS] (rMD X.K (fun {α} _ _ _ => minOf)) := by
  intro pins s σ H xs zs us ws Q I r r2 h
  obtain ⟨a, d, vs, rfl, rfl, hs, h⟩ := h
  rw [Vals.ref1 r]
  obtain ⟨dv, rfl, rd⟩ := vals1 r2
  have hh := I.ok.hd hc
  rcases h with ⟨ns, rfl, h0, h1⟩ | ⟨ps, hp, h0, h1⟩
  · rcases hs with hs | hs
    · obtain ⟨its, rv, hl, _⟩ := I.list hs
      refine PySem.W.min_list_datum_default (α := Int) hh hl.isList (by simpa using hold_ints rv) (units1 hu dep_int) (fun e h' tk hk => ⟨d, H, I.kept hk, rd, h0 e⟩) fun y ys i v h' tk e hi hv hk => ?_
      obtain ⟨t, rfl⟩ := holds_int hv
      exact ⟨.int _, H, I.kept hk, ⟨t, rfl⟩, h1 y ys e⟩
    · obtain ⟨its, rv, hl, _⟩ := I.tuple hs
      refine PySem.W.min_tuple_datum_default (α := Int) hh (show s.heap.IsTuple a its.toArray from hl) (by simpa using hold_ints rv) (units1 hu dep_int) (fun e h' tk hk => ⟨d, H, I.kept hk, rd, h0 e⟩) fun y ys i v h' tk e hi hv hk => ?_
      obtain ⟨t, rfl⟩ := holds_int hv
      exact ⟨.int _, H, I.kept hk, ⟨t, rfl⟩, h1 y ys e⟩
  · rcases hs with hs | hs
    · obtain ⟨its, rv, hl, _⟩ := I.list hs
      refine PySem.W.min_list_datum_default (α := Int × Int) hh hl.isList (by simpa using hold_pairs I rv hp) (units1 hu dep_pair) (fun e h' tk hk => ⟨d, H, I.kept hk, rd, h0 e⟩) fun y ys i v h' tk e hi hv hk => ?_
      obtain ⟨x, hx, rx⟩ := valsR_at rv (by simpa using hi)
      obtain ⟨q, hq, pq⟩ := paired_at hp hx
      have := hold_pair_at I hk pq rx hv
      subst this
      exact ⟨x, H, I.kept hk, rx, h1 y ys e x pq⟩
    · obtain ⟨its, rv, hl, _⟩ := I.tuple hs
      refine PySem.W.min_tuple_datum_default (α := Int × Int) hh (show s.heap.IsTuple a its.toArray from hl) (by simpa using hold_pairs I rv hp) (units1 hu dep_pair) (fun e h' tk hk => ⟨d, H, I.kept hk, rd, h0 e⟩) fun y ys i v h' tk e hi hv hk => ?_
      obtain ⟨x, hx, rx⟩ := valsR_at rv (by simpa using hi)
      obtain ⟨q, hq, pq⟩ := paired_at hp hx
      have := hold_pair_at I hk pq rx hv
      subst this
      exact ⟨x, H, I.kept hk, rx, h1 y ys e x pq⟩
theorem cr_maxD (hc : X.calm = true) (hu : X.A.units + 64 < cLine) : CallRK X (.builtin "max") [dfS] (rMD X.K (fun {α} _ _ _ => maxOf)) := by
  intro pins s σ H xs zs us ws Q I r r2 h
  obtain ⟨a, d, vs, rfl, rfl, hs, h⟩ := h
  rw [Vals.ref1 r]
  obtain ⟨dv, rfl, rd⟩ := vals1 r2
  have hh := I.ok.hd hc
  rcases h with ⟨ns, rfl, h0, h1⟩ | ⟨ps, hp, h0, h1⟩
  · rcases hs with hs | hs
    · obtain ⟨its, rv, hl, _⟩ := I.list hs
      refine PySem.W.max_list_datum_default (α := Int) hh hl.isList (by simpa using hold_ints rv) (units1 hu dep_int) (fun e h' tk hk => ⟨d, H, I.kept hk, rd, h0 e⟩) fun y ys i v h' tk e hi hv hk => ?_
      obtain ⟨t, rfl⟩ := holds_int hv
      exact ⟨.int _, H, I.kept hk, ⟨t, rfl⟩, h1 y ys e⟩
    · obtain ⟨its, rv, hl, _⟩ := I.tuple hs
      refine PySem.W.max_tuple_datum_default (α := Int) hh (show s.heap.IsTuple a its.toArray from hl) (by simpa using hold_ints rv) (units1 hu dep_int) (fun e h' tk hk => ⟨d, H, I.kept hk, rd, h0 e⟩) fun y ys i v h' tk e hi hv hk => ?_
      obtain ⟨t, rfl⟩ := holds_int hv
      exact ⟨.int _, H, I.kept hk, ⟨t, rfl⟩, h1 y ys e⟩
  · rcases hs with hs | hs
    · obtain ⟨its, rv, hl, _⟩ := I.list hs
      refine PySem.W.max_list_datum_default (α := Int × Int) hh hl.isList (by simpa using hold_pairs I rv hp) (units1 hu dep_pair) (fun e h' tk hk => ⟨d, H, I.kept hk, rd, h0 e⟩) fun y ys i v h' tk e hi hv hk => ?_
      obtain ⟨x, hx, rx⟩ := valsR_at rv (by simpa using hi)
      obtain ⟨q, hq, pq⟩ := paired_at hp hx
      have := hold_pair_at I hk pq rx hv
      subst this
      exact ⟨x, H, I.kept hk, rx, h1 y ys e x pq⟩
    · obtain ⟨its, rv, hl, _⟩ := I.tuple hs
      refine PySem.W.max_tuple_datum_default (α := Int × Int) hh (show s.heap.IsTuple a its.toArray from hl) (by simpa using hold_pairs I rv hp) (units1 hu dep_pair) (fun e h' tk hk => ⟨d, H, I.kept hk, rd, h0 e⟩) fun y ys i v h' tk e hi hv hk => ?_
      obtain ⟨x, hx, rx⟩ := valsR_at rv (by simpa using hi)
      obtain ⟨q, hq, pq⟩ := paired_at hp hx
      have := hold_pair_at I hk pq rx hv
      subst this
      exact ⟨x, H, I.kept hk, rx, h1 y ys e x pq⟩
end
/-! ### as trees -/
def pairsOf : List W → Option (List (Int × Int))
  | [] => some []
  | .tup [.int a, .int b] :: ws => (pairsOf ws).map ((a, b) :: ·)
  | _ => none
def ltP (p q : Int × Int) : Bool := if p.1 = q.1 then decide (p.2 < q.2) else decide (p.1 < q.1)
def minPs (y : Int × Int) (ys : List (Int × Int)) : Int × Int := ys.foldl (fun a y => if ltP y a = true then y else a) y
def maxPs (y : Int × Int) (ys : List (Int × Int)) : Int × Int := ys.foldl (fun a y => if ltP a y = true then y else a) y
def bestW (fi : List Int → Option Int) (fp : Int × Int → List (Int × Int) → Int × Int) (ws : List W) (d : W) : Option R :=
  match ws with
  | [] => some (.fro d)
  | ws => match intsOf ws with
    | some ns => (fi ns).map fun m => .fro (.int m)
    | none => match pairsOf ws with
      | some (y :: ys) => some (.fro (.tup [.int (fp y ys).1, .int (fp y ys).2]))
      | _ => none
/-- a value for good at the place of the default -/
def isFlat : W → Bool
  | .non => true
  | .int _ => true
  | .bl _ => true
  | .str _ => true
  | _ => false
def maxdW : List W → Option R
  | [.lst ws, d] => cond (isFlat d) (bestW maxI maxPs ws d) none
  | [.tup ws, d] => cond (isFlat d) (bestW maxI maxPs ws d) none
  | _ => none
def mindW : List W → Option R
  | [.lst ws, d] => cond (isFlat d) (bestW minI minPs ws d) none
  | [.tup ws, d] => cond (isFlat d) (bestW minI minPs ws d) none
  | _ => none
theorem minOf_int (y : Int) : ∀ ys : List Int, some (minOf y ys) = minI (y :: ys) := fun ys => by
  unfold minOf minI
  congr 1
  congr 1
  funext a b
  show (if decide (b < a) = true then b else a) = _
  by_cases h : b < a <;> simp [h]
theorem maxOf_int (y : Int) : ∀ ys : List Int, some (maxOf y ys) = maxI (y :: ys) := fun ys => by
  unfold maxOf maxI
  congr 1
  congr 1
  funext a b
  show (if decide (a < b) = true then b else a) = _
  by_cases h : a < b <;> simp [h]
theorem ltP_eq (p q : Int × Int) : (DatumOrd.lt p q : Bool) = ltP p q := rfl
theorem minOf_pair (y : Int × Int) (ys : List (Int × Int)) : minOf y ys = minPs y ys := rfl
theorem maxOf_pair (y : Int × Int) (ys : List (Int × Int)) : maxOf y ys = maxPs y ys := rfl
section
variable {c : Cst} {Wx : WX} {X : Cx} {P P' : Addr → Prop} {s s' : S} {σ σ' : L2.St} {H H' : Hp} {Q : VK}
theorem reps_pairs : ∀ {ws : List W} {vs : List V} {ps : List (Int × Int)}, Reps c.T c.K P H ws vs → pairsOf ws = some ps → Paired (fun v p => PairAt c.K H v p) vs ps
  | [], vs, ps, r, e => by
    cases e
    unfold Reps at r
    subst r
    exact .nil
  | w :: ws, vs, ps, r, e => by
    unfold pairsOf at e
    split at e
    · rename_i h
      cases h
    · rename_i a b ws' h
      cases h
      cases q : pairsOf ws with
      | none => rw [q] at e; cases e
      | some qs =>
        rw [q] at e
        cases e
        unfold Reps at r
        obtain ⟨v, rr, rfl, h1, h2⟩ := r
        refine .cons ?_ (reps_pairs h2 q)
        unfold Rep at h1
        obtain ⟨t, us, rfl, hq, hr⟩ := h1
        refine ⟨t, rfl, ?_⟩
        unfold Reps at hr
        obtain ⟨v1, r1, rfl, e1, hr⟩ := hr
        unfold Reps at hr
        obtain ⟨v2, r2, rfl, e2, hr⟩ := hr
        unfold Reps at hr
        subst hr
        unfold Rep at e1 e2
        subst e1
        subst e2
        exact hq
    · cases e
theorem out_pair {a b : Int} (R : Rel c P s σ H) (h : Out c Wx σ P s H Q (.ok (.fro (.tup [.int a, .int b]), s))) {v : V} (hv : PairAt c.K H v (a, b)) : Q v H := by
  refine h.flat R ?_
  obtain ⟨t, rfl, hq⟩ := hv
  unfold Rep
  exact ⟨t, _, rfl, hq, Reps.cons rep_int (Reps.cons rep_int Reps.nil)⟩
theorem best_ok {fi : List Int → Option Int} {fp : Int × Int → List (Int × Int) → Int × Int} {g : ∀ {α : Type} [DecidableEq α] [Datum α] [DatumOrd α], α → List α → α} (hi : ∀ (y : Int) ys, some (g y ys) = fi (y :: ys)) (hp : ∀ (y : Int × Int) ys, g y ys = fp y ys)
    {ws : List W} {d : W} {z : R} {a : Addr} {vs : List V} {dv : V} (R : Rel c P s σ H) (e : bestW fi fp ws d = some z) (hs : SqL c.K H a vs ∨ SqT c.K H a vs) (rr : Reps c.T c.K P H ws vs) (hd : Rep c.T c.K P H d dv) (h : Out c Wx σ P s H Q (.ok (z, s))) : rMD c.K g [.ref a] [dv] H Q := by
  refine ⟨a, dv, vs, rfl, rfl, hs, ?_⟩
  unfold bestW at e
  split at e
  · cases e
    unfold Reps at rr
    subst rr
    exact .inl ⟨[], rfl, fun _ => h.flat R hd, (fun y ys z => nomatch z)⟩
  · rename_i hne
    split at e
    · rename_i ns q
      refine .inl ⟨ns, reps_ints rr q, fun z => ?_, fun y ys z => ?_⟩
      · subst z
        have : vs = [] := reps_ints rr q
        have l := rr.length
        rw [this] at l
        exact absurd (List.eq_nil_of_length_eq_zero l) hne
      · subst z
        rw [← hi] at e
        cases e
        exact outI R h
    · rename_i q
      split at e
      · rename_i y ys q2
        cases e
        refine .inr ⟨y :: ys, reps_pairs rr q2, (fun z => nomatch z), fun y' ys' z v hv => ?_⟩
        cases z
        have hv : PairAt c.K H v (g y ys) := hv
        rw [hp] at hv
        exact out_pair R h hv
      · cases e
theorem flat_rep {d : W} {v : V} (h : isFlat d = true) (r : View c P H d v) : Rep c.T c.K P H d v := by
  cases d <;> first | exact r | cases h
/-- the call's two values in one list -/
def rTwo (r : List V → List V → Hp → VK → Prop) : List V → Hp → VK → Prop := fun xs H Q => ∃ x y, xs = [x, y] ∧ r [x] [y] H Q
theorem fn_maxd : FnOkW c Wx maxdW (rTwo (rMD c.K (fun {α} _ _ _ => maxOf))) := fun {P s σ H Q ws z xs} R e hx h => by
  unfold maxdW at e
  split at e
  · rename_i us d
    obtain ⟨x, y, rfl, h1, h2⟩ := two_of hx
    cases q : isFlat d with
    | false => rw [q] at e; cases e
    | true =>
      rw [q] at e
      obtain ⟨a, vs, rfl, qa, rr⟩ := h1.lst
      exact ⟨_, _, rfl, best_ok (g := fun {α} _ _ _ => maxOf) maxOf_int maxOf_pair R e (.inl (.inl (.inl qa))) rr (flat_rep q h2) h⟩
  · rename_i us d
    obtain ⟨x, y, rfl, h1, h2⟩ := two_of hx
    cases q : isFlat d with
    | false => rw [q] at e; cases e
    | true =>
      rw [q] at e
      obtain ⟨a, vs, rfl, qa, rr⟩ := h1.tup
      exact ⟨_, _, rfl, best_ok (g := fun {α} _ _ _ => maxOf) maxOf_int maxOf_pair R e (.inr qa) rr (flat_rep q h2) h⟩
  · cases e
theorem fn_mind : FnOkW c Wx mindW (rTwo (rMD c.K (fun {α} _ _ _ => minOf))) := fun {P s σ H Q ws z xs} R e hx h => by
  unfold mindW at e
  split at e
  · rename_i us d
    obtain ⟨x, y, rfl, h1, h2⟩ := two_of hx
    cases q : isFlat d with
    | false => rw [q] at e; cases e
    | true =>
      rw [q] at e
      obtain ⟨a, vs, rfl, qa, rr⟩ := h1.lst
      exact ⟨_, _, rfl, best_ok (g := fun {α} _ _ _ => minOf) minOf_int minOf_pair R e (.inl (.inl (.inl qa))) rr (flat_rep q h2) h⟩
  · rename_i us d
    obtain ⟨x, y, rfl, h1, h2⟩ := two_of hx
    cases q : isFlat d with
    | false => rw [q] at e; cases e
    | true =>
      rw [q] at e
      obtain ⟨a, vs, rfl, qa, rr⟩ := h1.tup
      exact ⟨_, _, rfl, best_ok (g := fun {α} _ _ _ => minOf) minOf_int minOf_pair R e (.inr qa) rr (flat_rep q h2) h⟩
  · cases e
theorem tCKw_two {r : List V → List V → Hp → VK → Prop} {fa fb : SE} {σ : L2.St} {H : Hp} {Q : VK} (h : tCB (rTwo r) (tArgs c Wx [fa, fb]) σ H Q) : tCKw r (tArgs c Wx [fa]) (tCons (rd c Wx fb) tNil) σ H Q := by
  unfold tCB tArgs tCons at h
  unfold tCKw tArgs tCons tNil
  refine rd_mono (fun x H1 h => ?_) h
  unfold tArgs tCons at h
  refine rd_mono (fun y H2 h => ?_) h
  unfold tArgs tNil at h
  obtain ⟨_, _, e, h⟩ := h
  cases e
  exact h
/-- max(e, default=d), min(e, default=d) -/
theorem pe_maxD {e d : Expr} {fa fb : SE} {p pos q : Pos} (hK : X.K = c.K) (hc : X.calm = true) (hu : X.A.units + 64 < cLine) (hg : Gl X "max") (hm : X.mg "max" = none) (ha : PE X e (rd c Wx fa)) (hd : PE X d (rd c Wx fb)) (hs : noSt e = true) :
    PE X (.Call (.Name "max" p) [e] [⟨some dfS, d, q⟩] pos) (rd c Wx (eFn maxdW [fa, fb])) := by
  have hn : starEach [e] X.env = (false, eval e X.env) :: starEach [] X.env := star_no (noSt_ok hs)
  exact pe_fn_of (f := fun _ => True) fn_maxd (pe_imp (hK ▸ pe_callBK (cr_maxD hc hu) hg hm (by decide +kernel) (pa_cons' ha pa_nil (noSt_ok hs)) (pk_cons hd pk_nil) (by decide) (by decide) (by rw [hn]; rfl) (by rw [hn]; rfl)) fun σ H Q h => tCKw_two h)
theorem pe_minD {e d : Expr} {fa fb : SE} {p pos q : Pos} (hK : X.K = c.K) (hc : X.calm = true) (hu : X.A.units + 64 < cLine) (hg : Gl X "min") (hm : X.mg "min" = none) (ha : PE X e (rd c Wx fa)) (hd : PE X d (rd c Wx fb)) (hs : noSt e = true) :
    PE X (.Call (.Name "min" p) [e] [⟨some dfS, d, q⟩] pos) (rd c Wx (eFn mindW [fa, fb])) := by
  have hn : starEach [e] X.env = (false, eval e X.env) :: starEach [] X.env := star_no (noSt_ok hs)
  exact pe_fn_of (f := fun _ => True) fn_mind (pe_imp (hK ▸ pe_callBK (cr_minD hc hu) hg hm (by decide +kernel) (pa_cons' ha pa_nil (noSt_ok hs)) (pk_cons hd pk_nil) (by decide) (by decide) (by rw [hn]; rfl) (by rw [hn]; rfl)) fun σ H Q h => tCKw_two h)
end
end Qs
/-! # sorted of tuples of ints of any length, the empty one too -/
namespace Qs
open PySem PySem.Spec PyProof.Rows L2
/-! ### the order on plain lists -/
abbrev lxT : List Int → List Int → Bool := HT.lexLt
def mrgI (x : List Int) (f : List (List Int) → List (List Int)) : List (List Int) → List (List Int)
  | [] => x :: f []
  | y :: ys => cond (lxT y x) (y :: mrgI x f ys) (x :: f (y :: ys))
def mrg : List (List Int) → List (List Int) → List (List Int)
  | [], ys => ys
  | x :: xs, ys => mrgI x (fun l => mrg xs l) ys
def passT : List (List (List Int)) → List (List (List Int))
  | a :: b :: r => mrg a b :: passT r
  | l => l
def passes : Nat → List (List (List Int)) → List (List (List Int))
  | 0, l => l
  | n + 1, l => passes n (passT l)
def sortT (ts : List (List Int)) : List (List Int) := (passes 13 (ts.map fun t => [t])).foldr mrg []
abbrev SrtT (l : List (List Int)) : Prop := l.Pairwise fun x y => lxT y x = false
theorem mrgI_perm (x : List Int) (f : List (List Int) → List (List Int)) (r : List (List Int)) (hf : ∀ l, (f l).Perm (r ++ l)) : ∀ l, (mrgI x f l).Perm (x :: (r ++ l))
  | [] => (hf []).cons x
  | y :: ys => by
    unfold mrgI
    cases lxT y x with
    | true => exact ((mrgI_perm x f r hf ys).cons y).trans ((List.perm_middle (a := y) (l₁ := x :: r) (l₂ := ys)).symm)
    | false => exact (hf (y :: ys)).cons x
theorem mrg_perm : ∀ a b, (mrg a b).Perm (a ++ b)
  | [], b => .refl _
  | x :: xs, b => mrgI_perm x (fun l => mrg xs l) xs (fun l => mrg_perm xs l) b
theorem lx_refl (x : List Int) : lxT x x = false := (NtL.swo_lexL (fun u : List Int => u)).refl x
theorem lx_tr {x y z : List Int} (h1 : lxT y x = false) (h2 : lxT z y = false) : lxT z x = false := NtL.lex_tr x y z h1 h2
theorem mrgI_srt (x : List Int) (xs : List (List Int)) (hx : SrtT (x :: xs)) (f : List (List Int) → List (List Int)) (hp : ∀ l, (f l).Perm (xs ++ l)) (hf : ∀ l, SrtT l → SrtT (f l)) : ∀ l, SrtT l → SrtT (mrgI x f l)
  | [], h => by
    refine List.pairwise_cons.mpr ⟨fun z hz => ?_, hf [] h⟩
    have := (hp []).mem_iff.mp hz
    rw [List.append_nil] at this
    exact (List.pairwise_cons.mp hx).1 z this
  | y :: ys, h => by
    unfold mrgI
    have hy := List.pairwise_cons.mp h
    cases q : lxT y x with
    | true =>
      refine List.pairwise_cons.mpr ⟨fun z hz => ?_, mrgI_srt x xs hx f hp hf ys hy.2⟩
      have a : lxT x y = false := NtL.lex_asym _ _ q
      rcases List.mem_cons.mp ((mrgI_perm x f xs hp ys).mem_iff.mp hz) with e | hz
      · rw [e]; exact a
      · rcases List.mem_append.mp hz with hz | hz
        · exact lx_tr a ((List.pairwise_cons.mp hx).1 z hz)
        · exact hy.1 z hz
    | false =>
      refine List.pairwise_cons.mpr ⟨fun z hz => ?_, hf _ h⟩
      rcases List.mem_append.mp ((hp _).mem_iff.mp hz) with hz | hz
      · exact (List.pairwise_cons.mp hx).1 z hz
      · rcases List.mem_cons.mp hz with e | hz
        · rw [e]; exact q
        · exact lx_tr q (hy.1 z hz)
theorem mrg_srt : ∀ a b, SrtT a → SrtT b → SrtT (mrg a b)
  | [], b, _, h => h
  | x :: xs, b, ha, hb => mrgI_srt x xs ha (fun l => mrg xs l) (fun l => mrg_perm xs l) (fun l h => mrg_srt xs l (List.pairwise_cons.mp ha).2 h) b hb
theorem passT_ok : ∀ l : List (List (List Int)), (∀ a ∈ l, SrtT a) → (∀ a ∈ passT l, SrtT a) ∧ (passT l).flatten.Perm l.flatten
  | [], h => ⟨h, .refl _⟩
  | [a], h => ⟨h, .refl _⟩
  | a :: b :: r, h => by
    obtain ⟨h1, h2⟩ := passT_ok r fun x m => h x (List.mem_cons_of_mem _ (List.mem_cons_of_mem _ m))
    refine ⟨fun x m => ?_, ?_⟩
    · rcases List.mem_cons.mp m with e | m
      · rw [e]; exact mrg_srt a b (h a List.mem_cons_self) (h b (List.mem_cons_of_mem _ List.mem_cons_self))
      · exact h1 x m
    · show (mrg a b ++ (passT r).flatten).Perm (a ++ (b ++ r.flatten))
      rw [← List.append_assoc]
      exact (mrg_perm a b).append h2
theorem passes_ok : ∀ n (l : List (List (List Int))), (∀ a ∈ l, SrtT a) → (∀ a ∈ passes n l, SrtT a) ∧ (passes n l).flatten.Perm l.flatten
  | 0, l, h => ⟨h, .refl _⟩
  | n + 1, l, h => by
    obtain ⟨h1, h2⟩ := passT_ok l h
    obtain ⟨h3, h4⟩ := passes_ok n (passT l) h1
    exact ⟨h3, h4.trans h2⟩
theorem fold_ok : ∀ l : List (List (List Int)), (∀ a ∈ l, SrtT a) → SrtT (l.foldr mrg []) ∧ (l.foldr mrg []).Perm l.flatten
  | [], _ => ⟨.nil, .refl _⟩
  | a :: l, h => by
    obtain ⟨h1, h2⟩ := fold_ok l fun x m => h x (List.mem_cons_of_mem _ m)
    exact ⟨mrg_srt _ _ (h a List.mem_cons_self) h1, (mrg_perm _ _).trans (List.Perm.append_left a h2)⟩
theorem flat_one : ∀ ts : List (List Int), (ts.map fun t => [t]).flatten = ts
  | [] => rfl
  | t :: ts => by
    show [t] ++ (ts.map fun t => [t]).flatten = t :: ts
    rw [flat_one ts]; rfl
theorem sortT_ok (ts : List (List Int)) : SrtT (sortT ts) ∧ (sortT ts).Perm ts := by
  obtain ⟨h1, h2⟩ := passes_ok 13 (ts.map fun t => [t]) fun a m => by
    obtain ⟨t, _, rfl⟩ := List.mem_map.mp m
    exact List.pairwise_singleton _ _
  obtain ⟨h3, h4⟩ := fold_ok _ h1
  refine ⟨h3, h4.trans (h2.trans ?_)⟩
  rw [flat_one]
theorem lx_anti : ∀ a b : List Int, lxT a b = false → lxT b a = false → a = b
  | [], [], _, _ => rfl
  | [], y :: ys, h, _ => by rw [show lxT [] (y :: ys) = true from HT.lexLt_nil_cons y ys] at h; cases h
  | x :: xs, [], _, h => by rw [show lxT [] (x :: xs) = true from HT.lexLt_nil_cons x xs] at h; cases h
  | x :: xs, y :: ys, h1, h2 => by
    rw [show lxT (x :: xs) (y :: ys) = _ from HT.lexLt_cons x y xs ys] at h1
    rw [show lxT (y :: ys) (x :: xs) = _ from HT.lexLt_cons y x ys xs] at h2
    by_cases e : x = y
    · rw [if_pos e] at h1
      rw [if_pos e.symm] at h2
      rw [e, lx_anti xs ys h1 h2]
    · rw [if_neg e] at h1
      rw [if_neg (Ne.symm e)] at h2
      have a := of_decide_eq_false h1
      have b := of_decide_eq_false h2
      exact absurd (Int.le_antisymm (Int.not_lt.mp b) (Int.not_lt.mp a)) e
theorem sortT_eq {l l' : List (List Int)} (p : l'.Perm l) (h : SrtT l') : l' = sortT l := by
  obtain ⟨h1, h2⟩ := sortT_ok l
  exact List.Perm.eq_of_pairwise (le := fun x y => lxT y x = false) (fun a b _ _ h1 h2 => lx_anti a b h2 h1) h h1 (p.trans h2.symm)
/-! ### at the machine -/
section
variable {prog : Program} {w : World} {A : Around} {E : Value → Shared → Prop} {s : Shared}
/-- v is a tuple of these ints -/
def IsTI (h : Heap) (v : Value) (ns : List Int) : Prop := ∃ a items, v = .ref a ∧ h.IsTuple a items ∧ IntsAre items.toList ns
theorem IsTI.keeps {h h' : Heap} {v : Value} {ns : List Int} (x : IsTI h v ns) (k : ∀ b o, v = .ref b → o.cls = .type "tuple" → h.get? b = some o → h'.get? b = some o) : IsTI h' v ns := by
  obtain ⟨a, items, rfl, ⟨o, ho, hc, hd⟩, i⟩ := x
  exact ⟨a, items, rfl, ⟨o, k _ _ rfl hc ho, hc, hd⟩, i⟩
theorem keyLt'_gen (x y : Value) : keyLt' general' x y = oneLt' false x y := rfl
theorem ti_gen {v u : Value} {ns ms : List Int} {Q : Bool → Shared → Prop} (hu : A.units < cLine) (hv : IsTI s.heap v ns) (hw : IsTI s.heap u ms) (h : Q (lxT ns ms) s) : wpAny (model prog w) A (keyLt' general' v u) Q E s := by
  obtain ⟨a, ia, rfl, ta, ea⟩ := hv
  obtain ⟨b, ib, rfl, tb, eb⟩ := hw
  rw [keyLt'_gen]
  exact PySem.W.kat_one _ _ (HT.lt_tupInts ta tb ea eb hu h)
theorem ti_one {v u : Value} {ns ms : List Int} {Q : Bool → Shared → Prop} (hu : A.units < cLine) (hv : IsTI s.heap v ns) (hw : IsTI s.heap u ms) (h : Q (lxT ns ms) s) : wpAny (model prog w) A (keyLt' oneType' v u) Q E s := by
  obtain ⟨a, items, rfl, ⟨⟨cls, dd, data, sl⟩, ho, hc, n, hd⟩, ea⟩ := hv
  obtain ⟨b, items2, rfl, ⟨⟨cls2, dd2, data2, sl2⟩, ho2, hc2, n2, hd2⟩, eb⟩ := hw
  simp only at hc hd hc2 hd2
  subst hc hd hc2 hd2
  rw [keyLt'_oneType, oneLt'_eq]
  simp only [if_true]
  refine wpAny_bind (wpAny_cRoomFor hu ?_)
  refine wpAny_bind (wpAny_callSpecialIfBound?_slot (T := "tuple") ⟨_, ho, rfl⟩ PySem.F.slot_tuple_lt ?_)
  exact call_meets PySem.F.slot_tuple_lt ⟨_, ho, rfl⟩ PySem.F.entry_tuple_lt (PySem.F.args_tuple_lt_2 _ _) (HT.tuple_lt_ints a b items items2 n n2 dd dd2 sl sl2 ns ms ea eb) ⟨ho, ho2, wpAny_truthy_bool h⟩
theorem ti_lex {b fin : Bool} {Q : Bool → Shared → Prop} : ∀ {ps qs : List Value} {ns ms : List Int} (i : Nat), IntsAre ps ns → IntsAre qs ms → fin = decide (ps.length < qs.length) → Q (lxT ns ms) s → PySem.W.KatLex prog w A b fin Q (ps.zip qs) i s
  | _, _, _, _, i, .nil, .nil, e, h => by
    subst e
    exact PySem.W.kat_nil h
  | _, _, _, _, i, .nil, .cons c u r, e, h => by
    have e : fin = true := by rw [e]; exact decide_eq_true (by simp)
    subst e
    exact PySem.W.kat_nil h
  | _, _, _, _, i, .cons a t r, .nil, e, h => by
    have e : fin = false := by rw [e]; exact decide_eq_false (by simp)
    subst e
    exact PySem.W.kat_nil h
  | _, _, _, _, i, .cons a t r, .cons c u r', e, h => by
    have e' := e
    simp only [List.length_cons, Nat.add_lt_add_iff_right] at e'
    refine PySem.W.kat_cons (wpAny_eqBool_int ?_)
    rw [show lxT (a :: _) (c :: _) = _ from HT.lexLt_cons a c _ _] at h
    refine PySem.W.kat_go (fun q => PySem.W.kat_yes ?_) (fun q => PySem.W.kat_no ?_)
    · have hnm : a = c := by simpa using q
      rw [if_pos hnm] at h
      exact ti_lex (i + 1) r r' e' h
    · have hnm : ¬ a = c := by simpa using q
      rw [if_neg hnm] at h
      exact oneLt_any_int h
theorem ti_tup {v u : Value} {ns ms : List Int} {f : Bool} {Q : Bool → Shared → Prop} (hv : IsTI s.heap v ns) (hw : IsTI s.heap u ms) (h : Q (lxT ns ms) s) : wpAny (model prog w) A (keyLt' (tuples' f) v u) Q E s := by
  obtain ⟨a, items, rfl, ⟨o, ho, hc, n, hd⟩, ea⟩ := hv
  obtain ⟨b, items2, rfl, ⟨o2, ho2, hc2, n2, hd2⟩, eb⟩ := hw
  exact PySem.W.kat_lt ho hd ho2 hd2 (ti_lex 0 ea eb (by rw [Array.length_toList, Array.length_toList]) h)
/-! ### which kind of keys -/
/-- f is the first item, or none -/
def FstI (ns : List Int) (f : Option Value) : Prop := (ns = [] ∧ f = none) ∨ ∃ n t r, ns = n :: r ∧ f = some (.int n t)
theorem ti_type {M : Model} {h : Heap} {v : Value} {ns : List Int} (x : IsTI h v ns) : PySem.W.Looks M h (typeOf v) (.type "tuple") := by
  obtain ⟨a, items, rfl, ⟨o, ho, hc, hd⟩, i⟩ := x
  exact hc ▸ (PySem.W.Looks.ld ho).andThen .now
theorem ti_first {v : Value} {ns : List Int} (x : IsTI s.heap v ns) : ∃ f, FstI ns f ∧ ∀ (M : Model) (A : Around) (E : Value → Shared → Prop) (Q : Option Value → Shared → Prop), Q f s → wpAny M A (firstOfTuple' v) Q E s := by
  have ty : ∀ M : Model, PySem.W.Looks M s.heap (typeOf v) (.type "tuple") := fun M => ti_type x
  obtain ⟨a, items, rfl, ⟨o, ho, hc, n, hd⟩, i⟩ := x
  refine ⟨items[0]?, ?_, fun M A E Q h => ?_⟩
  · obtain ⟨l⟩ := items
    cases i with
    | nil => exact .inl ⟨rfl, rfl⟩
    | cons n t r => exact .inr ⟨n, t, _, rfl, rfl⟩
  · rw [PySem.W.kas_first_eq]
    refine wpAny_bind ((ty M).here ?_)
    rw [if_neg (by simp)]
    exact wpAny_bind (listItems_at ho hd (wpAny_pure h))
theorem ti_firsts {k : Value → List Int} : ∀ {vs : List Value}, (∀ v ∈ vs, IsTI s.heap v (k v)) → ∃ fs : List (Option Value), Paired (fun v f => FstI (k v) f) vs fs ∧
    ∀ (M : Model) (A : Around) (E : Value → Shared → Prop) (Q : List (Option Value) → Shared → Prop), Q fs s → wpAny M A (vs.mapM firstOfTuple') Q E s
  | [], _ => ⟨[], .nil, fun M A E Q h => by rw [List.mapM_nil]; exact wpAny_pure h⟩
  | v :: vs, hv => by
    obtain ⟨f, h1, h2⟩ := ti_first (hv v List.mem_cons_self)
    obtain ⟨fs, h3, h4⟩ := ti_firsts (vs := vs) fun u hu => hv u (List.mem_cons_of_mem _ hu)
    refine ⟨f :: fs, .cons h1 h3, fun M A E Q h => ?_⟩
    rw [List.mapM_cons]
    exact wpAny_bind (h2 M A E _ (wpAny_bind (h4 M A E _ (wpAny_pure h))))
theorem fs_tups {k : Value → List Int} : ∀ {vs : List Value}, (∀ v ∈ vs, IsTI s.heap v (k v)) → (∀ v ∈ vs, k v ≠ []) → ∃ fs, PySem.W.KatTups s.heap vs fs ∧ fs.length = vs.length ∧ ∀ f ∈ fs, ∃ n t, f = Value.int n t
  | [], _, _ => ⟨[], .nil, rfl, fun _ h => absurd h (by simp)⟩
  | v :: vs, hv, hn => by
    obtain ⟨fs, h1, h2, h3⟩ := fs_tups (vs := vs) (fun u hu => hv u (List.mem_cons_of_mem _ hu)) fun u hu => hn u (List.mem_cons_of_mem _ hu)
    obtain ⟨a, ⟨l⟩, rfl, ⟨o, ho, hc, n, hd⟩, i⟩ := hv v List.mem_cons_self
    have ne := hn _ List.mem_cons_self
    generalize k (Value.ref a) = ns at i ne
    cases i with
    | nil => exact absurd rfl ne
    | cons m t r =>
      refine ⟨.int m t :: fs, .cons ho hc hd rfl h1, by simp [h2], fun f hf => ?_⟩
      rcases List.mem_cons.mp hf with e | hf
      · exact ⟨m, t, e⟩
      · exact h3 f hf
theorem fs_all {k : Value → List Int} : ∀ {vs : List Value} {fs : List (Option Value)}, Paired (fun v f => FstI (k v) f) vs fs → (∃ v ∈ vs, k v = []) → fs.all (·.isSome) = false
  | _, _, .nil, h => by
    obtain ⟨v, hv, _⟩ := h
    exact absurd hv (by simp)
  | _, _, .cons (a := v) (b := f) h1 h2, h => by
    rw [List.all_cons]
    obtain ⟨u, hu, e⟩ := h
    rcases List.mem_cons.mp hu with q | hu
    · subst q
      rcases h1 with ⟨_, rfl⟩ | ⟨n, t, r, e2, _⟩
      · rfl
      · rw [e] at e2; cases e2
    · rw [fs_all h2 ⟨u, hu, e⟩, Bool.and_false]
theorem ti_kind {vs : List Value} {k : Value → List Int} (h2 : 2 ≤ vs.length) (hv : ∀ v ∈ vs, IsTI s.heap v (k v)) : ∃ κ : SortKind, (κ = oneType' ∨ κ = general' ∨ κ = tuples' true) ∧
    ∀ (Q : SortKind → Shared → Prop) (E : Value → Shared → Prop), Q κ s → wpAny (model prog w) A (keyKind' vs.toArray) Q E s := by
  by_cases hn : ∀ v ∈ vs, k v ≠ []
  · obtain ⟨fs, q1, q2, q3⟩ := fs_tups hv hn
    refine ⟨tuples' true, .inr (.inr rfl), fun Q E hq => ?_⟩
    refine PySem.W.kat_kind (T := .type "int") q1 (by omega) (fun f hm => ?_) (by rfl) ?_
    · obtain ⟨x, t, rfl⟩ := q3 f hm
      exact PySem.W.Looks.now
    · have e : (Value.type "int" != Value.type "tuple") = true := by first | decide +kernel | rfl | decide
      rw [e]
      exact hq
  · have hn : ∃ v ∈ vs, k v = [] := Classical.byContradiction fun q => hn fun v hm e => q ⟨v, hm, e⟩
    obtain ⟨fs, q1, q2⟩ := ti_firsts hv
    have q3 := fs_all q1 hn
    obtain ⟨v₁, v₂, rest, rfl⟩ : ∃ v₁ v₂ rest, vs = v₁ :: v₂ :: rest := by
      match vs, h2 with
      | [], h2 => simp at h2
      | [_], h2 => simp at h2
      | v₁ :: v₂ :: rest, _ => exact ⟨v₁, v₂, rest, rfl⟩
    cases q1 with
    | cons r1 r2 =>
      rename_i f fs
      rcases r1 with ⟨e1, rfl⟩ | ⟨n, t, r, e1, rfl⟩
      · refine ⟨oneType', .inl rfl, fun Q E hq => ?_⟩
        rw [keyKind'_eq, List.mapM_toArray, map_eq_pure_bind]
        refine wpAny_bind (wpAny_bind (q2 _ _ _ _ (wpAny_pure ?_)))
        rw [if_neg (by simp), if_neg (by simp)]
        rw [oneTypeOnly'_eq, List.mapM_toArray, map_eq_pure_bind]
        refine wpAny_bind (wpAny_bind (wpAny_bind (PySem.W.kas_mapM (r := Value.type "tuple") _ (fun v hm Q' hq => (ti_type (hv v hm)).here hq) (wpAny_pure ?_))))
        have hall : ((List.map (fun _ => Value.type "tuple") (v₁ :: v₂ :: rest)).toArray.all fun x => x == Value.type "tuple") = true := by
          simp only [List.all_toArray, List.all_map, List.all_eq_true]
          intro _ _
          rfl
        have h0 : (List.map (fun _ => Value.type "tuple") (v₁ :: v₂ :: rest)).toArray[0]? = some (Value.type "tuple") := by simp
        rw [h0]
        simp only [hall, if_true]
        exact wpAny_pure (wpAny_pure hq)
      · refine ⟨general', .inr (.inl rfl), fun Q E hq => ?_⟩
        rw [keyKind'_eq, List.mapM_toArray, map_eq_pure_bind]
        refine wpAny_bind (wpAny_bind (q2 _ _ _ _ (wpAny_pure ?_)))
        have e2 : (List.toArray (some (Value.int n t) :: fs)).all (·.isSome) = false := by
          rw [List.all_toArray]; exact q3
        rw [if_neg (by rw [e2]; simp), if_pos (by simp)]
        exact wpAny_pure hq
theorem ti_sortable {a : Addr} {vs : List Value} {k : Value → List Int} (h2 : 2 ≤ vs.length) (hu : A.units < cLine) (hv : ∀ v ∈ vs, IsTI s.heap v (k v)) (ha : ∀ o, s.heap.get? a = some o → o.cls ≠ .type "tuple") :
    SrtO.SortableO prog w A s a vs fun v u => lxT (k v) (k u) := by
  intro h' keep
  have hv' : ∀ v ∈ vs, IsTI h' v (k v) := fun v hm => (hv v hm).keeps fun b o e c g => keep b o (fun z => by subst z; exact ha o g c) g
  obtain ⟨κ, e, q⟩ := ti_kind (prog := prog) (w := w) (A := A) (s := { s with heap := h' }) h2 hv'
  refine ⟨κ, q, fun x y hx hy => ?_⟩
  have r1 := hv' _ hx
  have r2 := hv' _ hy
  rcases e with rfl | rfl | rfl
  · exact ti_one (s := { s with heap := h' }) (Q := fun r s' => s' = _ ∧ r = lxT (k x.1) (k y.1)) hu r1 r2 ⟨rfl, rfl⟩
  · exact ti_gen (s := { s with heap := h' }) (Q := fun r s' => s' = _ ∧ r = lxT (k x.1) (k y.1)) hu r1 r2 ⟨rfl, rfl⟩
  · exact ti_tup (s := { s with heap := h' }) (Q := fun r s' => s' = _ ∧ r = lxT (k x.1) (k y.1)) r1 r2 ⟨rfl, rfl⟩
/-! ### as a rule -/
/-- the ints that a tuple's items are -/
def kV (h : Heap) : Value → List Int
  | .ref a => match h.get? a with
    | some o => match o.data with
      | .seq items _ => items.toList.map SrtO.iv
      | _ => []
    | none => []
  | _ => []
theorem kV_eq {h : Heap} {v : Value} {ns : List Int} (x : IsTI h v ns) : kV h v = ns := by
  obtain ⟨a, items, rfl, ⟨o, ho, hc, n, hd⟩, i⟩ := x
  show (match h.get? a with | some o => _ | none => _) = ns
  rw [ho]
  show (match o.data with | .seq items _ => _ | _ => _) = ns
  rw [hd]
  exact SrtO.iv_ints i
/-- a tuple of these ints stands at v -/
def TAt (K : PySem.W.Frag) (H : Hp) (v : V) (ns : List Int) : Prop := ∃ t, v = .ref t ∧ SqT K H t (ns.map V.int)
def rSortedTI (K : PySem.W.Frag) : List V → Hp → VK → Prop := fun vs H Q => ∃ (a : Addr) (xs : List V) (ks : List (List Int)), vs = [V.ref a] ∧ SqL K H a xs ∧ Paired (fun v ns => TAt K H v ns) xs ks ∧
  ∀ (ys : List V) (p : Addr), Paired (fun v ns => TAt K H v ns) ys (sortT ks) → H p = none → Q (.ref p) (upd H p (.lst ys))
section
variable {X : Cx} {H : Hp} {pins : List (Addr × Obj)} {σ : L2.St}
theorem ti_all (I : Inv X pins σ H s) : ∀ {xs : List V} {us : List Value} {ks : List (List Int)}, Vals xs us → Paired (fun v ns => TAt X.K H v ns) xs ks → us.map (kV s.heap) = ks ∧
    ∀ u ∈ us, (∃ a, u = Value.ref a) ∧ IsTI s.heap u (kV s.heap u) ∧ TAt X.K H (backV u) (kV s.heap u)
  | _, _, _, .nil, .nil => ⟨rfl, fun _ h => absurd h (by simp)⟩
  | _, _, _, .cons (a := x) (b := u) r rs, .cons (b := ns) h hs => by
    obtain ⟨h1, h2⟩ := ti_all I rs hs
    obtain ⟨t, rfl, q⟩ := h
    obtain rfl : u = Value.ref t := r
    obtain ⟨its, rv, hp, _⟩ := I.tuple q
    have z : IsTI s.heap (.ref t) ns := ⟨t, its.toArray, rfl, hp, by simpa using rv.ints⟩
    have e := kV_eq z
    refine ⟨by rw [List.map_cons, e, h1], fun v hv => ?_⟩
    rcases List.mem_cons.mp hv with q' | hv
    · subst q'
      rw [e]
      exact ⟨⟨t, rfl⟩, z, t, rfl, q⟩
    · exact h2 v hv
theorem paired_backV {K : PySem.W.Frag} {h : Heap} : ∀ {us : List Value}, (∀ u ∈ us, TAt K H (backV u) (kV h u)) → Paired (fun v ns => TAt K H v ns) (us.map backV) (us.map (kV h))
  | [], _ => .nil
  | u :: us, q => .cons (q u List.mem_cons_self) (paired_backV fun v hv => q v (List.mem_cons_of_mem _ hv))
theorem cr_sortedTI (hu : X.A.units + 64 < cLine) : CallR X (.builtin "sorted") (rSortedTI X.K) := by
  intro pins s σ H vs us Q I r h
  obtain ⟨a, xs, ks, rfl, hs, hx, q⟩ := h
  obtain ⟨its, rv, hl, hz⟩ := I.list hs
  rw [Vals.ref1 r]
  obtain ⟨e1, e2⟩ := ti_all I rv hx
  refine SrtO.sorted_ord (NtL.swo_lexL (kV s.heap)) hl.isList (by rw [← rv.length]; exact hz) (fun h2 h₁ a' ha kk => ?_) fun out h1 h2 => ?_
  · refine ti_sortable (s := { s with heap := h₁ }) h2 (by show X.A.units + _ + _ < cLine; omega) (fun v hm => (e2 v hm).2.1.keeps fun b o _ _ g => (kk b o g).2) fun o g => ?_
    have e' : some o = some (seqObj "list" its.toArray 0) := g.symm.trans ha
    cases e'
    intro c
    exact absurd (Value.type.inj c) (by decide)
  · obtain ⟨ep, he'⟩ := PyProof.Rows.sortedAll_at s.heap its out.toArray
    have m : ∀ u ∈ out, u ∈ its := fun u hm => h2.perm.mem_iff.mp hm
    have hlen : (out.map backV).length ≤ sizeLine := by
      rw [List.length_map, h2.perm.length_eq, ← rv.length]
      exact hz
    have es : out.map (kV s.heap) = sortT ks := by
      refine sortT_eq ?_ (List.pairwise_map.mpr (h1.imp fun {x y} z => z))
      rw [← e1]
      exact h2.perm.map _
    refine ⟨.ref _, upd H (s.heap.objs.size + 1) (.lst (out.map backV)), I.laid (t' := s.toks) (fun _ _ => PyProof.Rows.sortedAll_old) (Nat.le_succ _) ⟨hlen, out, ep, vals_back fun u hm => (e2 u (m u hm)).1, he'⟩, rfl, q _ _ ?_ (I.hok.fresh (Nat.le_succ _))⟩
    rw [← es]
    exact paired_backV fun u hm => (e2 u (m u hm)).2.2
end
end
/-! ### as trees -/
def tupsOf : List W → Option (List (List Int))
  | [] => some []
  | .tup us :: ws => match intsOf us with
    | some ns => (tupsOf ws).map (ns :: ·)
    | none => none
  | _ => none
def tupI (ns : List Int) : W := .tup (ns.map W.int)
def sortTW : List W → Option R
  | [.lst ws] => (tupsOf ws).map fun ts => .new (.lst ((sortT ts).map tupI))
  | _ => none
section
variable {c : Cst} {Wx : WX} {X : Cx} {P : Addr → Prop} {s : S} {σ : L2.St} {H : Hp} {Q : VK}
theorem reps_tups : ∀ {ws : List W} {vs : List V} {ts : List (List Int)}, Reps c.T c.K P H ws vs → tupsOf ws = some ts → Paired (fun v ns => TAt c.K H v ns) vs ts
  | [], vs, ts, r, e => by
    cases e
    unfold Reps at r
    subst r
    exact .nil
  | w :: ws, vs, ts, r, e => by
    unfold tupsOf at e
    split at e
    · rename_i h
      cases h
    · rename_i us ws' h
      cases h
      cases q1 : intsOf us with
      | none => rw [q1] at e; cases e
      | some ns =>
        rw [q1] at e
        cases q : tupsOf ws with
        | none => rw [q] at e; cases e
        | some qs =>
          rw [q] at e
          cases e
          unfold Reps at r
          obtain ⟨v, rr, rfl, h1, h2⟩ := r
          refine .cons ?_ (reps_tups h2 q)
          unfold Rep at h1
          obtain ⟨t, us', rfl, hq, hr⟩ := h1
          cases reps_ints hr q1
          exact ⟨t, rfl, hq⟩
    · cases e
theorem tups_reps : ∀ {vs : List V} {ts : List (List Int)}, Paired (fun v ns => TAt c.K H v ns) vs ts → Reps c.T c.K P H (ts.map tupI) vs
  | _, _, .nil => Reps.nil
  | _, _, .cons h hs => by
    obtain ⟨t, rfl, q⟩ := h
    refine Reps.cons ?_ (tups_reps hs)
    unfold tupI Rep
    exact ⟨t, _, rfl, q, reps_intmap⟩
theorem fn_sortT : FnOkW c Wx sortTW (rSortedTI c.K) := fun {P s σ H Q ws z xs} R e hx h => by
  unfold sortTW at e
  split at e
  · rename_i us
    obtain ⟨x, rfl, h1⟩ := one_of hx
    obtain ⟨a, vs, rfl, qa, rr⟩ := h1.lst
    cases q : tupsOf us with
    | none => rw [q] at e; cases e
    | some ts =>
      rw [q] at e
      cases e
      exact ⟨a, vs, ts, rfl, .of qa, reps_tups rr q, fun ys p hp hn => Out.lst R h (tups_reps hp) p hn⟩
  · cases e
/-! ### both kinds -/
def sortAW (ws : List W) : Option R :=
  match sortW ws with
  | some r => some r
  | none => sortTW ws
def rSortA (K : PySem.W.Frag) : List V → Hp → VK → Prop := fun vs H Q => rSortedI K vs H Q ∨ rSortedTI K vs H Q
theorem cr_sortA (hu : X.A.units + 64 < cLine) : CallR X (.builtin "sorted") (rSortA X.K) := by
  intro pins s σ H vs us Q I r h
  rcases h with h | h
  · exact cr_sortedI _ _ _ _ _ _ _ I r h
  · exact cr_sortedTI hu _ _ _ _ _ _ _ I r h
theorem fn_sortA : FnOkW c Wx sortAW (rSortA c.K) := fun {P s σ H Q ws z xs} R e hx h => by
  unfold sortAW at e
  cases q : sortW ws with
  | some r =>
    rw [q] at e
    cases e
    exact .inl (fn_sort R q hx h)
  | none =>
    rw [q] at e
    exact .inr (fn_sortT R e hx h)
end
end Qs
/-! # x.split(sep), f'{x}' -/
namespace Qs
open PySem PySem.Spec PyProof.Rows L2
def splitW (a : List Nat) : W → Option R
  | .str b => guard' (!b.isEmpty && b.all (· < 256) && decide (a.length + 2 ≤ lim)) (.new (.lst ((TL.spl b 0 [] a).map W.str)))
  | _ => none
/-- {x} -/
def fmtW : W → Option (List Nat)
  | .int i => guard' (decide (i.natAbs.log2 < 1920)) (toString i : Str).cps.toList
  | .str x => guard' (decide (x.length ≤ lim)) x
  | _ => none
def eFmt (fe : SE) : SE := fun s => (fe s).bind fun p => match val p.2 p.1 with
  | some w => (match fmtW w with
    | some l => .ok (.fro (.str l), p.2)
    | none => .bad)
  | none => .bad
section
variable {c : Cst} {Wx : WX} {k n : Nat} {X : Cx} {P P' : Addr → Prop} {s s' : S} {σ σ' : L2.St} {H H' : Hp} {Q : VK} {o e : Expr} {fo fe : SE} {apos pos p2 : Pos}
theorem reps_codes {T : Tab} {K : PySem.W.Frag} : ∀ {ys : List (List Nat)}, Reps T K P H (ys.map W.str) ((ys.map SX.S).map V.str)
  | [] => Reps.nil
  | y :: ys => Reps.cons (by unfold Rep; rfl) reps_codes
theorem pe_split' (ho : PE X o (rd c Wx fo)) (he : PE X e (rd c Wx fe)) (hb : attributeBase o "split" X.env (eval o X.env) = eval o X.env) (hn : PySem.W.isStarred e = false)
    (hline : (apos.endLine == pos.line) = true) : PE X (.Call (.Attribute o "split" apos) [e] [] pos) (rd c Wx (eStr1 splitW fo fe)) :=
  pe_str1' PySem.F.slot_str_split PySem.F.type_str_split mt_split (fun {σ P s H a w z v Q} R ez vw h => by
    unfold splitW at ez
    split at ez
    · rename_i b
      obtain ⟨g, e2⟩ := guard'_some ez
      subst e2
      simp only [Bool.and_eq_true, decide_eq_true_eq, Bool.not_eq_true'] at g
      have hne : b ≠ [] := fun z => by subst z; cases g.1.1
      refine ⟨mkS a, mkS b, rfl, by rw [vw.str], ?_, ?_, ?_⟩
      · rw [mkS_len]
        cases b with
        | nil => exact absurd rfl hne
        | cons x y => rfl
      · rw [mkS_len]; exact g.2
      · have e3 : Txt.split (mkS a) (mkS b) = (TL.spl b 0 [] a).map SX.S := SX.split_S hne g.1.2
        intro p hp
        rw [e3]
        exact Out.lst R h reps_codes p hp
    · cases ez) ho he hb hn hline
theorem pe_fmt1 (he : PE X e (rd c Wx fe)) : PE X (.JoinedStr [.FormattedValue e (-1) none p2] pos) (rd c Wx (eFmt fe)) := by
  refine pe_imp (pe_joined1 (pe_fmt he)) fun σ H Q ⟨P, s, R, h⟩ => ?_
  refine rd_sub R StE.refl R h fun P1 r s1 v H1 t1 _ R1 rv h1 => ?_
  dsimp only at h1
  split at h1
  · rename_i w hw
    have vv := rv.view R1 hw
    cases q : fmtW w with
    | none => rw [q] at h1; exact h1.elim
    | some l =>
      rw [q] at h1
      unfold fmtW at q
      split at q
      · obtain ⟨g, e2⟩ := guard'_some q
        subst e2
        refine .inr ⟨_, vv.int, of_decide_eq_true g, ?_⟩
        have := outS R1 (Out.at_ h1 t1 R1)
        rw [mkS_list] at this
        exact this
      · obtain ⟨g, e2⟩ := guard'_some q
        subst e2
        refine .inl ⟨_, vv.str, ?_, outS R1 (Out.at_ h1 t1 R1)⟩
        rw [mkS_len]; exact of_decide_eq_true g
      · cases q
  · exact h1.elim
end
end Qs
/-! # x in o, o == y by the class's own methods -/
namespace Qs
open PySem PySem.Spec PyProof.Rows L2
/-- the receiver's method is called with the other value; sw: the receiver stands behind -/
def eOwn (l : List (Nat × AK)) (sw neg : Bool) (fa fb : SE) : SE := bind2 fa fb fun ra rb s => match val s (if sw then rb else ra) with
  | some (.ins j ws) => (match l.lookup j with
    | some (.meth m) => (callR (fun as => noEx (m as)) [.fro (.ins j ws), if sw then ra else rb] s).bind fun p => match p.1 with
      | .fro (.bl b) => .ok (.fro (.bl (b != neg)), p.2)
      | _ => .bad
    | _ => .bad)
  | _ => .bad
def eCmpF (l : List (Nat × AK)) (sw neg : Bool) (op : CmpOp) (fa fb : SE) : SE := fun s => match eCmp op fa fb s with
  | .bad => eOwn l sw neg fa fb s
  | r => r
/-- what the call must give -/
def OwnCall (X : Cx) (f : Str) (o a : V) (H : Hp) (Q : V → Hp → Prop) : Prop := ∃ t C dx vs g sp kk, o = .ref t ∧ L2.SlAt H t C dx vs ∧ L2.SCls X.K C ∧ PySem.W.findIn X.K (.ref C) f = some (some (.ref g)) ∧ PySem.W.isFn X.K (.ref g) = true ∧ Room kk X.A ∧
  FnR X.prog X.w X.K X.mg X.base CX0 kk g sp ∧ sp [o, a] H Q (fun _ _ _ => False)
section
variable {X : Cx} {H : Hp} {s : Shared} {pins : List (Addr × Obj)} {σ : L2.St} {Q : VK} {f : Str}
theorem run_own {g : Addr} {kk : Nat} {sp : Sp} {x y : V} {u v : Value} (I : Inv X pins σ H s) (F : FnR X.prog X.w X.K X.mg X.base CX0 kk g sp) (hr : Room kk X.A) (rx : RelV x u) (ry : RelV y v) (h : sp [x, y] H Q (fun _ _ _ => False)) :
    wpAny (model X.prog X.w) X.A (call (.ref g) [u, v]) (EP X pins σ Q) X.xe s :=
  wpAny_call (run_fnR (us := [u, v]) (vs := [x, y]) F hr (fun _ _ _ _ _ _ _ z => z.elim) I (.cons rx (.cons ry .nil)) h)
theorem std_none {t : Addr} {x : Value} : stdlibNamesSay? (.ref t) x = none := rfl
theorem op_inOwn {neg : Bool} {op : CmpOp} (hop : (op = .In ∧ neg = false) ∨ (op = .NotIn ∧ neg = true)) : OpR X (compareOp op) (fun x y H Q => OwnCall X "__contains__" y x H fun z H' => ∃ b, z = .bl b ∧ Q (.bl (b != neg)) H') := by
  intro pins s σ H x y v u Q I rx ry ⟨t, C, dx, vs, g, sp, kk, ey, hsl, hc, hs, hf, hr, F, q⟩
  subst ey
  cases (show u = Value.ref t from ry)
  obtain ⟨us, od, _, _, J⟩ := slAt_get I hsl
  have hb : PySem.W.typeIn X.K (.ref g) = some (.type "function") := beq_iff_eq.mp hf
  have key : wpAny (model X.prog X.w) X.A (contains (.ref t) v) (fun r s' => ∃ H', Inv X pins σ H' s' ∧ Q (.bl (r != neg)) H') X.xe s := by
    unfold contains
    refine wpAny_holding ?_
    rw [std_none]
    show wpAny _ _ (specialOf (.ref t) "__contains__" >>= _) _ _ s
    refine wpAny_bind (wpAny_bind (J.type.here ((PySem.W.looks_findIn I.kIn hs).here ?_)))
    rw [if_neg (show ¬ ((some (Value.ref g) == some Value.none) = true) from fun z => by cases z)]
    show wpAny _ _ (callSpecialUnlessNone? (.ref t) "__contains__" [v] _ >>= _) _ _ s
    refine wpAny_bind ?_
    unfold callSpecialUnlessNone?
    refine wpAny_bind (wpAny_bind (J.type.here ((PySem.W.looks_findIn I.kIn hs).here ?_)))
    refine wpAny_holding (wpAny_bind ((PySem.W.bind_fn I.kIn _ hb).here ?_))
    show wpAny _ _ (if (Value.ref g == Value.none) = true then _ else _) _ _ s
    rw [if_neg (show ¬ ((Value.ref g == Value.none) = true) from Bool.false_ne_true)]
    refine wpAny_bind (wpAny_mono (run_own (x := .ref t) I F hr rfl rx q) (fun w s' ⟨z, H', I', rz, b, ez, qz⟩ => wpAny_pure ?_) fun _ _ z => z)
    subst ez
    cases (show w = Value.bool b from rz)
    exact wpAny_pure ⟨H', I', qz⟩
  rcases hop with ⟨rfl, rfl⟩ | ⟨rfl, rfl⟩
  · show wpAny _ _ ((contains (.ref t) v : Sem Bool) >>= fun r => (pure (Value.bool r) : Sem Value)) _ _ s
    refine wpAny_bind (wpAny_mono key (fun r s' ⟨H', I', qz⟩ => wpAny_pure ⟨.bl r, H', I', rfl, ?_⟩) fun _ _ z => z)
    simpa using qz
  · show wpAny _ _ ((contains (.ref t) v : Sem Bool) >>= fun r => (pure (Value.bool (!r)) : Sem Value)) _ _ s
    refine wpAny_bind (wpAny_mono key (fun r s' ⟨H', I', qz⟩ => wpAny_pure ⟨.bl (!r), H', I', rfl, ?_⟩) fun _ _ z => z)
    simpa using qz
end
section
variable {c : Cst} {Wx : WX} {k n : Nat} {X : Cx} {P P0 P1 P2 P' : Addr → Prop} {s s' s0 s1 : S} {σ σ0 σ' : L2.St} {H H0 H1 H' : Hp} {Q : VK} {f : Str} {a b : Expr} {fa fb : SE} {pos : Pos} {l : List (Nat × AK)} {sw neg : Bool} {op : CmpOp}
theorem own_out (hr : Room k X.A) (hK : X.K = c.K) (hl : ∀ j ak, l.lookup j = some ak → AtOk c k X.prog X.w X.K X.mg X.base f j ak) {ra rb : R} {x y : V} (R : Rel c P s σ H) (rx : RvR c P s σ H0 H ra x) (ry : RvR c P s σ H0 H rb y)
    (h : Out c Wx σ P s H Q (match val s (if sw then rb else ra) with
      | some (.ins j ws) => (match l.lookup j with
        | some (.meth m) => (callR (fun as => noEx (m as)) [.fro (.ins j ws), if sw then ra else rb] s).bind fun p => match p.1 with
          | .fro (.bl b) => .ok (.fro (.bl (b != neg)), p.2)
          | _ => .bad
        | _ => .bad)
      | _ => .bad)) : OwnCall X f (if sw then y else x) (if sw then x else y) H fun z H' => ∃ b, z = .bl b ∧ Q (.bl (b != neg)) H' := by
  have ro : RvR c P s σ H0 H (if sw then rb else ra) (if sw then y else x) := by cases sw <;> assumption
  have rg : RvR c P s σ H0 H (if sw then ra else rb) (if sw then x else y) := by cases sw <;> assumption
  generalize (if sw then rb else ra) = ro' at *
  generalize (if sw then ra else rb) = rg' at *
  generalize (if sw then y else x) = o at *
  generalize (if sw then x else y) = g' at *
  cases hv : val s ro' with
  | none => rw [hv] at h; exact h.elim
  | some w =>
    rw [hv] at h
    cases w with
    | ins j ws =>
      dsimp only at h
      have vw := ro.view R hv
      unfold View Rep at vw
      obtain ⟨t, C, dx, vs, rfl, hT, pa, pd, sl, rr⟩ := vw
      cases hlk : l.lookup j with
      | none => rw [hlk] at h; exact h.elim
      | some ak =>
        rw [hlk] at h
        have hak := hl j ak hlk
        cases ak with
        | slot i => exact h.elim
        | prop m => exact h.elim
        | meth m =>
          dsimp only at h
          obtain ⟨C', g, kk, hkk, hT', sc, hs, hf, F⟩ := hak
          rw [hT] at hT'; cases hT'
          have rp : Rep c.T c.K P H (.ins j ws) (.ref t) := by unfold Rep; exact ⟨t, C, dx, vs, rfl, hT, pa, pd, sl, rr⟩
          -- the call's end
          have hc : Out c Wx σ P s H (fun z H' => ∃ b, z = .bl b ∧ Q (.bl (b != neg)) H') (callR (fun as => noEx (m as)) [.fro (.ins j ws), rg'] s) := by
            cases q : callR (fun as => noEx (m as)) [.fro (.ins j ws), rg'] s with
            | bad => rw [q] at h; exact h.elim
            | exc e => rw [q] at h; exact h
            | ok p =>
              obtain ⟨r, s2⟩ := p
              rw [q] at h
              simp only [Res.bind_ok] at h
              cases r with
              | fro w2 =>
                cases w2 with
                | bl b =>
                  intro v P' H' t' R' rv
                  unfold RvR Rep at rv
                  exact ⟨b, rv, h (.bl (b != neg)) P' H' t' R' (by unfold RvR Rep; rfl)⟩
                | _ => exact h.elim
              | _ => exact h.elim
          obtain ⟨P2, as, RA, h3⟩ := callR_out (H0 := H0) (rs := [Qs.R.fro (W.ins j ws), rg']) (xs := [V.ref t, g']) R (.cons (show RvR c P s σ H0 H (Qs.R.fro (W.ins j ws)) (.ref t) from rp) (.cons rg .nil)) hc
          exact ⟨t, C, dx, _, g, _, kk, rfl, sl, sc, hs, hf, hr.mono (Nat.le_of_lt hkk), F, rfl, P2, as, RA, noEx_out h3⟩
    | _ => exact h.elim
theorem op_ok (hop : (op = .In ∧ neg = false) ∨ (op = .NotIn ∧ neg = true)) (hr : Room k X.A) (hK : X.K = c.K) (hl : ∀ j ak, l.lookup j = some ak → AtOk c k X.prog X.w X.K X.mg X.base "__contains__" j ak) (hm : behindInMarks op b = false) (ha : PE X a (rd c Wx fa)) (hb : PE X b (rd c Wx fb)) :
    PE X (.Compare a [op] [b] pos) (rd c Wx (eOwn l true neg fa fb)) :=
  pe_imp (pe_cmpR (op_inOwn hop) ha hb hm) fun σ H Q h => rd_two h fun P s ra rb x y H2 R rx ry h3 => own_out (sw := true) hr hK hl R rx ry h3
theorem pt_inOwn (hop : (op = .In ∧ neg = false) ∨ (op = .NotIn ∧ neg = true)) (hr : Room k X.A) (hK : X.K = c.K) (hl : ∀ j ak, l.lookup j = some ak → AtOk c k X.prog X.w X.K X.mg X.base "__contains__" j ak) (hm : behindInMarks op b = false) (ha : PE X a (rd c Wx fa)) (hb : PE X b (rd c Wx fb)) :
    PT X (.Compare a [op] [b] pos) (rdT c Wx (eOwn l true neg fa fb)) :=
  pt_imp (pt_cmpR (op_inOwn hop) ha hb hm) fun σ H Q h => rd_two h fun P s ra rb x y H2 R rx ry h3 => own_out (sw := true) hr hK hl R rx ry h3
/-- by the kit's comparison, or by the class's own method -/
theorem pe_cmpF (h1 : PE X (.Compare a [op] [b] pos) (rd c Wx (eCmp op fa fb))) (h2 : PE X (.Compare a [op] [b] pos) (rd c Wx (eOwn l sw neg fa fb))) : PE X (.Compare a [op] [b] pos) (rd c Wx (eCmpF l sw neg op fa fb)) := by
  refine ⟨fun pins s σ H Q I h => ?_⟩
  obtain ⟨P, s0, R, h⟩ := h
  unfold eCmpF at h
  cases em : eCmp op fa fb s0 with
  | bad => rw [em] at h; exact h2.run pins s σ H Q I ⟨P, s0, R, h⟩
  | ok r => rw [em] at h; exact h1.run pins s σ H Q I ⟨P, s0, R, by rw [em]; exact h⟩
  | exc x => rw [em] at h; exact h1.run pins s σ H Q I ⟨P, s0, R, by rw [em]; exact h⟩
theorem pt_cmpF (h1 : PT X (.Compare a [op] [b] pos) (rdT c Wx (eCmp op fa fb))) (h2 : PT X (.Compare a [op] [b] pos) (rdT c Wx (eOwn l sw neg fa fb))) : PT X (.Compare a [op] [b] pos) (rdT c Wx (eCmpF l sw neg op fa fb)) := by
  refine ⟨fun pins s σ H Q I h => ?_⟩
  obtain ⟨P, s0, R, h⟩ := h
  unfold eCmpF at h
  cases em : eCmp op fa fb s0 with
  | bad => rw [em] at h; exact h2.run pins s σ H Q I ⟨P, s0, R, h⟩
  | ok r => rw [em] at h; exact h1.run pins s σ H Q I ⟨P, s0, R, by rw [em]; exact h⟩
  | exc x => rw [em] at h; exact h1.run pins s σ H Q I ⟨P, s0, R, by rw [em]; exact h⟩
end
end Qs
/-! # for and if in a generator's body -/
namespace L2
open PySem PySem.Spec PyProof.Rows GenW
section
variable {prog : Program} {w : World} {A : Around} {R : GenEnd} {Y : Protocol} {n : Nat} {s₀ : Shared} {c : Code} {fs : List Frame} {s : Shared} {env : Env} {K : Flow → Sem PySem.Fin} {J : Value → Sem PySem.Fin} {gd : Bool → Bool} {lv : List Value → List Value}
theorem seg_If' {test : Expr} {body orelse : List Stmt} {pos : Pos}
    (h : wpAny (model prog w) (A.over c fs) (isTrue test env (eval test env)) (fun b s' => Seg (model prog w) A R Y n s₀ c ((if b = true then execs body env else execs orelse env).wrap K J gd lv) fs s') (fun x s' => Seg (model prog w) A R Y n s₀ c (J x) fs s') s) :
    Seg (model prog w) A R Y n s₀ c ((exec (.If test body orelse pos) env).wrap K J gd lv) fs s := by
  refine seg_at ?_
  show Seg _ _ _ _ _ _ _ ((isTrue test env (eval test env) >>= fun b => if b = true then execs body env else execs orelse env).wrap K J gd lv) _ _
  exact seg_bind_wrap h
theorem seg_For' {target iter : Expr} {body orelse : List Stmt} {pos : Pos} (hs : ∀ x, foldedSetIterable iter env x = pure x)
    (h : wpAny (model prog w) (A.over c fs) (eval iter env) (fun v s1 => wpAny (model prog w) (A.over c fs) (pyIter v) (fun it s2 => ∀ p, Seg (model prog w) A R Y n s₀ (.forLoop target it body orelse env) ((model prog w).den (.forLoop target it body orelse env))
      (.ret (fun r => ((match r with | .ok f => (.pure f : Sem Flow) | .error e => .raise e).onRaise (cameBack env)).wrap K J gd lv) none (gd false) (lv []) c p [] :: fs) s2) (fun x s' => Seg (model prog w) A R Y n s₀ c (J x) fs s') s1) (fun x s' => Seg (model prog w) A R Y n s₀ c (J x) fs s') s) :
    Seg (model prog w) A R Y n s₀ c ((exec (.For target iter body orelse pos) env).wrap K J gd lv) fs s := by
  rw [exec_For]
  refine seg_at ?_
  show Seg _ _ _ _ _ _ _ ((eval iter env >>= fun x => foldedSetIterable iter env x >>= fun y => standAt iter.pos >>= fun _ => holding [y] (pyIter y) >>= fun it => runOwn (.forLoop target it body orelse env) env).wrap K J gd lv) _ _
  refine seg_bind_wrap (wpAny_mono h (fun v s1 h1 => ?_) fun _ _ x => x)
  rw [hs]
  show Seg _ _ _ _ _ _ _ ((standAt iter.pos >>= fun _ => holding [v] (pyIter v) >>= fun it => runOwn (.forLoop target it body orelse env) env).wrap K J gd lv) _ _
  refine seg_at ?_
  show Seg _ _ _ _ _ _ _ ((holding [v] (pyIter v) >>= fun it => runOwn (.forLoop target it body orelse env) env).wrap K J gd lv) _ _
  refine seg_bind_wrap (wpAny_holding (wpAny_mono h1 (fun it s2 h2 => ?_) fun _ _ x => x))
  exact seg_call h2
theorem seg_forLoop' {target : Expr} {it : Value} {body orelse : List Stmt}
    (h : wpAny (model prog w) (A.over (.forLoop target it body orelse env) fs) (pyNext it) (fun r s1 => match r with
        | none => Seg (model prog w) A R Y n s₀ (.forLoop target it body orelse env) (.pure (.again (.block orelse env))) fs s1
        | some v => wpAny (model prog w) (A.over (.forLoop target it body orelse env) fs) (letOwnedTupleGo target it v) (fun _ s2 => wpAny (model prog w) (A.over (.forLoop target it body orelse env) fs) (assign target env v) (fun _ s3 =>
            Seg (model prog w) A R Y n s₀ (.forLoop target it body orelse env) ((execs body env).wrap (fun f => match f with
            | .next | .cont => .pure (.again (.forLoop target it body orelse env))
            | .brk => .pure (.done .next)
            | .ret v => .pure (.done (.ret v))) (fun e => (do noteFrame e env; theTreesLotGoes e : Sem Unit).wrap (fun _ => .raise e) .raise id id) id id) fs s3)
            (fun x s' => Seg (model prog w) A R Y n s₀ (.forLoop target it body orelse env) ((do noteFrame x env; theTreesLotGoes x : Sem Unit).wrap (fun _ => .raise x) .raise id id) fs s') s2)
            (fun x s' => Seg (model prog w) A R Y n s₀ (.forLoop target it body orelse env) ((do noteFrame x env; theTreesLotGoes x : Sem Unit).wrap (fun _ => .raise x) .raise id id) fs s') s1)
      (fun x s' => Seg (model prog w) A R Y n s₀ (.forLoop target it body orelse env) ((do noteFrame x env; theTreesLotGoes x : Sem Unit).wrap (fun _ => .raise x) .raise id id) fs s') s) :
    Seg (model prog w) A R Y n s₀ (.forLoop target it body orelse env) ((model prog w).den (.forLoop target it body orelse env)) fs s := by
  show Seg _ A R Y n s₀ _ ((forTurn target it body orelse env).onRaise (fun x => do noteFrame x env; theTreesLotGoes x)) fs s
  simp only [forTurn]
  rw [Sem.onRaise_eq_wrap]
  have rz : ∀ (x : Value) (s' : Shared), Seg (model prog w) A R Y n s₀ (.forLoop target it body orelse env) ((do noteFrame x env; theTreesLotGoes x : Sem Unit).wrap (fun _ => .raise x) .raise id id) fs s' →
      Seg (model prog w) A R Y n s₀ (.forLoop target it body orelse env) ((do noteFrame x env; theTreesLotGoes x : Sem Unit).bind fun _ => .raise x) fs s' := fun x s' hx => by
    rw [Sem.bind_eq_wrap]; exact hx
  refine seg_at ?_
  show Seg _ _ _ _ _ _ _ (((pyNext it).onRaise (fun _ => standAt { target.pos with line := 0 }) >>= fun r => _).wrap _ _ _ _) _ _
  refine seg_bind_wrap (wpAny_onRaise (wpAny_mono h (fun r s1 h1 => ?_) fun x s' hx => wpAny_standAt (rz x s' hx)))
  cases r with
  | none => exact h1
  | some v =>
    show Seg _ _ _ _ _ _ _ ((letOwnedTupleGo target it v >>= fun _ => _).wrap _ _ _ _) _ _
    refine seg_bind_wrap (wpAny_mono h1 (fun _ s2 h2 => ?_) fun x s' hx => rz x s' hx)
    show Seg _ _ _ _ _ _ _ ((assign target env v >>= fun _ => _).wrap _ _ _ _) _ _
    refine seg_bind_wrap (wpAny_mono h2 (fun _ s3 h3 => ?_) fun x s' hx => rz x s' hx)
    rw [Sem.bind_eq_wrap', Sem.wrap_wrap]
    rw [Sem.wrap_congr (execs body env) _ _ (K' := fun f => match f with
            | .next | .cont => .pure (.again (.forLoop target it body orelse env))
            | .brk => .pure (.done .next)
            | .ret v => .pure (.done (.ret v))) (H' := (fun e => (do noteFrame e env; theTreesLotGoes e : Sem Unit).wrap (fun _ => .raise e) .raise id id))
        (fun f => by cases f <;> rfl)
        (fun e => by first | exact Sem.bind_eq_wrap _ _ | (show (do noteFrame e env; theTreesLotGoes e : Sem Unit).bind (fun _ => .raise e) = _; rw [Sem.bind_eq_wrap]))]
    exact h3
theorem seg_block {orelse : List Stmt} (h : Seg (model prog w) A R Y n s₀ (.block orelse env) ((execs orelse env).wrap (fun f => .pure (.done f)) (fun e => (do noteFrame e env; theTreesLotGoes e : Sem Unit).wrap (fun _ => .raise e) .raise id id) id id) fs s) :
    Seg (model prog w) A R Y n s₀ (.block orelse env) ((model prog w).den (.block orelse env)) fs s := by
  show Seg _ A R Y n s₀ _ (((execs orelse env).onRaise (fun x => do noteFrame x env; theTreesLotGoes x)) >>= fun f => .pure (.done f)) fs s
  rw [Sem.onRaise_eq_wrap, Sem.bind_eq_wrap', Sem.wrap_wrap]
  rw [Sem.wrap_congr (execs orelse env) _ _ (K' := fun f => (.pure (.done f) : Sem PySem.Fin)) (H' := (fun e => (do noteFrame e env; theTreesLotGoes e : Sem Unit).wrap (fun _ => .raise e) .raise id id))
        (fun f => by rfl)
        (fun e => by first | exact Sem.bind_eq_wrap _ _ | (show Sem.wrap _ _ _ _ ((do noteFrame e env; theTreesLotGoes e : Sem Unit).bind (fun _ => .raise e)) = _; rw [Sem.bind_eq_wrap, Sem.wrap_wrap]; rfl))]
  exact h
end
section
variable {X : Cx} {tg : Expr}
def tGIf (c : TT) (ta tb : TGn) : TGn := fun D ys σ H => c σ H fun b H1 => if b = true then ta D ys σ H1 else tb D ys σ H1
theorem gs_if {test : Expr} {body orelse : List Stmt} {pos : Pos} {tc : TT} {ta tb : TGn} (hc : PT X test tc) (ha : GSs X body ta) (hb : GSs X orelse tb) : GS X (.If test body orelse pos) (tGIf tc ta tb) := by
  refine ⟨fun A S ip R n ys s₀ c fs K J gd lv s σ H D g hn k hI ht => ?_⟩
  refine seg_If' ?_
  rw [g.over]
  obtain ⟨acc, cc, r, I⟩ := hI
  refine wpAny_mono (hc.run _ s σ H _ I ht) (fun b s' hb' => ?_) fun x s' hx => k.exc n s₀ x s' hx
  obtain ⟨H2, I2, q2⟩ := hb'
  cases b with
  | true =>
    rw [if_pos rfl] at q2 ⊢
    exact ha.run A S ip R n ys s₀ c fs K J gd lv s' σ H2 D g hn k ⟨acc, cc, r, I2⟩ q2
  | false =>
    rw [if_neg Bool.false_ne_true] at q2 ⊢
    exact hb.run A S ip R n ys s₀ c fs K J gd lv s' σ H2 D g hn k ⟨acc, cc, r, I2⟩ q2
/-- W: the invariant by the turn, a measure, what is out -/
def tGFor (wi : TI) (g : TG) (tb : TGn) : TGn := fun D ys σ H => wi σ H fun J H1 => ∃ W : Nat → Nat → List V → St → Hp → Prop, (∃ m, W 0 m ys σ H1) ∧ ∀ i m ys σ H, W i m ys σ H →
  (J.stop i H ∧ D.nx ys σ H) ∨ (J.go i H ∧ ∃ N : List V → St → Hp → Prop, (∀ ys' σ' H', N ys' σ' H' → ∃ m', m' < m ∧ W (i + 1) m' ys' σ' H') ∧ ∀ x H', J.yld i H x H' → g x σ H' fun σ2 H2 => tb { D with nx := N, ct := N, bk := D.nx } ys σ2 H2)
theorem gs_for {iter : Expr} {body : List Stmt} {wi : TI} {g : TG} {tb : TGn} {pos : Pos} (hp : PassesOwn (model X.prog X.w) X.A X.env X.xe) (hcalm : X.calm = true) (hi : PI X tg iter wi) (hg : PG X tg g) (hb : GSs X body tb)
    (hs : ∀ x, foldedSetIterable iter X.env x = pure x := by intro _; rfl) : GS X (.For tg iter body [] pos) (tGFor wi g tb) := by
  refine ⟨fun A S ip R n ys s₀ c fs K J gd lv s σ H D gc hn k hI ht => ?_⟩
  refine seg_For' hs ?_
  rw [gc.over]
  obtain ⟨acc, cc, r, I⟩ := hI
  refine wpAny_mono (hi.run _ s σ H _ I ht) (fun v s1 h1 => wpAny_mono h1 (fun itv s2 h2 => ?_) fun x s' hx => k.exc n s₀ x s' hx) fun x s' hx => k.exc n s₀ x s' hx
  obtain ⟨it, fp, tn, JJ, H2, rfl, I2, T, st2, f2, W, ⟨m0, w0⟩, turn⟩ := h2
  intro p
  have gl := fun (kk : Result → Sem PySem.Fin) => gc_loop (k := kk) (c' := .forLoop tg (.ref it) body [] X.env) (l := lv []) (kp := []) (p := p) gc rfl rfl
  have glb := fun (kk : Result → Sem PySem.Fin) => gc_loop (k := kk) (c' := .block [] X.env) (l := lv []) (kp := []) (p := p) gc rfl rfl
  have nS : ∀ b ∈ fp, b ≠ S := fun b hb e => (f2 b hb).2.2.2.2.2 (S, lstObj acc cc) (List.mem_append_right _ List.mem_cons_self) e.symm
  have stat : ∀ {H' : Hp} {acc' : Array Value} {c' : Nat}, (∀ b ∈ fp, H' b = none) → ∀ b ∈ fp, FpOk X ((S, lstObj acc' c') :: ip) H' b := fun {H' acc' c'} hn b hb => by
    refine ⟨hn b hb, (f2 b hb).2.1, (f2 b hb).2.2.1, (f2 b hb).2.2.2.1, (f2 b hb).2.2.2.2.1, fun q hq => ?_⟩
    rcases List.mem_append.mp hq with z | z
    · exact (f2 b hb).2.2.2.2.2 q (List.mem_append_left _ z)
    · rcases List.mem_cons.mp z with z | z
      · rw [z]; exact fun e => nS b hb e.symm
      · exact (f2 b hb).2.2.2.2.2 q (List.mem_append_right _ (List.mem_cons_of_mem _ z))
  have loop : ∀ (m i n : Nat) (ys : List V) (s₀ s : Shared) (σ : St) (H : Hp), n + ys.length = sizeLine → W i m ys σ H → GI X S ip ys σ H s → tn i s.heap → (∀ b ∈ fp, H b = none) →
      Seg (model X.prog X.w) A R (GY X S) n s₀ (.forLoop tg (.ref it) body [] X.env) ((model X.prog X.w).den (.forLoop tg (.ref it) body [] X.env))
        (.ret (fun r => ((match r with | .ok f => (.pure f : Sem Flow) | .error e => .raise e).onRaise (cameBack X.env)).wrap K J gd lv) none (gd false) (lv []) c p [] :: fs) s := by
    intro m
    induction m using Nat.strongRecOn with
    | ind m ih =>
      intro i n ys s₀ s σ H hn w hI st fr
      have ee : ∀ (n : Nat) (s₀ : Shared) (x : Value) (s' : Shared), X.xe x s' → Seg (model X.prog X.w) A R (GY X S) n s₀ (.forLoop tg (.ref it) body [] X.env)
          ((do noteFrame x X.env; theTreesLotGoes x : Sem Unit).wrap (fun _ => .raise x) .raise id id)
          (.ret (fun r => ((match r with | .ok f => (.pure f : Sem Flow) | .error e => .raise e).onRaise (cameBack X.env)).wrap K J gd lv) none (gd false) (lv []) c p [] :: fs) s' := fun n s₀ x s' hx => by
        refine seg_wrap ?_
        rw [(gl _).over]
        refine wpAny_bind (wpAny_mono (hp x s' hx) (fun _ s'' hcb => wpAny_theTreesLotGoes ?_) fun y s'' hcb => ?_)
        · exact seg_leaf (.error x) (seg_cameBack gc k hcb)
        · exact seg_leaf (.error y) (seg_cameBack gc k hcb)
      refine seg_forLoop' ?_
      rw [(gl _).over]
      obtain ⟨acc, cc, r, I⟩ := hI
      rcases turn i m ys σ H w with ⟨stop, qn⟩ | ⟨go, N, hN, step⟩
      · refine wpAny_mono (T.done X rfl rfl rfl hcalm i _ s σ H X.xe I (stat fr) st stop) (fun rr s4 h4 => ?_) fun x s' hx => ee n s₀ x s' hx
        obtain ⟨hr, I4⟩ := h4
        subst hr
        refine seg_again rfl (seg_block ?_)
        refine seg_execs_nil ?_
        exact seg_leaf (.ok .next) (k.ok n ys s₀ s4 .next hn ⟨σ, H, ⟨acc, cc, r, I4⟩, qn⟩)
      · refine wpAny_mono (T.item X rfl rfl rfl hcalm i _ s σ H X.xe I (stat fr) st go) (fun rr s4 h4 => ?_) fun x s' hx => ee n s₀ x s' hx
        obtain ⟨u, hr, h4⟩ := h4
        subst hr
        refine wpAny_mono h4 (fun _ s5 h5 => ?_) fun x s' hx => ee n s₀ x s' hx
        obtain ⟨x, H5, I5, r5, y5, st5, fr5⟩ := h5
        have I5' := I5.pinned (stat fr5) (T.obj _ _ st5)
        refine wpAny_mono (hg.run _ s5 σ H5 x u _ I5' r5 (step x H5 y5)) (fun _ s6 h6 => ?_) fun x s' hx => ee n s₀ x s' hx
        obtain ⟨σ6, H6, I6, q6⟩ := h6
        have gb : ∀ kk : Result → Sem PySem.Fin, GC X S (ip ++ pinsAt fp s5.heap) A (.forLoop tg (.ref it) body [] X.env) (.ret kk none (gd false) (lv []) c p [] :: fs) id := fun kk => ⟨gc.pn, fun q hq => by
          rcases List.mem_append.mp hq with z | z
          · exact gc.ip q z
          · exact nS _ (of_pinsAt z).1, gc.apart, (gl kk).over, (gl kk).split, (gl kk).guard, (gl kk).gd⟩
        refine hb.run A S (ip ++ pinsAt fp s5.heap) R n ys s₀ _ _ _ _ id id s6 σ6 H6 { D with nx := N, ct := N, bk := D.nx } (gb _) hn ⟨fun n' ys' s₀' s3 f hn' hs' => ?_, fun n' s₀' x s3 hx => ee n' s₀' x s3 hx⟩ ⟨acc, cc, r, by simpa using I6⟩ q6
        have down : ∀ {σ7 : St} {H7 : Hp}, GI X S (ip ++ pinsAt fp s5.heap) ys' σ7 H7 s3 → GI X S ip ys' σ7 H7 s3 := fun {σ7 H7} h => by
          obtain ⟨a2, c2, r2, I7⟩ := h
          exact ⟨a2, c2, r2, Inv.unpinned (pins := (S, lstObj a2 c2) :: ip) (pl := pinsAt fp s5.heap) (by simpa using I7)⟩
        have again : ∀ {σ7 : St} {H7 : Hp}, GI X S (ip ++ pinsAt fp s5.heap) ys' σ7 H7 s3 → N ys' σ7 H7 → Seg (model X.prog X.w) A R (GY X S) n' s₀' (.forLoop tg (.ref it) body [] X.env) ((model X.prog X.w).den (.forLoop tg (.ref it) body [] X.env))
            (.ret (fun r => ((match r with | .ok f => (.pure f : Sem Flow) | .error e => .raise e).onRaise (cameBack X.env)).wrap K J gd lv) none (gd false) (lv []) c p [] :: fs) s3 := fun {σ7 H7} h n7 => by
          obtain ⟨m', hm, w7⟩ := hN ys' σ7 H7 n7
          obtain ⟨a2, c2, r2, I7⟩ := id h
          refine ih m' hm (i + 1) n' ys' s₀' s3 σ7 H7 hn' w7 (down h) (T.keep _ _ _ st5 fun b hb o e => (I7.pin (b, o) (List.mem_append_right _ (List.mem_cons_of_mem _ (List.mem_append_right _ (mem_pinsAt hb e))))).1) fun b hb => ?_
          obtain ⟨o, e, d⟩ := T.obj _ _ st5 b hb
          exact (I7.pin (b, o) (List.mem_append_right _ (List.mem_cons_of_mem _ (List.mem_append_right _ (mem_pinsAt hb e))))).2.1
        cases f with
        | next =>
          obtain ⟨σ3, H3, I3, n3⟩ := hs'
          exact seg_again rfl (again I3 n3)
        | cont =>
          obtain ⟨σ3, H3, I3, n3⟩ := hs'
          exact seg_again rfl (again I3 n3)
        | brk =>
          obtain ⟨σ3, H3, I3, n3⟩ := hs'
          exact seg_leaf (.ok .next) (k.ok n' ys' s₀' s3 .next hn' ⟨σ3, H3, down I3, n3⟩)
        | ret v =>
          obtain ⟨v3, σ3, H3, I3, r3, n3⟩ := hs'
          exact seg_leaf (.ok (.ret v)) (k.ok n' ys' s₀' s3 (.ret v) hn' ⟨v3, σ3, H3, down I3, r3, n3⟩)
  exact loop m0 0 n ys s₀ s2 σ H2 hn w0 ⟨acc, cc, r, I2⟩ st2 fun b hb => (f2 b hb).1
end
end L2
/-! # A generator def's body as mirrors: what it hands out, the slots -/
namespace Qs
open PySem PySem.Spec PyProof.Rows L2
inductive GFl where
  | nx (ys : List W) (s : S)
  | rt (ys : List W) (s : S)
  | bk (ys : List W) (s : S)
  | ct (ys : List W) (s : S)
abbrev GSS := List W → S → Res GFl
def gPlain (f : SS) : GSS := fun ws s => (f s).bind fun
  | .nx s' => .ok (.nx ws s')
  | .bk s' => .ok (.bk ws s')
  | .ct s' => .ok (.ct ws s')
  | .rt (.fro .non) s' => .ok (.rt ws s')
  | _ => .bad
def gNil : GSS := fun ws s => .ok (.nx ws s)
def gThen (g : GSS) : GFl → Res GFl
  | .nx ws s => nfLs s fun s => g ws s
  | f => .ok f
def gSeq (f g : GSS) : GSS := fun ws s => (f ws s).bind (gThen g)
def gIf (ft : SE) (f g : GSS) : GSS := fun ws s => (ft s).bind fun p => match val p.2 p.1 with
  | some (.bl true) => f ws p.2
  | some (.bl false) => g ws p.2
  | _ => .bad
def gWhileN (ft : SE) (fb : GSS) : Nat → GSS
  | 0, _, _ => .bad
  | n + 1, ws, s => (ft s).bind fun p => match val p.2 p.1 with
    | some (.bl true) => (fb ws p.2).bind fun
      | .nx ws2 s2 => gWhileN ft fb n ws2 s2
      | .ct ws2 s2 => gWhileN ft fb n ws2 s2
      | .bk ws2 s2 => .ok (.nx ws2 s2)
      | .rt ws2 s2 => .ok (.rt ws2 s2)
    | some (.bl false) => .ok (.nx ws p.2)
    | _ => .bad
def gForL (g : GT) (fb : GSS) : List W → GSS
  | [], ys, s => .ok (.nx ys s)
  | w :: ws, ys, s => (g (.fro w) s).bind fun s1 => (fb ys s1).bind fun
    | .nx ys2 s2 => gForL g fb ws ys2 s2
    | .ct ys2 s2 => gForL g fb ws ys2 s2
    | .bk ys2 s2 => .ok (.nx ys2 s2)
    | .rt ys2 s2 => .ok (.rt ys2 s2)
def gFor (fi : IE) (g : GT) (fb : GSS) : GSS := fun ys s => (fi s).bind fun p => gForL g fb p.1 ys p.2
def gYield (f : SE) : GSS := fun ys s => chk (decide (ys.length < lim)) ((f s).bind fun p => (ofO (frz p.2 p.1)).bind fun q => .ok (.nx (ys ++ [q.1]) q.2))
section
variable (c : Cst)
def OutY (Wx : WX) (σ : L2.St) (P : Addr → Prop) (s : S) (H : Hp) (D : GEnds) : Res GFl → Prop
  | .ok (.nx ws s') => ∀ ys σ' P' H', Stp P s σ H P' s' σ' H' → Rel c P' s' σ' H' → Reps c.T c.K P' H' ws ys → D.nx ys σ' H'
  | .ok (.bk ws s') => ∀ ys σ' P' H', Stp P s σ H P' s' σ' H' → Rel c P' s' σ' H' → Reps c.T c.K P' H' ws ys → D.bk ys σ' H'
  | .ok (.ct ws s') => ∀ ys σ' P' H', Stp P s σ H P' s' σ' H' → Rel c P' s' σ' H' → Reps c.T c.K P' H' ws ys → D.ct ys σ' H'
  | .ok (.rt ws s') => ∀ ys σ' P' H', Stp P s σ H P' s' σ' H' → Rel c P' s' σ' H' → Reps c.T c.K P' H' ws ys → D.rt ys .non H'
  | .exc x => ∀ σ' cls d P' H', Sxc c P s σ H P' H' → XRel c P' H' x cls d → Wx cls d σ' H'
  | .bad => False
def rdY (Wx : WX) (f : GSS) : TGn := fun D ys σ H => ∃ P s ws, Rel c P s σ H ∧ Reps c.T c.K P H ws ys ∧ OutY c Wx σ P s H D (f ws s)
end
theorem gs_imp {X : Cx} {st : Stmt} {t t' : TGn} (h : GS X st t) (k : ∀ D ys σ H, t' D ys σ H → t D ys σ H) : GS X st t' :=
  ⟨fun A S ip R n ys s₀ c fs K J gd lv s σ H D g hn kk hI ht => h.run A S ip R n ys s₀ c fs K J gd lv s σ H D g hn kk hI (k D ys σ H ht)⟩
theorem gss_imp {X : Cx} {st : List Stmt} {t t' : TGn} (h : GSs X st t) (k : ∀ D ys σ H, t' D ys σ H → t D ys σ H) : GSs X st t' :=
  ⟨fun A S ip R n ys s₀ c fs K J gd lv s σ H D g hn kk hI ht => h.run A S ip R n ys s₀ c fs K J gd lv s σ H D g hn kk hI (k D ys σ H ht)⟩
section
variable {c : Cst} {Wx : WX} {k : Nat} {X : Cx} {P P0 P1 P2 P' : Addr → Prop} {s s' s0 s1 : S} {σ σ0 σ' : L2.St} {H H0 H1 H2 H' : Hp} {Q : VK} {D D' : GEnds} {ws : List W} {ys : List V} {r : R} {v : V} {e cd tg iter : Expr} {body rest : List Stmt} {st : Stmt} {f g : GSS} {ft fe : SE} {pos yp : Pos}
theorem OutY.at_ {res : Res GFl} (h : OutY c Wx σ0 P0 s0 H0 D res) (t : Stp P0 s0 σ0 H0 P s σ H) : OutY c Wx σ P s H D res := by
  cases res with
  | ok f =>
    cases f with
    | nx ws s' => exact fun ys σ' P' H' t' R' => h ys σ' P' H' (t.trans t') R'
    | bk ws s' => exact fun ys σ' P' H' t' R' => h ys σ' P' H' (t.trans t') R'
    | ct ws s' => exact fun ys σ' P' H' t' R' => h ys σ' P' H' (t.trans t') R'
    | rt ws s' => exact fun ys σ' P' H' t' R' => h ys σ' P' H' (t.trans t') R'
  | exc x => exact fun σ' cls d P' H' u xr => h σ' cls d P' H' (Sxc.ofS t u) xr
  | bad => exact h
/-- through an expression -/
theorem OutY.exp {res : Res (R × S)} {kk : R × S → Res GFl} (h : OutY c Wx σ P s H D (res.bind kk))
    (hz : ∀ r s1 v P1 H1, res = .ok (r, s1) → StE P s σ H P1 s1 H1 → Rel c P1 s1 σ H1 → RvR c P1 s1 σ H H1 r v → OutY c Wx σ P s H D (kk (r, s1)) → Q v H1) : Out c Wx σ P s H Q res := by
  cases res with
  | ok p =>
    obtain ⟨r, s1⟩ := p
    exact fun v P1 H1 t1 R1 rv => hz r s1 v P1 H1 rfl t1 R1 rv h
  | exc x => exact fun cls d P' H' u xr => h σ cls d P' H' u xr
  | bad => exact h
theorem gs_plain {fp : SS} (h : PS X st (rdS c Wx fp)) : GS X st (rdY c Wx (gPlain fp)) :=
  gs_imp (gs_ps h) fun D ys σ H ⟨P, s, ws, R, rr, h⟩ => by
    refine ⟨P, s, R, ?_⟩
    unfold gPlain at h
    cases e : fp s with
    | bad => rw [e] at h; exact h.elim
    | exc x => rw [e] at h; exact h
    | ok fl =>
      rw [e] at h
      cases fl with
      | nx s' => exact fun σ' P' H' t R' => h ys σ' P' H' t R' (Reps.mono (Stp.kp R t) _ _ rr)
      | bk s' => exact fun σ' P' H' t R' => h ys σ' P' H' t R' (Reps.mono (Stp.kp R t) _ _ rr)
      | ct s' => exact fun σ' P' H' t R' => h ys σ' P' H' t R' (Reps.mono (Stp.kp R t) _ _ rr)
      | rt r s' =>
        cases r with
        | new w => exact h.elim
        | bor i => exact h.elim
        | fro w =>
          cases w with
          | non =>
            intro σ' v P' H' t R' rv
            unfold RvR Rep at rv
            subst rv
            exact h ys σ' P' H' t R' (Reps.mono (Stp.kp R t) _ _ rr)
          | _ => exact h.elim
theorem gss_nil' : GSs X [] (rdY c Wx gNil) := gss_imp gss_nil fun D ys σ H ⟨P, s, ws, R, rr, h⟩ => h ys σ P H Stp.refl R rr
theorem gss_cons' (h1 : GS X st (rdY c Wx f)) (h2 : GSs X rest (rdY c Wx g)) : GSs X (st :: rest) (rdY c Wx (gSeq f g)) :=
  gss_imp (gss_cons h1 h2) fun D ys σ H ⟨P, s, ws, R, rr, h⟩ => by
    refine ⟨P, s, ws, R, rr, ?_⟩
    unfold gSeq at h
    cases e : f ws s with
    | ok fl =>
      rw [e] at h
      cases fl with
      | nx ws' s' =>
        have h : OutY c Wx σ P s H D (nfLs s' fun s => g ws' s) := h
        rw [nfLs_eq] at h
        exact fun ys' σ' P' H' t' R' rr' => ⟨P', s', ws', R', rr', OutY.at_ h t'⟩
      | bk ws' s' => exact h
      | ct ws' s' => exact h
      | rt ws' s' => exact h
    | exc x => rw [e] at h; exact h
    | bad => rw [e] at h; exact h.elim
theorem gs_if' {as bs : List Stmt} (ht : PT X cd (rdT c Wx ft)) (ha : GSs X as (rdY c Wx f)) (hb : GSs X bs (rdY c Wx g)) : GS X (.If cd as bs pos) (rdY c Wx (gIf ft f g)) :=
  gs_imp (gs_if ht ha hb) fun D ys σ H ⟨P, s, ws, R, rr, h⟩ => ⟨P, s, R, h.exp fun r s1 v P1 H1 _ t1 R1 rv h1 => by
    have rr1 := Reps.mono (Stp.kp R t1.toStp) _ _ rr
    dsimp only at h1
    split at h1
    · rename_i e1
      exact ⟨true, (rv.view R1 e1).bl, P1, s1, ws, R1, rr1, OutY.at_ h1 t1.toStp⟩
    · rename_i e1
      exact ⟨false, (rv.view R1 e1).bl, P1, s1, ws, R1, rr1, OutY.at_ h1 t1.toStp⟩
    · exact h1.elim⟩
theorem gs_while' {fb : GSS} {n : Nat} (hp : PassesOwn (model X.prog X.w) X.A X.env X.xe) (ht : PT X cd (rdT c Wx ft)) (hb : GSs X body (rdY c Wx fb)) : GS X (.While cd body [] pos) (rdY c Wx (gWhileN ft fb n)) :=
  gs_imp (gs_while hp ht hb) fun D ys σ H ⟨P, s, ws, R, rr, h⟩ => by
    refine ⟨fun m ys σ H => ∃ P s ws, Rel c P s σ H ∧ Reps c.T c.K P H ws ys ∧ OutY c Wx σ P s H D (gWhileN ft fb m ws s), ⟨n, P, s, ws, R, rr, h⟩, ?_⟩
    rintro m ys σ H ⟨P, s, ws, R, rr, h⟩
    cases m with
    | zero => exact h.elim
    | succ m =>
      unfold gWhileN at h
      refine ⟨P, s, R, h.exp fun r s1 v P1 H1 _ t1 R1 rv h1 => ?_⟩
      have rr1 := Reps.mono (Stp.kp R t1.toStp) _ _ rr
      dsimp only at h1
      split at h1
      · rename_i e1
        refine ⟨true, (rv.view R1 e1).bl, ?_⟩
        refine (if_pos rfl).mpr ?_
        refine ⟨fun ys' σ' H' => ∃ P s ws, Rel c P s σ' H' ∧ Reps c.T c.K P H' ws ys' ∧ OutY c Wx σ' P s H' D (gWhileN ft fb m ws s), fun ys' σ' H' q => ⟨m, Nat.lt_succ_self m, q⟩, P1, s1, ws, R1, rr1, ?_⟩
        have h2 := OutY.at_ h1 t1.toStp
        cases e2 : fb ws s1 with
        | ok fl =>
          rw [e2] at h2
          cases fl with
          | nx ws2 s2 => exact fun ys' σ' P' H' t' R' rr' => ⟨P', s2, ws2, R', rr', OutY.at_ h2 t'⟩
          | ct ws2 s2 => exact fun ys' σ' P' H' t' R' rr' => ⟨P', s2, ws2, R', rr', OutY.at_ h2 t'⟩
          | bk ws2 s2 => exact h2
          | rt ws2 s2 => exact h2
        | exc x => rw [e2] at h2; exact h2
        | bad => rw [e2] at h2; exact h2.elim
      · rename_i e1
        refine ⟨false, (rv.view R1 e1).bl, ?_⟩
        refine (if_neg (by decide)).mpr ?_
        exact h1 ys σ P1 H1 t1.toStp R1 rr1
      · exact h1.elim
theorem gs_for' {gt : GT} {fb : GSS} {fi : IE} (hp : PassesOwn (model X.prog X.w) X.A X.env X.xe) (hc : X.calm = true) (hi : PI X tg iter (rdI c Wx fi)) (hg : PG X tg (rdG c Wx sr0 gt)) (hb : GSs X body (rdY c Wx fb))
    (hs : ∀ x, foldedSetIterable iter X.env x = pure x) : GS X (.For tg iter body [] pos) (rdY c Wx (gFor fi gt fb)) :=
  gs_imp (gs_for hp hc hi hg hb hs) fun D ys σ H ⟨P, s, us, R, rr, h⟩ => by
    refine ⟨P, s, R, ?_⟩
    unfold gFor at h
    cases e : fi s with
    | exc x => rw [e] at h; exact fun cls d P' H' u xr => h σ cls d P' H' u xr
    | bad => rw [e] at h; exact h.elim
    | ok pr =>
      obtain ⟨ws0, s1⟩ := pr
      rw [e] at h
      intro J P1 H1 t1 R1 wk
      have h1 := OutY.at_ h t1.toStp
      have rr1 := Reps.mono (Stp.kp R t1.toStp) _ _ rr
      refine ⟨fun i m ys σ2 H2 => ∃ P2 s2 us2, m = (ws0.drop i).length ∧ Kp P1 P2 H1 H2 ∧ Rel c P2 s2 σ2 H2 ∧ Reps c.T c.K P2 H2 us2 ys ∧ OutY c Wx σ2 P2 s2 H2 D (gForL gt fb (ws0.drop i) us2 s2), ⟨_, P1, s1, us, rfl, Kp.refl, R1, rr1, h1⟩, ?_⟩
      rintro i m ys σ2 H2 ⟨P2, s2, us2, rfl, kp, R2, rr2, h2⟩
      cases q : ws0.drop i with
      | nil =>
        rw [q] at h2
        refine .inl ⟨wk.stop P2 H2 kp i (List.drop_eq_nil_iff.mp q), h2 ys σ2 P2 H2 Stp.refl R2 rr2⟩
      | cons w ws =>
        rw [q] at h2
        have ew : ws0[i]? = some w := by
          have := List.getElem?_drop (xs := ws0) (i := i) (j := 0)
          rw [q] at this
          simpa using this.symm
        have ed : ws0.drop (i + 1) = ws := by rw [← List.drop_drop, q]; rfl
        obtain ⟨g1, g2⟩ := wk.go P2 H2 kp i w ew
        refine .inr ⟨g1, fun ys' σ' H' => ∃ P3 s3 us3, Kp P1 P3 H1 H' ∧ Rel c P3 s3 σ' H' ∧ Reps c.T c.K P3 H' us3 ys' ∧ OutY c Wx σ' P3 s3 H' D (gForL gt fb ws us3 s3), fun ys' σ' H' ⟨P3, s3, us3, k3, R3, rr3, h3⟩ => ⟨ws.length, by simp, P3, s3, us3, by rw [ed], k3, R3, rr3, by rw [ed]; exact h3⟩, fun x H' hy => ?_⟩
        obtain ⟨ke, rx⟩ := g2 x H' hy
        have R2' := R2.more ke
        have t2' : Stp P2 s2 σ2 H2 P2 s2 σ2 H' := (Stp.more ke).toStp
        have rr2' := Reps.mono (Stp.kp R2 t2') _ _ rr2
        refine rdG_fro R2' rx ?_
        unfold gForL at h2
        have h2 := OutY.at_ h2 t2'
        have kp' : Kp P1 P2 H1 H' := kp.trans ⟨fun _ h => h, fun a o e _ => ke a o e⟩
        cases eg : gt (.fro w) s2 with
        | ok s3 =>
          rw [eg] at h2
          intro σ3 P3 H3 t3 R3 _
          refine ⟨P3, s3, us2, R3, Reps.mono (Stp.kp R2' t3) _ _ rr2', ?_⟩
          have h3 := OutY.at_ h2 t3
          have k3 : Kp P1 P3 H1 H3 := kp'.trans (Stp.kp R2' t3)
          dsimp only [Res.bind_ok] at h3
          cases ef : fb us2 s3 with
          | ok fl =>
            rw [ef] at h3
            cases fl with
            | nx us4 s4 => exact fun ys4 σ4 P4 H4 t4 R4 rr4 => ⟨P4, s4, us4, k3.trans (Stp.kp R3 t4), R4, rr4, OutY.at_ h3 t4⟩
            | ct us4 s4 => exact fun ys4 σ4 P4 H4 t4 R4 rr4 => ⟨P4, s4, us4, k3.trans (Stp.kp R3 t4), R4, rr4, OutY.at_ h3 t4⟩
            | bk us4 s4 => exact h3
            | rt us4 s4 => exact h3
          | exc x => rw [ef] at h3; exact h3
          | bad => rw [ef] at h3; exact h3.elim
        | exc x => rw [eg] at h2; exact h2
        | bad => rw [eg] at h2; exact h2.elim
theorem gs_yield' (he : PE X e (rd c Wx fe)) (hco : X.env.scope.isCoroutine = false) (hi : interactive X.env = false) : GS X (.Expr (.Yield (some e) yp) pos) (rdY c Wx (gYield fe)) :=
  gs_imp (gs_yield he hco hi) fun D ys σ H ⟨P, s, ws, R, rr, h⟩ => by
    unfold gYield chk at h
    split at h
    case isFalse => exact h.elim
    rename_i hl
    have hl := of_decide_eq_true hl
    refine ⟨by rw [← rr.length, lim_eq]; exact hl, P, s, R, h.exp fun r s1 v P1 H1 _ t1 R1 rv h1 => ?_⟩
    dsimp only at h1
    cases q : frz s1 r with
    | none => rw [q] at h1; exact h1.elim
    | some p =>
      obtain ⟨w, s2⟩ := p
      simp only [q, ofO_some, Res.bind_ok] at h1
      obtain ⟨P2, t2, R2, rw2, _⟩ := frz_ok t1 R1 rv q
      exact h1 (ys ++ [v]) σ P2 H1 t2.toStp R2 (Reps.app (Reps.mono (Stp.kp R t2.toStp) _ _ rr) (Reps.cons rw2 Reps.nil))
end
end Qs
/-! # yield from a list -/
namespace L2
open PySem PySem.Spec PyProof.Rows GenW
section
variable {prog : Program} {w : World} {A : Around} {E : Value → Shared → Prop} {s : Shared}
theorem special_lst_item {it t : Addr} {i : Nat} {items : Array Value} {x : Value} {Q : Option Value → Shared → Prop} (hit : s.heap.IsListIter it t i) (ht : s.heap.IsList t items) (hx : items[i]? = some x)
    (hQ : ∀ h', h'.IsListIter it t (i + 1) → Heap.SameBut it s.heap h' → Q (some x) { s with heap := h' }) : wpAny (model prog w) A (callSpecial? (.ref it) "__next__") Q E s := by
  obtain ⟨o, ho, hc, hd⟩ := id hit
  obtain ⟨ol, hol, _, nl, hdl⟩ := ht
  refine wpAny_callSpecial?_slot (name := Str.ofString "__next__") hit.typeIs slot_listiter_next (wpAny_call_entry slot_listiter_next hit.typeIs entry_listiter_next ?_ (args_listiter_next _))
  show wpAny _ _ (field (.ref it) 0 >>= _) _ _ s
  refine wpAny_bind (wpAny_field ho hd (x := .ref t) rfl ?_)
  show wpAny _ _ (if (Value.ref t == Value.none) = true then _ else _) _ _ s
  rw [if_neg (show ¬ ((Value.ref t == Value.none) = true) from Bool.false_ne_true)]
  show wpAny _ _ (field (.ref it) 1 >>= _) _ _ s
  refine wpAny_bind (wpAny_field ho hd (x := .int i 0) rfl ?_)
  show wpAny _ _ (seqItems? (.ref t) >>= _) _ _ s
  refine wpAny_bind (wpAny_seqItems hol hdl ?_)
  simp only [Int.toNat_natCast, hx]
  refine wpAny_bind (wpAny_setField ho hd (by simp) (wpAny_pure ⟨x, rfl, hQ _ ?_ (Heap.SameBut.update ..)⟩))
  exact ⟨_, Heap.get?_update_self _ ho (Obj.isFreed_of_fields (Obj.data_mapFields hd _)), (Obj.cls_mapFields ..).trans hc, by
    rw [Obj.data_mapFields hd]; simp [rawInt]⟩
theorem special_lst_end {it t : Addr} {i : Nat} {items : Array Value} {Q : Option Value → Shared → Prop} (hh : A.handled = none) (hit : s.heap.IsListIter it t i) (ht : s.heap.IsList t items) (hx : items[i]? = none)
    (hE : ∀ e h', StopX e h' → Heap.ExtBut it s.heap h' → E e { s with heap := h' }) : wpAny (model prog w) A (callSpecial? (.ref it) "__next__") Q E s := by
  obtain ⟨o, ho, hc, hd⟩ := id hit
  obtain ⟨ol, hol, _, nl, hdl⟩ := ht
  refine wpAny_callSpecial?_slot (name := Str.ofString "__next__") hit.typeIs slot_listiter_next (wpAny_call_entry slot_listiter_next hit.typeIs entry_listiter_next ?_ (args_listiter_next _))
  show wpAny _ _ (field (.ref it) 0 >>= _) _ _ s
  refine wpAny_bind (wpAny_field ho hd (x := .ref t) rfl ?_)
  show wpAny _ _ (if (Value.ref t == Value.none) = true then _ else _) _ _ s
  rw [if_neg (show ¬ ((Value.ref t == Value.none) = true) from Bool.false_ne_true)]
  show wpAny _ _ (field (.ref it) 1 >>= _) _ _ s
  refine wpAny_bind (wpAny_field ho hd (x := .int i 0) rfl ?_)
  show wpAny _ _ (seqItems? (.ref t) >>= _) _ _ s
  refine wpAny_bind (wpAny_seqItems hol hdl ?_)
  simp only [Int.toNat_natCast, hx]
  refine wpAny_bind (wpAny_rule (wpAny_bind (wpAny_setField ho hd (by simp) ?_)))
  show wpAny _ _ (newExc (.type "StopIteration") [] >>= _) _ _ _
  refine wpAny_bind ?_
  simp only [newExc, newTuple]
  refine wpAny_bind (wpAny_newObj_type ?_ (by size_fits))
  refine wpAny_bind (m := firstArgMember _ _) (wpAny_of_eq (a := Value.none) (by first | rfl | (simp only [firstArgMember]; rfl)) ?_)
  refine wpAny_newObj_type ?_ (by size_fits)
  simp only [raiseNew]
  refine wpAny_bind (wpAny_handled ?_)
  first | rw [show A.in1.handled = none from hh] | rw [hh]
  refine wpAny_bind (wpAny_pure (wpAny_throw ?_))
  refine hE _ _ ⟨_, _, _, rfl, Heap.get?_push_size _ rfl, rfl, rfl, ?_⟩ (((Heap.SameBut.update ..).extBut.push _).push _)
  first
    | rfl
    | (rw [Array.getElem?_append_left (by decide)]; rfl)
    | kernel_rfl
end
section
variable {X : Cx} {e : Expr} {te : TE}
def tYfLst (te : TE) : TYf := fun σ H Q => te σ H fun x H1 => ∃ a xs, x = .ref a ∧ Rd H1 a (.lst xs) ∧ Q xs H1
theorem close_lst : typeLookup (.type "list_iterator") "close" = pure none := by rw [typeLookup_type, builtinLookup_eq_fast]; kernel_rfl
theorem yf_lst (he : PE X e te) : YfE X e (tYfLst te) := by
  refine ⟨fun pins s σ H Q I h => ?_⟩
  refine thn (he.run pins s σ H _ I h) fun v s1 ⟨x, H1, I1, r1, a, xs, ex, ha, hq⟩ => ?_
  subst ex
  obtain rfl : v = Value.ref a := r1
  have hne0 : H1 a ≠ none := by
    rcases ha with ha | ⟨o, ha⟩ <;> (rw [ha]; exact fun z => by cases z)
  obtain ⟨hlen, its, n, rits, hob⟩ := ha.ok I1.hok
  have ht : s1.heap.IsList a its.toArray := ⟨_, hob, rfl, n, rfl⟩
  refine ⟨"list", ht.typeIs, by decide, wpAny_pyIter_list ht ?_⟩
  have ksz : ∀ b o, s1.heap.get? b = some o → b ≠ s1.heap.objs.size := fun b o e => Nat.ne_of_lt (Heap.lt_size e)
  have kp : ∀ b o, s1.heap.get? b = some o → (s1.heap.push { cls := .type "list_iterator", data := .fields #[.ref a, .int 0 0] }).get? b = some o := fun b o e => Heap.get?_push_of_some _ e
  have hlt : a < s1.heap.objs.size := Heap.lt_size hob
  refine ⟨s1.heap.objs.size, H1, xs, fun j h => h.IsListIter s1.heap.objs.size a j ∧ h.IsList a its.toArray, rfl, I1.kept (t' := s1.toks) kp, .inr I1.sz, Nat.ne_of_gt I1.lt, fun y c hy => ?_, I1.hok.fresh (Nat.le_refl _), fun p hp => ?_,
    ⟨⟨_, Heap.get?_push_size _ rfl, rfl, rfl⟩, ⟨_, kp _ _ hob, rfl, n, rfl⟩⟩, ⟨⟨"list_iterator", fun j h q => ?_, close_lst, by decide⟩, fun j h h' q hk => ?_, fun A' j x s2 Q' E' hA hx q hQ => ?_, fun A' s2 Q' E' hA q hE => ?_⟩, hq⟩
  · obtain ⟨v, o, ho, _⟩ := I1.cell y c hy
    exact ksz c o ho
  · exact ksz p.1 _ (I1.pin p hp).1
  · obtain ⟨⟨o, ho, hc, _⟩, _⟩ := q
    exact ⟨o, ho, hc⟩
  · obtain ⟨⟨o, ho, r⟩, o2, ho2, r2⟩ := q
    exact ⟨⟨o, hk _ o (.inl rfl) ho, r⟩, o2, hk _ o2 (.inr hne0) ho2, r2⟩
  · obtain ⟨q1, q2⟩ := q
    obtain ⟨u, hu, ru⟩ := rits.get hx
    have hne : a ≠ s1.heap.objs.size := Nat.ne_of_lt hlt
    exact special_lst_item q1 q2 (x := u) (by simpa using hu) fun h' q1' hs => hQ u h' s2.toks ru ⟨q1', q2.extBut hs.extBut hne⟩ fun b o hb eb => hs.extBut b o hb eb
  · obtain ⟨q1, q2⟩ := q
    have hnone : its.toArray[xs.length]? = none := by
      have e := rits.length
      have e2 : its[xs.length]? = none := List.getElem?_eq_none_iff.mpr (by omega)
      simpa using e2
    exact special_lst_end hA q1 q2 hnone fun e h' hS hk => hE e h' s2.toks hS fun b o hb eb => hk b o hb eb
end
end L2
/-! # yield from a list, as a mirror -/
namespace Qs
open PySem PySem.Spec PyProof.Rows L2
def gFrom (f : SE) : GSS := fun ys s => (f s).bind fun p => (ofO (frz p.2 p.1)).bind fun q => match q.1 with
  | .lst xs => chk (decide (ys.length + xs.length ≤ lim)) (.ok (.nx (ys ++ xs) q.2))
  | _ => .bad
section
variable {c : Cst} {Wx : WX} {k : Nat} {X : Cx} {fe : SE} {e : Expr} {yp pos : Pos}
theorem gs_from' (he : PE X e (rd c Wx fe)) (hc : X.calm = true) (hco : X.env.scope.isCoroutine = false) (hi : interactive X.env = false) : GS X (.Expr (.YieldFrom e yp) pos) (rdY c Wx (gFrom fe)) := by
  refine ⟨fun A S ip R n ys s₀ cd fs K J gd lv s σ H D g hn kk hI ht => ?_⟩
  have hh : X.A.handled = none := by
    obtain ⟨_, _, _, I⟩ := hI
    exact I.ok.hd hc
  refine (gs_imp (gs_yieldFrom (yf_lst he) hh hi) fun D ys σ H ⟨P, s, ws, R, rr, h⟩ => ?_).run A S ip R n ys s₀ cd fs K J gd lv s σ H D g hn kk hI ht
  unfold gFrom at h
  refine ⟨P, s, R, h.exp fun r s1 v P1 H1 _ t1 R1 rv h1 => ?_⟩
  dsimp only at h1
  cases q : frz s1 r with
  | none => rw [q] at h1; exact h1.elim
  | some p =>
    obtain ⟨w, s2⟩ := p
    simp only [q, ofO_some, Res.bind_ok] at h1
    obtain ⟨P2, t2, R2, rw2, _⟩ := frz_ok t1 R1 rv q
    split at h1
    · rename_i xs
      unfold Rep at rw2
      obtain ⟨a, vs, rfl, qa, rl⟩ := rw2
      unfold chk at h1
      split at h1
      case isFalse => exact h1.elim
      rename_i hl
      have hl := of_decide_eq_true hl
      exact ⟨a, vs, rfl, .of qa.2, by rw [← rr.length, ← rl.length, lim_eq]; exact hl, h1 (ys ++ vs) σ P2 H1 t2.toStp R2 (Reps.app (Reps.mono (Stp.kp R t2.toStp) _ _ rr) rl)⟩
    · exact h1.elim
end
end Qs
/-! # A generator def's promise; list(f(..)) -/
namespace Qs
open PySem PySem.Spec PyProof.Rows L2 Qx LamX
def gEnd (as : S) : GFl → Res (R × S)
  | .nx ws _ => .ok (.new (.lst ws), as)
  | .rt ws _ => .ok (.new (.lst ws), as)
  | _ => .bad
/-- all that a generator def hands out, by its arguments -/
def genM (n : Nat) (f : GSS) : SE := fun as => chk (as.all isFroS) ((nfLs (startS n as) fun s => f [] s).bind (gEnd as))
/-- list(f(..)) -/
def eCallG (m : SE) (fs : List SE) : SE := bindL (fs.map eFz) fun rs s => (ofO (argsS s rs)).bind fun as => chk (as.all isFroS) <| (m as).bind fun p => match p.1 with
  | .new (.lst ws) => .ok (.new (.lst ws), s)
  | _ => .bad
section
variable {c : Cst} {Wx : WX} {k n : Nat} {X : Cx} {P P0 P1 P2 P' : Addr → Prop} {s s' s0 s1 : S} {σ σ0 σ' : L2.St} {H H0 H1 H2 H' : Hp} {Q : VK} {ws : List W} {vs xs : List V} {E : XK} {as as' : S}
def OutGen (c : Cst) (E : XK) (τ : L2.St) (P : Addr → Prop) (as : S) (H : Hp) (Q : List V → Hp → Prop) : Res (R × S) → Prop
  | .ok (.new (.lst ws), _) => ∀ ys P' H', StE P as τ H P' as H' → Rel c P' as τ H' → Reps c.T c.K P' H' ws ys → Q ys H'
  | .exc x => PostX c (fun cls d _ H' => E cls d H') P as τ H x
  | _ => False
def spG (c : Cst) (n : Nat) (m : SE) : SpG := fun vs H Q E => vs.length = n ∧ ∃ P as, as.all isFroS = true ∧ Rel c P as (vs.map some) H ∧ OutGen c E (vs.map some) P as H Q (m as)
theorem own_none {rs : List R} : ∀ {as : S}, argsS s rs = some as → as.all isFroS = true → ownIx s rs = [] := by
  induction rs with
  | nil => intro as _ _; rfl
  | cons r rs ih =>
    intro as e1 e3
    unfold argsS at e1
    cases q1 : argS s r with
    | none => rw [q1] at e1; cases e1
    | some a =>
      cases q2 : argsS s rs with
      | none => rw [q1, q2] at e1; cases e1
      | some bs =>
        rw [q1, q2] at e1
        cases e1
        rw [List.all_cons, Bool.and_eq_true] at e3
        have h2 := ih q2 e3.2
        unfold ownIx
        cases q3 : ownI s r with
        | none => exact h2
        | some j =>
          exfalso
          cases r with
          | fro w => cases q3
          | new w => cases q3
          | bor b =>
            rw [argS_bor] at q1
            have q3 : (match s[b]? with | some (.own _ _) => some b | _ => none) = some j := q3
            cases q4 : s[b]? with
            | none => rw [q4] at q1; cases q1
            | some sl =>
              rw [q4] at q1 q3
              cases sl with
              | un => cases q1
              | fro w => cases q3
              | own p w =>
                cases q1
                cases e3.1
/-- where nothing is the def's own, what came behind is a step of the slots ahead -/
theorem fro_step {N : List Str} (hf : as.all isFroS = true) (R : Rel c P as (vs.map some) H) (t : Stp P (startS N.length as) (L2.start N vs) H P' s' σ' H') (R' : Rel c P' s' σ' H') : StE P as (vs.map some) H P' as H' ∧ Rel c P' as (vs.map some) H' := by
  have hl : as.length = vs.length := by have := R.len; simpa using this
  have no : ∀ a, ¬ Own (startS N.length as) (L2.start N vs) a := fun a z => own_fro hf (own_start hl z)
  exact unhide R lamStep_refl (fun a o e nt => t.keep a o e (no a) nt) t.there t.pin (fun a z => by
    rcases t.new a z with z | z | z
    · exact .inl z
    · exact .inr z
    · exact absurd z (no a)) R'.tbs R'.dom
theorem bodyY_rd {N : List Str} {f : GSS} {Qg : List V → Hp → Prop} (h : spG c n (genM N.length f) vs H Qg E) : rdY c (fun cls d _ H' => E cls d H') f { nx := fun ys _ H' => Qg ys H', rt := fun ys v H' => v = .non ∧ Qg ys H' } [] (L2.start N vs) H := by
  obtain ⟨_, P, as, hf, RA, h⟩ := h
  have hl : as.length = vs.length := by have := RA.len; simpa using this
  refine ⟨P, startS N.length as, [], rel_start RA, Reps.nil, ?_⟩
  unfold genM chk at h
  rw [if_pos hf, nfLs_eq] at h
  cases e : f [] (startS N.length as) with
  | bad => rw [e] at h; exact h.elim
  | exc x =>
    rw [e] at h
    intro σ' cls d P' H' u xr
    refine h cls d P' H' ⟨fun a o e n nt => u.keep a o e (fun z => n (own_start hl z)) nt, u.pin, fun a z => ?_, u.tbs, u.dom, u.there⟩ xr
    rcases u.new a z with z | z | z
    · exact .inl z
    · exact .inr (.inl z)
    · exact .inr (.inr (own_start hl z))
  | ok fl =>
    rw [e] at h
    cases fl with
    | bk ws s' => exact h.elim
    | ct ws s' => exact h.elim
    | nx ws s' =>
      intro ys σ' P' H' t R' rr
      obtain ⟨t2, R2⟩ := fro_step (N := N) hf RA t R'
      exact h ys P' H' t2 R2 rr
    | rt ws s' =>
      intro ys σ' P' H' t R' rr
      obtain ⟨t2, R2⟩ := fro_step (N := N) hf RA t R'
      exact ⟨rfl, h ys P' H' t2 R2 rr⟩
/-- the exceptions that may leave: the wish's, of the text's own classes -/
def EG (c : Cst) (Wx : WX) : XK := fun cls d H => (∃ σ, Wx cls d σ H) ∧ ∃ j C, c.T.cl j = some C ∧ cls = .ref C
theorem gen_out {m : SE} {rs : List R} (R : Rel c P s σ H) (ra : Paired (fun r v => RvR c P s σ H0 H r v) rs xs) (hn : xs.length = n)
    (h : Out c Wx σ P s H Q ((ofO (argsS s rs)).bind fun as => chk (as.all isFroS) <| (m as).bind fun p => match p.1 with
      | .new (.lst ws) => .ok (.new (.lst ws), s)
      | _ => .bad)) : spG c n m xs H (fun out H2 => ∀ p, H2 p = none → Q (.ref p) (upd H2 p (.lst out))) (EG c Wx) := by
  cases eA : argsS s rs with
  | none => rw [eA] at h; exact h.elim
  | some as =>
    simp only [eA, ofO_some, Res.bind_ok] at h
    unfold chk at h
    split at h
    case isFalse => exact h.elim
    rename_i hf
    obtain ⟨RA, _⟩ := rel_args R ra eA (by rw [own_none eA hf]; exact List.nodup_nil)
    refine ⟨hn, P, as, hf, RA, ?_⟩
    cases em : m as with
    | bad => rw [em] at h; exact h.elim
    | exc x =>
      rw [em] at h
      intro cls d P' H' u xr
      obtain ⟨⟨C, h1, h2⟩, _⟩ := id xr
      refine ⟨⟨σ, h cls d P' H' ⟨fun a o e n nt => u.keep a o e (own_fro hf) nt, u.pin, fun a z => ?_, u.tbs, u.dom, u.there⟩ xr⟩, _, C, h1, h2⟩
      rcases u.new a z with z | z | z
      · exact .inl z
      · exact .inr (.inl z)
      · exact absurd z (own_fro hf)
    | ok p =>
      obtain ⟨r, as'⟩ := p
      rw [em] at h
      simp only [Res.bind_ok] at h
      cases r with
      | fro w => exact h.elim
      | bor i => exact h.elim
      | new w =>
        cases w with
        | lst ws =>
          intro ys P' H' t R' rr p hp
          obtain ⟨t3, R3⟩ := unhide R lamStep_refl (fun a o e nt => t.keep a o e (own_fro hf) nt) t.there t.pin (fun a z => by
            rcases t.new a z with z | z | z
            · exact .inl z
            · exact .inr z
            · exact absurd z (own_fro hf)) R'.tbs R'.dom
          have kp := keep_upd (o := .lst ys) hp
          have t4 : StE P s σ H P' s (upd H' p (.lst ys)) := t3.trans (Stp.more kp)
          have R4 : Rel c P' s σ (upd H' p (.lst ys)) := R3.more kp
          have hH : H p = none := by
            cases q : H p with
            | none => rfl
            | some o => exact absurd hp (t3.there p (by rw [q]; exact fun z => nomatch z))
          refine h (.ref p) P' _ t4 R4 ⟨p, rfl, fun z => R3.dom p z hp, fun ⟨i, q, w, e1, e2⟩ => ?_, hH, ys, upd_same, Reps.mono (Stp.kp R3 (Stp.more kp).toStp) _ _ rr⟩
          obtain ⟨a, e3, _, cl⟩ := R3.own i q w e1
          rw [e2] at e3
          cases e3
          obtain ⟨o, eo, _⟩ := Cell.ex cl
          rw [hp] at eo; cases eo
        | _ => exact h.elim
theorem rd_gen {m : SE} {fs : List SE} (hl : fs.length = n) (h : rd c Wx (eCallG m fs) σ H Q) : tListG (tCallG (spG c n m) [] (EG c Wx) (tArgs c Wx (fs.map eFz))) σ H Q := by
  have len : ∀ {fs : List SE} {σ : L2.St} {H : Hp} {Z : List V → Hp → Prop}, tArgs c Wx fs σ H Z → tArgs c Wx fs σ H fun xs H1 => xs.length = fs.length ∧ Z xs H1 := by
    intro fs
    induction fs with
    | nil => intro σ H Z h; exact ⟨rfl, h⟩
    | cons f fs ih =>
      intro σ H Z h
      obtain ⟨P, s, R, h⟩ := h
      refine ⟨P, s, R, h.imp fun v H' h => ?_⟩
      have := ih h
      refine Eq.mp ?_ this
      congr 1
      funext xs H1
      simp
  show tArgs c Wx (fs.map eFz) σ H fun vs H1 => spG c n m (vs ++ []) H1 _ _
  have h2 : tArgs c Wx (fs.map eFz) σ H fun xs H1 => xs.length = n → spG c n m xs H1 (fun out H2 => ∀ p, H2 p = none → Q (.ref p) (upd H2 p (.lst out))) (EG c Wx) := rd_args h fun P0 s0 P s rs xs H1 R0 t R ra h hx => gen_out R ra hx (Out.at_ h t R)
  have imp : ∀ {fs : List SE} {σ : L2.St} {H : Hp} {Z Z' : List V → Hp → Prop}, (∀ xs H, Z xs H → Z' xs H) → tArgs c Wx fs σ H Z → tArgs c Wx fs σ H Z' := by
    intro fs
    induction fs with
    | nil => intro σ H Z Z' k h; exact k _ _ h
    | cons f fs ih =>
      intro σ H Z Z' k h
      obtain ⟨P, s, R, h⟩ := h
      exact ⟨P, s, R, h.imp fun v H' h => ih (fun xs H1 => k (v :: xs) H1) h⟩
  exact imp (fun xs H1 ⟨h1, h2⟩ => by rw [List.append_nil]; exact h2 (by rw [h1, List.length_map]; exact hl)) (len h2)
theorem cx_mono {P : Program} {w : World} {outer : List Env} {H : Hp} {s s' : Shared} {E E' : XK} {e : Value} (h : ∀ cls d H, E cls d H → E' cls d H) (q : CX P w outer H s E e s') : CX P w outer H s E' e s' := by
  obtain ⟨a, B, H', cls, d, h1, h2, h3, h4, h5, h6, h7, h8⟩ := q
  exact ⟨a, B, H', cls, d, h1, h2, h3, h4, h5, h6, h7, h _ _ _ h8⟩
/-- list(f(..)) of a generator def -/
theorem pe_gen {f : Addr} {fd : FuncData} {ps : List Str} {x : Str} {e : Expr} {es : List Expr} {p q pos pos2 : Pos} {m : SE} {fs : List SE} (tk : Takes X Wx) (wi : ∀ cls d σ σ' H, Wx cls d σ H → Wx cls d σ' H)
    (hst : ∀ j C, c.T.cl j = some C → PySem.W.subIn X.K (.ref C) (.type "StopIteration") = some false) (F : GFn X.prog X.w X.K X.mg X.base k f fd ps (spG c n m)) (hr : Room (k + 3) X.A) (hg : Gl X x) (hm : X.mg x = some (.ref f)) (hk : PySem.W.keepIn X.K (.ref f) = true) (hb : Binds X.K fd ps [])
    (hl : Gl X "list") (hml : X.mg "list" = none) (ha : PA X (e :: es) (tArgs c Wx (fs.map eFz))) (hn : fs.length = n) (hdb : (x == ("__debug__" : Str)) = false) (he : starEach (e :: es) X.env = (false, eval e X.env) :: starEach es X.env) (hpl : (backTo pos2 (starEach es X.env)).any (·.1) = false) :
    PE X (.Call (.Name "list" p) [.Call (.Name x q) (e :: es) [] pos2] [] pos) (rd c Wx (eCallG m fs)) :=
  pe_imp (pe_listG (k := k) (E := EG c Wx) (pgen_call F (hr.mono (by omega)) hg hm hk hb .nil ha hdb he hpl) (fun pins σ H s e s' I cx => passAt tk σ pins H s e s' I (cx_mono (fun cls d H ⟨⟨σ2, z⟩, _⟩ => wi cls d σ2 σ H z) cx))
    (fun cls d H ⟨_, j, C, h1, h2⟩ => by rw [h2]; exact hst j C h1) hr hl hml (by decide +kernel) (by decide) (by decide) (by rfl)) fun σ H Q h => rd_gen hn h
end
end Qs
/-! # len(set(..)) of a list or tuple of texts or ints: how many unlike ones there are -/
namespace SetK
open PySem PySem.Spec PyProof.Rows
def unlikeR {κ : Type} [DecidableEq κ] : List κ → Nat
  | [] => 0
  | k :: r => if k ∈ r then unlikeR r else unlikeR r + 1
def unlike {κ : Type} [DecidableEq κ] (l : List κ) : Nat := unlikeR l.reverse
theorem unlikeR_le {κ : Type} [DecidableEq κ] : ∀ l : List κ, unlikeR l ≤ l.length
  | [] => Nat.le_refl _
  | k :: r => by
    have := unlikeR_le r
    unfold unlikeR
    split <;> simp only [List.length_cons] <;> omega
theorem unlike_le {κ : Type} [DecidableEq κ] (l : List κ) : unlike l ≤ l.length := by
  have := unlikeR_le l.reverse
  unfold unlike
  simpa using this
theorem unlike_snoc {κ : Type} [DecidableEq κ] {l : List κ} {k : κ} : unlike (l ++ [k]) = if k ∈ l then unlike l else unlike l + 1 := by
  unfold unlike
  rw [List.reverse_append]
  show (if k ∈ l.reverse then unlikeR l.reverse else unlikeR l.reverse + 1) = _
  simp only [List.mem_reverse]
section
variable {κ : Type} [DecidableEq κ] {prog : Program} {w : World} {A : Around} {R : Result → Shared → Prop} {I : Addr} {fp wr : List Addr} {G : Array GenState → Array GenState → Prop} {n : Nat} {P : Nat → Value → Prop} {St : Nat → Shared → Prop}
theorem loopK (knd : KeyKind prog w κ) (W : WalksS prog w A.in1 I fp wr G n P St) (D : Addr) (hD : D ∉ fp) (ks : List κ) (hz : n = ks.length) (hb : n + 1 < scanBound) (hv : ∀ i v, P i v → ∃ k, ks[i]? = some k ∧ knd.is k v = true ∧ v.scannable = true) :
    ∀ (m i : Nat) (s : Shared), n - i = m → i ≤ n → St i s → s.heap.SetOf knd D (fun j => decide (j ∈ ks.take i)) (unlike (ks.take i)) →
      (∀ t, Moved (D :: wr) G s t → t.heap.SetOf knd D (fun j => decide (j ∈ ks)) (unlike ks) → R (.ok (.ret .none)) t) → codeAny (model prog w) A (.builtin "set.update.loop" ⟨[.ref D, .ref I], []⟩) R s := by
  have nw : D ∉ wr := fun h => hD (W.sub _ h)
  have sb : ∀ b ∈ wr, b ∈ D :: wr := fun b hb => List.mem_cons_of_mem _ hb
  intro m
  induction m with
  | zero =>
    intro i s hm hi st hS hR
    obtain rfl : i = n := by omega
    refine codeAny_builtin PyProof.Rows.F.entry_set_update_loop ?_
    rw [Around.under_plainId PyProof.Rows.F.plain_set_update_loop _]
    show wpAny _ A.in1 (pyNext (.ref I) >>= _) _ _ s
    refine wpAny_bind (W.done s _ _ st fun t mv => ?_)
    show wpAny _ A.in1 (ret Value.none) _ _ t
    have e : ks.take i = ks := List.take_of_length_le (by omega)
    rw [e] at hS
    exact wpAny_pure (hR t (mv.mono sb) (by obtain ⟨o, es, ep, tb, ho, rest⟩ := hS; exact ⟨o, es, ep, tb, mv.heap D _ nw ho, rest⟩))
  | succ m ih =>
    intro i s hm hi st hS hR
    have hlt : i < n := by omega
    refine codeAny_builtin PyProof.Rows.F.entry_set_update_loop ?_
    rw [Around.under_plainId PyProof.Rows.F.plain_set_update_loop _]
    show wpAny _ A.in1 (pyNext (.ref I) >>= _) _ _ s
    refine wpAny_bind (W.item i s _ _ hlt st fun v t hP st2 mv => ?_)
    obtain ⟨k, ek, isk, sck⟩ := hv i v hP
    have hS2 : t.heap.SetOf knd D (fun j => decide (j ∈ ks.take i)) (unlike (ks.take i)) := by obtain ⟨o, es, ep, tb, ho, rest⟩ := hS; exact ⟨o, es, ep, tb, mv.heap D _ nw ho, rest⟩
    show wpAny _ A.in1 (holding [v] (setAdd D v) >>= _) _ _ t
    refine wpAny_bind (wpAny_holding ?_)
    unfold setAdd
    refine wpAny_holding ?_
    refine wpAny_bind (knd.pyHash (k := k) isk ?_)
    have room : unlike (ks.take i) + 1 < scanBound := by
      have := unlike_le (ks.take i)
      rw [List.length_take] at this
      omega
    refine wpAny_setAddHashed_of (knd := knd) (s := { t with toks := t.toks + 1 }) isk sck hS2 room fun hp same hS3 => ?_
    have hS4 : hp.SetOf knd D (fun j => decide (j ∈ ks.take (i + 1))) (unlike (ks.take (i + 1))) := by
      have e : ks.take (i + 1) = ks.take i ++ [k] := by rw [List.take_add_one, ek]; rfl
      rw [e, unlike_snoc]
      have e1 : (fun j => decide (j ∈ ks.take i ++ [k])) = fun j => decide (j ∈ ks.take i) || decide (j = k) := by funext j; simp [List.mem_append]
      rw [e1]
      simp only [decide_eq_true_eq] at hS3
      exact hS3
    refine wpAny_pure ⟨plainId_quiet PyProof.Rows.F.plain_set_update_loop _, ih (i + 1) _ (by omega) hlt (W.frame _ t _ _ st2 (Nat.le_succ _) fun b hb o e => ?_) hS4 fun t2 mv2 hS5 => ?_⟩
    · rw [same.2 b (fun h : b = D => hD (by rw [← h]; exact hb))]; exact e
    · refine hR t2 (Moved.trans W.gtrans ((mv.mono sb).then_heap (Nat.le_succ _) fun b o hb e => ?_) mv2) hS5
      rw [same.2 b (fun h : b = D => hb (by rw [h]; exact List.mem_cons_self))]; exact e
end
section
variable {κ : Type} [DecidableEq κ] {prog : Program} {w : World} {A : Around} {E : Value → Shared → Prop} {s : Shared}
theorem call_set_listK (knd : KeyKind prog w κ) {l : Addr} {items : Array Value} {ks : List κ} {Q : Value → Shared → Prop} (gh : A.handled = none) (gl : s.heap.IsList l items) (gz : items.size = ks.length) (gi : ∀ (i : Nat) (v : Value), items[i]? = some v → ∃ k, ks[i]? = some k ∧ knd.is k v = true ∧ v.scannable = true) (gb : ks.length + 1 < scanBound)
    (gQ : ∀ (hp : Heap) (tk : Nat), hp.SetOf knd s.heap.objs.size (fun j => decide (j ∈ ks)) (unlike ks) → (∀ b o, b < s.heap.objs.size → s.heap.get? b = some o → hp.get? b = some o) → Q (.ref s.heap.objs.size) { s with heap := hp, toks := tk }) :
    wpAny (model prog w) A (call (.type "set") [.ref l]) Q E s := by
  obtain ⟨c, tl, hmro⟩ := PySem.F.called_set.mro
  have gm := PySem.F.called_set.made; have gs := PySem.F.called_set.sub
  refine wpAny_call (codeAny_of_tree ?_)
  show wpAny _ _ (callAny (.type "set") _) _ _ _
  refine wpAny_pure ⟨Code.quiet_builtin _ (by decide +kernel), codeAny_builtin PySem.F.entry_type_call ?_⟩
  rw [Around.under_plain (weight_type_call_type "set" [.ref l] []) rfl]
  have g1 := PySem.F.called_set.notType; have g2 := PySem.F.called_set.canCreate; have g3 := PySem.F.typeCall_set_1 (.ref l)
  repeat (any_goals (first | assumption | wp_step))
  refine codeAny_mono (code_set_new_1 (.ref l) (E := E) (Q₁ := fun obj t => ∃ led : Bool, obj = .ref s.heap.objs.size ∧ t = { s with heap := s.heap.push { cls := .type "set", dict := none, data := .set #[] 0 (.fresh 0 0 led) } }) fun led => ⟨led, rfl, rfl⟩) fun r t hr => ?_
  cases r with
  | error e => exact hr
  | ok fl =>
    cases fl with
    | ret obj =>
      obtain ⟨led, rfl, rfl⟩ := hr
      have nS : (s.heap.push { cls := .type "set", dict := none, data := .set #[] 0 (.fresh 0 0 led) }).get? s.heap.objs.size = some { cls := .type "set", dict := none, data := .set #[] 0 (.fresh 0 0 led) } := Heap.get?_push_size _ rfl
      have nT : Shared.TypeIs { s with heap := s.heap.push { cls := .type "set", dict := none, data := .set #[] 0 (.fresh 0 0 led) } } (.ref s.heap.objs.size) "set" := ⟨_, nS, rfl⟩
      have n1 := PySem.F.called_set.init.lookup; have n2 := PySem.F.called_set.init.bind (.ref s.heap.objs.size)
      repeat (any_goals (first | assumption | wp_step))
      refine codeAny_mono (codeAny_call_builtin (R := wants (fun r t => r = .none ∧ ∃ hp tk, t = { s with heap := hp, toks := tk } ∧ hp.SetOf knd s.heap.objs.size (fun j => decide (j ∈ ks)) (unlike ks) ∧ (∀ b o, b < s.heap.objs.size → s.heap.get? b = some o → hp.get? b = some o)) E) PySem.F.called_set.init.plain PySem.F.entry_set_init (check_set_init_1 nT ?_)) fun r₂ t₂ hr₂ => ?_
      · obtain ⟨⟨oc, od, odata, osl⟩, ho, hc, nl, hd⟩ := gl
        simp only at hc hd
        subst hc; subst hd
        have ho' : (s.heap.push { cls := .type "set", dict := none, data := .set #[] 0 (.fresh 0 0 led) }).get? l = some { cls := .type "list", dict := od, data := .seq items nl, slots := osl } := Heap.get?_push_of_some _ ho
        have e1 := PySem.F.sub_list_set; have e2 := PySem.F.sub_list_frozenset; have e3 : (Value.type "list" == Value.type "dict") = false := by decide
        have l1 : (s.heap.push { cls := .type "set", dict := none, data := .set #[] 0 (.fresh 0 0 led) }).IsList l items := ⟨_, ho', rfl, nl, rfl⟩
        unfold Builtin.«set.__init__» noKeywords Builtin.Frozenset.updateFrom
        generalize hPI : pyIter = PI
        wp_walk
        subst hPI
        refine wpAny_pyIter_list l1 ?_
        refine wpAny_bind (wpAny_runValue ?_)
        have lt : l < s.heap.objs.size := Heap.lt_size ho
        have gh3 : A.in1.in1.in1.handled = none := by simp [gh]
        have es : (s.heap.push { cls := .type "set", dict := none, data := .set #[] 0 (.fresh 0 0 led) }).objs.size = s.heap.objs.size + 1 := Heap.size_push ..
        refine loopK knd ((Walks.list gh3 _ l (by rw [es]; exact Nat.ne_of_lt (Nat.lt_succ_of_lt lt)) items).toS) s.heap.objs.size (by rw [es]; simp only [List.mem_cons, List.not_mem_nil, or_false, not_or]; exact ⟨Nat.ne_of_lt (Nat.lt_succ_self _), Nat.ne_of_gt lt⟩) ks gz (by omega) gi (items.size - 0) 0 _ (by omega) (Nat.zero_le _) ⟨⟨_, Heap.get?_push_size _ rfl, rfl, rfl⟩, (l1.push _)⟩ ?ca ?cb
        case ca =>
          have eg : ((s.heap.push { cls := .type "set", dict := none, data := .set #[] 0 (.fresh 0 0 led) }).push { cls := .type "list_iterator", data := .fields #[.ref l, .int 0 0] }).get? s.heap.objs.size = some { cls := .type "set", dict := none, data := .set #[] 0 (.fresh 0 0 led) } := Heap.get?_push_of_some _ nS
          exact PyProof.Rows.SetOf_congr ((PyProof.Rows.setObjOf_fresh (knd := knd) led).setOf eg (by unfold scanBound; omega)) (fun _ => by simp) rfl
        case cb =>
          intro t mv hS
          obtain ⟨hp, g', d', tk, os'⟩ := t
          obtain rfl : g' = s.gens := mv.gens
          obtain rfl : d' = s.drawn := mv.drawn
          obtain rfl : os' = s.os := mv.os
          show wpAny _ _ _ _ _ _
          refine wpAny_pure ?_
          show wpAny _ _ (ret Value.none) _ _ _
          refine wpAny_pure ⟨rfl, hp, tk, rfl, hS, fun b o hb e => ?_⟩
          exact mv.heap b o (by rw [es]; simp only [List.mem_cons, List.not_mem_nil, or_false, not_or]; exact ⟨Nat.ne_of_lt hb, Nat.ne_of_lt (Nat.lt_succ_of_lt hb)⟩) (Heap.get?_push_of_some _ (Heap.get?_push_of_some _ e))
      · cases r₂ with
        | error e => exact hr₂
        | ok fl₂ =>
          cases fl₂ with
          | ret r =>
            obtain ⟨rfl, hp, tk, rfl, hS, hk⟩ := hr₂
            repeat (any_goals (first | assumption | wp_step))
            exact gQ _ _ hS hk
          | _ => exact hr₂.elim
    | _ => exact hr.elim
theorem call_set_tupleK (knd : KeyKind prog w κ) {l : Addr} {items : Array Value} {ks : List κ} {Q : Value → Shared → Prop} (gh : A.handled = none) (gl : s.heap.IsTuple l items) (gz : items.size = ks.length) (gi : ∀ (i : Nat) (v : Value), items[i]? = some v → ∃ k, ks[i]? = some k ∧ knd.is k v = true ∧ v.scannable = true) (gb : ks.length + 1 < scanBound)
    (gQ : ∀ (hp : Heap) (tk : Nat), hp.SetOf knd s.heap.objs.size (fun j => decide (j ∈ ks)) (unlike ks) → (∀ b o, b < s.heap.objs.size → s.heap.get? b = some o → hp.get? b = some o) → Q (.ref s.heap.objs.size) { s with heap := hp, toks := tk }) :
    wpAny (model prog w) A (call (.type "set") [.ref l]) Q E s := by
  obtain ⟨c, tl, hmro⟩ := PySem.F.called_set.mro
  have gm := PySem.F.called_set.made; have gs := PySem.F.called_set.sub
  refine wpAny_call (codeAny_of_tree ?_)
  show wpAny _ _ (callAny (.type "set") _) _ _ _
  refine wpAny_pure ⟨Code.quiet_builtin _ (by decide +kernel), codeAny_builtin PySem.F.entry_type_call ?_⟩
  rw [Around.under_plain (weight_type_call_type "set" [.ref l] []) rfl]
  have g1 := PySem.F.called_set.notType; have g2 := PySem.F.called_set.canCreate; have g3 := PySem.F.typeCall_set_1 (.ref l)
  repeat (any_goals (first | assumption | wp_step))
  refine codeAny_mono (code_set_new_1 (.ref l) (E := E) (Q₁ := fun obj t => ∃ led : Bool, obj = .ref s.heap.objs.size ∧ t = { s with heap := s.heap.push { cls := .type "set", dict := none, data := .set #[] 0 (.fresh 0 0 led) } }) fun led => ⟨led, rfl, rfl⟩) fun r t hr => ?_
  cases r with
  | error e => exact hr
  | ok fl =>
    cases fl with
    | ret obj =>
      obtain ⟨led, rfl, rfl⟩ := hr
      have nS : (s.heap.push { cls := .type "set", dict := none, data := .set #[] 0 (.fresh 0 0 led) }).get? s.heap.objs.size = some { cls := .type "set", dict := none, data := .set #[] 0 (.fresh 0 0 led) } := Heap.get?_push_size _ rfl
      have nT : Shared.TypeIs { s with heap := s.heap.push { cls := .type "set", dict := none, data := .set #[] 0 (.fresh 0 0 led) } } (.ref s.heap.objs.size) "set" := ⟨_, nS, rfl⟩
      have n1 := PySem.F.called_set.init.lookup; have n2 := PySem.F.called_set.init.bind (.ref s.heap.objs.size)
      repeat (any_goals (first | assumption | wp_step))
      refine codeAny_mono (codeAny_call_builtin (R := wants (fun r t => r = .none ∧ ∃ hp tk, t = { s with heap := hp, toks := tk } ∧ hp.SetOf knd s.heap.objs.size (fun j => decide (j ∈ ks)) (unlike ks) ∧ (∀ b o, b < s.heap.objs.size → s.heap.get? b = some o → hp.get? b = some o)) E) PySem.F.called_set.init.plain PySem.F.entry_set_init (check_set_init_1 nT ?_)) fun r₂ t₂ hr₂ => ?_
      · obtain ⟨⟨oc, od, odata, osl⟩, ho, hc, nl, hd⟩ := gl
        simp only at hc hd
        subst hc; subst hd
        have ho' : (s.heap.push { cls := .type "set", dict := none, data := .set #[] 0 (.fresh 0 0 led) }).get? l = some { cls := .type "tuple", dict := od, data := .seq items nl, slots := osl } := Heap.get?_push_of_some _ ho
        have e1 := PySem.F.sub_tuple_set; have e2 := PySem.F.sub_tuple_frozenset; have e3 : (Value.type "tuple" == Value.type "dict") = false := by decide
        have l1 : (s.heap.push { cls := .type "set", dict := none, data := .set #[] 0 (.fresh 0 0 led) }).IsTuple l items := ⟨_, ho', rfl, nl, rfl⟩
        unfold Builtin.«set.__init__» noKeywords Builtin.Frozenset.updateFrom
        generalize hPI : pyIter = PI
        wp_walk
        subst hPI
        refine wpAny_pyIter_tuple l1 ?_
        refine wpAny_bind (wpAny_runValue ?_)
        have lt : l < s.heap.objs.size := Heap.lt_size ho
        have gh3 : A.in1.in1.in1.handled = none := by simp [gh]
        have es : (s.heap.push { cls := .type "set", dict := none, data := .set #[] 0 (.fresh 0 0 led) }).objs.size = s.heap.objs.size + 1 := Heap.size_push ..
        refine loopK knd ((Walks.tuple gh3 _ l (by rw [es]; exact Nat.ne_of_lt (Nat.lt_succ_of_lt lt)) items).toS) s.heap.objs.size (by rw [es]; simp only [List.mem_cons, List.not_mem_nil, or_false, not_or]; exact ⟨Nat.ne_of_lt (Nat.lt_succ_self _), Nat.ne_of_gt lt⟩) ks gz (by omega) gi (items.size - 0) 0 _ (by omega) (Nat.zero_le _) ⟨⟨_, Heap.get?_push_size _ rfl, rfl, rfl⟩, (l1.push _)⟩ ?ca ?cb
        case ca =>
          have eg : ((s.heap.push { cls := .type "set", dict := none, data := .set #[] 0 (.fresh 0 0 led) }).push { cls := .type "tuple_iterator", data := .fields #[.ref l, .int 0 0] }).get? s.heap.objs.size = some { cls := .type "set", dict := none, data := .set #[] 0 (.fresh 0 0 led) } := Heap.get?_push_of_some _ nS
          exact PyProof.Rows.SetOf_congr ((PyProof.Rows.setObjOf_fresh (knd := knd) led).setOf eg (by unfold scanBound; omega)) (fun _ => by simp) rfl
        case cb =>
          intro t mv hS
          obtain ⟨hp, g', d', tk, os'⟩ := t
          obtain rfl : g' = s.gens := mv.gens
          obtain rfl : d' = s.drawn := mv.drawn
          obtain rfl : os' = s.os := mv.os
          show wpAny _ _ _ _ _ _
          refine wpAny_pure ?_
          show wpAny _ _ (ret Value.none) _ _ _
          refine wpAny_pure ⟨rfl, hp, tk, rfl, hS, fun b o hb e => ?_⟩
          exact mv.heap b o (by rw [es]; simp only [List.mem_cons, List.not_mem_nil, or_false, not_or]; exact ⟨Nat.ne_of_lt hb, Nat.ne_of_lt (Nat.lt_succ_of_lt hb)⟩) (Heap.get?_push_of_some _ (Heap.get?_push_of_some _ e))
      · cases r₂ with
        | error e => exact hr₂
        | ok fl₂ =>
          cases fl₂ with
          | ret r =>
            obtain ⟨rfl, hp, tk, rfl, hS, hk⟩ := hr₂
            repeat (any_goals (first | assumption | wp_step))
            exact gQ _ _ hS hk
          | _ => exact hr₂.elim
    | _ => exact hr.elim
end
end SetK
namespace Qs
open PySem PySem.Spec PyProof.Rows L2
section
variable {c : Cst} {Wx : WX} {k n : Nat} {X : Cx} {P : Addr → Prop} {s : S} {σ : L2.St} {H : Hp} {Q : VK} {a b e : Expr} {fa fb f : SE} {pos p p2 q : Pos}
def intsO : List W → Option (List Int)
  | [] => some []
  | .int i :: ws => (intsO ws).map (i :: ·)
  | _ => none
def strsO : List W → Option (List (List Nat))
  | [] => some []
  | .str i :: ws => (strsO ws).map (i :: ·)
  | _ => none
def seqO : W → Option (List W)
  | .lst ws => some ws
  | .tup ws => some ws
  | _ => none
/-- how many unlike items a list or tuple has -/
def lenSetW (w : W) : Option R := (seqO w).bind fun ws => guard' (decide (ws.length < 4000)) () |>.bind fun _ => match intsO ws with
  | some is => some (.fro (.int (SetK.unlike is : Nat)))
  | none => match strsO ws with
    | some xs => some (.fro (.int (SetK.unlike xs : Nat)))
    | none => none
theorem intsO_ok {c : Cst} {P : Addr → Prop} {H : Hp} : ∀ {ws : List W} {is : List Int} {vs : List V}, intsO ws = some is → Reps c.T c.K P H ws vs → vs = is.map V.int
  | [], is, vs, e, r => by cases e; unfold Reps at r; subst r; rfl
  | w :: ws, is, vs, e, r => by
    cases w with
    | int i =>
      have e : (intsO ws).map (i :: ·) = some is := e
      cases q : intsO ws with
      | none => rw [q] at e; cases e
      | some js =>
        rw [q] at e; cases e
        unfold Reps at r
        obtain ⟨v, r', rfl, h1, h2⟩ := r
        rw [Rep.int h1, intsO_ok q h2]; rfl
    | _ => cases e
theorem strsO_ok {c : Cst} {P : Addr → Prop} {H : Hp} : ∀ {ws : List W} {xs : List (List Nat)} {vs : List V}, strsO ws = some xs → Reps c.T c.K P H ws vs → vs = (xs.map mkS).map V.str
  | [], is, vs, e, r => by cases e; unfold Reps at r; subst r; rfl
  | w :: ws, is, vs, e, r => by
    cases w with
    | str i =>
      have e : (strsO ws).map (i :: ·) = some is := e
      cases q : strsO ws with
      | none => rw [q] at e; cases e
      | some js =>
        rw [q] at e; cases e
        unfold Reps at r
        obtain ⟨v, r', rfl, h1, h2⟩ := r
        have : v = .str (mkS i) := by unfold Rep at h1; exact h1
        rw [this, strsO_ok q h2]; rfl
    | _ => cases e
theorem mkS_inj {x y : List Nat} (h : mkS x = mkS y) : x = y := by
  unfold mkS at h
  have := congrArg (fun z => z.cps.toList) h
  simpa using this
theorem unlikeR_map : ∀ l : List (List Nat), SetK.unlikeR (l.map mkS) = SetK.unlikeR l
  | [] => rfl
  | x :: l => by
    have ih := unlikeR_map l
    rw [List.map_cons]
    unfold SetK.unlikeR
    rw [ih]
    have : (mkS x ∈ l.map mkS) ↔ x ∈ l := by
      rw [List.mem_map]
      exact ⟨fun ⟨y, h1, h2⟩ => by rw [← mkS_inj h2]; exact h1, fun h => ⟨x, h, rfl⟩⟩
    by_cases h : x ∈ l
    · rw [if_pos h, if_pos (this.mpr h)]
    · rw [if_neg h, if_neg (fun z => h (this.mp z))]
theorem unlike_map (l : List (List Nat)) : SetK.unlike (l.map mkS) = SetK.unlike l := by
  unfold SetK.unlike
  rw [← List.map_reverse]
  exact unlikeR_map _
/-- what the sequence holds, as ints or texts -/
def tLenSetK (K : PySem.W.Frag) (ta : TE) : TE := fun σ H Q => ta σ H fun x H1 => ∃ (l : Addr) (vs : List V), x = .ref l ∧ (SqL K H1 l vs ∨ SqT K H1 l vs) ∧ vs.length < 4000 ∧ ((∃ is : List Int, vs = is.map V.int ∧ Q (.int (SetK.unlike is)) H1) ∨ ∃ xs : List Str, vs = xs.map V.str ∧ Q (.int (SetK.unlike xs)) H1)
theorem ints_at {is : List Int} {us : List Value} (r : Vals (is.map V.int) us) (P : Program) (w : World) : ∀ (i : Nat) (v : Value), us.toArray[i]? = some v → ∃ k, is[i]? = some k ∧ (PySem.intKind P w).is k v = true ∧ v.scannable = true := fun i v hv => by
  have hl : (is.map V.int).length = us.length := r.length
  have hi : i < is.length := by
    have := (Array.getElem?_eq_some_iff.mp hv).1
    simp at this hl
    omega
  obtain ⟨u, hu, ru⟩ := r.get (i := i) (x := V.int is[i]) (by simp [hi])
  have e : u = v := by
    have : us[i]? = some v := by simpa using hv
    rw [hu] at this; exact Option.some.inj this
  subst e
  obtain ⟨t, rfl⟩ := ru
  exact ⟨is[i], List.getElem?_eq_getElem hi, intKind_is _ _ _ _, rfl⟩
theorem strs_at {xs : List Str} {us : List Value} (r : Vals (xs.map V.str) us) (P : Program) (w : World) : ∀ (i : Nat) (v : Value), us.toArray[i]? = some v → ∃ k, xs[i]? = some k ∧ (PySem.strKind P w).is k v = true ∧ v.scannable = true := fun i v hv => by
  have hl : (xs.map V.str).length = us.length := r.length
  have hi : i < xs.length := by
    have := (Array.getElem?_eq_some_iff.mp hv).1
    simp at this hl
    omega
  obtain ⟨u, hu, ru⟩ := r.get (i := i) (x := V.str xs[i]) (by simp [hi])
  have e : u = v := by
    have : us[i]? = some v := by simpa using hv
    rw [hu] at this; exact Option.some.inj this
  subst e
  obtain ⟨t, rfl⟩ := ru
  exact ⟨xs[i], List.getElem?_eq_getElem hi, strKind_is _ _ _ _, rfl⟩
theorem pe_lenSetK {ta : TE} (hc : X.calm = true) (hg : Gl X "len") (hm : X.mg "len" = none) (hg2 : Gl X "set") (hm2 : X.mg "set" = none) (ha : PE X a ta) (na : starEach [a] X.env = (false, eval a X.env) :: starEach [] X.env) :
    PE X (.Call (.Name "len" p) [.Call (.Name "set" p2) [a] [] q] [] pos) (tLenSetK X.K ta) := by
  refine ⟨fun pins s σ H Q I h => ?_⟩
  refine Call_ (ld_blt I hg hm boot_len ?_)
  refine PyProof.Rows.callWith_builtin1 (PyProof.Rows.args_cons ?_ rfl) rfl rfl
  refine Call_ (ld_blt I hg2 hm2 boot_set ?_)
  refine PyProof.Rows.callWith_type1 (PyProof.Rows.args_cons (thn (ha.run pins s σ H _ I h) fun v s1 ⟨x, H1, I1, r1, q1⟩ => PyProof.Rows.args_nil ?_) na) na rfl
  obtain ⟨l, vs, rfl, hq, hz, q1⟩ := q1
  cases r1
  have fin : ∀ {κ : Type} [DecidableEq κ] (knd : KeyKind X.prog X.w κ) (ks : List κ), Q (.int (SetK.unlike ks)) H1 → ks.length < 4000 → ∀ (hp : Heap) (tk : Nat), hp.SetOf knd s1.heap.objs.size (fun j => decide (j ∈ ks)) (SetK.unlike ks) → (∀ b o, b < s1.heap.objs.size → s1.heap.get? b = some o → hp.get? b = some o) →
      wpAny (model X.prog X.w) X.A (spliced (backTo pos (starEach [] X.env))) (fun vs t => wpAny (model X.prog X.w) X.A (call (.builtin "len") (Value.ref s1.heap.objs.size :: vs)) (EP X pins σ Q) X.xe t) X.xe { s1 with heap := hp, toks := tk } := fun knd ks hQ hk hp tk hS hkp => by
    refine PyProof.Rows.args_nil ?_
    obtain ⟨o, es, ep, t, ho, hex, hd, _, _, _, hf, hn⟩ := hS
    have I2 : Inv X pins σ H1 { s1 with heap := hp, toks := tk } := I1.kept fun b o e => hkp b o (Heap.lt_size e) e
    have hle := SetK.unlike_le ks
    exact call_len_set ho hex hd hf (by rw [hn]; omega) ⟨.int (SetK.unlike ks), H1, I2.tok _, ⟨_, by rw [hn]⟩, hQ⟩
  rcases q1 with ⟨is, rfl, hQ⟩ | ⟨xs, rfl, hQ⟩
  · have hz : is.length < 4000 := by simpa using hz
    rcases hq with hq | hq
    · obtain ⟨its, r, pl, _⟩ := I1.list hq
      exact SetK.call_set_listK (PySem.intKind X.prog X.w) (I1.ok.hd hc) pl.isList (by have := r.length; simp at this ⊢; omega) (ints_at r _ _) (by unfold scanBound; omega) (fin _ is hQ hz)
    · obtain ⟨its, r, pl, _⟩ := I1.tuple hq
      exact SetK.call_set_tupleK (PySem.intKind X.prog X.w) (I1.ok.hd hc) pl (by have := r.length; simp at this ⊢; omega) (ints_at r _ _) (by unfold scanBound; omega) (fin _ is hQ hz)
  · have hz : xs.length < 4000 := by simpa using hz
    rcases hq with hq | hq
    · obtain ⟨its, r, pl, _⟩ := I1.list hq
      exact SetK.call_set_listK (PySem.strKind X.prog X.w) (I1.ok.hd hc) pl.isList (by have := r.length; simp at this ⊢; omega) (strs_at r _ _) (by unfold scanBound; omega) (fin _ xs hQ hz)
    · obtain ⟨its, r, pl, _⟩ := I1.tuple hq
      exact SetK.call_set_tupleK (PySem.strKind X.prog X.w) (I1.ok.hd hc) pl (by have := r.length; simp at this ⊢; omega) (strs_at r _ _) (by unfold scanBound; omega) (fin _ xs hQ hz)
theorem pe_lenSet' (hK : X.K = c.K) (hc : X.calm = true) (hg : Gl X "len") (hm : X.mg "len" = none) (hg2 : Gl X "set") (hm2 : X.mg "set" = none) (ha : PE X a (rd c Wx fa)) (na : PySem.W.isStarred a = false) :
    PE X (.Call (.Name "len" p) [.Call (.Name "set" p2) [a] [] q] [] pos) (rd c Wx (eOne lenSetW fa)) :=
  pe_imp (pe_lenSetK hc hg hm hg2 hm2 ha (star_no na)) fun σ H Q h => rd_one h fun P s r x H1 R rx h2 => by
    obtain ⟨u, z, e, hx, h3⟩ := Out.onW R rx h2
    unfold lenSetW at e
    cases es : seqO u with
    | none => rw [es] at e; cases e
    | some ws =>
      rw [es] at e
      have e : (guard' (decide (ws.length < 4000)) ()).bind (fun _ => match intsO ws with
        | some is => some (Qs.R.fro (W.int (SetK.unlike is : Nat)))
        | none => match strsO ws with
          | some xs => some (Qs.R.fro (W.int (SetK.unlike xs : Nat)))
          | none => none) = some z := e
      cases eg : guard' (decide (ws.length < 4000)) () with
      | none => rw [eg] at e; cases e
      | some u1 =>
        rw [eg] at e
        have hl := of_decide_eq_true (guard'_some eg).1
        have e : (match intsO ws with
          | some is => some (Qs.R.fro (W.int (SetK.unlike is : Nat)))
          | none => match strsO ws with
            | some xs => some (Qs.R.fro (W.int (SetK.unlike xs : Nat)))
            | none => none) = some z := e
        have hv : ∃ (l : Addr) (vs : List V), x = .ref l ∧ (SqL X.K H1 l vs ∨ SqT X.K H1 l vs) ∧ Reps c.T c.K P H1 ws vs := by
          cases u with
          | lst us =>
            cases es
            obtain ⟨l, vs, rfl, q1, q2⟩ := hx.lst
            exact ⟨l, vs, rfl, .inl (.of q1), q2⟩
          | tup us =>
            cases es
            obtain ⟨l, vs, rfl, q1, q2⟩ := hx.tup
            exact ⟨l, vs, rfl, .inr (by rw [hK]; exact q1), q2⟩
          | _ => cases es
        obtain ⟨l, vs, rfl, hq, rr⟩ := hv
        refine ⟨l, vs, rfl, hq, by rw [← rr.length]; exact hl, ?_⟩
        split at e
        · rename_i is ei
          cases e
          exact .inl ⟨is, intsO_ok ei rr, outI R h3⟩
        · split at e
          · rename_i xs ex
            cases e
            refine .inr ⟨xs.map mkS, strsO_ok ex rr, ?_⟩
            rw [unlike_map]
            exact outI R h3
          · cases e
end
end Qs
/-! # sorted of a list of texts -/
namespace Qs
open PySem PySem.Spec PyProof.Rows L2
/-- by code points -/
def cpLt : List Nat → List Nat → Bool
  | _, [] => false
  | [], _ :: _ => true
  | x :: xs, y :: ys => if x = y then cpLt xs ys else decide (x < y)
def insC (x : List Nat) : List (List Nat) → List (List Nat)
  | [] => [x]
  | y :: ys => if cpLt y x then y :: insC x ys else x :: y :: ys
def sortC : List (List Nat) → List (List Nat)
  | [] => []
  | x :: xs => insC x (sortC xs)
theorem cp_lt : ∀ a b : List Nat, cpLt a b = decide (a < b)
  | [], [] => by unfold cpLt; simp
  | _ :: _, [] => by unfold cpLt; simp
  | [], _ :: _ => by unfold cpLt; simp
  | x :: xs, y :: ys => by
    unfold cpLt
    rw [cp_lt xs ys]
    by_cases h : x = y
    · subst h; simp
    · rw [if_neg h, decide_eq_decide, List.cons_lt_cons_iff]
      exact ⟨.inl, fun z => z.elim id fun z => absurd z.1 h⟩
abbrev SrtC (l : List (List Nat)) : Prop := l.Pairwise fun x y => ¬ y < x
theorem insC_perm (x : List Nat) : ∀ l, (insC x l).Perm (x :: l)
  | [] => .refl _
  | y :: ys => by
    unfold insC
    split
    · exact ((insC_perm x ys).cons y).trans (List.Perm.swap x y ys)
    · exact .refl _
theorem insC_srt (x : List Nat) : ∀ l, SrtC l → SrtC (insC x l)
  | [], _ => List.pairwise_singleton _ _
  | y :: ys, h => by
    have hh := List.pairwise_cons.mp h
    unfold insC
    split
    · rename_i q
      rw [cp_lt, decide_eq_true_eq] at q
      refine List.pairwise_cons.mpr ⟨fun z hz => ?_, insC_srt x ys hh.2⟩
      rcases List.mem_cons.mp ((insC_perm x ys).mem_iff.mp hz) with rfl | hz
      · exact fun w => List.lt_irrefl _ (List.lt_trans q w)
      · exact hh.1 z hz
    · rename_i q
      rw [cp_lt, decide_eq_true_eq] at q
      refine List.pairwise_cons.mpr ⟨fun z hz => ?_, h⟩
      rcases List.mem_cons.mp hz with rfl | hz
      · exact q
      · exact fun w => q (List.lt_of_le_of_lt (List.not_lt.mp (hh.1 z hz)) w)
theorem sortC_ok : ∀ l, SrtC (sortC l) ∧ (sortC l).Perm l
  | [] => ⟨List.Pairwise.nil, .refl _⟩
  | x :: xs => ⟨insC_srt x _ (sortC_ok xs).1, (insC_perm x _).trans ((sortC_ok xs).2.cons x)⟩
theorem sortC_eq {l l' : List (List Nat)} (p : l'.Perm l) (h : SrtC l') : l' = sortC l :=
  List.Perm.eq_of_pairwise (le := fun x y => ¬ y < x) (fun a b _ _ h1 h2 => List.le_antisymm (List.not_lt.mp h1) (List.not_lt.mp h2)) h (sortC_ok l).1 (p.trans (sortC_ok l).2.symm)
theorem ltCps_lt : ∀ a b : List Nat, ltCps a b = decide (a < b)
  | [], [] => by unfold ltCps; simp
  | _ :: _, [] => by unfold ltCps; simp
  | [], _ :: _ => by unfold ltCps; simp
  | x :: xs, y :: ys => by
    unfold ltCps
    rw [ltCps_lt xs ys]
    by_cases h : x < y
    · simp [h, List.cons_lt_cons_iff]
    · by_cases e : x = y
      · subst e; simp
      · have hb : (x == y) = false := beq_eq_false_iff_ne.mpr e
        simp [h, e, hb, List.cons_lt_cons_iff]
theorem rise_of : ∀ (p : Str) (l : List Str), risingS p l = true → SrtC ((p :: l).map fun x => x.cps.toList)
  | p, [], _ => List.pairwise_singleton _ _
  | p, x :: r, h => by
    unfold risingS at h
    rw [Bool.and_eq_true, Bool.not_eq_true', ltCps_lt, decide_eq_false_iff_not] at h
    have ih := rise_of x r h.2
    rw [List.map_cons]
    refine List.pairwise_cons.mpr ⟨fun z hz => ?_, ih⟩
    rw [List.map_cons] at hz ih
    rcases List.mem_cons.mp hz with rfl | hz
    · exact h.1
    · exact fun w => h.1 (List.lt_of_le_of_lt (List.not_lt.mp ((List.pairwise_cons.mp ih).1 z hz)) w)
theorem srt_of : ∀ l : List Str, sortedS l = true → SrtC (l.map fun x => x.cps.toList)
  | [], _ => List.Pairwise.nil
  | x :: r, h => rise_of x r h
theorem mkS_codes (x : Str) : mkS x.cps.toList = x := by unfold mkS; simp
theorem codes_mkS (x : List Nat) : (mkS x).cps.toList = x := by unfold mkS; simp
theorem sorted_codes {ys : List Str} {xs : List (List Nat)} (p : ys.Perm (xs.map mkS)) (h : sortedS ys = true) : ys = (sortC xs).map mkS := by
  have e := sortC_eq (l := xs) (l' := ys.map fun x => x.cps.toList) (by
    have := p.map fun x : Str => x.cps.toList
    rw [List.map_map] at this
    have e2 : (xs.map ((fun x : Str => x.cps.toList) ∘ mkS)) = xs := by
      conv => rhs; rw [← List.map_id xs]
      exact List.map_congr_left fun a _ => codes_mkS a
    rw [e2] at this
    exact this) (srt_of ys h)
  rw [← e, List.map_map]
  conv => lhs; rw [← List.map_id ys]
  exact List.map_congr_left fun a _ => (mkS_codes a).symm
def txtsO : List W → Option (List (List Nat))
  | [] => some []
  | .str i :: ws => (txtsO ws).map (i :: ·)
  | _ => none
section
variable {c : Cst} {Wx : WX} {X : Cx} {P : Addr → Prop} {s : S} {σ : L2.St} {H : Hp} {Q : VK}
theorem txtsO_ok : ∀ {ws : List W} {xs : List (List Nat)} {vs : List V}, txtsO ws = some xs → Reps c.T c.K P H ws vs → vs = (xs.map mkS).map V.str
  | [], is, vs, e, r => by cases e; unfold Reps at r; subst r; rfl
  | w :: ws, is, vs, e, r => by
    cases w with
    | str i =>
      have e : (txtsO ws).map (i :: ·) = some is := e
      cases q : txtsO ws with
      | none => rw [q] at e; cases e
      | some js =>
        rw [q] at e; cases e
        unfold Reps at r
        obtain ⟨v, r', rfl, h1, h2⟩ := r
        have : v = .str (mkS i) := by unfold Rep at h1; exact h1
        rw [this, txtsO_ok q h2]; rfl
    | _ => cases e
theorem reps_txts : ∀ {xs : List (List Nat)}, Reps c.T c.K P H (xs.map W.str) ((xs.map mkS).map V.str)
  | [] => Reps.nil
  | x :: xs => Reps.cons rep_str reps_txts
def sortSW : List W → Option R
  | [.lst ws] => (txtsO ws).bind fun xs => guard' (decide (xs.length < 64)) (.new (.lst ((sortC xs).map .str)))
  | _ => none
theorem fn_sortS : FnOkW c Wx sortSW (rSortedS c.K) := fun {P s σ H Q ws z xs} R e hx h => by
  unfold sortSW at e
  split at e
  · rename_i us
    cases hx with
    | cons h1 h2 =>
      cases h2
      obtain ⟨a, vs, rfl, qa, rr⟩ := h1.lst
      cases q : txtsO us with
      | none => rw [q] at e; cases e
      | some ts =>
        rw [q] at e
        obtain ⟨g, rfl⟩ := guard'_some e
        obtain rfl := txtsO_ok q rr
        refine ⟨a, ts.map mkS, rfl, .of qa, by rw [List.length_map]; exact of_decide_eq_true g, fun ys p hp hs hn => ?_⟩
        rw [sorted_codes hp hs]
        exact Out.lst R h reps_txts p hn
  · cases e
/-- ints, tuples of ints, texts -/
def sortBW (ws : List W) : Option R :=
  match sortAW ws with
  | some r => some r
  | none => sortSW ws
theorem cr_sortB (hu : X.A.units + 64 < cLine) : CallR X (.builtin "sorted") (fun vs H Q => rSortA X.K vs H Q ∨ rSortedS X.K vs H Q) := by
  intro pins s σ H vs us Q I r h
  rcases h with h | h
  · exact cr_sortA hu _ _ _ _ _ _ _ I r h
  · exact cr_sortedS _ _ _ _ _ _ _ I r h
theorem fn_sortB : FnOkW c Wx sortBW (fun vs H Q => rSortA c.K vs H Q ∨ rSortedS c.K vs H Q) := fun {P s σ H Q ws z xs} R e hx h => by
  unfold sortBW at e
  cases q : sortAW ws with
  | some r =>
    rw [q] at e
    cases e
    exact .inl (fn_sortA R q hx h)
  | none =>
    rw [q] at e
    exact .inr (fn_sortS R e hx h)
end
end Qs
/-! # What a text tells -/
namespace Qs
open PySem PySem.Spec PyProof.Rows L2 LamX
/-- what a name of the top stands for -/
inductive GK where
  | blt
  | con (w : W)
  | fn (n : Nat) (m : SE) (j : Nat)
  | fg (n : Nat) (m : SE)
  | exc0 (j : Nat)
  | exc1 (j : Nat)
  | met (M : Met)
  | cls (j n : Nat) (m : S → Res W)
  | bfn (id : String)
  | gen (n : Nat) (m : SE)
/-- the static part: the names with slots, the scope, the block's own slots, the top -/
structure De where
  N : List Str
  sc : Scope
  blk : Option (List Nat)
  tab : List (Str × GK)
  bsc : List (Str × NameKind) := []
  g : Bool := false
  ex : Nat → Nat → Bool := fun _ _ => false
  ats : List (Str × Nat × AK) := []
def De.sl (D : De) : Nat := if D.g then 2 else 0
def De.ρ (D : De) : SR := match D.blk with
  | none => sr0
  | some vs => srW vs
def badE : SE := fun _ => .bad
def badI : IE := fun _ => .bad
def badG : GT := fun _ _ => .bad
def badS : SS := fun _ => .bad
structure Dn where
  E : De → Expr → SE
  T : De → Expr → SE
  I : De → Expr → Expr → IE
  G : De → Expr → GT
  S : De → Stmt → SS
def dn0 : Dn := ⟨fun _ _ => badE, fun _ _ => badE, fun _ _ _ => badI, fun _ _ => badG, fun _ _ => badS⟩
/-! ### names -/
def own2 (x : Str) : Bool := x == ("__debug__" : Str) || x == ("__classdict__" : Str) || x == ("__name__" : Str)
def tyOf (x : Str) : Option String :=
  if x = "int" then some "int" else if x = "bool" then some "bool" else if x = "str" then some "str" else if x = "tuple" then some "tuple" else if x = "list" then some "list" else if x = "dict" then some "dict" else none
def locD (D : De) (x : Str) : Bool := D.sc.names.lookup x == some .local || D.sc.names.lookup x == some .cell
def visD (D : De) (x : Str) : Bool := locD D x || D.sc.names.lookup x == some .free
def gloD (D : De) (x : Str) : Option GK := if D.sc.names.lookup x == some .globalImplicit && !own2 x then D.tab.lookup x else none
def ixD (D : De) (x : Str) : Nat := D.N.idxOf x
def okN (D : De) (x : Str) : Bool := D.N[ixD D x]? == some x
def nameE (D : De) (x : Str) : SE :=
  if visD D x && okN D x && !own2 x then eVar (ixD D x) else
  match gloD D x with
  | some (.con w) => eCst w
  | some (.fn _ _ j) => eCst (.fn j)
  | some .blt => match tyOf x with
    | some T => eCst (.ty T)
    | none => badE
  | _ => badE
def constE : Const → SE
  | .none => eCst .non
  | .bool b => eCst (.bl b)
  | .int i => eCst (.int i)
  | .str x => eCst (.str x.cps.toList)
  | _ => badE
/-! ### expressions -/
def itemD (d : Dn) (D : De) : Expr → Bool × SE
  | .Starred v _ => (true, d.E D v)
  | e => (false, d.E D e)
def boolL (op : BoolOp) : List SE → SE
  | [] => badE
  | [f] => f
  | f :: fs => match op with
    | .And => eAnd f (boolL op fs)
    | .Or => eOr f (boolL op fs)
def atsOf (D : De) (f : Str) : List (Nat × AK) := D.ats.filterMap fun p => if p.1 == f then some p.2 else none
/-- in, not in: the class's own method may answer -/
def cmp1 (D : De) (op : CmpOp) (fa fb : SE) : SE := match op with
  | .In => if (atsOf D "__contains__").isEmpty then eCmp .In fa fb else eCmpF (atsOf D "__contains__") true false .In fa fb
  | .NotIn => if (atsOf D "__contains__").isEmpty then eCmp .NotIn fa fb else eCmpF (atsOf D "__contains__") true true .NotIn fa fb
  | op => eCmp op fa fb
def cmpD (d : Dn) (D : De) (a : Expr) : List CmpOp → List Expr → SE
  | [op], [b] => if noSet b then cmp1 D op (d.E D a) (d.E D b) else badE
  | [op, op'], [b, e] => if noSet e then eCmp2 op op' (d.E D a) (d.E D b) (d.E D e) else badE
  | _, _ => badE
/-- -1 as written -/
def isM1 : Expr → Bool
  | .UnaryOp .USub (.Constant (.int i) _ _) _ => decide (i = 1)
  | _ => false
def subD (d : Dn) (D : De) (a b : Expr) : SE := match b with
  | .Slice lo hi none _ => eSl (d.E D a) (lo.map (d.E D)) (hi.map (d.E D))
  | .Slice none none (some st) _ => if isM1 st then eOne revW (d.E D a) else badE
  | .Slice _ _ _ _ => badE
  | b => eIx (d.E D a) (d.E D b)
def srtW : List W → Option R := sortBW
def bltW (f : Str) : Option (List W → Option R) :=
  if f = "len" then some lenW else if f = "abs" then some absW else if f = "max" then some max2W else if f = "min" then some min2W else if f = "int" then some intW else if f = "tuple" then some tupW else
  if f = "list" then some listW else if f = "sum" then some sumW else if f = "all" then some allW else if f = "any" then some anyW else if f = "sorted" then some srtW else if f = "isinstance" then some isiW else none
/-- the function at a place of the tables -/
def fnAt (tab : List (Str × GK)) (j : Nat) : Option (Nat × SE) := tab.findSome? fun p => match p.2 with
  | .fn n m i => if i = j then some (n, m) else none
  | _ => none
/-- the block of a lambda -/
def lamD (D : De) (scope : Scope) : De := { D with sc := scope, blk := some [], bsc := [], g := false }
/-- an argument that rolls -/
def rollsE : Expr → Bool
  | .Call (.Name f _) _ [] _ => f == "_law_pick" || f == "_law_roll"
  | .BinOp _ _ (.Call (.Name f _) _ [] _) _ => f == "_law_pick" || f == "_law_roll"
  | _ => false
def lamR (D : De) (scope : Scope) : Expr → Option (SE × List Expr)
  | .Call (.Name f _) es [] _ => if es.any rollsE && es.all noSt then (match gloD (lamD D scope) f with
    | some (.fn n m _) => if es.length = n then some (m, es) else none
    | _ => none) else none
  | _ => none
def lamE (d : Dn) (D : De) (M : Met) : List Expr → SE
  | [.Lambda ⟨[], [], none, [], [], none, []⟩ body scope _] => if D.g && lamSB D.sc scope then (match lamR D scope body with
    | some q => eMetF D.ex M (d.E (lamD D scope) body) q.1 (q.2.map (d.E (lamD D scope)))
    | none => eMet D.ex M (d.E (lamD D scope) body)) else badE
  | _ => badE
/-- the one argument, where it is a call of a def -/
def ownArg (D : De) : List Expr → Option Expr
  | [.Call (.Name g p) as ks q] => (match gloD D g with
    | some (.fn _ _ _) => some (.Call (.Name g p) as ks q)
    | _ => none)
  | [.ListComp elt gs scope q] => some (.ListComp elt gs scope q)
  | _ => none
def argC (d : Dn) (D : De) (m : SE) (args : List Expr) : SE := match ownArg D args with
  | some e => eCallO m (d.E D e)
  | none => match args with
    | [.Name x p] => eCallX m (d.E D (.Name x p))
    | es => eCall m (es.map (d.E D))
/-- isinstance(e, C), C a class of the text -/
def isiA (D : De) : List Expr → Option (Nat × Expr)
  | [e, .Name x _] => (match gloD D x with
    | some (.cls j _ _) => if noSt e then some (j, e) else none
    | _ => none)
  | _ => none
def bltD (d : Dn) (D : De) (f : Str) (args : List Expr) : SE := if f = "repr" then (if D.g then eFn reprF (args.map (d.E D)) else badE) else if f = "max" ∧ args.length = 1 then eFn max1W (args.map (d.E D)) else if f = "min" ∧ args.length = 1 then eFn min1W (args.map (d.E D)) else if f = "any" then eFn any2W (args.map (d.E D)) else if f = "all" then eFn all2W (args.map (d.E D)) else match bltW f with
    | some g => eFn g (args.map (d.E D))
    | none => badE
/-- the argument of list(..), where it is a call of a generator def -/
def genA (D : De) (f : Str) : List Expr → Option (SE × List Expr)
  | [.Call (.Name g _) es [] _] => if f = "list" then (match gloD D g, gloD D f with
    | some (.gen n m), some .blt => if es.length = n && !es.isEmpty && es.all noSt && !(visD D f && okN D f && !own2 f) then some (m, es) else none
    | _, _ => none) else none
  | _ => none
/-- len(set(e)) -/
def lsetA (D : De) (f : Str) : List Expr → Option Expr
  | [.Call (.Name g _) [a] [] _] => if f = "len" ∧ g = "set" then (match gloD D f, gloD D g with
    | some .blt, some .blt => if noSt a then some a else none
    | _, _ => none) else none
  | _ => none
def callD (d : Dn) (D : De) (f : Str) (args : List Expr) : SE := match genA D f args with
  | some q => eCallG q.1 (q.2.map (d.E D))
  | none =>
  match lsetA D f args with
  | some a => eOne lenSetW (d.E D a)
  | none =>
  if args.isEmpty || !args.all noSt then badE else
  if visD D f && okN D f && !own2 f then eCallV (ixD D f) (fnAt D.tab) (args.map (d.E D)) else
  match gloD D f with
  | some (.fn n m _) => if args.length = n then argC d D m args else badE
  | some (.fg n m) => if args.length = n && D.g then argC d D m args else badE
  | some (.met M) => lamE d D M args
  | some (.cls _ n m) => if args.length = n then eNew m (args.map (d.E D)) else badE
  | some (.bfn id) => (match bfW id with
    | some g => eFn g (args.map (d.E D))
    | none => badE)
  | some .blt => (match isiA D args with
    | some (j, e) => if f = "isinstance" then eIsi j (d.E D e) else badE
    | none => bltD d D f args)
  | _ => badE
/-- max(e, default=x), min(e, default=x) -/
def kwD (d : Dn) (D : De) (f : Str) (e : Expr) (k : Option Str) (x : Expr) : SE :=
  if gloD D f |>.elim false (fun g => match g with | .blt => noSt e && k == some dfS | _ => false) then
    (if f = "max" then eFn maxdW [d.E D e, d.E D x] else if f = "min" then eFn mindW [d.E D e, d.E D x] else badE) else badE
def methD (d : Dn) (D : De) (o : Expr) (m : Str) (ap : Pos) (args : List Expr) (pos : Pos) : SE :=
  if plO o && (ap.endLine == pos.line) then match args with
    | [] => if m = "pop" then eMut0 popW (d.E D o) else badE
    | [e] => if noSt e then (if m = "append" then eMut1 appW (d.E D o) (d.E D e) else if m = "extend" then eMut1 extW (d.E D o) (d.E D e) else if m = "pop" then eMut1 popAtW (d.E D o) (d.E D e) else if m = "join" then eStr1 joinW (d.E D o) (d.E D e) else if m = "count" then eStr1 countW (d.E D o) (d.E D e) else if m = "split" then eStr1 splitW (d.E D o) (d.E D e) else badE) else badE
    | _ => badE
  else badE
/-- the block's own names -/
def ownN (N : List Str) (sc : Scope) : List (Str × Nat) := sc.names.filterMap fun p => if (p.2 == .local || p.2 == .cell) && N.contains p.1 then some (p.1, N.idxOf p.1) else none
def blkD (D : De) (scope : Scope) : De := { D with sc := relS scope D.sc, blk := some ((ownN D.N scope).map (·.2)), bsc := scope.names }
def ifsD (d : Dn) (D : De) : List Expr → SE
  | [] => blE true
  | [t] => d.T D t
  | _ => badE
def tgNames : Expr → List Str
  | .Name x _ => [x]
  | .Tuple es _ _ => es.filterMap fun
    | .Name x _ => some x
    | _ => none
  | _ => []
/-- the slots of an inner target -/
def inV (D : De) (scope : Scope) (tg : Expr) : List Nat := ((ownN D.N scope).filter fun p => (tgNames tg).contains p.1).map (·.2)
def blkV (D : De) (scope : Scope) (vs : List Nat) : De := { blkD D scope with blk := some vs }
def lcD (d : Dn) (D : De) (elt : Expr) (gs : List Comprehension) (scope : Scope) : SE := match gs with
  | [⟨tg, iter, ifs, 0⟩] => if blkC D.N D.sc scope (ownN D.N scope) && noSet iter && decide (ifs.length ≤ 1) then eLc (d.I D tg iter) (d.G (blkD D scope) tg) (ifsD d (blkD D scope) ifs) (d.E (blkD D scope) elt) ((ownN D.N scope).map (·.2)) else badE
  | [⟨tg, iter, ifs, 0⟩, ⟨tg1, iter1, ifs1, 0⟩] => if blkC D.N D.sc scope (ownN D.N scope) && noSet iter && noSet iter1 && decide (ifs.length ≤ 1) && decide (ifs1.length ≤ 1) then
      eLc2 (d.I D tg iter) (d.G (blkD D scope) tg) (ifsD d (blkD D scope) ifs) (d.I (blkD D scope) tg1 iter1) (d.G (blkV D scope (inV D scope tg1)) tg1) (ifsD d (blkD D scope) ifs1) (d.E (blkD D scope) elt) ((ownN D.N scope).map (·.2)) (inV D scope tg1) else badE
  | _ => badE
def stepE (d : Dn) (D : De) : Expr → SE
  | .Name x _ => nameE D x
  | .Constant v _ _ => constE v
  | .Tuple es _ _ => eTup (es.map (itemD d D))
  | .List es _ => eLst (es.map (itemD d D))
  | .BinOp a op b _ => eBin op (d.E D a) (d.E D b)
  | .UnaryOp .USub a _ => eNeg (d.E D a)
  | .UnaryOp .Not a _ => eNot (d.E D a)
  | .BoolOp op es _ => boolL op (es.map (d.E D))
  | .IfExp t a b _ => eIf (d.T D t) (d.E D a) (d.E D b)
  | .Compare a ops bs _ => cmpD d D a ops bs
  | .Subscript a b _ => subD d D a b
  | .Call (.Name f _) args [] _ => callD d D f args
  | .Call (.Name f _) [e] [⟨k, x, _⟩] _ => kwD d D f e k x
  | .Call (.Attribute o m ap) args [] pos => methD d D o m ap args pos
  | .ListComp elt gs scope _ => lcD d D elt gs scope
  | .Dict [] [] _ => eDic0
  | .JoinedStr [.FormattedValue e v none _] _ => if v = -1 then eFmt (d.E D e) else badE
  | .Attribute o f _ => if plO o then eAtt (atsOf D f) (d.E D o) else badE
  | _ => badE
def stepT (d : Dn) (D : De) : Expr → SE
  | .UnaryOp .Not a _ => eNot (d.T D a)
  | .BoolOp op es _ => boolL op (es.map (d.T D))
  | .Compare a ops bs _ => cmpD d D a ops bs
  | .IfExp _ _ _ _ => badE
  | e => d.E D e
/-! ### what is walked, targets -/
def iterD (d : Dn) (D : De) (tg : Expr) (f : Str) (args : List Expr) : Option IE :=
  if !args.all noSt then none else
  match gloD D f with
  | some .blt =>
    if f = "range" then (match args with
      | [a] => some (iArgs rng1 [d.E D a])
      | [a, b] => some (iArgs rng2 [d.E D a, d.E D b])
      | [a, b, e] => some (iArgs rng3 [d.E D a, d.E D b, d.E D e])
      | _ => none)
    else if f = "zip" then (match tg, args with
      | .Tuple _ _ _, [a, b] => some (iArgs zipW [d.E D a, d.E D b])
      | _, _ => none)
    else if f = "enumerate" then (match tg, args with
      | .Tuple _ _ _, [a] => some (iArgs enumA [d.E D a])
      | _, _ => none)
    else none
  | _ => none
def stepI (d : Dn) (D : De) (tg : Expr) : Expr → IE
  | .Call (.Name f p) args [] pos => match iterD d D tg f args with
    | some g => g
    | none => iVal (d.E D (.Call (.Name f p) args [] pos))
  | e => iVal (d.E D e)
def tgN (D : De) (x : Str) : Bool := okN D x && (match D.blk with
  | none => locD D x
  | some vs => (D.sc.names.lookup x == some .local || (D.sc.names.lookup x == some .cell && D.bsc.lookup x == some .cell)) && vs.contains (ixD D x))
def stepG (d : Dn) (D : De) : Expr → GT
  | .Name x _ => if tgN D x then asgN (ixD D x) else badG
  | .Tuple es _ _ => if es.all noSt then gTupW (es.map (d.G D)) else badG
  | .Subscript a b _ => if plIx b then gIx (d.E D a) (d.E D b) else badG
  | _ => badG
/-! ### statements -/
def wFuel : Nat := 1000000
def blockD (d : Dn) (D : De) : List Stmt → SS
  | [] => sNil
  | st :: r => sSeq (d.S D st) (blockD d D r)
/-- the fresh list is swapped with the name's -/
def swB (D : De) (x : Str) (p : Pos) (scope : Scope) (lp : Pos) : Bool := D.sc.names.lookup x == some .local && (p.line == lp.line) && !(scope.names.any fun (n, k) => n == x && (k == .local || k == .cell))
def tupD (d : Dn) (D : De) (ts : List Expr) (n : Nat) (p : Pos) (vs : List Expr) (m : Nat) (p2 : Pos) : SS := match ts, vs with
  | [.Name x q, .Name y q'], [a, b] => if noSt a && noSt b && okN D x && okN D y && locD D x && locD D y then sPar [ixD D x, ixD D y] [d.E D a, d.E D b] else sAsg (d.E D (.Tuple [a, b] m p2)) (d.G D (.Tuple [.Name x q, .Name y q'] n p))
  | [.Name x q, .Name y q', .Name z q''], [a, b, e] => if noSt a && noSt b && noSt e && okN D x && okN D y && okN D z && locD D x && locD D y && locD D z then sPar [ixD D x, ixD D y, ixD D z] [d.E D a, d.E D b, d.E D e] else sAsg (d.E D (.Tuple [a, b, e] m p2)) (d.G D (.Tuple [.Name x q, .Name y q', .Name z q''] n p))
  | ts, vs => sAsg (d.E D (.Tuple vs m p2)) (d.G D (.Tuple ts n p))
def asgD (d : Dn) (D : De) (tg e : Expr) : SS := match tg, e with
  | .Tuple ts n p, .Tuple vs m p2 => match swD .function (fun x => D.sc.names.lookup x) ts vs with
    | some none => tupD d D ts n p vs m p2
    | some (some names) => (match ts, vs with
      | [.Name x _, .Name y _], [a, b] => if names = [x, y] && noSt a && noSt b && D.N[ixD D x]? == some x && D.N[ixD D y]? == some y && decide (ixD D x ≠ ixD D y) && D.sc.names.lookup x == some .local && D.sc.names.lookup y == some .local then
          sPar [ixD D x, ixD D y] [d.E D a, d.E D b] else badS
      | [.Name x _, .Name y _, .Name z _], [a, b, e] => if names = [x, y, z] && noSt a && noSt b && noSt e && D.N[ixD D x]? == some x && D.N[ixD D y]? == some y && D.N[ixD D z]? == some z && decide (ixD D x ≠ ixD D y) && decide (ixD D x ≠ ixD D z) && decide (ixD D y ≠ ixD D z) &&
          D.sc.names.lookup x == some .local && D.sc.names.lookup y == some .local && D.sc.names.lookup z == some .local then
          sPar [ixD D x, ixD D y, ixD D z] [d.E D a, d.E D b, d.E D e] else badS
      | _, _ => badS)
    | none => badS
  | .Tuple ts n p, e => if plE e then sAsg (d.E D e) (d.G D (.Tuple ts n p)) else badS
  | .Name x p, .ListComp elt gs scope lp => if swB D x p scope lp then (if okN D x then sAsg (lcD d D elt gs scope) (asgN (ixD D x)) else badS) else sAsg (lcD d D elt gs scope) (d.G D (.Name x p))
  | .Name x p, e => if plE e then sAsg (d.E D e) (d.G D (.Name x p)) else badS
  | .Subscript a b p, e => if plE e then sAsg (d.E D e) (d.G D (.Subscript a b p)) else badS
  | _, _ => badS
def okA : Operator → Bool
  | .Add => true
  | .Sub => true
  | _ => false
def raiseD (d : Dn) (D : De) (f : Str) (e : Expr) : SS := match gloD D f with
  | some (.exc0 j) => (match e with
    | .Constant (.str _) _ _ => sRaise0 j
    | _ => badS)
  | some (.exc1 j) => if noSt e then sRaise1 j (d.E D e) else badS
  | _ => badS
def stepS (d : Dn) (D : De) : Stmt → SS
  | .Expr (.Constant (.str _) _ _) _ => sNil
  | .Expr e _ => if plE e then sExpr (d.E D e) else badS
  | .Assign [tg] e _ => asgD d D tg e
  | .AugAssign (.Name x _) op e _ => if okA op && okN D x && locD D x then sAug op (ixD D x) (d.E D e) else badS
  | .AugAssign (.Subscript a b _) op e _ => if okA op && plIx b then sAugIx op (d.E D a) (d.E D b) (d.E D e) else badS
  | .If t as bs _ => sIf (d.T D t) (blockD d D as) (blockD d D bs)
  | .While t b [] _ => whileN (d.T D t) (blockD d D b) wFuel
  | .For tg iter b [] _ => if noSet iter then sFor (d.I D tg iter) (d.G D tg) (blockD d D b) else badS
  | .Return none _ => sRet (eCst .non)
  | .Return (some e) _ => sRet (d.E D e)
  | .Break _ => sBreak
  | .Continue _ => sCont
  | .Pass _ => sNil
  | .Raise (some (.Call (.Name f _) [e] [] _)) none _ => raiseD d D f e
  | _ => badS
/-! ### generators' bodies -/
def hasY : Nat → Stmt → Bool
  | _, .Expr (.Yield _ _) _ => true
  | _, .Expr (.YieldFrom _ _) _ => true
  | n + 1, .For _ _ b _ _ => b.any (hasY n)
  | n + 1, .While _ b _ _ => b.any (hasY n)
  | n + 1, .If _ a b _ => a.any (hasY n) || b.any (hasY n)
  | _, _ => false
def badY : GSS := fun _ _ => .bad
def blockYL (f : Stmt → GSS) : List Stmt → GSS
  | [] => gNil
  | st :: r => gSeq (f st) (blockYL f r)
def stmtY (d : Dn) (D : De) : Nat → Stmt → GSS
  | 0, _ => badY
  | n + 1, st => if hasY 10 st then (match st with
    | .Expr (.Yield (some e) _) _ => gYield (d.E D e)
    | .Expr (.YieldFrom e _) _ => gFrom (d.E D e)
    | .For tg iter b [] _ => if noSet iter then gFor (d.I D tg iter) (d.G D tg) (blockYL (stmtY d D n) b) else badY
    | .While t b [] _ => gWhileN (d.T D t) (blockYL (stmtY d D n) b) wFuel
    | .If t as bs _ => gIf (d.T D t) (blockYL (stmtY d D n) as) (blockYL (stmtY d D n) bs)
    | _ => badY) else gPlain (d.S D st)
def blockY (d : Dn) (D : De) (b : List Stmt) : GSS := blockYL (stmtY d D 10) b
def step (d : Dn) : Dn := ⟨stepE d, stepT d, stepI d, stepG d, stepS d⟩
def den : Nat → Dn
  | 0 => dn0
  | n + 1 => step (den n)
end Qs
/-! # What a text tells is so -/
namespace Qs
open PySem PySem.Spec PyProof.Rows L2 LamX Qx
/-- a def's promise where no repr is under way -/
structure FnG (P : Program) (w : World) (K : PySem.W.Frag) (mg : Str → Option Value) (base : Heap) (k : Nat) (f : Addr) (fd : FuncData) (ps : List Str) (sp : Sp) : Prop where
  len : ∀ vs H Q E, sp vs H Q E → vs.length = ps.length
  run : ∀ (A : Around) (outer : List Env) (s : Shared) (H : Hp) (args : Args) (us : List Value) (vs : List V) (Q : VK) (E : XK), A.guards = some [] → Room k A → Env0 P w K mg base A outer s H → BindsTo s fd args (ps.zip us) → Vals vs us → sp vs H Q E →
    codeAny (model P w) A (.call (.ref f) args) (CR (L2.CX P w) outer P w H s Q E) s
theorem FnG.mono {P : Program} {w : World} {K : PySem.W.Frag} {mg : Str → Option Value} {base : Heap} {j k : Nat} {f : Addr} {fd : FuncData} {ps : List Str} {sp : Sp} (F : FnG P w K mg base j f fd ps sp) (h : j ≤ k) : FnG P w K mg base k f fd ps sp :=
  ⟨F.len, fun A outer s H args us vs Q E g hr => F.run A outer s H args us vs Q E g (hr.mono h)⟩
theorem pe_callG {X : Cx} {Wx : WX} {k : Nat} {f : Addr} {fd : FuncData} {ps : List Str} {sp : Sp} {ta : TA} {x : Str} {e : Expr} {es : List Expr} {p pos : Pos} (F : FnG X.prog X.w X.K X.mg X.base k f fd ps sp) (gd : X.A.guards = some []) (hr : Room k X.A) (hg : Gl X x) (hm : X.mg x = some (.ref f))
    (hk : PySem.W.keepIn X.K (.ref f) = true) (hb : Binds X.K fd ps []) (tk : Takes X Wx) (ha : PA X (e :: es) ta) (hdb : (x == ("__debug__" : Str)) = false)
    (he : starEach (e :: es) X.env = (false, eval e X.env) :: starEach es X.env) (hpl : (backTo pos (starEach es X.env)).any (·.1) = false) : PE X (.Call (.Name x p) (e :: es) [] pos) (tCallS sp (WE Wx) ta) := by
  refine ⟨fun pins st σ H Q I h => wpAny_Call_Name_kw (ld_glob I hg hm ?_ hdb)⟩
  refine PySem.W.callWith_K (h₀ := X.base) I.ok.mod.kin hk (thn (ha.run pos pins st σ H _ I h) fun us s1 ⟨vs, H1, I1, r1, q1⟩ => ⟨I1.kIn, ?_⟩) he hpl
  have hl : us.length = ps.length := by
    rw [← r1.length]
    exact F.len _ _ _ _ q1
  have b := hb s1 us I1.kIn (by rw [List.append_nil]; exact hl)
  rw [List.append_nil] at b
  refine wpAny_call (codeAny_mono (F.run X.A X.stack s1 H1 ⟨us, []⟩ us vs Q (WE Wx σ) gd hr I1.env0 b r1 q1) fun r s' hq => ?_)
  cases r with
  | error er => exact passAt tk σ pins H1 s1 er s' I1 hq
  | ok fl =>
    cases fl with
    | ret u => exact I1.after hq
    | _ => exact False.elim hq
/-- an exception class: what the written part says -/
def ExcFact (K : PySem.W.Frag) (C : Addr) : Prop := PySem.W.keepIn K (.ref C) = true ∧ PySem.W.subIn K (.ref C) (.type "BaseException") = some true ∧ PySem.W.typeIn K (.ref C) = some (.type "type")
/-- a def that calls what it is given -/
def MetFact (c : Cst) (P : Program) (w : World) (K : PySem.W.Frag) (mg : Str → Option Value) (base : Heap) (x : Str) (M : Met) : Prop :=
  ∃ (g : Addr) (a : Str) (pg : Arguments) (bg : List Stmt) (sg : Scope) (dV kV doc pm cdv ct oc : Value) (an od : Option Addr) (osl : Array (Option Value)) (Ng : List Str) (qs : List HC),
    mg x = some (.ref g) ∧ PySem.W.keepIn K (.ref g) = true ∧ K.lookup g = some ⟨oc, od, .func (PySem.W.fnOf x x pg bg sg dV kV doc pm an cdv ct), osl⟩ ∧ PySem.W.codeIn K cdv x = true ∧ L2.Binds K (PySem.W.fnOf x x pg bg sg dV kV doc pm an cdv ct) [a] [] ∧
    FnScope Ng [a] sg ∧ Ng[0]? = some a ∧ Vis sg a ∧ ((a == ("__debug__" : Str)) = false ∧ (a == ("__classdict__" : Str)) = false) ∧ M.hs = qs.map (fun q => (q.1, q.2.2)) ∧ finF M.fin = true ∧ ClausesOk c qs ∧
    ∀ X : Cx, X.prog = P → X.w = w → X.K = K → X.mg = mg → X.base = base → X.A.guards = some [] → X.A.units + 100 < cLine → GivesTo X Ng x sg g cdv bg a (X.env.qual ++ "<lambda>") (TTm K (qs.map (clauseL c K Ng)) M.fin)
/-- what a name of the top is -/
def GOk (c : Cst) (k : Nat) (P : Program) (w : World) (K : PySem.W.Frag) (mg : Str → Option Value) (base : Heap) (x : Str) : GK → Prop
  | .blt => mg x = none
  | .con u => ∃ (v : V) (z : Value), mg x = some z ∧ RelV v z ∧ ∀ P H, Rep c.T c.K P H u v
  | .fn n m j => ∃ (f : Addr) (fd : FuncData) (ps : List Str), ps.length = n ∧ FnOk P w K mg base (L2.CX P w) k f fd ps (spM c n m) ∧ mg x = some (.ref f) ∧ PySem.W.keepIn K (.ref f) = true ∧ Binds K fd ps [] ∧ c.T.fn j = some f
  | .fg n m => ∃ (f : Addr) (fd : FuncData) (ps : List Str), ps.length = n ∧ FnG P w K mg base k f fd ps (spM c n m) ∧ mg x = some (.ref f) ∧ PySem.W.keepIn K (.ref f) = true ∧ Binds K fd ps []
  | .exc0 j => ClsFact c K mg x j ∧ ∃ C, c.T.cl j = some C ∧ mg x = some (.ref C) ∧ ExcFact K C ∧ PySem.W.excIn K C [.type "ValueError", .type "Exception", .type "BaseException", .type "object"] "ValueError.__new__" = true
  | .exc1 j => ClsFact c K mg x j ∧ ∃ (C fI : Addr) (B newId initId : String) (bmB : List Value) (sf gv : Str), c.T.cl j = some C ∧ mg x = some (.ref C) ∧ ExcFact K C ∧ PySem.Qx.SupC P K C fI B newId initId bmB (c.fld j) sf gv
  | .met M => MetFact c P w K mg base x M
  | .bfn id => mg x = some (.builtin id)
  | .gen n m => ∃ (f : Addr) (fd : FuncData) (ps : List Str) (kk : Nat), kk + 3 ≤ k ∧ ps.length = n ∧ GFn P w K mg base kk f fd ps (spG c n m) ∧ mg x = some (.ref f) ∧ PySem.W.keepIn K (.ref f) = true ∧ Binds K fd ps [] ∧ ∀ j C, c.T.cl j = some C → PySem.W.subIn K (.ref C) (.type "StopIteration") = some false
  | .cls j n m => ∃ (C f : Addr) (fd : FuncData) (ps : List Str) (kk : Nat), kk < k ∧ c.T.ic j = some C ∧ L2.Mk K C f ∧ FnOk P w K mg base (L2.CX P w) kk f fd ps (spI c C n m) ∧ mg x = some (.ref C) ∧ Binds K fd ps [] ∧ IsiF c K j C
structure Good (c : Cst) (k : Nat) (X : Cx) (Wx : WX) (D : De) : Prop where
  K : X.K = c.K
  N : X.N = D.N
  nd : X.N.Nodup
  sc : X.env.scope = D.sc
  kind : D.sc.kind = .function
  calm : X.calm = true
  room : Room (k + D.sl) X.A
  tk : Takes X Wx
  po : D.blk = none → PassesOwn (model X.prog X.w) X.A X.env X.xe
  fn : D.blk = none → ∀ x, X.fn x = true
  fnb : ∀ x, D.bsc.lookup x = some .cell → X.fn x = true
  tab : ∀ p ∈ D.tab, GOk c k X.prog X.w X.K X.mg X.base p.1 p.2
  kp : 0 < k
  gd : D.g = true → X.A.guards = some []
  lam : D.g = true → ∃ cA PA, X.env.code = .ref cA ∧ TabB X.base X.mg cA PA ∧ (PA, X.env.qual ++ "<lambda>") ∈ c.tbs ∧ ∀ p ∈ c.tbs, p.1 = PA → p.2 = X.env.qual ++ "<lambda>"
  ex : D.ex = c.ex
  wi : ∀ cls d σ σ' H, Wx cls d σ H → Wx cls d σ' H
  ats : ∀ p ∈ D.ats, AtOk c k X.prog X.w X.K X.mg X.base p.1 p.2.1 p.2.2
def DnOk (c : Cst) (d : Dn) : Prop := ∀ (k : Nat) (X : Cx) (Wx : WX) (D : De), Good c k X Wx D →
  (∀ e, PE X e (rd c Wx (d.E D e))) ∧ (∀ e, PT X e (rdT c Wx (d.T D e))) ∧ (∀ tg it, PI X tg it (rdI c Wx (d.I D tg it))) ∧ (∀ tg, PG X tg (rdG c Wx D.ρ (d.G D tg))) ∧ (D.blk = none → ∀ st, PS X st (rdS c Wx (d.S D st)))
section
variable {c : Cst} {k n : Nat} {X : Cx} {Wx : WX} {D : De} {d : Dn} {e a b : Expr} {es : List Expr} {pos p p2 : Pos} {f : Str} {fa fb : SE}
theorem pe_bad : PE X e (rd c Wx badE) := ⟨fun _ _ _ _ _ _ h => by obtain ⟨_, _, _, h⟩ := h; exact h.elim⟩
theorem pt_bad : PT X e (rdT c Wx badE) := ⟨fun _ _ _ _ _ _ h => by obtain ⟨_, _, _, h⟩ := h; exact h.elim⟩
theorem pw_bad : PW X e (rdT c Wx badE) := ⟨fun _ _ _ _ _ _ _ h => by obtain ⟨_, _, _, h⟩ := h; exact h.elim⟩
theorem pi_bad {tg : Expr} : PI X tg e (rdI c Wx badI) := ⟨fun _ _ _ _ _ _ h => by obtain ⟨_, _, _, h⟩ := h; exact h.elim⟩
theorem pg_bad {ρ : SR} : PG X e (rdG c Wx ρ badG) := ⟨fun _ _ _ _ _ _ _ _ _ h => by obtain ⟨_, _, _, _, _, _, _, _, _, _, h⟩ := h; exact h.elim⟩
theorem ps_bad {st : Stmt} : PS X st (rdS c Wx badS) := ⟨fun _ _ _ _ _ _ h => by obtain ⟨_, _, _, h⟩ := h; exact h.elim⟩
theorem dn0_ok : DnOk c dn0 := fun _ _ _ _ _ => ⟨fun _ => pe_bad, fun _ => pt_bad, fun _ _ => pi_bad, fun _ => pg_bad, fun _ _ => ps_bad⟩
/-! ### names -/
theorem own2_ok {x : Str} (h : own2 x = false) : (x == ("__debug__" : Str)) = false ∧ (x == ("__classdict__" : Str)) = false ∧ x ≠ "__name__" := by
  unfold own2 at h
  simp only [Bool.or_eq_false_iff] at h
  exact ⟨h.1.1, h.1.2, fun z => by rw [z] at h; simp at h⟩
theorem loc_ok (G : Good c k X Wx D) {x : Str} (h : locD D x = true) : Loc X.env.scope x := by
  unfold locD at h
  rw [Bool.or_eq_true] at h
  rw [G.sc]
  rcases h with h | h
  · exact .inl (eq_of_beq h)
  · exact .inr (eq_of_beq h)
theorem vis_ok (G : Good c k X Wx D) {x : Str} (h : visD D x = true) : Vis X.env.scope x := by
  unfold visD at h
  rw [Bool.or_eq_true] at h
  rcases h with h | h
  · rcases loc_ok G h with h | h
    · exact .inl h
    · exact .inr (.inl h)
  · rw [G.sc]; exact .inr (.inr (eq_of_beq h))
theorem okN_ok (G : Good c k X Wx D) {x : Str} (h : okN D x = true) : X.N[ixD D x]? = some x := by
  rw [G.N]; exact eq_of_beq h
theorem glo_ok' (G : Good c k X Wx D) {x : Str} {g : GK} (h : gloD D x = some g) : Gl X x ∧ own2 x = false ∧ GOk c k X.prog X.w X.K X.mg X.base x g := by
  unfold gloD at h
  split at h
  · rename_i q
    rw [Bool.and_eq_true, Bool.not_eq_true'] at q
    refine ⟨?_, q.2, G.tab (x, g) (PySem.mem_of_lookup h)⟩
    show X.env.scope.names.lookup x = _
    rw [G.sc]; exact eq_of_beq q.1
  · cases h
theorem tyOf_ok {x : Str} {T : String} (h : tyOf x = some T) : bootBuiltins x = some (.type T) := by
  unfold tyOf at h
  split at h
  · rename_i q; subst q; cases h; decide +kernel
  split at h
  · rename_i q; subst q; cases h; decide +kernel
  split at h
  · rename_i q; subst q; cases h; decide +kernel
  split at h
  · rename_i q; subst q; cases h; decide +kernel
  split at h
  · rename_i q; subst q; cases h; decide +kernel
  split at h
  · rename_i q; subst q; cases h; decide +kernel
  cases h
theorem nameE_ok (G : Good c k X Wx D) {x : Str} : PE X (.Name x pos) (rd c Wx (nameE D x)) := by
  unfold nameE
  split
  · rename_i h
    simp only [Bool.and_eq_true, Bool.not_eq_true'] at h
    obtain ⟨o1, o2, _⟩ := own2_ok h.2
    exact pe_slot (okN_ok G h.1.2) (vis_ok G h.1.1) o1 o2
  · split
    · rename_i w h
      obtain ⟨hg, ho, v, z, hm, rv, rw'⟩ := glo_ok' G h
      exact pe_cst (pe_glob hg hm rv (own2_ok ho).1) rw'
    · rename_i n m j h
      obtain ⟨hg, ho, f, fd, ps, _, _, hm, _, _, hT⟩ := glo_ok' G h
      exact pe_cst (pe_glob (v := .ref f) hg hm rfl (own2_ok ho).1) fun P H => by unfold Rep; exact ⟨f, hT, rfl⟩
    · rename_i h
      obtain ⟨hg, ho, hm⟩ := glo_ok' G h
      split
      · rename_i T hT
        exact pe_cst (pe_tyN hg hm (tyOf_ok hT) (own2_ok ho).2.2 (own2_ok ho).1) fun P H => by unfold Rep; rfl
      · exact pe_bad
    · exact pe_bad
theorem constE_ok {v : Const} {j : Nat} : PE X (.Constant v j pos) (rd c Wx (constE v)) := by
  cases v with
  | none => exact pe_cst pe_non fun P H => rep_non
  | bool b => exact pe_cst pe_bl fun P H => rep_bl
  | int i => exact pe_cst pe_int fun P H => rep_int
  | str x =>
    refine pe_cst pe_str fun P H => ?_
    have h1 := rep_str (c := c) (P := P) (H := H) (i := x.cps.toList)
    have e : mkS x.cps.toList = x := by unfold mkS; simp
    rw [e] at h1; exact h1
  | _ => exact pe_bad
/-! ### lists of expressions -/
theorem args_ok (he : ∀ e, PE X e (rd c Wx (d.E D e))) : ∀ {es : List Expr}, es.all noSt = true → PA X es (tArgs c Wx (es.map (d.E D)))
  | [], _ => pa_nil
  | e :: es, h => by
    rw [List.all_cons, Bool.and_eq_true] at h
    exact pa_cons' (he e) (args_ok he h.2) (noSt_ok h.1)
theorem argsF_ok (he : ∀ e, PE X e (rd c Wx (d.E D e))) : ∀ {es : List Expr}, es.all noSt = true → PA X es (tArgs c Wx ((es.map (d.E D)).map eFz))
  | [], _ => pa_nil
  | e :: es, h => by
    rw [List.all_cons, Bool.and_eq_true] at h
    exact pa_cons' (pe_fz (he e)) (argsF_ok he h.2) (noSt_ok h.1)
theorem item_no (h : noSt e = true) : itemD d D e = (false, d.E D e) := by cases e <;> first | rfl | cases h
theorem items_ok (hK : X.K = c.K) (he : ∀ e, PE X e (rd c Wx (d.E D e))) : ∀ (es : List Expr), PA X es (tItems c Wx (es.map (itemD d D)))
  | [] => pa_nil
  | e :: es => by
    have ih := items_ok hK he es
    by_cases h : noSt e = true
    · rw [List.map_cons, item_no h]
      exact pa_cons' (he e) ih (noSt_ok h)
    · cases e with
      | Starred v p =>
        show PA X _ (StX.tStar c.K (rd c Wx (d.E D v)) (tItems c Wx (es.map (itemD d D))))
        rw [← hK]
        exact StX.pa_star (he v) ih (by simp only [starEach])
      | _ => exact absurd rfl h
theorem bool_ok {op : BoolOp} : ∀ {es : List Expr} {fs : List SE}, Paired (fun e f => PE X e (rd c Wx f)) es fs → PE X (.BoolOp op es pos) (rd c Wx (boolL op fs))
  | _, _, .nil => pe_bad
  | _, _, .cons h .nil => pe_one h
  | _, _, .cons h (.cons h2 t) => by
    have ih := bool_ok (op := op) (.cons h2 t)
    cases op with
    | And => exact pe_and' h ih
    | Or => exact pe_or' h ih
theorem boolT_ok {op : BoolOp} : ∀ {es : List Expr} {fs : List SE}, Paired (fun e f => PT X e (rdT c Wx f)) es fs → PW X (.BoolOp op es pos) (rdT c Wx (boolL op fs))
  | _, _, .nil => pw_bad
  | _, _, .cons h .nil => pw_one h
  | _, _, .cons h (.cons h2 t) => by
    have ih := boolT_ok (op := op) (.cons h2 t)
    cases op with
    | And => exact pw_and' h ih
    | Or => exact pw_or' h ih
theorem paired_map {α β : Type} {F : α → β → Prop} {g : α → β} (h : ∀ a, F a (g a)) : ∀ l : List α, Paired F l (l.map g)
  | [] => .nil
  | a :: l => .cons (h a) (paired_map h l)
theorem units_of (G : Good c k X Wx D) : X.A.units + 64 < cLine := G.room.units
theorem lookup_mem {α β : Type} [BEq α] [LawfulBEq α] {l : List (α × β)} {a : α} {b : β} (h : l.lookup a = some b) : (a, b) ∈ l := by
  induction l with
  | nil => cases h
  | cons p l ih =>
    rw [List.lookup_cons] at h
    split at h
    · rename_i q
      cases h
      rw [eq_of_beq q]
      exact List.mem_cons_self
    · exact List.mem_cons_of_mem _ (ih h)
theorem atsOf_ok (G : Good c k X Wx D) {f : Str} {j : Nat} {ak : AK} (h : (atsOf D f).lookup j = some ak) : AtOk c k X.prog X.w X.K X.mg X.base f j ak := by
  have m := lookup_mem h
  unfold atsOf at m
  obtain ⟨p, hp, e⟩ := List.mem_filterMap.mp m
  split at e
  · rename_i q
    have e := Option.some.inj e
    have := G.ats p hp
    rw [e, eq_of_beq q] at this
    exact this
  · cases e
theorem room_k (G : Good c k X Wx D) : Room k X.A := G.room.mono (Nat.le_add_right _ _)
theorem cmp1_ok (G : Good c k X Wx D) (he : ∀ e, PE X e (rd c Wx (d.E D e))) {op : CmpOp} (h : noSet b = true) : PE X (.Compare a [op] [b] pos) (rd c Wx (cmp1 D op (d.E D a) (d.E D b))) := by
  unfold cmp1
  have h0 : ∀ op, PE X (.Compare a [op] [b] pos) (rd c Wx (eCmp op (d.E D a) (d.E D b))) := fun op => pe_cmp' G.K (units_of G) (noSet_marks h) (he _) (he _)
  split
  · split
    · exact h0 _
    · exact pe_cmpF (h0 _) (op_ok (.inl ⟨rfl, rfl⟩) (room_k G) G.K (fun j ak z => atsOf_ok G z) (noSet_marks h) (he _) (he _))
  · split
    · exact h0 _
    · exact pe_cmpF (h0 _) (op_ok (.inr ⟨rfl, rfl⟩) (room_k G) G.K (fun j ak z => atsOf_ok G z) (noSet_marks h) (he _) (he _))
  · exact h0 _
theorem cmp1T_ok (G : Good c k X Wx D) (he : ∀ e, PE X e (rd c Wx (d.E D e))) {op : CmpOp} (h : noSet b = true) : PT X (.Compare a [op] [b] pos) (rdT c Wx (cmp1 D op (d.E D a) (d.E D b))) := by
  unfold cmp1
  have h0 : ∀ op, PT X (.Compare a [op] [b] pos) (rdT c Wx (eCmp op (d.E D a) (d.E D b))) := fun op => pt_cmp' G.K (units_of G) (noSet_marks h) (he _) (he _)
  split
  · split
    · exact h0 _
    · exact pt_cmpF (h0 _) (pt_inOwn (.inl ⟨rfl, rfl⟩) (room_k G) G.K (fun j ak z => atsOf_ok G z) (noSet_marks h) (he _) (he _))
  · split
    · exact h0 _
    · exact pt_cmpF (h0 _) (pt_inOwn (.inr ⟨rfl, rfl⟩) (room_k G) G.K (fun j ak z => atsOf_ok G z) (noSet_marks h) (he _) (he _))
  · exact h0 _
theorem cmpE_ok (G : Good c k X Wx D) (he : ∀ e, PE X e (rd c Wx (d.E D e))) {ops : List CmpOp} {bs : List Expr} : PE X (.Compare a ops bs pos) (rd c Wx (cmpD d D a ops bs)) := by
  unfold cmpD
  split
  · split
    · rename_i h
      exact cmp1_ok G he h
    · exact pe_bad
  · split
    · rename_i h
      refine pe_cmp2 G.K (units_of G) ?_ (he _) (he _) (he _)
      simp only [lastMarks]
      exact noSet_marks h
    · exact pe_bad
  · exact pe_bad
theorem cmpT_ok (G : Good c k X Wx D) (he : ∀ e, PE X e (rd c Wx (d.E D e))) {ops : List CmpOp} {bs : List Expr} : PT X (.Compare a ops bs pos) (rdT c Wx (cmpD d D a ops bs)) := by
  unfold cmpD
  split
  · split
    · rename_i h
      exact cmp1T_ok G he h
    · exact pt_bad
  · split
    · rename_i h
      refine pt_cmp2 G.K (units_of G) ?_ (he _) (he _) (he _)
      simp only [lastMarks]
      exact noSet_marks h
    · exact pt_bad
  · exact pt_bad
theorem po_ok (he : ∀ e, PE X e (rd c Wx (d.E D e))) (o : Option Expr) : PO X o (tP c Wx (o.map (d.E D))) := by
  cases o with
  | none => exact po_none
  | some e => exact po_some (he e)
theorem m1_ok {st : Expr} (h : isM1 st = true) : ∃ j q q2, st = .UnaryOp .USub (.Constant (.int 1) j q) q2 := by
  unfold isM1 at h
  split at h
  · rw [of_decide_eq_true h]; exact ⟨_, _, _, rfl⟩
  · cases h
theorem sub_ok (G : Good c k X Wx D) (he : ∀ e, PE X e (rd c Wx (d.E D e))) : PE X (.Subscript a b pos) (rd c Wx (subD d D a b)) := by
  unfold subD
  split
  · exact pe_sl G.K (he _) (po_ok he _) (po_ok he _)
  · split
    · rename_i h
      obtain ⟨j, q, q2, rfl⟩ := m1_ok h
      exact pe_rev G.K (he _)
    · exact pe_bad
  · exact pe_bad
  · rename_i h1 h2 h3
    refine pe_sub G.K (plIx_ok ?_) (he _) (he _)
    cases b <;> first | rfl | exact (h3 _ _ _ _ rfl).elim
/-! ### built-ins -/
theorem blt_ok {g : List W → Option R} {t : TA} (h : bltW f = some g) (hK : X.K = c.K) (hc : X.calm = true) (hu : X.A.units + 64 < cLine) (hg : Gl X f) (hm : X.mg f = none) (ha : PA X (e :: es) t)
    (he : starEach (e :: es) X.env = (false, eval e X.env) :: starEach es X.env) (hpl : (backTo pos (starEach es X.env)).any (·.1) = false) : ∃ r, FnOkW c Wx g r ∧ PE X (.Call (.Name f p) (e :: es) [] pos) (tCB r t) := by
  unfold bltW at h
  split at h
  · rename_i q; subst q; cases h
    exact ⟨_, fn_len, hK ▸ pe_callB call_len hg hm (by decide +kernel) ha (by decide) (by decide) he hpl⟩
  split at h
  · rename_i q; subst q; cases h
    exact ⟨_, fn_abs, pe_callB call_abs hg hm (by decide +kernel) ha (by decide) (by decide) he hpl⟩
  split at h
  · rename_i q; subst q; cases h
    exact ⟨_, fn_max2, pe_callB (call_max2 hc) hg hm (by decide +kernel) ha (by decide) (by decide) he hpl⟩
  split at h
  · rename_i q; subst q; cases h
    exact ⟨_, fn_min2, pe_callB (call_min2 hc) hg hm (by decide +kernel) ha (by decide) (by decide) he hpl⟩
  split at h
  · rename_i q; subst q; cases h
    exact ⟨_, fn_int, pe_callTy cr_intA hg hm (by decide +kernel) ha (by decide) (by decide) he hpl⟩
  split at h
  · rename_i q; subst q; cases h
    exact ⟨_, fn_tup, hK ▸ pe_callTy call_tuple_of hg hm (by decide +kernel) ha (by decide) (by decide) he hpl⟩
  split at h
  · rename_i q; subst q; cases h
    exact ⟨_, fn_list, hK ▸ pe_callTy call_list_of hg hm (by decide +kernel) ha (by decide) (by decide) he hpl⟩
  split at h
  · rename_i q; subst q; cases h
    exact ⟨_, fn_sum, hK ▸ pe_callB (cr_sumA hc) hg hm (by decide +kernel) ha (by decide) (by decide) he hpl⟩
  split at h
  · rename_i q; subst q; cases h
    exact ⟨_, fn_all, hK ▸ pe_callB (cr_all hc) hg hm (by decide +kernel) ha (by decide) (by decide) he hpl⟩
  split at h
  · rename_i q; subst q; cases h
    exact ⟨_, fn_any, hK ▸ pe_callB (cr_any hc) hg hm (by decide +kernel) ha (by decide) (by decide) he hpl⟩
  split at h
  · rename_i q; subst q; cases h
    exact ⟨_, fn_sortB, hK ▸ pe_callB (cr_sortB hu) hg hm (by decide +kernel) ha (by decide) (by decide) he hpl⟩
  split at h
  · rename_i q; subst q; cases h
    exact ⟨_, fn_isi, hK ▸ pe_callB call_isi hg hm (by decide +kernel) ha (by decide) (by decide) he hpl⟩
  cases h
theorem fnAt_ok {tab : List (Str × GK)} {j : Nat} {q : Nat × SE} (h : fnAt tab j = some q) : ∃ x, (x, GK.fn q.1 q.2 j) ∈ tab := by
  unfold fnAt at h
  obtain ⟨p, hp, e⟩ := List.exists_of_findSome?_eq_some h
  split at e
  · rename_i n m i hq
    split at e
    · rename_i hi
      cases e
      subst hi
      refine ⟨p.1, ?_⟩
      rw [← hq]; exact hp
    · cases e
  · cases e
theorem lam_good (G : Good c k X Wx D) {scope : Scope} (L : LamS X.env.scope scope) (A : Around) (outer : List Env) (s : Shared) (H : Hp) (E : XK) (f c' : Addr) (hr : Room k (A.deeper (lamEnv X scope s.heap.objs.size f c'))) :
    Good c k (lamCx X A outer s H E scope f c') (fun cls d _ H => E cls d H) (lamD D scope) where
  K := G.K
  N := G.N
  nd := G.nd
  sc := rfl
  kind := L.kind
  calm := rfl
  room := hr
  tk := takes_of rfl rfl rfl rfl
  po := fun z => nomatch z
  fn := fun z => nomatch z
  fnb := fun x h => by cases h
  tab := G.tab
  kp := G.kp
  gd := fun z => nomatch z
  lam := fun z => nomatch z
  ex := G.ex
  wi := fun _ _ _ _ _ h => h
  ats := G.ats
theorem ownArg_ok {es : List Expr} (h : ownArg D es = some e) : es = [e] := by
  unfold ownArg at h
  split at h
  · split at h
    · cases h; rfl
    · cases h
  · cases h; rfl
  · cases h
theorem argC_ok {m : SE} {n : Nat} {σ : L2.St} {H : Hp} {Q : VK} (hn : es.length = n) (h : rd c Wx (argC d D m es) σ H Q) : tCallS (spM c n m) (WE Wx) (tArgs c Wx (es.map (d.E D))) σ H Q := by
  unfold argC at h
  split at h
  · rename_i e he
    obtain rfl := ownArg_ok he
    exact rd_callO hn h
  · split at h
    · exact rd_callX hn h
    · exact tArgs_fz (rd_call (by simpa using hn) h)
theorem isiA_ok {es : List Expr} {j : Nat} {e : Expr} (h : isiA D es = some (j, e)) : ∃ y py, noSt e = true ∧ es = [e, .Name y py] ∧ ∃ n m, gloD D y = some (.cls j n m) := by
  unfold isiA at h
  split at h
  · split at h
    · rename_i hg
      split at h
      · rename_i hn
        cases h
        exact ⟨_, _, hn, rfl, _, _, hg⟩
      · cases h
    · cases h
  · cases h
theorem lamR_ok {scope : Scope} {q : SE × List Expr} {body : Expr} (h : lamR D scope body = some q) : ∃ f2 p2 q2 es2, body = .Call (.Name f2 p2) es2 [] q2 ∧ es2.any rollsE = true ∧ es2.all noSt = true ∧ ∃ n2 j2, gloD (lamD D scope) f2 = some (.fn n2 q.1 j2) ∧ es2.length = n2 ∧ q.2 = es2 := by
  unfold lamR at h
  split at h
  · rename_i f2 p2 es2 q2
    split at h
    · rename_i hh
      rw [Bool.and_eq_true] at hh
      split at h
      · rename_i n m j hg
        split at h
        · rename_i hn
          cases h
          exact ⟨_, _, _, _, rfl, hh.1, hh.2, _, _, hg, hn, rfl⟩
        · cases h
      · cases h
    · cases h
  · cases h
theorem genA_ok {es : List Expr} {q : SE × List Expr} (h : genA D f es = some q) : ∃ g qg pos2 n, es = [.Call (.Name g qg) q.2 [] pos2] ∧ f = "list" ∧ gloD D g = some (.gen n q.1) ∧ gloD D "list" = some .blt ∧ q.2.length = n ∧ q.2 ≠ [] ∧ q.2.all noSt = true := by
  unfold genA at h
  split at h
  · rename_i g qg us pos2
    split at h
    · rename_i hf
      subst hf
      split at h
      · rename_i n m h1 h2
        split at h
        · rename_i hc
          cases h
          simp only [Bool.and_eq_true, decide_eq_true_eq, Bool.not_eq_true', List.isEmpty_eq_false_iff] at hc
          exact ⟨g, qg, pos2, n, rfl, rfl, h1, h2, hc.1.1.1, hc.1.1.2, hc.1.2⟩
        · cases h
      · cases h
    · cases h
  · cases h
/-! -/
theorem lsetA_ok {es : List Expr} {a : Expr} (h : lsetA D f es = some a) : ∃ p2 q2, es = [.Call (.Name "set" p2) [a] [] q2] ∧ f = "len" ∧ gloD D "len" = some .blt ∧ gloD D "set" = some .blt ∧ noSt a = true := by
  unfold lsetA at h
  split at h
  · split at h
    · rename_i hf
      obtain ⟨rfl, rfl⟩ := hf
      split at h
      · rename_i h1 h2
        split at h
        · rename_i hn
          cases h
          exact ⟨_, _, rfl, rfl, h1, h2, hn⟩
        · cases h
      · cases h
    · cases h
  · cases h
theorem tMakeS_fz {C : Addr} {sp : Sp} {E : L2.St → XK} {fs : List SE} {σ : L2.St} {H : Hp} {Q : VK} (h : tMakeS C sp E (tArgs c Wx (fs.map eFz)) σ H Q) : tMakeS C sp E (tArgs c Wx fs) σ H Q := tArgs_fz h
theorem call_ok (dk : DnOk c d) (G : Good c k X Wx D) (he : ∀ e, PE X e (rd c Wx (d.E D e))) : PE X (.Call (.Name f p) es [] pos) (rd c Wx (callD d D f es)) := by
  unfold callD
  split
  · rename_i q hq
    obtain ⟨g, qg, pos2, n, hes, hf, hgl, hbl, hn, hne, hst⟩ := genA_ok hq
    subst hes
    subst hf
    obtain ⟨hg, ho, fa, fd, ps, kk, hkk, hp, F, hm, hk, hb, hsi⟩ := glo_ok' G hgl
    obtain ⟨hgL, hoL, hmL⟩ := glo_ok' G hbl
    obtain ⟨m, es⟩ := q
    cases es with
    | nil => exact absurd rfl hne
    | cons e es =>
      have hs := hst
      rw [List.all_cons, Bool.and_eq_true] at hs
      exact pe_gen G.tk G.wi hsi F ((room_k G).mono hkk) hg hm hk hb hgL hmL (argsF_ok he hst) (by rw [List.length_map]; exact hn) (own2_ok ho).1 (star_no (noSt_ok hs.1)) (star_any (by
        have := hs.2
        rw [List.all_eq_true] at this ⊢
        intro x hx
        rw [noSt_ok (this x hx)]; rfl))
  split
  · rename_i a ha
    obtain ⟨p2, q2, rfl, rfl, h1, h2, hn⟩ := lsetA_ok ha
    obtain ⟨hg, ho, hm⟩ := glo_ok' G h1
    obtain ⟨hg2, ho2, hm2⟩ := glo_ok' G h2
    exact pe_lenSet' G.K G.calm hg hm hg2 hm2 (he _) (noSt_ok hn)
  split
  · exact pe_bad
  · rename_i h
    simp only [Bool.or_eq_true, Bool.not_eq_true', not_or] at h
    have hst : es.all noSt = true := by simpa using h.2
    cases es with
    | nil => exact absurd rfl h.1
    | cons e es =>
      have hs := hst
      rw [List.all_cons, Bool.and_eq_true] at hs
      have h1 : starEach (e :: es) X.env = (false, eval e X.env) :: starEach es X.env := star_no (noSt_ok hs.1)
      have h2 : (backTo pos (starEach es X.env)).any (·.1) = false := star_any (by
        have := hs.2
        rw [List.all_eq_true] at this ⊢
        intro x hx
        rw [noSt_ok (this x hx)]; rfl)
      split
      · rename_i hv
        simp only [Bool.and_eq_true, Bool.not_eq_true'] at hv
        obtain ⟨o1, o2, _⟩ := own2_ok hv.2
        refine pe_imp (pe_callV (okN_ok G hv.1.2) (vis_ok G hv.1.1) o1 o2 (room_k G) G.tk (argsF_ok he hst) h1 h2) fun σ H Q h => ?_
        obtain ⟨P, s, R, h⟩ := h
        unfold eCallV at h
        cases q : s[ixD D f]? with
        | none => rw [q] at h; exact h.elim
        | some sl =>
          rw [q] at h
          cases sl with
          | un => exact h.elim
          | own _ _ => exact h.elim
          | fro u =>
            cases u with
            | fn j =>
              dsimp only at h
              cases q2 : fnAt D.tab j with
              | none => rw [q2] at h; exact h.elim
              | some nm =>
                rw [q2] at h
                dsimp only at h
                split at h
                · rename_i hn
                  obtain ⟨x, hx⟩ := fnAt_ok q2
                  obtain ⟨fa, fd, ps, hp, F, hm, hk, hb, hT⟩ := G.tab _ hx
                  obtain ⟨v, e1, r⟩ := R.fro _ _ q
                  unfold Rep at r
                  obtain ⟨a, e2, rfl⟩ := r
                  rw [hT] at e2
                  cases e2
                  exact ⟨fa, fd, ps, _, e1, F, hk, hb, rd_call (by simpa using hn) ⟨P, s, R, h⟩⟩
                · exact h.elim
            | _ => exact h.elim
      · split
        · rename_i n m j hgl
          split
          · rename_i hn
            obtain ⟨hg, ho, fa, fd, ps, hp, F, hm, hk, hb, _⟩ := glo_ok' G hgl
            exact pe_imp (pe_callS F (room_k G) hg hm hk hb (passAt G.tk) (args_ok he hst) (own2_ok ho).1 h1 h2) fun σ H Q h => argC_ok hn h
          · exact pe_bad
        · rename_i n m hgl
          split
          · rename_i hn
            rw [Bool.and_eq_true, decide_eq_true_eq] at hn
            obtain ⟨hg, ho, fa, fd, ps, hp, F, hm, hk, hb⟩ := glo_ok' G hgl
            exact pe_imp (pe_callG F (G.gd hn.2) (room_k G) hg hm hk hb G.tk (args_ok he hst) (own2_ok ho).1 h1 h2) fun σ H Q h => argC_ok hn.1 h
          · exact pe_bad
        · rename_i M hgl
          unfold lamE
          split
          · rename_i body scope lp heq
            cases heq
            split
            · rename_i hh
              rw [Bool.and_eq_true] at hh
              obtain ⟨hg, ho, g, a, pg, bg, sg, dV, kV, doc, pm, cdv, ct, oc, an, od, osl, Ng, qs, hm, hk, lk, hcg, hb, Sg, hNg, hva, hda, hM, hf, hC, hgive⟩ := glo_ok' G hgl
              obtain ⟨cA, PA, l1, l2, l3, l4⟩ := G.lam hh.1
              have L : LamS X.env.scope scope := by rw [G.sc]; exact lamS_by hh.2
              have gd := G.gd hh.1
              have hr : Room (k + 2) X.A := by
                have := G.room
                unfold De.sl at this
                rw [hh.1] at this
                exact this
              have hu : X.A.units + 100 < cLine := by have := hr.un; omega
              have hbody : ∀ A outer (s : Shared) H E (f c' : Addr), Room k (A.deeper (lamEnv X scope s.heap.objs.size f c')) → PE (lamCx X A outer s H E scope f c') body (rd c (fun cls d _ H => E cls d H) (d.E (lamD D scope) body)) := fun A outer s H E f c' hr2 => (dk k _ _ _ (lam_good G L A outer s H E f c' hr2)).1 body
              have h0 : PE X (.Call (.Name f p) [.Lambda ⟨[], [], none, [], [], none, []⟩ body scope lp] [] pos) (rd c Wx (eMet D.ex M (d.E (lamD D scope) body))) := by
                refine pe_imp (pe_met hg hm hk lk hcg hb Sg hNg hva (hgive X rfl rfl rfl rfl rfl gd hu) l2 l1 l3 l4 hr L rfl (fun _ _ _ _ _ => rfl) hbody (own2_ok ho).1 hda.1 hda.2) fun σ H Q h => ?_
                rw [G.ex] at h
                have := rd_met (N := Ng) hM hf hC h
                rw [← G.K] at this
                exact this
              split
              · rename_i q hq
                obtain ⟨f2, p2, q2, es2, hbe, hany2, hst2, n2, j2, hgl2, hn2, hm2⟩ := lamR_ok hq
                subst hbe
                have h1' : PE X (.Call (.Name f p) [.Lambda ⟨[], [], none, [], [], none, []⟩ (.Call (.Name f2 p2) es2 [] q2) scope lp] [] pos) (rd c Wx (eMetA D.ex M q.1 (es2.map (d.E (lamD D scope))))) := by
                  refine pe_imp (pe_met (t := fun E => tCallS (spM c n2 q.1) (WE (fun cls d _ H => E cls d H)) (tArgs c (fun cls d _ H => E cls d H) ((es2.map (d.E (lamD D scope))).map eFz))) hg hm hk lk hcg hb Sg hNg hva (hgive X rfl rfl rfl rfl rfl gd hu) l2 l1 l3 l4 hr L rfl (fun _ _ _ _ _ => rfl) (fun A outer s H E f c' hr2 => ?_) (own2_ok ho).1 hda.1 hda.2) fun σ H Q h => ?_
                  · have G2 := lam_good G L A outer s H E f c' hr2
                    obtain ⟨hg2, ho2, fa2, fd2, ps2, hp2, F2, hmm2, hk2, hb2, _⟩ := glo_ok' G2 hgl2
                    cases es2 with
                    | nil => cases hany2
                    | cons e2 es2 =>
                      have hs2 := hst2
                      rw [List.all_cons, Bool.and_eq_true] at hs2
                      exact pe_callS F2 (room_k G2) hg2 hmm2 hk2 hb2 (passAt G2.tk) (argsF_ok (dk k _ _ _ G2).1 hst2) (own2_ok ho2).1 (star_no (noSt_ok hs2.1)) (star_any (by
                        have := hs2.2
                        rw [List.all_eq_true] at this ⊢
                        intro x hx
                        rw [noSt_ok (this x hx)]; rfl))
                  · rw [G.ex] at h
                    have := rd_metA (N := Ng) (n := n2) (by rw [List.length_map]; exact hn2) hM hf hC h
                    rw [← G.K] at this
                    exact this
                rw [hm2]
                refine ⟨fun pins s σ H Q I h => ?_⟩
                obtain ⟨P, s0, R, h⟩ := h
                unfold eMetF at h
                cases em : eMet D.ex M (d.E (lamD D scope) (.Call (.Name f2 p2) es2 [] q2)) s0 with
                | bad => rw [em] at h; exact h1'.run pins s σ H Q I ⟨P, s0, R, h⟩
                | ok r => rw [em] at h; exact h0.run pins s σ H Q I ⟨P, s0, R, by rw [em]; exact h⟩
                | exc x => rw [em] at h; exact h0.run pins s σ H Q I ⟨P, s0, R, by rw [em]; exact h⟩
              · exact h0
            · exact pe_bad
          · exact pe_bad
        · rename_i j n m hgl
          split
          · rename_i hn
            obtain ⟨hg, ho, C, fa, fd, ps, kk, hkk, hT, M, F, hm, hb, _⟩ := glo_ok' G hgl
            refine pe_imp (pe_makeS M F ((room_k G).mono hkk) hg hm hb (passAt G.tk) (args_ok he hst) (own2_ok ho).1 h1 h2) fun σ H Q h => ?_
            exact tMakeS_fz (rd_new hT (by simpa using hn) h)
          · exact pe_bad
        · rename_i id hgl
          obtain ⟨hg, ho, hm⟩ := glo_ok' G hgl
          split
          · rename_i g hbf
            obtain ⟨r, hr, hc⟩ := bf_ok (c := c) (Wx := Wx) (X := X) hbf
            exact pe_fn_of (f := fun _ => True) hr (pe_callGB hc hg hm (args_ok he hst) (own2_ok ho).1 h1 h2)
          · exact pe_bad
        · rename_i hgl
          obtain ⟨hg, ho, hm⟩ := glo_ok' G hgl
          split
          · rename_i j e' hi
            split
            · rename_i q
              subst q
              obtain ⟨y, py, hn0, hes, n, m, hgy⟩ := isiA_ok hi
              cases hes
              obtain ⟨hg2, ho2, C, fa, fd, ps, kk, hkk, hT, M, F, hm2, hb, hI⟩ := glo_ok' G hgy
              have hn : noSt e = true := hs.1
              have ha : PA X [e, .Name y py] (tCons (rd c Wx (d.E D e)) (tCons (tC (.ref C)) tNil)) := pa_cons' (he e) (pa_cons' (pe_glob (v := .ref C) hg2 hm2 rfl (own2_ok ho2).1) pa_nil rfl) (noSt_ok hn)
              refine pe_imp (pe_callB call_isi2 hg hm (by decide +kernel) ha (by decide) (by decide) h1 h2) fun σ H Q h => ?_
              exact G.K ▸ isi_arg (G.K ▸ hI) h
            · exact pe_bad
          unfold bltD
          split
          · rename_i q
            subst q
            split
            · rename_i hh
              exact pe_fn_of (f := fun _ => True) fn_repr (G.K ▸ pe_callB (call_reprD (G.gd hh) (by have := (room_k G).un; omega)) hg hm (by decide +kernel) (args_ok he hst) (by decide) (by decide) h1 h2)
            · exact pe_bad
          split
          · rename_i q
            obtain ⟨rfl, _⟩ := q
            exact pe_fn_of (f := fun _ => True) fn_max1 (G.K ▸ pe_callB (cr_max G.calm) hg hm (by decide +kernel) (args_ok he hst) (by decide) (by decide) h1 h2)
          split
          · rename_i q
            obtain ⟨rfl, _⟩ := q
            exact pe_fn_of (f := fun _ => True) fn_min1 (G.K ▸ pe_callB (cr_min G.calm) hg hm (by decide +kernel) (args_ok he hst) (by decide) (by decide) h1 h2)
          split
          · rename_i q
            subst q
            exact pe_fn_of (f := fun _ => True) fn_any2 (G.K ▸ pe_callB (cr_any2 G.calm) hg hm (by decide +kernel) (args_ok he hst) (by decide) (by decide) h1 h2)
          split
          · rename_i q
            subst q
            exact pe_fn_of (f := fun _ => True) fn_all2 (G.K ▸ pe_callB (cr_all2 G.calm) hg hm (by decide +kernel) (args_ok he hst) (by decide) (by decide) h1 h2)
          · split
            · rename_i g hb
              obtain ⟨r, hr, hp⟩ := blt_ok (c := c) (Wx := Wx) (p := p) hb G.K G.calm (units_of G) hg hm (args_ok he hst) h1 h2
              exact pe_fn_of (f := fun _ => True) hr hp
            · exact pe_bad
        · exact pe_bad
theorem kw_ok (G : Good c k X Wx D) (he : ∀ e, PE X e (rd c Wx (d.E D e))) {kk : Option Str} {q : Pos} : PE X (.Call (.Name f p) [a] [⟨kk, b, q⟩] pos) (rd c Wx (kwD d D f a kk b)) := by
  unfold kwD
  split
  · rename_i h
    cases hgl : gloD D f with
    | none => rw [hgl] at h; cases h
    | some g =>
      rw [hgl] at h
      cases g with
      | blt =>
        have h : (noSt a && kk == some dfS) = true := h
        rw [Bool.and_eq_true] at h
        obtain ⟨h1, h2⟩ := h
        obtain rfl := eq_of_beq h2
        obtain ⟨hg, ho, hm⟩ := glo_ok' G hgl
        split
        · rename_i z
          subst z
          exact pe_maxD G.K G.calm (units_of G) hg hm (he _) (he _) h1
        split
        · rename_i z
          subst z
          exact pe_minD G.K G.calm (units_of G) hg hm (he _) (he _) h1
        · exact pe_bad
      | _ => cases h
  · exact pe_bad
theorem meth_ok (G : Good c k X Wx D) (he : ∀ e, PE X e (rd c Wx (d.E D e))) {o : Expr} {m : Str} : PE X (.Call (.Attribute o m p) es [] pos) (rd c Wx (methD d D o m p es pos)) := by
  unfold methD
  split
  · rename_i h
    rw [Bool.and_eq_true] at h
    split
    · split
      · rename_i q; subst q
        exact pe_pop (he o) (plO_ok h.1) h.2
      · exact pe_bad
    · split
      · rename_i hs
        split
        · rename_i q; subst q
          exact pe_append (he o) (he _) (plO_ok h.1) (noSt_ok hs) h.2
        · split
          · rename_i q; subst q
            exact pe_extend (he o) (he _) (plO_ok h.1) (noSt_ok hs) h.2
          · split
            · rename_i q; subst q
              exact pe_popAt (he o) (he _) (plO_ok h.1) (noSt_ok hs) h.2
            split
            · rename_i q; subst q
              exact pe_join' (he o) (he _) (plO_ok h.1) (noSt_ok hs) h.2
            split
            · rename_i q; subst q
              exact pe_count' (he o) (he _) (plO_ok h.1) (noSt_ok hs) h.2
            split
            · rename_i q; subst q
              exact pe_split' (he o) (he _) (plO_ok h.1) (noSt_ok hs) h.2
            · exact pe_bad
      · exact pe_bad
    · exact pe_bad
  · exact pe_bad
end
end Qs
/-! # What a text tells is so: blocks, targets, statements -/
namespace Qs
open PySem PySem.Spec PyProof.Rows L2
section
variable {c : Cst} {k n : Nat} {X : Cx} {Wx : WX} {D : De} {d : Dn} {e a b tg iter : Expr} {es : List Expr} {pos p p2 : Pos} {f : Str} {fa fb : SE}
abbrev noW : WX := fun _ _ _ _ => False
theorem blk_goodV (G : Good c k X Wx D) {scope : Scope} (vs : List Nat) (hb : blkC D.N D.sc scope (ownN D.N scope) = true) (s : Shared) (H : Hp) (C : Addr) (cl : List (Str × Addr)) (fp : List Addr) : Good c k (X.blk s H scope (compEnvC scope cl C X.env) fp) noW (blkV D scope vs) where
  K := G.K
  N := G.N
  nd := G.nd
  sc := by
    show relabel scope X.env = relS scope D.sc
    unfold relabel relS Env.kindOf
    rw [G.sc]
  kind := (blkOk_by hb).kind
  calm := G.calm
  room := G.room
  tk := takes0
  po := fun z => nomatch z
  fn := fun z => nomatch z
  fnb := fun x h => by show (scope.names.lookup x == some .cell) = true; exact beq_iff_eq.mpr h
  tab := G.tab
  kp := G.kp
  gd := G.gd
  lam := G.lam
  ex := G.ex
  wi := fun _ _ _ _ _ h => h
  ats := G.ats
theorem blk_good (G : Good c k X Wx D) {scope : Scope} (hb : blkC D.N D.sc scope (ownN D.N scope) = true) (s : Shared) (H : Hp) (C : Addr) (cl : List (Str × Addr)) (fp : List Addr) : Good c k (X.blk s H scope (compEnvC scope cl C X.env) fp) noW (blkD D scope) := blk_goodV G _ hb s H C cl fp
theorem blk_ok (G : Good c k X Wx D) {scope : Scope} (hb : blkC D.N D.sc scope (ownN D.N scope) = true) : BlkOk X.N X.env.scope scope (ownN D.N scope) := by
  rw [G.N, G.sc]; exact blkOk_by hb
/-- a comprehension's parts -/
theorem lc_parts (dk : DnOk c d) (G : Good c k X Wx D) {scope : Scope} {ifs : List Expr} (hb : blkC D.N D.sc scope (ownN D.N scope) = true) (h2 : ifs.length ≤ 1) :
    (∀ (s : Shared) (H : Hp) (C : Addr) (cl : List (Str × Addr)) (fp : List Addr), PG (X.blk s H scope (compEnvC scope cl C X.env) fp) tg (rdG c noW (srW ((ownN D.N scope).map (·.2))) (d.G (blkD D scope) tg))) ∧
    (∀ (s : Shared) (H : Hp) (C : Addr) (cl : List (Str × Addr)) (fp : List Addr), PTs (X.blk s H scope (compEnvC scope cl C X.env) fp) ifs (rdT c noW (ifsD d (blkD D scope) ifs))) ∧
    (∀ (s : Shared) (H : Hp) (C : Addr) (cl : List (Str × Addr)) (fp : List Addr), PE (X.blk s H scope (compEnvC scope cl C X.env) fp) e (rd c noW (d.E (blkD D scope) e))) := by
  refine ⟨fun s H C cl fp => (dk k _ noW _ (blk_good G hb s H C cl fp)).2.2.2.1 tg, fun s H C cl fp => ?_, fun s H C cl fp => (dk k _ noW _ (blk_good G hb s H C cl fp)).1 e⟩
  match ifs, h2 with
  | [], _ => exact pts_nil'
  | [t], _ => exact pts_one ((dk k _ noW _ (blk_good G hb s H C cl fp)).2.1 t)
/-- .. the inner for's -/
theorem lc_parts2 (dk : DnOk c d) (G : Good c k X Wx D) {scope : Scope} {ifs : List Expr} (hb : blkC D.N D.sc scope (ownN D.N scope) = true) (h2 : ifs.length ≤ 1) :
    (∀ i ∈ inV D scope tg, i ∈ (ownN D.N scope).map (·.2)) ∧ (∀ (s : Shared) (H : Hp) (C : Addr) (cl : List (Str × Addr)) (fp : List Addr), PI (X.blk s H scope (compEnvC scope cl C X.env) fp) tg iter (rdI c noW (d.I (blkD D scope) tg iter))) ∧
    (∀ (s : Shared) (H : Hp) (C : Addr) (cl : List (Str × Addr)) (fp : List Addr), PG (X.blk s H scope (compEnvC scope cl C X.env) fp) tg (rdG c noW (srW (inV D scope tg)) (d.G (blkV D scope (inV D scope tg)) tg))) ∧
    (∀ (s : Shared) (H : Hp) (C : Addr) (cl : List (Str × Addr)) (fp : List Addr), PTs (X.blk s H scope (compEnvC scope cl C X.env) fp) ifs (rdT c noW (ifsD d (blkD D scope) ifs))) := by
  refine ⟨fun i hi => ?_, fun s H C cl fp => (dk k _ noW _ (blk_good G hb s H C cl fp)).2.2.1 tg iter, fun s H C cl fp => (dk k _ noW _ (blk_goodV G (inV D scope tg) hb s H C cl fp)).2.2.2.1 tg, (lc_parts (tg := tg) (e := tg) dk G hb h2).2.1⟩
  obtain ⟨p, hp, rfl⟩ := List.mem_map.mp hi
  exact List.mem_map.mpr ⟨p, (List.mem_filter.mp hp).1, rfl⟩
theorem lc_ok (dk : DnOk c d) (G : Good c k X Wx D) {gs : List Comprehension} {scope : Scope} : PE X (.ListComp e gs scope pos) (rd c Wx (lcD d D e gs scope)) := by
  unfold lcD
  split
  · rename_i tg iter ifs
    split
    · rename_i h
      rw [Bool.and_eq_true, Bool.and_eq_true] at h
      obtain ⟨h3, h4, h5⟩ := lc_parts (tg := tg) (e := e) dk G h.1.1 (of_decide_eq_true h.2)
      exact pe_imp (pe_lc G.calm G.nd ((dk k X Wx D G).2.2.1 tg iter) (blk_ok G h.1.1) h3 h4 h5 (noSet_set h.1.2)) fun σ H Q h => lc_rd h
    · exact pe_bad
  · rename_i tg iter ifs tg1 iter1 ifs1
    split
    · rename_i h
      simp only [Bool.and_eq_true] at h
      obtain ⟨⟨⟨⟨a1, a2⟩, a3⟩, a4⟩, a5⟩ := h
      obtain ⟨h3, h4, h5⟩ := lc_parts (tg := tg) (e := e) dk G a1 (of_decide_eq_true a4)
      obtain ⟨h6, h7, h8, h9⟩ := lc_parts2 (tg := tg1) (iter := iter1) dk G a1 (of_decide_eq_true a5)
      exact pe_imp (pe_lc2 G.calm G.nd ((dk k X Wx D G).2.2.1 tg iter) (blk_ok G a1) h6 h3 h4 h7 h8 h9 h5 (noSet_set a2) (fun _ => noSet_set a3)) fun σ H Q h => lc2_rd h6 h
    · exact pe_bad
  · exact pe_bad
theorem name_rd {i : Nat} {v : V} {σ : L2.St} {H : Hp} {Q : L2.St → Hp → Prop} (h : rdG c Wx sr0 (asgN i) v σ H Q) : gName i v σ H Q := by
  obtain ⟨P0, s0, H0, P, s, r, R0, t, R, rv, h⟩ := h
  cases e : asgN i r s with
  | ok s' =>
    rw [e] at h
    obtain ⟨P', h1, h2⟩ := asg_ok t R rv e
    exact h _ P' H h1 h2 trivial
  | exc x =>
    exfalso
    unfold asgN at e
    simp only [nfW_eq] at e
    split at e
    · unfold chk at e; split at e <;> cases e
    · unfold chk at e; split at e <;> cases e
    · cases q : frz s (.bor _) with
      | none => rw [q] at e; cases e
      | some p => rw [q] at e; simp only [ofO_some, Res.bind_ok] at e; unfold chk at e; split at e <;> cases e
  | bad => rw [e] at h; exact h.elim
theorem setLc_ok (dk : DnOk c d) (G : Good c k X Wx D) {x : Str} {gs : List Comprehension} {scope : Scope} (hl : D.sc.names.lookup x = some .local) (hN : okN D x = true) (hp : (p.line == p2.line) = true)
    (hs : (scope.names.any fun (n, k) => n == x && (k == .local || k == .cell)) = false) : PS X (.Assign [.Name x p] (.ListComp e gs scope p2) pos) (rdS c Wx (sAsg (lcD d D e gs scope) (asgN (ixD D x)))) := by
  unfold lcD
  split
  · rename_i tg iter ifs
    split
    · rename_i h
      rw [Bool.and_eq_true, Bool.and_eq_true] at h
      obtain ⟨h3, h4, h5⟩ := lc_parts (tg := tg) (e := e) dk G h.1.1 (of_decide_eq_true h.2)
      have hl' : X.env.scope.names.lookup x = some .local := by rw [G.sc]; exact hl
      refine ps_imp (ps_setLc G.calm G.nd (okN_ok G hN) hl' (sw_true (by rw [G.sc]; exact G.kind) hl' hp hs) ((dk k X Wx D G).2.2.1 tg iter) (blk_ok G h.1.1) h3 h4 h5 (noSet_set h.1.2)) fun Dd σ H ⟨P, s, R, h⟩ => ?_
      refine lc_rd ⟨P, s, R, h.exp fun r s1 v P1 H1 _ t1 R1 rv h2 => name_rd ⟨P, s, H, P1, s1, r, R, t1, R1, rv, OutS.gt h2⟩⟩
    · exact ps_imp (ps_bad (c := c) (Wx := Wx)) fun Dd σ H ⟨P, s, R, h⟩ => (h : False).elim
  · rename_i tg iter ifs tg1 iter1 ifs1
    split
    · rename_i h
      simp only [Bool.and_eq_true] at h
      obtain ⟨⟨⟨⟨a1, a2⟩, a3⟩, a4⟩, a5⟩ := h
      obtain ⟨h3, h4, h5⟩ := lc_parts (tg := tg) (e := e) dk G a1 (of_decide_eq_true a4)
      obtain ⟨h6, h7, h8, h9⟩ := lc_parts2 (tg := tg1) (iter := iter1) dk G a1 (of_decide_eq_true a5)
      have hl' : X.env.scope.names.lookup x = some .local := by rw [G.sc]; exact hl
      refine ps_imp (ps_setLc2 G.calm G.nd (okN_ok G hN) hl' (sw_true (by rw [G.sc]; exact G.kind) hl' hp hs) ((dk k X Wx D G).2.2.1 tg iter) (blk_ok G a1) h6 h3 h4 h7 h8 h9 h5 (noSet_set a2) (fun _ => noSet_set a3)) fun Dd σ H ⟨P, s, R, h⟩ => ?_
      refine lc2_rd h6 ⟨P, s, R, h.exp fun r s1 v P1 H1 _ t1 R1 rv h2 => name_rd ⟨P, s, H, P1, s1, r, R, t1, R1, rv, OutS.gt h2⟩⟩
    · exact ps_imp (ps_bad (c := c) (Wx := Wx)) fun Dd σ H ⟨P, s, R, h⟩ => (h : False).elim
  · exact ps_imp (ps_bad (c := c) (Wx := Wx)) fun Dd σ H ⟨P, s, R, h⟩ => (h : False).elim
/-! ### what is walked -/
theorem iter_ok (G : Good c k X Wx D) (he : ∀ e, PE X e (rd c Wx (d.E D e))) {args : List Expr} {g : IE} (h : iterD d D tg f args = some g) : PI X tg (.Call (.Name f p) args [] pos) (rdI c Wx g) := by
  unfold iterD at h
  split at h
  · cases h
  · rename_i hst
    have hst : args.all noSt = true := by simpa using hst
    split at h
    · rename_i hgl
      obtain ⟨hg, ho, hm⟩ := glo_ok' G hgl
      have ha := args_ok he hst
      split at h
      · rename_i q; subst q
        split at h
        · rename_i a
          cases h
          simp only [List.all_cons, Bool.and_eq_true] at hst
          exact pi_rng1 (noSt_ok hst.1) hg hm ha
        · rename_i a b
          cases h
          simp only [List.all_cons, Bool.and_eq_true] at hst
          exact pi_rng2 (noSt_ok hst.1) (noSt_ok hst.2.1) hg hm ha
        · rename_i a b e
          cases h
          simp only [List.all_cons, Bool.and_eq_true] at hst
          exact pi_rng3 (noSt_ok hst.1) (noSt_ok hst.2.1) (noSt_ok hst.2.2.1) hg hm ha
        · cases h
      split at h
      · rename_i q; subst q
        split at h
        · cases h
          simp only [List.all_cons, Bool.and_eq_true] at hst
          exact pi_zip' (noSt_ok hst.1) (noSt_ok hst.2.1) G.K hg hm ha
        · cases h
      split at h
      · rename_i q; subst q
        split at h
        · cases h
          simp only [List.all_cons, Bool.and_eq_true] at hst
          exact pi_enumA (noSt_ok hst.1) G.K hg hm ha
        · cases h
      cases h
    · cases h
theorem stepI_ok (G : Good c k X Wx D) (he : ∀ e, PE X e (rd c Wx (d.E D e))) : PI X tg e (rdI c Wx (stepI d D tg e)) := by
  unfold stepI
  split
  · split
    · rename_i g h
      exact iter_ok G he h
    · exact pi_val G.K (he _)
  · exact pi_val G.K (he _)
/-! ### targets -/
theorem pgs_all {ρ : SR} (hg : ∀ tg, PG X tg (rdG c Wx ρ (d.G D tg))) : ∀ {es : List Expr}, es.all noSt = true → PGs X es (rdGs c Wx ρ (es.map (d.G D)))
  | [], _ => pgs_nil'
  | e :: es, h => by
    rw [List.all_cons, Bool.and_eq_true] at h
    refine pgs_cons' (hg e) (pgs_all hg h.2) ?_
    rw [asg_each X.env (es := e :: es) (by rw [List.all_cons, Bool.and_eq_true]; exact h), asg_each X.env h.2]
    rfl
theorem rho_top (h : D.blk = none) : D.ρ = sr0 := by unfold De.ρ; rw [h]
theorem stepG_ok (G : Good c k X Wx D) (he : ∀ e, PE X e (rd c Wx (d.E D e))) (hg : ∀ tg, PG X tg (rdG c Wx D.ρ (d.G D tg))) : PG X e (rdG c Wx D.ρ (stepG d D e)) := by
  unfold stepG
  split
  · rename_i x q
    split
    · rename_i h
      unfold tgN at h
      rw [Bool.and_eq_true] at h
      obtain ⟨h1, h2⟩ := h
      split at h2
      · rename_i hb
        rw [rho_top hb]
        exact pg_name' G.nd (okN_ok G h1) (loc_ok G h2) (.inl (G.fn hb x)) fun _ _ => trivial
      · rename_i vs hb
        rw [Bool.and_eq_true, Bool.or_eq_true, Bool.and_eq_true] at h2
        have e : D.ρ = srW vs := by unfold De.ρ; rw [hb]
        rw [e]
        obtain ⟨h2, h3⟩ := h2
        rcases h2 with h2 | h2
        · have hl : X.env.scope.names.lookup x = some .local := by rw [G.sc]; exact eq_of_beq h2
          exact pg_name' G.nd (okN_ok G h1) (.inl hl) (.inr hl) fun σ v => wipe_set (by simpa using h3) _
        · have hl : X.env.scope.names.lookup x = some .cell := by rw [G.sc]; exact eq_of_beq h2.1
          exact pg_name' G.nd (okN_ok G h1) (.inr hl) (.inl (G.fnb x (eq_of_beq h2.2))) fun σ v => wipe_set (by simpa using h3) _
    · exact pg_bad
  · rename_i es n q
    split
    · rename_i h
      refine pg_tup' G.K G.calm (pgs_all hg h) ?_ ?_
      · rw [asg_each X.env h]; simp
      · rw [asg_each X.env h]
        rw [List.findIdx?_map]
        rw [List.findIdx?_eq_none_iff]
        intro x hx
        rfl
    · exact pg_bad
  · split
    · rename_i h
      exact pg_ix G.K (he _) (he _) (plIx_asg h X.env)
    · exact pg_bad
  · exact pg_bad
/-! ### expressions -/
theorem stepE_ok (dk : DnOk c d) (G : Good c k X Wx D) : PE X e (rd c Wx (stepE d D e)) := by
  obtain ⟨he, ht, hi, hg, hs⟩ := dk k X Wx D G
  unfold stepE
  split
  · exact nameE_ok G
  · exact constE_ok
  · exact pe_tuple (items_ok G.K he _)
  · exact pe_list (items_ok G.K he _)
  · exact pe_bin G.K (he _) (he _)
  · exact pe_neg (he _)
  · exact pe_not' (he _)
  · exact bool_ok (paired_map (F := fun e f => PE X e (rd c Wx f)) (g := d.E D) he _)
  · exact pe_if (ht _) (he _) (he _)
  · exact cmpE_ok G he
  · exact sub_ok G he
  · exact call_ok dk G he
  · exact kw_ok G he
  · exact meth_ok G he
  · exact lc_ok dk G
  · exact pe_dic0
  · split
    · rename_i q; subst q
      exact pe_fmt1 (he _)
    · exact pe_bad
  · split
    · rename_i h
      exact pe_att (he _) (room_k G) (fun j ak h => atsOf_ok G h) (plO_ok h)
    · exact pe_bad
  · exact pe_bad
theorem stepT_ok (dk : DnOk c d) (G : Good c k X Wx D) : PT X e (rdT c Wx (stepT d D e)) := by
  obtain ⟨he, ht, hi, hg, hs⟩ := dk k X Wx D G
  unfold stepT
  split
  · exact pt_not' (ht _)
  · exact (boolT_ok (paired_map (F := fun e f => PT X e (rdT c Wx f)) (g := d.T D) ht _)).pt
  · exact cmpT_ok G he
  · exact pt_bad
  · rename_i h1 h2 h3 h4
    refine pt_value (he _) (plT_ok ?_)
    cases e with
    | UnaryOp op a p => cases op <;> first | rfl | exact (h1 _ _ rfl).elim
    | BoolOp op es p => exact (h2 _ _ _ rfl).elim
    | IfExp a b t p => exact (h4 _ _ _ _ rfl).elim
    | Compare a o bs p => exact (h3 _ _ _ _ rfl).elim
    | _ => rfl
/-! ### statements -/
theorem block_ok (hs : ∀ st, PS X st (rdS c Wx (d.S D st))) : ∀ (b : List Stmt), PSs X b (rdS c Wx (blockD d D b))
  | [] => pss_nil'
  | st :: r => pss_cons' (hs st) (block_ok hs r)
theorem asg_gen (G : Good c k X Wx D) (hb : D.blk = none) (he : ∀ e, PE X e (rd c Wx (d.E D e))) (hg : ∀ tg, PG X tg (rdG c Wx D.ρ (d.G D tg))) (h : plE e = true) (ht : noSt tg = true) (hw : swappedStores [tg] e X.env = pure none) :
    PS X (.Assign [tg] e pos) (rdS c Wx (sAsg (d.E D e) (d.G D tg))) := by
  refine ps_asg' (he e) (by rw [← rho_top hb]; exact hg tg) ?_ hw ?_
  · unfold swapsWithSole; exact plE_sw h
  · rw [asg_each X.env (es := [tg]) (by simp [ht])]; rfl
theorem asgD_ok (dk : DnOk c d) (G : Good c k X Wx D) (hb : D.blk = none) : PS X (.Assign [tg] e pos) (rdS c Wx (asgD d D tg e)) := by
  obtain ⟨he, ht, hi, hg, hs⟩ := dk k X Wx D G
  unfold asgD
  have hk : X.env.scope.kind = .function := by rw [G.sc]; exact G.kind
  split
  · rename_i ts n p1 vs m p2
    split
    · rename_i h
      have hw := swD_ok (env := X.env) (p := p1) (p2 := p2) (n := n) (m := m) hk (by rw [G.sc]; exact h)
      unfold tupD
      split
      · split
        · rename_i q
          simp only [Bool.and_eq_true] at q
          obtain ⟨⟨⟨⟨⟨q1, q2⟩, q3⟩, q4⟩, q5⟩, q6⟩ := q
          exact ps_tup2 G.K G.calm G.nd (okN_ok G q3) (okN_ok G q4) (loc_ok G q5) (loc_ok G q6) (G.fn hb _) (G.fn hb _) (he _) (he _) (noSt_ok q1) (noSt_ok q2) hw rfl
        · exact asg_gen G hb he hg rfl rfl hw
      · split
        · rename_i q
          simp only [Bool.and_eq_true] at q
          obtain ⟨⟨⟨⟨⟨⟨⟨⟨q1, q2⟩, q3⟩, q4⟩, q5⟩, q6⟩, q7⟩, q8⟩, q9⟩ := q
          exact ps_tup3 G.K G.calm G.nd (okN_ok G q4) (okN_ok G q5) (okN_ok G q6) (loc_ok G q7) (loc_ok G q8) (loc_ok G q9) (G.fn hb _) (G.fn hb _) (G.fn hb _) (he _) (he _) (he _) (noSt_ok q1) (noSt_ok q2) (noSt_ok q3) hw rfl
        · exact asg_gen G hb he hg rfl rfl hw
      · exact asg_gen G hb he hg rfl rfl hw
    · rename_i names h
      have hw := swD_ok (env := X.env) (p := p1) (p2 := p2) (n := n) (m := m) hk (by rw [G.sc]; exact h)
      split
      · split
        · rename_i q
          simp only [Bool.and_eq_true, decide_eq_true_eq] at q
          obtain ⟨⟨⟨⟨⟨⟨⟨rfl, q1⟩, q2⟩, q3⟩, q4⟩, q5⟩, q6⟩, q7⟩ := q
          exact ps_par' G.calm G.nd (by rw [G.N]; exact eq_of_beq q3) (by rw [G.N]; exact eq_of_beq q4) q5 (by rw [G.sc]; exact eq_of_beq q6) (by rw [G.sc]; exact eq_of_beq q7) (he _) (he _) (noSt_ok q1) (noSt_ok q2) hw rfl
        · exact ps_bad
      · split
        · rename_i q
          simp only [Bool.and_eq_true, decide_eq_true_eq] at q
          obtain ⟨⟨⟨⟨⟨⟨⟨⟨⟨⟨⟨⟨rfl, q1⟩, q2⟩, q3⟩, q4⟩, q5⟩, q6⟩, q7⟩, q8⟩, q9⟩, q10⟩, q11⟩, q12⟩ := q
          exact ps_par3' G.calm G.nd (by rw [G.N]; exact eq_of_beq q4) (by rw [G.N]; exact eq_of_beq q5) (by rw [G.N]; exact eq_of_beq q6) q7 q8 q9 (by rw [G.sc]; exact eq_of_beq q10) (by rw [G.sc]; exact eq_of_beq q11) (by rw [G.sc]; exact eq_of_beq q12) (he _) (he _) (he _) (noSt_ok q1) (noSt_ok q2) (noSt_ok q3) hw rfl
        · exact ps_bad
      · exact ps_bad
    · exact ps_bad
  · rename_i ts n p1 hn
    split
    · rename_i h
      refine asg_gen G hb he hg h rfl ?_
      unfold swappedStores
      cases e <;> first | rfl | exact (hn _ _ _ rfl).elim
    · exact ps_bad
  · split
    · rename_i q
      unfold swB at q
      simp only [Bool.and_eq_true, Bool.not_eq_true'] at q
      obtain ⟨⟨q1, q3⟩, q4⟩ := q
      split
      · rename_i q2
        exact setLc_ok dk G (eq_of_beq q1) q2 q3 q4
      · exact ps_bad
    · rename_i x p elt gs scope lp q
      have hbk : X.env.blockKind = .function := by unfold Env.blockKind; rw [hk]; rfl
      refine ps_asg' (lc_ok dk G) (by rw [← rho_top hb]; exact hg _) ?_ rfl rfl
      unfold swapsWithSole swapsWith
      unfold swB at q
      rw [← G.sc] at q
      have q : (X.env.kindOf x == some .local && (p.line == lp.line) && !(scope.names.any fun (n, k) => n == x && (k == .local || k == .cell))) = false := Bool.eq_false_iff.mpr q
      simp only [hbk]
      show pure (true && X.env.kindOf x == some .local && p.line == lp.line && !(scope.names.any fun (n, k) => n == x && (k == .local || k == .cell))) = pure false
      rw [Bool.true_and, q]
  · split
    · rename_i h
      exact asg_gen G hb he hg h rfl rfl
    · exact ps_bad
  · split
    · rename_i h
      exact asg_gen G hb he hg h rfl rfl
    · exact ps_bad
  · exact ps_bad
theorem okA_ok {op : Operator} (h : okA op = true) : op = .Add ∨ op = .Sub := by
  cases op <;> first | exact .inl rfl | exact .inr rfl | cases h
theorem raise_ok (G : Good c k X Wx D) (he : ∀ e, PE X e (rd c Wx (d.E D e))) {q : Pos} : PS X (.Raise (some (.Call (.Name f p) [e] [] pos)) none q) (rdS c Wx (raiseD d D f e)) := by
  unfold raiseD
  split
  · rename_i j hgl
    obtain ⟨hg, ho, _, C, hT, hm, ⟨e1, e2, e3⟩, h4⟩ := glo_ok' G hgl
    split
    · exact ps_raise0 hT G.calm G.tk (pmk_own F.excBase_ValueError h4 hm e1 (raises_own e2 e3) hg (own2_ok ho).1)
    · exact ps_bad
  · rename_i j hgl
    obtain ⟨hg, ho, _, C, fI, B, newId, initId, bmB, sf, gv, hT, hm, ⟨e1, e2, e3⟩, h4⟩ := glo_ok' G hgl
    split
    · rename_i hs
      obtain ⟨k', rfl⟩ : ∃ k', k = k' + 1 := ⟨k - 1, by have := G.kp; omega⟩
      exact ps_raise1 hT G.calm G.tk (Qx.pmk_sup h4 e1 (raises_own e2 e3) (room_k G) hg hm (he _) (star_no (noSt_ok hs)) (own2_ok ho).1)
    · exact ps_bad
  · exact ps_bad
theorem stepS_ok (dk : DnOk c d) (G : Good c k X Wx D) (hb : D.blk = none) {st : Stmt} : PS X st (rdS c Wx (stepS d D st)) := by
  obtain ⟨he, ht, hi, hg, hs⟩ := dk k X Wx D G
  have bk := block_ok (hs hb)
  unfold stepS
  split
  · exact ps_doc'
  · split
    · rename_i h
      exact ps_expr' (he _) (plE_sw h)
    · exact ps_bad
  · exact asgD_ok dk G hb
  · split
    · rename_i h
      simp only [Bool.and_eq_true] at h
      exact ps_aug' _ (okA_ok h.1.1) G.nd (okN_ok G h.1.2) (loc_ok G h.2) (he _) (.inl (G.fn hb _))
    · exact ps_bad
  · split
    · rename_i h
      simp only [Bool.and_eq_true] at h
      exact ps_augIx _ (okA_ok h.1) (he _) (he _) (he _) (plIx_aug h.2)
    · exact ps_bad
  · exact ps_if' (ht _) (bk _) (bk _)
  · exact ps_while' (G.po hb) (ht _) (bk _)
  · split
    · rename_i h
      exact ps_for' (G.po hb) G.calm (hi _ _) (by rw [← rho_top hb]; exact hg _) (bk _) (noSet_set h)
    · exact ps_bad
  · exact ps_retN'
  · exact ps_ret' (he _)
  · exact ps_break'
  · exact ps_cont'
  · exact ps_pass'
  · exact raise_ok G he
  · exact ps_bad
/-! ### generators' bodies -/
theorem gs_bad {st : Stmt} : GS X st (rdY c Wx badY) := ⟨fun _ _ _ _ _ _ _ _ _ _ _ _ _ _ _ _ _ _ _ _ _ h => by obtain ⟨_, _, _, _, _, h⟩ := h; exact h.elim⟩
theorem blockYL_ok {f : Stmt → GSS} (hs : ∀ st, GS X st (rdY c Wx (f st))) : ∀ (b : List Stmt), GSs X b (rdY c Wx (blockYL f b))
  | [] => gss_nil'
  | st :: r => gss_cons' (hs st) (blockYL_ok hs r)
theorem stmtY_ok (dk : DnOk c d) (G : Good c k X Wx D) (hb : D.blk = none) (hco : X.env.scope.isCoroutine = false) (hi : interactive X.env = false) : ∀ (n : Nat) (st : Stmt), GS X st (rdY c Wx (stmtY d D n st))
  | 0, st => gs_bad
  | n + 1, st => by
    obtain ⟨he, ht, hI, hg, hs⟩ := dk k X Wx D G
    have ih := fun b => blockYL_ok (stmtY_ok dk G hb hco hi n) b
    unfold stmtY
    split
    · split
      · exact gs_yield' (he _) hco hi
      · exact gs_from' (he _) G.calm hco hi
      · split
        · rename_i h
          exact gs_for' (G.po hb) G.calm (hI _ _) (by rw [← rho_top hb]; exact hg _) (ih _) (noSet_set h)
        · exact gs_bad
      · exact gs_while' (G.po hb) (ht _) (ih _)
      · exact gs_if' (ht _) (ih _) (ih _)
      · exact gs_bad
    · exact gs_plain (hs hb st)
theorem step_ok (dk : DnOk c d) : DnOk c (step d) := fun k X Wx D G =>
  have h := dk k X Wx D G
  ⟨fun e => stepE_ok dk G, fun e => stepT_ok dk G, fun tg it => stepI_ok G h.1, fun tg => stepG_ok G h.1 h.2.2.2.1, fun hb st => stepS_ok dk G hb⟩
theorem den_ok : ∀ n : Nat, DnOk c (den n)
  | 0 => dn0_ok
  | n + 1 => step_ok (den_ok n)
end
end Qs
/-! # Defs of the text; the law -/
namespace Qs
open PySem PySem.Spec PyProof.Rows L2
section
variable {c : Cst} {k n : Nat} {P : Program} {w : World} {K : PySem.W.Frag} {mg : Str → Option Value} {base : Heap} {f : Addr} {fd : FuncData} {ps : List Str} {D : De} {nm qual : Str} {params : Arguments} {body : List Stmt} {scope : Scope}
def AtsOk (c : Cst) (k : Nat) (P : Program) (w : World) (K : PySem.W.Frag) (mg : Str → Option Value) (base : Heap) (l : List (Str × Nat × AK)) : Prop := ∀ p ∈ l, AtOk c k P w K mg base p.1 p.2.1 p.2.2
def TabOk (c : Cst) (k : Nat) (P : Program) (w : World) (K : PySem.W.Frag) (mg : Str → Option Value) (base : Heap) (tab : List (Str × GK)) : Prop := ∀ p ∈ tab, GOk c k P w K mg base p.1 p.2
theorem def_ok {fuel : Nat} (hK : K = c.K) (ht : TabOk c k P w K mg base D.tab) (ha : AtsOk c k P w K mg base D.ats) (F : FunD K nm qual params body D.sc [] [] f fd) (S : FnScope D.N ps D.sc) (hb : D.blk = none) (hq : D.bsc = []) (hg : D.g = false) (hx : D.ex = c.ex) (hk : 0 < k) :
    FnOk P w K mg base (L2.CX P w) (k + 1) f fd ps (spM c ps.length (callM D.N.length (blockD (den fuel) D body))) :=
  F.ok S (fun vs H Q E h => h.1) fun cdv A outer s H vs Q E hr h =>
    have G : Good c k (cxOf (L2.CX P w) P w K mg base D.N qual D.sc f cdv A outer s H E) (fun cls d _ H' => E cls d H') D := {
      K := hK
      N := rfl
      nd := S.nd
      sc := rfl
      kind := S.kind
      calm := rfl
      room := by unfold De.sl; rw [hg]; exact hr
      tk := takes_of rfl rfl rfl rfl
      po := fun _ => passes_of rfl
      fn := fun _ _ => rfl
      fnb := fun x h => by rw [hq] at h; cases h
      tab := ht
      kp := hk
      gd := fun z => by rw [hg] at z; cases z
      lam := fun z => by rw [hg] at z; cases z
      ex := hx
      wi := fun _ _ _ _ _ h => h
      ats := ha }
    ⟨_, block_ok (fun st => ((den_ok fuel k _ _ D G).2.2.2.2 hb st)) body, body_rd h⟩
/-- what a def's own table must be -/
def LamOk (c : Cst) (mg : Str → Option Value) (base : Heap) (fd : FuncData) (q : Str) : Prop := ∃ cA PA, fd.code = .ref cA ∧ LamX.TabB base mg cA PA ∧ (PA, q) ∈ c.tbs ∧ ∀ p ∈ c.tbs, p.1 = PA → p.2 = q
/-- .. a def that shows things, hands on lambdas -/
theorem def_okG {fuel : Nat} (hK : K = c.K) (ht : TabOk c k P w K mg base D.tab) (ha : AtsOk c k P w K mg base D.ats) (F : FunD K nm qual params body D.sc [] [] f fd) (S : FnScope D.N ps D.sc) (hb : D.blk = none) (hq : D.bsc = []) (hg : D.g = true) (hx : D.ex = c.ex) (hk : 0 < k)
    (hl : LamOk c mg base fd ((envOfC qual D.sc 0 f .none).qual ++ "<lambda>")) : FnG P w K mg base (k + 3) f fd ps (spM c ps.length (callM D.N.length (blockD (den fuel) D body))) := by
  obtain ⟨oc, od, dV, kV, doc, pm, an, cdv, ct, osl, rfl, lk, hcd, _, _⟩ := F.ex
  obtain ⟨cA, PA, l1, l2, l3, l4⟩ := hl
  obtain rfl : cdv = .ref cA := l1
  refine ⟨fun vs H Q E h => h.1, fun A outer s H args us vs Q E gd hr e0 hbi rv hs => ?_⟩
  refine LamX.run_ofS lk hcd S hr e0 hbi rv hs.1 fun hr' => ?_
  have G : Good c k (cxOf (L2.CX P w) P w K mg base D.N qual D.sc f (.ref cA) A outer s H E) (fun cls d _ H' => E cls d H') D := {
    K := hK
    N := rfl
    nd := S.nd
    sc := rfl
    kind := S.kind
    calm := rfl
    room := by unfold De.sl; rw [hg]; exact hr'
    tk := takes_of rfl rfl rfl rfl
    po := fun _ => passes_of rfl
    fn := fun _ _ => rfl
    fnb := fun x h => by rw [hq] at h; cases h
    tab := ht
    kp := hk
    gd := fun _ => gd
    lam := fun _ => ⟨cA, PA, rfl, l2, l3, l4⟩
    ex := hx
    wi := fun _ _ _ _ _ h => h
    ats := ha }
  exact ⟨_, block_ok (fun st => ((den_ok fuel k _ _ D G).2.2.2.2 hb st)) body, body_rd hs⟩
/-- .. a generator def -/
theorem gen_ok {fuel : Nat} (hK : K = c.K) (ht : TabOk c k P w K mg base D.tab) (ha : AtsOk c k P w K mg base D.ats) (F : FunD K nm qual params body D.sc [] [] f fd) (S : GScope D.N ps D.sc) (hb : D.blk = none) (hq : D.bsc = []) (hg : D.g = false) (hx : D.ex = c.ex) (hk : 0 < k) : GFn P w K mg base (k + 1) f fd ps (spG c ps.length (genM D.N.length (blockY (den fuel) D body))) := by
  obtain ⟨oc, od, dV, kV, doc, pm, an, cdv, ct, osl, rfl, lk, hcd, _, _⟩ := F.ex
  refine gfn_of lk hcd S (fun vs H Q E h => h.1) fun A outer s H vs Q E pn hr h => ?_
  have G : Good c k (gcxOf P w K mg base D.N qual D.sc f cdv A outer s H E pn) (fun cls d _ H' => E cls d H') D := {
    K := hK
    N := rfl
    nd := S.nd
    sc := rfl
    kind := S.kind
    calm := rfl
    room := by unfold De.sl; rw [hg]; exact hr
    tk := takes_gcx
    po := fun _ => owns_gcx
    fn := fun _ _ => rfl
    fnb := fun x h => by rw [hq] at h; cases h
    tab := ht
    kp := hk
    gd := fun z => by rw [hg] at z; cases z
    lam := fun z => by rw [hg] at z; cases z
    ex := hx
    wi := fun _ _ _ _ _ h => h
    ats := ha }
  exact ⟨_, blockYL_ok (stmtY_ok (den_ok fuel) G hb S.co (by unfold interactive; rw [show (gcxOf P w K mg base D.N qual D.sc f cdv A outer s H E pn).env.scope.kind = .function from S.kind]; rfl) 10) body, bodyY_rd h⟩
theorem tab_nil : TabOk c k P w K mg base [] := fun _ h => nomatch h
theorem gok_mono {j : Nat} (h : k ≤ j) {x : Str} {g : GK} (o : GOk c k P w K mg base x g) : GOk c j P w K mg base x g := by
  cases g with
  | blt => exact o
  | con u => exact o
  | fn n m i =>
    obtain ⟨f, fd, ps, h1, h2, h3⟩ := o
    exact ⟨f, fd, ps, h1, h2.mono h, h3⟩
  | fg n m =>
    obtain ⟨f, fd, ps, h1, h2, h3⟩ := o
    exact ⟨f, fd, ps, h1, h2.mono h, h3⟩
  | exc0 i => exact o
  | exc1 i => exact o
  | met M => exact o
  | bfn id => exact o
  | gen n m =>
    obtain ⟨f, fd, ps, kk, h1, h2⟩ := o
    exact ⟨f, fd, ps, kk, Nat.le_trans h1 h, h2⟩
  | cls i n m =>
    obtain ⟨C, f, fd, ps, kk, h1, h2⟩ := o
    exact ⟨C, f, fd, ps, kk, Nat.lt_of_lt_of_le h1 h, h2⟩
theorem at_mono {j : Nat} (h : k ≤ j) {f : Str} {i : Nat} {a : AK} (o : AtOk c k P w K mg base f i a) : AtOk c j P w K mg base f i a := by
  cases a with
  | slot n => exact o
  | prop m =>
    obtain ⟨C, p, g, kk, h1, h2⟩ := o
    exact ⟨C, p, g, kk, Nat.lt_of_lt_of_le h1 h, h2⟩
  | meth m =>
    obtain ⟨C, g, kk, h1, h2⟩ := o
    exact ⟨C, g, kk, Nat.lt_of_lt_of_le h1 h, h2⟩
theorem ats_mono {j : Nat} {l : List (Str × Nat × AK)} (h : k ≤ j) (t : AtsOk c k P w K mg base l) : AtsOk c j P w K mg base l := fun p hp => at_mono h (t p hp)
theorem ats_nil : AtsOk c k P w K mg base [] := fun _ h => nomatch h
theorem ats_cons {f : Str} {i : Nat} {a : AK} {l : List (Str × Nat × AK)} (o : AtOk c k P w K mg base f i a) (t : AtsOk c k P w K mg base l) : AtsOk c k P w K mg base ((f, i, a) :: l) := fun p hp => by
  rcases List.mem_cons.mp hp with e | e
  · subst e; exact o
  · exact t p e
theorem tab_mono {j : Nat} {tab : List (Str × GK)} (h : k ≤ j) (t : TabOk c k P w K mg base tab) : TabOk c j P w K mg base tab := fun p hp => gok_mono h (t p hp)
theorem tab_cons {tab : List (Str × GK)} {x : Str} {g : GK} (o : GOk c k P w K mg base x g) (t : TabOk c k P w K mg base tab) : TabOk c k P w K mg base ((x, g) :: tab) := fun p hp => by
  rcases List.mem_cons.mp hp with e | e
  · subst e; exact o
  · exact t p e
theorem gok_int {x : Str} {i : Int} {z : Value} (h : mg x = some z) (r : RelV (.int i) z) : GOk c k P w K mg base x (.con (.int i)) := ⟨_, z, h, r, fun _ _ => rep_int⟩
theorem gok_str {x : Str} {i : List Nat} {z : Value} (h : mg x = some z) (r : RelV (.str (mkS i)) z) : GOk c k P w K mg base x (.con (.str i)) := ⟨_, z, h, r, fun _ _ => rep_str⟩
/-- one more def -/
theorem tab_def {fuel : Nat} {x : Str} {j : Nat} (hK : K = c.K) (ht : TabOk c k P w K mg base D.tab) (ha : AtsOk c k P w K mg base D.ats) (F : FunD K nm qual params body D.sc [] [] f fd) (S : FnScope D.N ps D.sc) (hb : D.blk = none) (hq : D.bsc = []) (hg : D.g = false) (hx : D.ex = c.ex) (hk : 0 < k) (hm : mg x = some (.ref f)) (hbi : Binds K fd ps []) (hT : c.T.fn j = some f)
    {m : SE} (e : callM D.N.length (blockD (den fuel) D body) = m) : GOk c (k + 1) P w K mg base x (.fn ps.length m j) := by
  subst e
  exact ⟨f, fd, ps, rfl, def_ok hK ht ha F S hb hq hg hx hk, hm, F.kp, hbi, hT⟩
theorem tab_defG {fuel : Nat} {x : Str} (hK : K = c.K) (ht : TabOk c k P w K mg base D.tab) (ha : AtsOk c k P w K mg base D.ats) (F : FunD K nm qual params body D.sc [] [] f fd) (S : FnScope D.N ps D.sc) (hb : D.blk = none) (hq : D.bsc = []) (hg : D.g = true) (hx : D.ex = c.ex) (hk : 0 < k) (hm : mg x = some (.ref f)) (hbi : Binds K fd ps [])
    (hl : LamOk c mg base fd ((envOfC qual D.sc 0 f .none).qual ++ "<lambda>")) {m : SE} (e : callM D.N.length (blockD (den fuel) D body) = m) : GOk c (k + 3) P w K mg base x (.fg ps.length m) := by
  subst e
  exact ⟨f, fd, ps, rfl, def_okG hK ht ha F S hb hq hg hx hk hl, hm, F.kp, hbi⟩
theorem tab_gen {fuel : Nat} {x : Str} (hK : K = c.K) (ht : TabOk c k P w K mg base D.tab) (ha : AtsOk c k P w K mg base D.ats) (F : FunD K nm qual params body D.sc [] [] f fd) (S : GScope D.N ps D.sc) (hb : D.blk = none) (hq : D.bsc = []) (hg : D.g = false) (hx : D.ex = c.ex) (hk : 0 < k) (hm : mg x = some (.ref f)) (hbi : Binds K fd ps [])
    (hst : ∀ j C, c.T.cl j = some C → PySem.W.subIn K (.ref C) (.type "StopIteration") = some false) {m : SE} (e : genM D.N.length (blockY (den fuel) D body) = m) : GOk c (k + 4) P w K mg base x (.gen ps.length m) := by
  subst e
  exact ⟨f, fd, ps, k + 1, by omega, rfl, gen_ok hK ht ha F S hb hq hg hx hk, hm, F.kp, hbi, hst⟩
/-- the script as it is handed in -/
theorem law_end {m : SE} {ns : List Int} {H : Hp} {a : Addr} (hc : LamX.Tabs c.tbs H) (hS : SqL c.K H a (ns.map V.int)) {E : XK} (h : ∃ as', m [.fro (.scr (ns.map W.int))] = .ok (.fro (.bl true), as')) : spM c 1 m [.ref a] H (fun v _ => v = .bl true) E := by
  obtain ⟨as', h⟩ := h
  refine ⟨rfl, fun b => b = a ∧ H b ≠ none, [.fro (.scr (ns.map W.int))], ⟨rfl, fun i w e => ?_, fun i p w e => ?_, fun i j p q u w a e1 e2 e3 e4 => ?_, hc, fun b h => h.2⟩, ?_⟩
  · cases i with
    | zero =>
      cases e
      refine ⟨.ref a, rfl, ?_⟩
      unfold Rep
      refine ⟨a, ns.map V.int, rfl, ?_, reps_intmap⟩
      rcases hS with h | h
      · refine .inl ⟨⟨rfl, ?_⟩, h⟩
        rcases h with h | ⟨o, h⟩ <;> (rw [h]; exact fun z => nomatch z)
      · exact .inr (.inr h)
    | succ i => cases e
  · cases i with
    | zero => cases e
    | succ i => cases e
  · cases i with
    | zero => cases e1
    | succ i => cases e1
  · rw [h]
    intro v P' H' t R' rv
    unfold RvR Rep at rv
    exact rv
theorem fn_calm {sp : Sp} (F : FnOk P w K mg base (L2.CX P w) k f fd ps sp) : FnOk P w K mg base CX0 k f fd ps (fun vs H Q _ => sp vs H Q fun _ _ _ => False) :=
  ⟨fun vs H Q E h => F.len _ _ _ _ h, fun A outer s H args us vs Q E hr he hb hv hs => codeAny_mono (F.run A outer s H args us vs Q _ hr he hb hv hs) fun r s' h => by
    cases r with
    | error e =>
      obtain ⟨_, _, _, _, _, _, _, _, _, _, _, _, z⟩ := h
      exact z
    | ok fl => cases fl <;> exact h⟩
end
end Qs
/-! # Classes of the text: what __init__ promises, what a property promises -/
namespace Qs
open PySem PySem.Spec PyProof.Rows L2
/-- self.f = e, one by one; pl: the places of the slots -/
def fldsA (self : Str) (pl : List (Str × Nat)) : List Stmt → Option (List (Nat × Expr))
  | [] => some []
  | .Assign [.Attribute (.Name x _) f _] e _ :: r => if x = self ∧ plE e = true then (pl.lookup f).bind fun i => (fldsA self pl r).map fun fs => (i, e) :: fs else none
  | _ => none
def preA (self : Str) (pl : List (Str × Nat)) : List Stmt → Option (List Expr × List (Nat × Expr))
  | .Expr e _ :: r => if plE e = true then (preA self pl r).map fun p => (e :: p.1, p.2) else none
  | r => (fldsA self pl r).map fun fs => ([], fs)
section
variable {c : Cst} {k n : Nat} {P : Program} {w : World} {K : PySem.W.Frag} {mg : Str → Option Value} {base : Heap} {X : Cx} {Wx : WX} {C : Addr} {self : Str} {pl : List (Str × Nat)} {D : De} {fE : Expr → SE}
theorem fldsA_ok (hE : ∀ e, PE X e (rd c Wx (fE e))) (hp : ∀ q ∈ pl, ∃ p, L2.Slt X.K C q.1 q.2 p) : ∀ {sts : List Stmt} {fs : List (Nat × Expr)}, fldsA self pl sts = some fs → Flds X c Wx C self sts (fs.map fun q => (q.1, fE q.2))
  | [], fs, h => by cases h; exact .nil
  | st :: r, fs, h => by
    unfold fldsA at h
    split at h
    · rename_i heq; cases heq
    · rename_i x q1 f q2 e q3 r' heq
      cases heq
      split at h
      · rename_i hh
        obtain ⟨hx, he⟩ := hh
        rw [hx]
        cases hl : pl.lookup f with
        | none => rw [hl] at h; cases h
        | some i =>
          rw [hl] at h
          cases hr : fldsA self pl r with
          | none => simp only [Option.bind_some, hr, Option.map_none] at h; cases h
          | some gs =>
            simp only [Option.bind_some, hr, Option.map_some, Option.some.injEq] at h
            subst h
            obtain ⟨p, hs⟩ := hp _ (PySem.mem_of_lookup hl)
            exact .cons hs (hE e) (plE_sw he) (fldsA_ok hE hp hr)
      · cases h
    · cases h
theorem preA_ok (hE : ∀ e, PE X e (rd c Wx (fE e))) (hp : ∀ q ∈ pl, ∃ p, L2.Slt X.K C q.1 q.2 p) : ∀ {sts : List Stmt} {pre : List Expr} {fs : List (Nat × Expr)}, preA self pl sts = some (pre, fs) → Pres X c Wx C self (fs.map fun q => (q.1, fE q.2)) sts (pre.map fE)
  | [], pre, fs, h => by
    cases h
    exact .nil .nil
  | st :: r, pre, fs, h => by
    unfold preA at h
    split at h
    · rename_i e q r' heq
      cases heq
      split at h
      · rename_i he
        cases hr : preA self pl r with
        | none => rw [hr] at h; cases h
        | some p =>
          obtain ⟨pre', fs'⟩ := p
          rw [hr] at h
          cases h
          exact .cons (hE e) (plE_sw he) (preA_ok hE hp hr)
      · cases h
    · cases hr : fldsA self pl (st :: r) with
      | none => rw [hr] at h; cases h
      | some gs =>
        rw [hr] at h
        cases h
        exact .nil (fldsA_ok hE hp hr)
variable {f : Addr} {fd : FuncData} {ps : List Str} {nm qual : Str} {params : Arguments} {body : List Stmt} {j fuel : Nat} {pre : List Expr} {fs : List (Nat × Expr)} {m : S → Res W}
theorem init_ok (hK : K = c.K) (ht : TabOk c k P w K mg base D.tab) (ha : AtsOk c k P w K mg base D.ats) (F : FunD K nm qual params body D.sc [] [] f fd) (S : FnScope D.N (self :: ps) D.sc) (hb : D.blk = none) (hq : D.bsc = []) (hg : D.g = false) (hx : D.ex = c.ex) (hk : 0 < k)
    (hT : c.T.ic j = some C) (sc : L2.SCls K C) (hp : ∀ q ∈ pl, ∃ p, L2.Slt K C q.1 q.2 p) (hs : own2 self = false) (hN : D.N[0]? = some self) (e : preA self pl body = some (pre, fs))
    (em : iniM j n D.N.length (pre.map ((den fuel).E D)) (fs.map fun q => (q.1, (den fuel).E D q.2)) = m) : FnOk P w K mg base (L2.CX P w) (k + 1) f fd (self :: ps) (spI c C ps.length m) :=
  F.ok S (fun vs H Q E h => by obtain ⟨x, dx, us, as, P, rfl, hl, _⟩ := h; simp [hl]) fun cdv A outer s H vs Q E hr h => by
    have G : Good c k (cxOf (L2.CX P w) P w K mg base D.N qual D.sc f cdv A outer s H E) (fun cls d _ H' => E cls d H') D := {
      K := hK
      N := rfl
      nd := S.nd
      sc := rfl
      kind := S.kind
      calm := rfl
      room := by unfold De.sl; rw [hg]; exact hr
      tk := takes_of rfl rfl rfl rfl
      po := fun _ => passes_of rfl
      fn := fun _ _ => rfl
      fnb := fun x h => by rw [hq] at h; cases h
      tab := ht
      kp := hk
      gd := fun z => by rw [hg] at z; cases z
      lam := fun z => by rw [hg] at z; cases z
      ex := hx
      wi := fun _ _ _ _ _ h => h
      ats := ha }
    have hv : ∀ q, PE (cxOf (L2.CX P w) P w K mg base D.N qual D.sc f cdv A outer s H E) (.Name self q) (tVar 0) := fun q => by
      obtain ⟨o1, o2, _⟩ := own2_ok hs
      refine pe_var hN ?_ o1 o2
      rcases S.par self List.mem_cons_self with z | z
      · exact .inl z
      · exact .inr (.inl z)
    have pr := preA_ok (c := c) (X := cxOf (L2.CX P w) P w K mg base D.N qual D.sc f cdv A outer s H E) (Wx := fun cls d _ H' => E cls d H') (C := C) (fE := (den fuel).E D) (fun e => (den_ok fuel k _ _ D G).1 e) hp e
    subst em
    refine ⟨_, pres_ok (n := n) sc hv pr, init_rd hT rfl ?_ h⟩
    cases hl : D.N with
    | nil => rw [hl] at hN; cases hN
    | cons x xs => exact Nat.succ_pos _
theorem prop_ok (hK : K = c.K) (ht : TabOk c k P w K mg base D.tab) (ha : AtsOk c k P w K mg base D.ats) (F : FunD K nm qual params body D.sc [] [] f fd) (S : FnScope D.N [self] D.sc) (hb : D.blk = none) (hq : D.bsc = []) (hg : D.g = false) (hx : D.ex = c.ex) (hk : 0 < k)
    (hbi : Binds K fd [self] []) {m : SE} (em : callM D.N.length (blockD (den fuel) D body) = m) : FnR P w K mg base CX0 (k + 1) f (spC c 1 m) := by
  subst em
  have h := (fn_calm (def_ok (fuel := fuel) hK ht ha F S hb hq hg hx hk)).raw hbi .nil
  exact h.imp fun vs H Q E hs => by rw [List.append_nil]; exact hs
theorem meth_ok2 {v : Str} (hK : K = c.K) (ht : TabOk c k P w K mg base D.tab) (ha : AtsOk c k P w K mg base D.ats) (F : FunD K nm qual params body D.sc [] [] f fd) (S : FnScope D.N [self, v] D.sc) (hb : D.blk = none) (hq : D.bsc = []) (hg : D.g = false) (hx : D.ex = c.ex) (hk : 0 < k)
    (hbi : Binds K fd [self, v] []) {m : SE} (em : callM D.N.length (blockD (den fuel) D body) = m) : FnR P w K mg base CX0 (k + 1) f (spC c 2 m) := by
  subst em
  have h := (fn_calm (def_ok (fuel := fuel) hK ht ha F S hb hq hg hx hk)).raw hbi .nil
  exact h.imp fun vs H Q E hs => by rw [List.append_nil]; exact hs
end
end Qs
/-! # The law's end, where defs may show things and hand on lambdas -/
namespace Qs
open PySem PySem.Spec PyProof.Rows L2 LamX
/-- the heap at the start: the tables; the script, where it is not written down -/
def hp0 (T : List Addr) (K : PySem.W.Frag) (a : Addr) (o : Obj) (xs : List V) : Hp := fun b => if b ∈ T then some (.tbl #[]) else if b = a ∧ K.lookup a = none then some (.frz o (.lst xs)) else none
section
variable {T : List Addr} {K : PySem.W.Frag} {a b : Addr} {o : Obj} {xs : List V} {u : HO}
theorem hp0_tab (h : b ∈ T) : hp0 T K a o xs b = some (.tbl #[]) := if_pos h
theorem hp0_of (h : hp0 T K a o xs b = some u) : (b ∈ T ∧ u = .tbl #[]) ∨ (b = a ∧ K.lookup a = none ∧ u = .frz o (.lst xs)) := by
  unfold hp0 at h
  split at h
  · rename_i q; cases h; exact .inl ⟨q, rfl⟩
  · split at h
    · rename_i q; cases h; exact .inr ⟨q.1, q.2, rfl⟩
    · cases h
abbrev objT : Obj := { cls := .none, data := .fields #[] }
abbrev objL (vs : List Value) : Obj := { cls := .type "list", data := .seq vs.toArray }
theorem law_g {P : Program} {w : World} {mg mb : Str → Option Value} {k : Nat} {fa : Addr} {cs : List (Addr × Addr)} {fd : FuncData} {x : Str} {sp : Sp} {s : Shared} {vs : List Value} {ns : List Int}
    (KX : K.In s.heap) (hm : s.heap.Ns mainGlobals mg) (hb : s.heap.Ns builtinsNs mb) (hbb : ∀ y : Str, y ≠ "__name__" → mb y = bootBuiltins y) (hlim : s.heap.NoLimit) (hg : s.gens = #[])
    (tb : ∀ p ∈ cs, s.heap.get? p.2 = some objT) (no : ∀ p ∈ cs, K.lookup p.2 = none) (cd : ∀ p ∈ cs, PySem.W.CodeHd s.heap p.1 p.2)
    (hbm : ∃ (bm : Addr) (ob : Obj), mg "__builtins__" = some (.ref bm) ∧ bm ≠ builtinsNs ∧ s.heap.get? bm = some ob ∧ ob.cls = .type "module" ∧ ob.dict = some builtinsNs ∧ ob.data = .plain)
    (ha : s.heap.get? a = some (objL vs)) (hi : IntsAre vs ns) (hl : ns.length ≤ sizeLine) (hr : Room k callerA)
    (F : ∀ B : Heap, K.In B → B.Ns mainGlobals mg → (∀ p ∈ cs, TabB B mg p.1 p.2) → FnG P w K mg B k fa fd [x] sp) (bi : ∀ (s : Shared) (v : Value), BindsTo s fd ⟨[v], []⟩ [(x, v)])
    (hsp : ∀ H : Hp, (∀ p ∈ cs, H p.2 = some (.tbl #[])) → SqL K H a (ns.map V.int) → ∀ E : XK, (∀ c d H', ¬ E c d H') → sp [.ref a] H (fun v _ => v = .bl true) E) :
    codeAny (model P w) callerA (.call (.ref fa) ⟨[.ref a], []⟩) (fun r s' => r = .ok (.ret (.bool true)) ∧ OldK s.heap s'.heap ∧ s'.os = s.os ∧ AllBare s'.gens) s := by
  have rv := vals_ints hi
  have tabs : ∀ b : Addr, b ∈ cs.map (·.2) → ∃ p ∈ cs, p.2 = b ∧ s.heap.get? b = some objT := fun b z => by
    obtain ⟨p, h1, h2⟩ := List.mem_map.mp z
    exact ⟨p, h1, h2, by rw [← h2]; exact tb p h1⟩
  have inT : ∀ p ∈ cs, p.2 ∈ cs.map (·.2) := fun p h => List.mem_map.mpr ⟨p, h, rfl⟩
  have aN : a ∉ cs.map (·.2) := fun z => by
    obtain ⟨_, _, _, q⟩ := tabs a z
    rw [ha] at q
    have q2 : Data.seq vs.toArray _ = Data.fields #[] := congrArg Obj.data (Option.some.inj q)
    cases q2
  generalize eH : hp0 (cs.map (·.2)) K a (objL vs) (ns.map V.int) = H
  have of : ∀ {b : Addr} {u : HO}, H b = some u → (b ∈ cs.map (·.2) ∧ u = .tbl #[]) ∨ (b = a ∧ K.lookup a = none ∧ u = .frz (objL vs) (.lst (ns.map V.int))) := fun {b u} z => hp0_of (by rw [eH]; exact z)
  have hH : ∀ p ∈ cs, H p.2 = some (.tbl #[]) := fun p h => by rw [← eH]; exact hp0_tab (inT p h)
  have hS : SqL K H a (ns.map V.int) := by
    cases q : K.lookup a with
    | none =>
      refine .inl (.inr ⟨objL vs, ?_⟩)
      rw [← eH]
      exact (if_neg aN).trans (if_pos ⟨rfl, q⟩)
    | some ob =>
      have e := KX a ob q
      rw [ha] at e
      cases e
      exact .inr ⟨_, vs.toArray, _, q, rfl, rfl, rfl, by rw [List.size_toArray, hi.length]; exact hl, by simpa using rv⟩
  have free : ∀ {b : Addr} {ob : Obj}, s.heap.get? b = some ob → (∀ us n, ob.data ≠ .seq us n) → ob.data ≠ .fields #[] → (hidT s.heap H).get? b = some ob := fun {b ob} e h1 h2 => by
    cases q : H b with
    | none => exact hidT_get e q
    | some u =>
      exfalso
      rcases of q with ⟨z, _⟩ | ⟨z, _⟩
      · obtain ⟨_, _, _, e2⟩ := tabs b z
        rw [e] at e2; cases e2; exact h2 rfl
      · rw [z, ha] at e; cases e; exact h1 _ _ rfl
  have nsF : ∀ {b : Addr} {m : Str → Option Value}, s.heap.Ns b m → (hidT s.heap H).Ns b m := fun {b m} ⟨ob, es, ep, e, d, r⟩ => ⟨ob, es, ep, free e (fun us n z => by rw [d] at z; cases z) (fun z => by rw [d] at z; cases z), d, r⟩
  have KB : K.In (hidT s.heap H) := fun b ob e => hidT_get (KX b ob e) (by
    cases q : H b with
    | none => rfl
    | some u =>
      exfalso
      rcases of q with ⟨z, _⟩ | ⟨z, z2, _⟩
      · obtain ⟨p, h1, h2, _⟩ := tabs b z
        rw [← h2, no p h1] at e; cases e
      · rw [z, z2] at e; cases e)
  have tbs : ∀ p ∈ cs, TabB (hidT s.heap H) mg p.1 p.2 := fun p hp => by
    have t := tb p hp
    refine ⟨?_, ?_, fun z => ?_⟩
    · obtain ⟨ob, us, file, tf, flags, tg, inF, text, tt, e1, r1, r2, r3, rest⟩ := cd p hp
      exact ⟨ob, us, file, tf, flags, tg, inF, text, tt, free e1 (fun us n z => by rw [r2] at z; cases z) (fun z => by rw [r2] at z; cases z; simp at r3), r1, r2, r3, rest⟩
    · obtain ⟨bm, ob, b1, b2, b3, b4, b5, b6⟩ := hbm
      refine ⟨bm, ob, b1, b2, fun q => ?_, fun q => ?_, free b3 (fun us n z => by rw [b6] at z; cases z) (fun z => by rw [b6] at z; cases z), b4, b5, b6⟩
      · obtain ⟨om, es, ep, e, d, _⟩ := hm
        rw [q, e] at b3; cases b3; rw [d] at b6; cases b6
      · rw [q, t] at b3; cases b3; cases b6
    · obtain ⟨om, es, ep, e, d, _⟩ := hm
      rw [z, t] at e; cases e; cases d
  have hok : HOk P w H s.heap := fun b u q => by
    rcases of q with ⟨z, rfl⟩ | ⟨rfl, _, rfl⟩
    · obtain ⟨_, _, _, e⟩ := tabs b z
      exact e
    · exact ⟨ha, by rw [List.length_map]; exact hl, vs, _, rv, ha⟩
  have e0 : Env0 P w K mg (hidT s.heap H) callerA [] s H := {
    frames := rfl
    mod := ⟨KB, nsF hm, ⟨mb, nsF hb, hbb⟩, let ⟨mc, h1, h2⟩ := hlim; ⟨mc, nsF h1, h2⟩⟩
    bs := fun b ob e => of_hidT e
    bsz := Nat.le_of_eq (hidT_size s.heap H)
    funs := trivial
    frf := fun b z => (List.not_mem_nil z).elim
    hok := hok
    bare := .of_eq hg }
  refine codeAny_mono ((F _ KB (nsF hm) tbs).run callerA [] s H ⟨[.ref a], []⟩ [.ref a] [.ref a] _ (fun _ _ _ => False) rfl hr e0 (bi s (.ref a)) (.cons rfl .nil) (hsp H hH hS _ fun _ _ _ z => z)) fun r s' h => ?_
  cases r with
  | error e => obtain ⟨_, _, _, _, _, _, _, _, _, _, _, _, z⟩ := h; exact z.elim
  | ok fl =>
    cases fl with
    | ret u =>
      obtain ⟨v, H', os, bare, un, hok', r', q⟩ := h
      cases (show v = .bl true from q)
      obtain rfl : u = Value.bool true := r'
      have more : ∀ p ∈ cs, ∃ l : Array Value, s'.heap.get? p.2 = some { cls := .none, data := .fields l } := fun p hp => by
        obtain ⟨l, z⟩ := un.tbls p.2 #[] (hH p hp)
        exact ⟨_, hok' p.2 _ z⟩
      have same : ∀ b ob, b ∉ cs.map (·.2) → s.heap.get? b = some ob → s'.heap.get? b = some ob := fun b ob nb e => by
        cases q : H b with
        | none => exact un.keep b ob e q (fun z => (List.not_mem_nil z).elim) (by simp)
        | some u =>
          rcases of q with ⟨z, _⟩ | ⟨_, _, rfl⟩
          · exact absurd z nb
          · obtain ⟨e1, _⟩ := hok b _ q
            obtain ⟨e2, _⟩ := hok' b _ (un.frzs b _ _ q)
            rw [e] at e1; cases e1; exact e2
      refine ⟨rfl, ⟨fun b ob e => ?_, fun b ob e => ?_⟩, os, bare⟩
      · by_cases z : b ∈ cs.map (·.2)
        · obtain ⟨p, hp, rfl, _⟩ := tabs b z
          obtain ⟨l, hl⟩ := more p hp
          rw [tb p hp] at e
          cases e
          exact .inr (.inl ⟨((cd p hp).tab (tb p hp)).isCodeTable, rfl, #[], l, rfl, by rw [Array.empty_append]; exact hl⟩)
        · exact .inl (same b ob z e)
      · by_cases z : b ∈ cs.map (·.2)
        · obtain ⟨p, hp, rfl, _⟩ := tabs b z
          obtain ⟨l, hl⟩ := more p hp
          exact ⟨_, hl⟩
        · exact ⟨ob, same b ob z e⟩
    | _ => exact False.elim h
end
end Qs
/-! # What is looked at behind the head: defs, their tables, exception classes -/
namespace Qs
open PySem PySem.Spec PyProof.Rows L2 He
open PySem.W (Frag keepIn subIn typeIn findIn nsIn excIn excInitIn hasDictIn mroIn ks_superIn codeIn exmOne)
/-! ### a class of the text whose __init__ hands on and keeps -/
structure ClD where
  x : Str
  B : String
  newId : String
  initId : String
  bm : List Value
  name : Str
  qual : Str
  params : Arguments
  body : List Stmt
  scope : Scope
  pr : Option Str := none
def supT : List Stmt → Option (Str × Str × Str)
  | [.Expr (.Call (.Attribute (.Call (.Name s _) [] [] _) m p2) [.Name gv _] [] p4) _, .Assign [.Attribute (.Name sf _) fl _] (.Name gw _) _] => if s = "super" ∧ m = "__init__" ∧ gw = gv ∧ (p2.endLine == p4.line) = true then some (fl, sf, gv) else none
  | _ => none
theorem supT_ok {b : List Stmt} {fl sf gv : Str} (h : supT b = some (fl, sf, gv)) : ∃ (p0 p1 p2 p3 p4 p5 p6 p7 p8 p9 : Pos),
    b = [.Expr (.Call (.Attribute (.Call (.Name "super" p0) [] [] p1) "__init__" p2) [.Name gv p3] [] p4) p5, .Assign [.Attribute (.Name sf p6) fl p7] (.Name gv p8) p9] ∧ (p2.endLine == p4.line) = true := by
  unfold supT at h
  split at h
  · split at h
    · rename_i q
      obtain ⟨rfl, rfl, rfl, q4⟩ := q
      cases h
      exact ⟨_, _, _, _, _, _, _, _, _, _, rfl, q4⟩
    · cases h
  · cases h
abbrev InitV : Type := Option (Str × Str × Arguments × FuncBody × Scope × Addr × Addr)
def initAt (K : Frag) (x : Str) : Addr := ma K (ga K x) "__init__"
/-- the getter of a property -/
def prG (K : Frag) (C : Addr) (f : Str) : Addr := match PySem.W.recIn K (ma K C f) "property" with
  | some (.ref g :: _) => g
  | _ => ma K C f
def ClD.at_ (K : Frag) (c : ClD) : Addr := match c.pr with
  | none => initAt K c.x
  | some f => prG K (ga K c.x) f
def initV (K : Frag) (a : Addr) : InitV := match K.lookup a with
  | some ⟨_, _, .func fd, _⟩ => some (fd.name, fd.qualname, fd.params, fd.body, fd.scope, fd.globals, fd.builtins)
  | _ => none
def ClD.val (c : ClD) : InitV := some (c.name, c.qual, c.params, .stmts c.body, c.scope, mainGlobals, builtinsNs)
def isNone : Value → Bool
  | .none => true
  | _ => false
theorem isNone_ok {v : Value} (h : isNone v = true) : v = .none := by cases v <;> first | rfl | cases h
def fileB (K : Frag) (file : Str) (c : Addr) : Bool := match K.lookup c with
  | some ⟨_, _, .fields vs, _⟩ => (match (vs[2]? : Option Value) with
    | some (.str f _) => file == f
    | _ => false)
  | _ => false
theorem fileB_ok {K : Frag} {file : Str} {c : Addr} (h : fileB K file c = true) : ∃ (ccl : Value) (cdd : Option Addr) (vs : Array Value) (ccs : Array (Option Value)) (f : Str) (tf : Tok), K.lookup c = some ⟨ccl, cdd, .fields vs, ccs⟩ ∧ vs[2]? = some (.str f tf) ∧ (file == f) = true := by
  unfold fileB at h
  split at h
  · rename_i e
    split at h
    · rename_i e2
      exact ⟨_, _, _, _, _, _, e, e2, h⟩
    · cases h
  · cases h
def cellB (K : Frag) (C : Addr) : List (Str × Addr) → Bool
  | [(n, a)] => decide (n = "__class__") && (match K.lookup a with
    | some ⟨_, _, .cell (some (.ref D)), _⟩ => decide (D = C)
    | _ => false)
  | _ => false
theorem cellB_ok {K : Frag} {C : Addr} {l : List (Str × Addr)} (h : cellB K C l = true) : ∃ cc : Addr, l = [(("__class__" : Str), cc)] ∧ ∃ (cl : Value) (cld : Option Addr) (csl : Array (Option Value)), K.lookup cc = some ⟨cl, cld, .cell (some (.ref C)), csl⟩ := by
  unfold cellB at h
  split at h
  · rename_i n a
    rw [Bool.and_eq_true, decide_eq_true_eq] at h
    obtain ⟨rfl, h⟩ := h
    split at h
    · rename_i e
      have := of_decide_eq_true h
      subst this
      exact ⟨_, rfl, _, _, _, e⟩
    · cases h
  · cases h
def initB (K : Frag) (file : Str) (C : Addr) (f : Addr) : Bool := match K.lookup f with
  | some ⟨_, _, .func fd, _⟩ => isNone fd.defaults && codeIn K fd.code fd.qualname && cellB K C fd.closure && (match fd.code with
    | .ref c => fileB K file c
    | _ => false)
  | _ => false
def supB (K : Frag) (file : Str) (c : ClD) (fl : Str) : Bool :=
  (excInitIn K (ga K c.x) c.bm c.newId && He.eqO (findIn K (.ref (ga K c.x)) "__setattr__") (some (some (.builtin "object.__setattr__"))) && He.eqO (findIn K (.ref (ga K c.x)) fl) (some none) && hasDictIn K (ga K c.x)) &&
  (He.eqO (findIn K (.ref (ga K c.x)) "__init__") (some (some (.ref (initAt K c.x)))) && decide (typeIn K (.ref (initAt K c.x)) = some (.type "function")) && decide (mroIn K (ga K c.x) (.ref (ga K c.x)) = some true)) &&
  (He.eqO (ks_superIn K (ga K c.x) (ga K c.x) "__init__") (some (some (.builtin c.initId))) && decide (subIn K (.ref (ga K c.x)) (.type c.B) = some true) && He.eqO (nsIn K mainGlobals "super") (some none) && He.eqO (nsIn K cStatics "thirdparty.any") (some none)) &&
  initB K file (ga K c.x) (initAt K c.x)
theorem sup_ok {prog : Program} {K : Frag} {c : ClD} {fl sf gv : Str} (e : initV K (initAt K c.x) = c.val) (b : supB K prog.main.file c fl = true) (FB : ExcBaseFacts c.B c.newId c.initId c.bm) (KF : PySem.W.KxsFacts c.B c.initId) (SF : StoreFacts c.B c.bm "object.__setattr__" "object")
    (t : supT c.body = some (fl, sf, gv)) (hbind : ∀ (kV doc pm : Value) (an : Option Addr) (cdv ct : Value) (cc : Addr) (u v : Value), bindArgs (PySem.W.ksFn c.name c.qual c.params c.body c.scope .none kV doc pm an cdv ct cc) ⟨[u, v], []⟩ = pure [(sf, u), (gv, v)])
    (har : ∃ ar : Arg, (c.params.posonlyargs ++ c.params.args).head? = some ar ∧ ar.arg = sf) (hsc : c.scope.kind = .function ∧ c.scope.isCoroutine = false ∧ c.scope.isGenerator = false ∧ (∀ x ∈ c.scope.names, x.2 ≠ .cell) ∧
      c.scope.names.lookup ("super" : Str) = some .globalImplicit ∧ c.scope.names.lookup ("__class__" : Str) = some .free ∧ c.scope.names.lookup sf = some .local ∧ c.scope.names.lookup gv = some .local)
    (htop : (prog.main.scope.names.lookup ("super" : Str)).isSome = false) (hn : (sf == gv) = false ∧ (sf == ("__debug__" : Str)) = false ∧ (gv == ("__debug__" : Str)) = false) :
    PySem.Qx.SupC prog K (ga K c.x) (initAt K c.x) c.B c.newId c.initId c.bm fl sf gv := by
  unfold supB at b
  simp only [Bool.and_eq_true] at b
  obtain ⟨⟨⟨⟨⟨⟨a1, a2⟩, a3⟩, a4⟩, ⟨a5, a6⟩, a7⟩, ⟨⟨a8, a9⟩, a10⟩, a11⟩, a12⟩ := b
  unfold initB at a12
  unfold initV at e
  split at a12
  · rename_i oc od fd osl hk
    rw [hk] at e
    obtain ⟨n1, n2, n3, n4, n5, n6, n7, n8, n9, n10, n11, n12, n13, n14, n15⟩ := fd
    have e2 : (some (n1, n2, n3, n4, n5, n6, n15) : InitV) = some (c.name, c.qual, c.params, .stmts c.body, c.scope, mainGlobals, builtinsNs) := e
    simp only [Option.some.injEq, Prod.mk.injEq] at e2
    obtain ⟨rfl, rfl, rfl, rfl, rfl, rfl, rfl⟩ := e2
    simp only [Bool.and_eq_true] at a12
    obtain ⟨⟨⟨b1, b2⟩, b3⟩, b4⟩ := a12
    obtain rfl := isNone_ok b1
    obtain ⟨cc, rfl, hcell⟩ := cellB_ok b3
    split at b4
    · rename_i cda
      obtain ⟨p0, p1, p2, p3, p4, p5, p6, p7, p8, p9, eb, ln⟩ := supT_ok t
      obtain ⟨s1, s2, s3, s4, s5, s6, s7, s8⟩ := hsc
      exact ⟨FB, KF, SF, a1, He.eqO_ok a2, He.eqO_ok a3, a4, He.eqO_ok a5, of_decide_eq_true a6, of_decide_eq_true a7, He.eqO_ok a8, of_decide_eq_true a9, He.eqO_ok a10, He.eqO_ok a11,
        ⟨oc, od, c.name, c.qual, c.params, c.scope, .none, n9, n10, n11, n14, n12, cda, cc, osl, p0, p1, p2, p3, p4, p5, p6, p7, p8, p9, by rw [hk, ← eb], b2, fileB_ok b4, hcell, har, fun s u v => .of_eq (by rw [← eb]; exact hbind n9 n10 n11 n12 (.ref cda) n14 cc u v), s1, s2, s3, s4, s5, s6, s7, s8, ln⟩,
        htop, hn.1, hn.2.1, hn.2.2⟩
    · cases b4
  · cases a12
/-! ### the Hook -/
def start (g : Addr → Option Obj) (n : Nat) : List Addr := cStatics :: asD g n
structure Says (fa : List Fa) (fn : List DefD) (cl : List ClD) (tf : List Defn) (ex : Frag → Bool) (h : Heap) (K : Frag) : Prop where
  d : SaysD fa fn K
  c : cl.map (fun c => initV K (c.at_ K)) = cl.map ClD.val
  ex : ex K = true
  hd : ∀ p ∈ tf, PySem.W.codeHdIn K (cT K p).1 (cT K p).2 = true
  out : ∀ p ∈ tf, K.lookup (cT K p).2 = none
  tabs : ∀ p ∈ tf, h.get? (cT K p).2 = some objT
abbrev AlE : Type := AlD × List InitV × Bool
def obsK (fa : List Fa) (fn : List DefD) (cl : List ClD) (tf : List Defn) (ex : Frag → Bool) (g : Addr → Option Obj) (K : Frag) : AlE := (obsD fa fn K, cl.map (fun c => initV K (c.at_ K)), ex K && tabsB g tf K)
def obsQ (n : Nat) (fa : List Fa) (fn : List DefD) (cl : List ClD) (tf : List Defn) (ex : Frag → Bool) (g : Addr → Option Obj) : AlE := obsK fa fn cl tf ex g (frT g (start g n))
def valQ (fn : List DefD) (cl : List ClD) : AlE := (valD fn, cl.map ClD.val, true)
theorem says_of {n : Nat} {fa : List Fa} {fn : List DefD} {cl : List ClD} {tf : List Defn} {ex : Frag → Bool} {h : Heap} (e : obsQ n fa fn cl tf ex h.get? = valQ fn cl) : Says fa fn cl tf ex h (frT h.get? (start h.get? n)) := by
  generalize eK : frT h.get? (start h.get? n) = K at e ⊢
  have e : obsK fa fn cl tf ex h.get? K = valQ fn cl := by rw [← eK]; exact e
  have e1 : obsD fa fn K = valD fn := congrArg (fun z : AlE => z.1) e
  have e2 : cl.map (fun c => initV K (c.at_ K)) = cl.map ClD.val := congrArg (fun z : AlE => z.2.1) e
  have e3 : (ex K && tabsB h.get? tf K) = true := congrArg (fun z : AlE => z.2.2) e
  obtain ⟨h1, h2⟩ := ba e3
  have one : ∀ p ∈ tf, PySem.W.codeHdIn K (cT K p).1 (cT K p).2 = true ∧ ∃ o, h.get? (cT K p).2 = some o ∧ emptyTab o = true := fun p hp => by
    obtain ⟨h3, h4⟩ := ba (List.all_eq_true.mp h2 p hp)
    refine ⟨h3, ?_⟩
    split at h4
    · rename_i o q
      exact ⟨o, q, h4⟩
    · cases h4
  exact ⟨e1, e2, h1, fun p hp => (one p hp).1, fun p hp => by
    obtain ⟨_, o, q, z⟩ := one p hp
    have := frT_none (as := start h.get? n) q z
    rw [eK] at this
    exact this, fun p hp => by
    obtain ⟨_, o, q, z⟩ := one p hp
    rw [q, emptyTab_eq z]⟩
def hookQ (n : Nat) (fa : List Fa) (fn : List DefD) (cl : List ClD) (tf : List Defn) (ex : Frag → Bool) : PySem.W.Hook where
  α := AlE
  obs := fun s => obsQ n fa fn cl tf ex s.heap.get?
  val := fun _ => valQ fn cl
  says := fun _ h => ∃ K : Frag, K.In h ∧ Says fa fn cl tf ex h K
  of := fun _ _ e => ⟨_, frT_in, says_of e⟩
  keeps := fun _ _ _ ⟨K, hK, c⟩ k => ⟨K, Frag.In.keeps hK k, ⟨c.d, c.c, c.ex, c.hd, c.out, fun p hp => k _ _ (c.tabs p hp)⟩⟩
theorem obsQ_eq {n : Nat} {fa : List Fa} {fn : List DefD} {cl : List ClD} {tf : List Defn} {ex : Frag → Bool} {g : Addr → Option Obj} {s : Shared} (h : ∀ a, g a = s.heap.get? a) : obsQ n fa fn cl tf ex g = (hookQ n fa fn cl tf ex).obs s := by
  have e : g = s.heap.get? := funext h
  rw [e] <;> rfl
theorem Says.init {fa : List Fa} {fn : List DefD} {cl : List ClD} {tf : List Defn} {ex : Frag → Bool} {h : Heap} {K : Frag} (s : Says fa fn cl tf ex h K) (i : Nat) {c : ClD} (hi : cl[i]? = some c) : initV K (c.at_ K) = c.val := by
  have e2 : (cl.map fun c => initV K (c.at_ K))[i]? = (cl.map ClD.val)[i]? := by rw [s.c]
  rw [List.getElem?_map, List.getElem?_map, hi] at e2
  exact Option.some.inj e2
end Qs
/-! # From what is looked at to the tables; the law's row -/
namespace Qs
open PySem PySem.Spec PyProof.Rows L2 LamX
open PySem.W (Frag keepIn subIn typeIn findIn nsIn exmOne)
/-! ### a def that calls what it is given -/
def metA (cl : Str → Option Nat) (fld : Nat → Str) : List Stmt → Option (Str × List HC × W)
  | [.Try [.Expr (.Call (.Name a _) [] [] _) _] (h0 :: hs) [] [] _, .Return fe _] => (clausesA cl fld (h0 :: hs)).bind fun qs => (finA fe).map fun w => (a, qs, w)
  | _ => none
theorem metA_ok {cl : Str → Option Nat} {fld : Nat → Str} {b : List Stmt} {a : Str} {qs : List HC} {w : W} (h : metA cl fld b = some (a, qs, w)) : ∃ (p1 p2 p3 p4 p5 : Pos) (h0 : ExceptHandler) (hs : List ExceptHandler) (fe : Option Expr),
    b = [.Try [.Expr (.Call (.Name a p1) [] [] p2) p3] (h0 :: hs) [] [] p4, .Return fe p5] ∧ clausesA cl fld (h0 :: hs) = some qs ∧ finA fe = some w := by
  unfold metA at h
  split at h
  · rename_i a' p1 p2 p3 h0 hs p4 fe p5
    cases h1 : clausesA cl fld (h0 :: hs) with
    | none => rw [h1] at h; cases h
    | some q =>
      cases h2 : finA fe with
      | none => rw [h1, h2] at h; cases h
      | some u =>
        rw [h1, h2] at h
        cases h
        exact ⟨_, _, _, _, _, _, _, _, rfl, h1, h2⟩
  · cases h
section
variable {c : Cst} {P : Program} {w : World} {K : Frag} {mg : Str → Option Value} {base h : Heap}
/-- the names that such a def may use -/
def nameB (sc : Scope) (x : Str) : Bool := (sc.names.lookup x == some .globalImplicit) && !(x == ("__debug__" : Str))
def excN (Ng : List Str) (sc : Scope) (q : HC) : Bool := match q.2.1 with
  | some e => (Ng[Ng.idxOf e]? == some e) && (sc.names.lookup e == some .local) && !(e == ("__debug__" : Str)) && !(e == ("__classdict__" : Str))
  | none => !(q.2.2.any HI.use)
theorem met_fact {x a : Str} {params : Arguments} {body : List Stmt} {sc : Scope} {f : Addr} {fd : FuncData} {Ng : List Str} {qs : List HC} {wf : W} {cl : Str → Option Nat} (hK : K = c.K) (F : FunD K x x params body sc [] [] f fd) (hm : mg x = some (.ref f)) (hb : Binds K fd [a] []) (S : FnScope Ng [a] sc)
    (hN : Ng[0]? = some a) (t : metA cl c.fld body = some (a, qs, wf)) (hd : (a == ("__debug__" : Str)) = false ∧ (a == ("__classdict__" : Str)) = false) (hf : finF wf = true) (hcl : ∀ y k, cl y = some k → ClsFact c K mg y k ∧ nameB sc y = true) (hr : mg "repr" = none) (hrs : ∀ q ∈ qs, q.2.2.any HI.reps = true → nameB sc "repr" = true)
    (hq : qs.all (excN Ng sc) = true) (hct : ∀ q ∈ qs, ∃ y, cl y = some q.1) : MetFact c P w K mg base x ⟨qs.map fun q => (q.1, q.2.2), wf⟩ := by
  obtain ⟨oc, od, dV, kV, doc, pm, an, cdv, ct, osl, rfl, lk, hcd, _, _⟩ := F.ex
  obtain ⟨p1, p2, p3, p4, p5, h0, hs, fe, rfl, t1, t2⟩ := metA_ok t
  have va : Vis sc a := by
    rcases S.par a List.mem_cons_self with z | z
    · exact .inl z
    · exact .inr (.inl z)
  have gl : ∀ y, nameB sc y = true → sc.names.lookup y = some .globalImplicit ∧ (y == ("__debug__" : Str)) = false := fun y z => by
    unfold nameB at z
    rw [Bool.and_eq_true, Bool.not_eq_true'] at z
    exact ⟨eq_of_beq z.1, z.2⟩
  refine ⟨f, a, params, _, sc, dV, kV, doc, pm, cdv, ct, oc, an, od, osl, Ng, qs, hm, F.kp, lk, hcd, hb, S, hN, va, hd, rfl, hf, ⟨fun q hq2 => ?_, fun q hq2 hu => ?_⟩, fun X e1 e2 e3 e4 e5 gd un => ?_⟩
  · obtain ⟨y, hy⟩ := hct q hq2
    obtain ⟨⟨C, c1, _, _, _, c5⟩, _⟩ := hcl y q.1 hy
    exact ⟨C, c1, fun j D z => by rw [← hK]; exact c5 j D z⟩
  · have z := List.all_eq_true.mp hq q hq2
    unfold excN at z
    split at z
    · rename_i e he; exact ⟨e, he⟩
    · rw [hu] at z; cases z
  · subst e1 e2 e3 e4 e5
    refine met_gives t1 t2 (fun s H => ⟨gd, ?_, (fun z => (gl _ z).1), hrs, hr, S.nd, fun y k hy => ?_, fun q hq2 e he => ?_⟩) fun f => ?_
    · show X.A.units + 3 + 64 < cLine
      omega
    · obtain ⟨z1, z2⟩ := hcl y k hy
      exact ⟨z1, (gl y z2).1, (gl y z2).2⟩
    · have z := List.all_eq_true.mp hq q hq2
      unfold excN at z
      rw [he] at z
      simp only [Bool.and_eq_true, Bool.not_eq_true'] at z
      exact ⟨eq_of_beq z.1.1.1, eq_of_beq z.1.1.2, z.1.2, z.2⟩
    · obtain ⟨N1, rest⟩ := S
      cases Ng with
      | nil => cases hN
      | cons y ys => rfl
/-! ### the classes -/
/-- names of classes: x at place k; whom a clause takes -/
def clsB (K : Frag) (cl : List Str) (fld : Nat → Str) (ex : Nat → Nat → Bool) : Bool := cl.zipIdx.all fun (x, k) => decide (nsIn K mainGlobals x = some (some (.ref (He.ga K x)))) && xfB K (He.ga K x) && decide (findIn K (.ref (He.ga K x)) (fld k) = some none) &&
  (keepIn K (.ref (He.ga K x)) && decide (subIn K (.ref (He.ga K x)) (.type "BaseException") = some true) && decide (typeIn K (.ref (He.ga K x)) = some (.type "type"))) && cl.zipIdx.all fun (y, j) => decide (exmOne K (.ref (He.ga K y)) (.ref (He.ga K x)) = some (ex j k))
def tabN (K : Frag) (l : List Str) (j : Nat) : Option Addr := (l[j]?).map (He.ga K)
theorem cls_of {cl : List Str} {x : Str} {k : Nat} (KX : K.In h) (G : h.Ns mainGlobals mg) (hc : clsB K cl c.fld c.ex = true) (hT : c.T.cl = tabN K cl) (hx : cl[k]? = some x) : ClsFact c K mg x k ∧ mg x = some (.ref (He.ga K x)) ∧ c.T.cl k = some (He.ga K x) ∧ ExcFact K (He.ga K x) := by
  have mem : ∀ {j : Nat} {y : Str}, cl[j]? = some y → (y, j) ∈ cl.zipIdx := fun {j y} z => List.mk_mem_zipIdx_iff_getElem?.mpr z
  have z := List.all_eq_true.mp hc _ (mem hx)
  simp only [Bool.and_eq_true, decide_eq_true_eq] at z
  obtain ⟨⟨⟨⟨z1, z2⟩, z3⟩, ⟨z4, z5⟩, z6⟩, z7⟩ := z
  have m := PySem.W.mg_of KX G z1
  have e : c.T.cl k = some (He.ga K x) := by rw [hT]; unfold tabN; rw [hx]; rfl
  refine ⟨⟨_, e, m, xfB_ok z2, z3, fun j D hj => ?_⟩, m, e, z4, z5, z6⟩
  rw [hT] at hj
  unfold tabN at hj
  cases q : cl[j]? with
  | none => rw [q] at hj; cases hj
  | some y =>
    rw [q] at hj
    cases hj
    have := List.all_eq_true.mp z7 _ (mem q)
    exact of_decide_eq_true this
/-! ### a def's own table -/
def tbsOf (K : Frag) (tf : List (He.Defn × Str)) : List (Addr × Str) := tf.map fun p => ((He.cT K p.1).2, p.2)
def apart (K : Frag) (tf : List He.Defn) : Bool := decide (tf.map fun p => (He.cT K p).2).Nodup
theorem nodup_key {α β γ : Type} {f : α → β} {g : α → γ} : ∀ {l : List α}, (l.map f).Nodup → ∀ {a b : α}, a ∈ l → b ∈ l → f a = f b → a = b
  | [], _, a, _, ha, _, _ => nomatch ha
  | x :: l, h, a, b, ha, hb, e => by
    rw [List.map_cons, List.nodup_cons] at h
    rcases List.mem_cons.mp ha with z1 | h1
    · rcases List.mem_cons.mp hb with z2 | h2
      · rw [z1, z2]
      · exact absurd (List.mem_map.mpr ⟨b, h2, by rw [← e, z1]⟩) h.1
    · rcases List.mem_cons.mp hb with z2 | h2
      · exact absurd (List.mem_map.mpr ⟨a, h1, by rw [e, z2]⟩) h.1
      · exact nodup_key (g := g) h.2 h1 h2 e
theorem lam_of {tf : List (He.Defn × Str)} {p : He.Defn} {q : Str} {nm qual : Str} {params : Arguments} {body : List Stmt} {sc : Scope} {fd : FuncData} (hT : c.tbs = tbsOf K tf) (hp : (p, q) ∈ tf) (ha : apart K (tf.map (·.1)) = true) (F : FunD K nm qual params body sc [] [] (He.fAd K p) fd)
    (tb : ∀ p ∈ (tf.map (·.1)).map (He.cT K), TabB base mg p.1 p.2) : LamOk c mg base fd q := by
  obtain ⟨oc, od, dV, kV, doc, pm, an, cdv, ct, osl, rfl, lk, hcd, _, _⟩ := F.ex
  obtain ⟨cA, rfl⟩ := He.codeIn_ref hcd
  have e : He.codeOf K p = cA := He.codeOf_eq lk rfl
  have hm : He.cT K p ∈ (tf.map (·.1)).map (He.cT K) := List.mem_map.mpr ⟨p, List.mem_map.mpr ⟨(p, q), hp, rfl⟩, rfl⟩
  have t := tb _ hm
  refine ⟨cA, (He.cT K p).2, rfl, ?_, ?_, fun r hr er => ?_⟩
  · have : (He.cT K p).1 = cA := e
    rw [← this]; exact t
  · rw [hT]; exact List.mem_map.mpr ⟨(p, q), hp, rfl⟩
  · rw [hT] at hr
    obtain ⟨s, hs, rfl⟩ := List.mem_map.mp hr
    have nd : (tf.map fun p => (He.cT K p.1).2).Nodup := by
      have := of_decide_eq_true ha
      rw [List.map_map] at this
      exact this
    have := nodup_key (g := fun p => p.2) (f := fun p : He.Defn × Str => (He.cT K p.1).2) nd hs hp er
    rw [this]
theorem tabs_start {tf : List (He.Defn × Str)} {H : Hp} (hT : c.tbs = tbsOf K tf) (h : ∀ p ∈ (tf.map (·.1)).map (He.cT K), H p.2 = some (.tbl #[])) : Tabs c.tbs H := fun r hr => by
  rw [hT] at hr
  obtain ⟨s, hs, rfl⟩ := List.mem_map.mp hr
  exact ⟨#[], h _ (List.mem_map.mpr ⟨s.1, List.mem_map.mpr ⟨s, hs, rfl⟩, rfl⟩), trivial, fun pos cv z => by cases z⟩
end
/-! ### the row -/
theorem walk_g {l : PySem.W.OpenLaw} {n k : Nat} {q : Program} {loose : List Str} {XP : (Str → Option Value) → Heap → Prop} {YP : World → Heap → Prop} {d : DefRec} {x : Str} (hn : l.most = some n) (hn2 : n ≤ sizeLine) (hdf : d.params.defaults = []) (hr : Room k callerA)
    (F : ∀ (w : World) (mg : Str → Option Value) (fa : Addr) (h : Heap), YP w h → h.Ns mainGlobals mg → mg d.name = some (.ref fa) → ∃ (K : Frag) (fd : FuncData) (cs : List (Addr × Addr)) (sp : Sp), K.In h ∧ (∀ p ∈ cs, h.get? p.2 = some objT) ∧ (∀ p ∈ cs, K.lookup p.2 = none) ∧
      (∀ p ∈ cs, PySem.W.CodeHd h p.1 p.2) ∧ (∀ (s : Shared) (v : Value), BindsTo s fd ⟨[v], []⟩ [(x, v)]) ∧
      (∀ (H : Hp) (a : Addr) (ns : List Int), ns.length ≤ n → (∀ p ∈ cs, H p.2 = some (.tbl #[])) → SqL K H a (ns.map V.int) → ∀ E : XK, (∀ c d H', ¬ E c d H') → sp [.ref a] H (fun v _ => v = .bl true) E) ∧
      ∀ B : Heap, K.In B → B.Ns mainGlobals mg → (∀ p ∈ cs, TabB B mg p.1 p.2) → FnG l.prog w K mg B k fa fd [x] sp) :
    PySem.W.WalkO q loose XP YP l.row.toRowW d [] (fun f vs => PySem.call f vs) := by
  refine Att.attach_callB hn hdf fun w s0 s mg mb fa o pm cd doc a vs ns G Y ho hd hcd hmg hobj hints hlen _ hg => ?_
  obtain ⟨K, fd, cs, sp, KX, t1, t2, t3, hb, hsp, hF⟩ := F w mg fa _ Y G.T.g hmg
  exact law_g KX G.T.g G.T.b G.T.builtins G.T.nolimit hg t1 t2 t3 G.T.bmain hobj hints (Nat.le_trans hlen hn2) hr hF hb fun H hH hS => hsp H a ns hlen hH hS
end Qs
/-! # Short forms for the printed texts -/
namespace Qs
open PySem PySem.Spec PyProof.Rows L2 LamX
open PySem.W (Frag keepIn subIn typeIn findIn nsIn exmOne)
section
variable {c : Cst} {P : Program} {w : World} {K : Frag} {mg : Str → Option Value} {base h : Heap} {k j : Nat} {cl : List Str} {x : Str}
/-- a tuple of the top -/
def dvW : W → Option He.Dv
  | .int i => some (.int i)
  | .str s => some (.str (mkS s))
  | _ => none
def dvs : List W → Option (List He.Dv)
  | [] => some []
  | w :: ws => (dvW w).bind fun d => (dvs ws).map fun ds => d :: ds
def ctupB (K : Frag) (x : Str) (ws : List W) : Bool := decide (nsIn K mainGlobals x = some (some (.ref (He.ga K x)))) && (match dvs ws with
  | some ds => He.tupB K x ds
  | none => false)
theorem dvs_reps {T : Tab} {P : Addr → Prop} {H : Hp} : ∀ {ws : List W} {ds : List He.Dv}, dvs ws = some ds → Reps T K P H ws (ds.map (He.Dv.v K))
  | [], ds, h => by cases h; exact Reps.nil
  | w :: ws, ds, h => by
    unfold dvs at h
    cases h1 : dvW w with
    | none => rw [h1] at h; cases h
    | some d =>
      cases h2 : dvs ws with
      | none => rw [h1, h2] at h; cases h
      | some ds' =>
        rw [h1, h2] at h
        cases h
        refine Reps.cons ?_ (dvs_reps h2)
        unfold dvW at h1
        split at h1
        · cases h1; unfold Rep; rfl
        · cases h1; unfold Rep; rfl
        · cases h1
theorem gok_tup {ws : List W} (hK : K = c.K) (KX : K.In h) (G : h.Ns mainGlobals mg) (hb : ctupB K x ws = true) : GOk c k P w K mg base x (.con (.tup ws)) := by
  subst hK
  unfold ctupB at hb
  rw [Bool.and_eq_true, decide_eq_true_eq] at hb
  obtain ⟨h1, h2⟩ := hb
  split at h2
  · rename_i ds hd
    refine ⟨.ref (He.ga c.K x), .ref (He.ga c.K x), PySem.W.mg_of KX G h1, rfl, fun P H => ?_⟩
    unfold Rep
    exact ⟨_, _, rfl, He.tupB_ok h2 H, dvs_reps hd⟩
  · cases h2
theorem gok_exc0 (KX : K.In h) (G : h.Ns mainGlobals mg) (hc : clsB K cl c.fld c.ex = true) (hT : c.T.cl = tabN K cl) (hx : cl[j]? = some x) (e : (He.Fa.exc x).ok K = true) : GOk c k P w K mg base x (.exc0 j) := by
  obtain ⟨h1, h2, h3, h4⟩ := cls_of KX G hc hT hx
  exact ⟨h1, _, h3, h2, h4, (He.exc_ok e).1⟩
theorem gok_exc1 {B newId initId : String} {bm : List Value} {fI : Addr} {sf gv : Str} (KX : K.In h) (G : h.Ns mainGlobals mg) (hc : clsB K cl c.fld c.ex = true) (hT : c.T.cl = tabN K cl) (hx : cl[j]? = some x)
    (s : PySem.Qx.SupC P K (He.ga K x) fI B newId initId bm (c.fld j) sf gv) : GOk c k P w K mg base x (.exc1 j) := by
  obtain ⟨h1, h2, h3, h4⟩ := cls_of KX G hc hT hx
  exact ⟨h1, _, fI, B, newId, initId, bm, sf, gv, h3, h2, h4, s⟩
theorem gok_met {L : List (Str × Nat)} {a : Str} {params : Arguments} {body : List Stmt} {sc : Scope} {f : Addr} {fd : FuncData} {Ng : List Str} {qs : List HC} {wf : W} {M : Met} (KX : K.In h) (G : h.Ns mainGlobals mg) (hK : K = c.K) (hc : clsB K cl c.fld c.ex = true) (hT : c.T.cl = tabN K cl)
    (F : FunD K x x params body sc [] [] f fd) (hm : mg x = some (.ref f)) (hb : Binds K fd [a] []) (S : FnScope Ng [a] sc) (hr : mg "repr" = none)
    (hL : (L.all fun p => (cl[p.2]? == some p.1) && nameB sc p.1 && (L.lookup p.1 == some p.2)) = true) (t : metA (fun y => L.lookup y) c.fld body = some (a, qs, wf))
    (hn : ((Ng[0]? == some a) && !(a == ("__debug__" : Str)) && !(a == ("__classdict__" : Str)) && finF wf && (nameB sc "repr" || qs.all fun q => !(q.2.2.any HI.reps)) && qs.all (excN Ng sc) && qs.all fun q => L.any fun p => p.2 == q.1) = true) (eM : M = ⟨qs.map fun q => (q.1, q.2.2), wf⟩) : GOk c k P w K mg base x (.met M) := by
  subst eM
  simp only [Bool.and_eq_true, Bool.not_eq_true'] at hn
  obtain ⟨⟨⟨⟨⟨⟨n1, n2⟩, n3⟩, n4⟩, n5⟩, n6⟩, n7⟩ := hn
  have all : ∀ p ∈ L, cl[p.2]? = some p.1 ∧ nameB sc p.1 = true ∧ L.lookup p.1 = some p.2 := fun p hp => by
    have z := List.all_eq_true.mp hL p hp
    simp only [Bool.and_eq_true] at z
    exact ⟨eq_of_beq z.1.1, z.1.2, eq_of_beq z.2⟩
  refine met_fact hK F hm hb S (eq_of_beq n1) t ⟨n2, n3⟩ n4 (fun y i hy => ?_) hr (fun q hq z => by
    rcases (Bool.or_eq_true _ _).mp n5 with m | m
    · exact m
    · have := List.all_eq_true.mp m q hq
      rw [z] at this; cases this) n6 fun q hq => ?_
  · obtain ⟨z1, z2, _⟩ := all (y, i) (PySem.mem_of_lookup hy)
    exact ⟨(cls_of KX G hc hT z1).1, z2⟩
  · have z := List.all_eq_true.mp n7 q hq
    obtain ⟨p, hp, e⟩ := List.any_eq_true.mp z
    refine ⟨p.1, ?_⟩
    rw [← eq_of_beq e]
    exact (all p hp).2.2
end
end Qs
/-! # What is looked at of the classes of the text -/
namespace Qs
open PySem PySem.Spec PyProof.Rows L2 He
open PySem.W (Frag keepIn subIn typeIn findIn nsIn codeIn plainGet isClsIn plainOver specialIn takesIn slotIn recIn mroIn kitOne makesIn isFn)
/-- the class at C: slots, __class__, made by its __init__ -/
def icA (K : Frag) (C : Addr) : Bool :=
  (plainGet K C Str.empty && isClsIn K C && plainOver K C && He.eqO (findIn K (.ref C) "__setattr__") (some (some (.builtin "object.__setattr__")))) &&
  (He.eqO (findIn K (.ref C) "__class__") (some (some (.builtin "object.__class__"))) && He.eqO (specialIn K (.builtin "object.__class__") "__get__") (some (some (.builtin "getset_descriptor.__get__"))) && decide (takesIn K (.builtin "object.__class__") = some true) && decide (mroIn K C (.type "object") = some true)) &&
  (makesIn K C && He.eqO (findIn K (.ref C) "__init__") (some (some (.ref (ma K C "__init__")))) && isFn K (.ref (ma K C "__init__")) && keepIn K (.ref C)) &&
  tys7.all fun t => decide (kitOne K (.type t) (.ref C) = some false)
def icB (K : Frag) (l : List Str) : Bool := l.zipIdx.all fun (x, j) => icA K (ga K x) && He.eqO (nsIn K mainGlobals x) (some (some (.ref (ga K x)))) && l.zipIdx.all fun (y, i) => decide (kitOne K (.ref (ga K y)) (.ref (ga K x)) = some (i == j))
def slB (K : Frag) (C : Addr) (q : Str × Nat) : Bool :=
  He.eqO (findIn K (.ref C) q.1) (some (some (.ref (ma K C q.1)))) && He.eqO (specialIn K (.ref (ma K C q.1)) "__get__") (some (some (.builtin "member_descriptor.__get__"))) && decide (takesIn K (.ref (ma K C q.1)) = some true) &&
  decide (typeIn K (.ref (ma K C q.1)) = some (.type "member_descriptor")) && decide (slotIn K (ma K C q.1) C = some q.2) && decide (q.2 < 1000)
def prB (K : Frag) (C : Addr) (f : Str) : Bool :=
  He.eqO (findIn K (.ref C) f) (some (some (.ref (ma K C f)))) && He.eqO (specialIn K (.ref (ma K C f)) "__get__") (some (some (.builtin "property.__get__"))) && decide (takesIn K (.ref (ma K C f)) = some true) && match recIn K (ma K C f) "property" with
    | some (.ref g :: _) => decide (g = prG K C f)
    | _ => false
def mtB (K : Frag) (C : Addr) (f : Str) : Bool := He.eqO (findIn K (.ref C) f) (some (some (.ref (ma K C f)))) && isFn K (.ref (ma K C f)) && decide (prG K C f = ma K C f)
def fdB (K : Frag) (a : Addr) : Bool := keepIn K (.ref a) && match K.lookup a with
  | some ⟨_, _, .func fd, _⟩ => isNone fd.defaults && codeIn K fd.code fd.qualname && fd.closure.isEmpty
  | _ => false
/-- no class of these ends an iterator -/
def stopB (K : Frag) (l : List Str) : Bool := l.all fun x => decide (subIn K (.ref (ga K x)) (.type "StopIteration") = some false)
theorem stop_of {K : Frag} {l : List Str} {t : Nat → Option Addr} (b : stopB K l = true) (hT : t = tabN K l) : ∀ j C, t j = some C → subIn K (.ref C) (.type "StopIteration") = some false := fun j C h => by
  rw [hT] at h
  unfold tabN at h
  cases q : l[j]? with
  | none => rw [q] at h; cases h
  | some x =>
    rw [q] at h
    cases h
    exact of_decide_eq_true (List.all_eq_true.mp b x (List.mem_of_getElem? q))
section
variable {K : Frag} {C : Addr} {l : List Str} {x : Str} {j : Nat} {h : Heap} {mg : Str → Option Value}
structure IcOk (K : Frag) (C : Addr) : Prop where
  sc : L2.SCls K C
  si : SlX.SIsi K C
  made : L2.Mk K C (ma K C "__init__")
  kt : ∀ t ∈ tys7, kitOne K (.type t) (.ref C) = some false
theorem icA_ok (b : icA K C = true) : IcOk K C := by
  unfold icA at b
  simp only [Bool.and_eq_true, List.all_eq_true, decide_eq_true_eq] at b
  obtain ⟨⟨⟨⟨⟨⟨a1, a2⟩, a3⟩, a4⟩, ⟨⟨⟨b1, b2⟩, b3⟩, b4⟩⟩, ⟨⟨c1, c2⟩, c3⟩, c4⟩, d⟩ := b
  exact ⟨⟨a1, a2, a3, He.eqO_ok a4⟩, ⟨He.eqO_ok b1, He.eqO_ok b2, b3, b4⟩, ⟨c1, He.eqO_ok c2, c3, c4⟩, d⟩
theorem ic_of {c : Cst} (KX : K.In h) (G : h.Ns mainGlobals mg) (b : icB K l = true) (hT : c.T.ic = tabN K l) (hx : l[j]? = some x) : IcOk K (ga K x) ∧ mg x = some (.ref (ga K x)) ∧ c.T.ic j = some (ga K x) ∧ IsiF c K j (ga K x) := by
  have mem : ∀ {j : Nat} {y : Str}, l[j]? = some y → (y, j) ∈ l.zipIdx := fun {j y} z => List.mk_mem_zipIdx_iff_getElem?.mpr z
  have one : ∀ {j : Nat} {y : Str}, l[j]? = some y → icA K (ga K y) = true ∧ He.eqO (nsIn K mainGlobals y) (some (some (.ref (ga K y)))) = true ∧ (l.zipIdx.all fun (z, i) => decide (kitOne K (.ref (ga K z)) (.ref (ga K y)) = some (i == j))) = true := fun {j y} z => by
    have z := List.all_eq_true.mp b _ (mem z)
    simp only [Bool.and_eq_true] at z
    exact ⟨z.1.1, z.1.2, z.2⟩
  obtain ⟨z1, z2, z3⟩ := one hx
  have I := icA_ok z1
  have e : ∀ {i : Nat} {y : Str}, l[i]? = some y → c.T.ic i = some (ga K y) := fun {i y} q => by rw [hT]; unfold tabN; rw [q]; rfl
  refine ⟨I, PySem.W.mg_of KX G (He.eqO_ok z2), e hx, e hx, I.kt, fun i D hi => ?_⟩
  cases q : l[i]? with
  | none => rw [hT] at hi; unfold tabN at hi; rw [q] at hi; cases hi
  | some y =>
    rw [e q] at hi
    cases hi
    have I2 := icA_ok (one q).1
    have := List.all_eq_true.mp z3 _ (mem q)
    exact ⟨I2.sc, I2.si, of_decide_eq_true this⟩
theorem sl_ok {pl : List (Str × Nat)} (b : pl.all (slB K C) = true) : ∀ q ∈ pl, ∃ p, L2.Slt K C q.1 q.2 p := fun q hq => by
  have z := List.all_eq_true.mp b q hq
  unfold slB at z
  simp only [Bool.and_eq_true, decide_eq_true_eq] at z
  obtain ⟨⟨⟨⟨⟨z1, z2⟩, z3⟩, z4⟩, z5⟩, z6⟩ := z
  exact ⟨_, He.eqO_ok z1, He.eqO_ok z2, z3, z5, z4, z6⟩
theorem pr_ok {f : Str} (b : prB K C f = true) : PropF K C f (ma K C f) (prG K C f) := by
  unfold prB at b
  simp only [Bool.and_eq_true, decide_eq_true_eq] at b
  obtain ⟨⟨⟨z1, z2⟩, z3⟩, z4⟩ := b
  refine ⟨He.eqO_ok z1, He.eqO_ok z2, z3, ?_⟩
  split at z4
  · rename_i g rest e
    rw [e, of_decide_eq_true z4]
    exact ⟨rest, rfl⟩
  · cases z4
theorem fd_ok {c : ClD} {a : Addr} (e : initV K a = c.val) (b : fdB K a = true) : ∃ fd, FunD K c.name c.qual c.params c.body c.scope [] [] a fd := by
  unfold fdB at b
  rw [Bool.and_eq_true] at b
  obtain ⟨kp, b⟩ := b
  unfold initV at e
  split at b
  · rename_i oc od fd osl hk
    rw [hk] at e
    obtain ⟨n1, n2, n3, n4, n5, n6, n7, n8, n9, n10, n11, n12, n13, n14, n15⟩ := fd
    have e2 : (some (n1, n2, n3, n4, n5, n6, n15) : InitV) = some (c.name, c.qual, c.params, .stmts c.body, c.scope, mainGlobals, builtinsNs) := e
    simp only [Option.some.injEq, Prod.mk.injEq] at e2
    obtain ⟨rfl, rfl, rfl, rfl, rfl, rfl, rfl⟩ := e2
    simp only [Bool.and_eq_true] at b
    obtain ⟨⟨b1, b2⟩, b3⟩ := b
    obtain rfl := isNone_ok b1
    have b3 : n7 = [] := by simpa using b3
    subst b3
    exact ⟨_, ⟨oc, od, .none, n9, n10, n11, n12, n13, n14, osl, rfl, hk, b2, .inl ⟨rfl, rfl⟩, .inl rfl⟩, kp⟩
  · cases b
end
/-! ### short forms -/
section
variable {c : Cst} {P : Program} {w : World} {K : Frag} {mg : Str → Option Value} {base h : Heap} {k j n : Nat} {l : List Str} {x : Str}
theorem gok_cls {fd : FuncData} {ps : List Str} {m : S → Res W} (hK : K = c.K) (KX : K.In h) (G : h.Ns mainGlobals mg) (b : icB K l = true) (hT : c.T.ic = tabN K l) (hx : l[j]? = some x)
    (F : FnOk P w K mg base (L2.CX P w) k (fAd K (x, some "__init__")) fd ps (spI c (ga K x) n m)) (hb : Binds K fd ps []) : GOk c (k + 1) P w K mg base x (.cls j n m) := by
  obtain ⟨I, h1, h2, h3⟩ := ic_of KX G b hT hx
  exact ⟨_, _, fd, ps, k, Nat.lt_succ_self k, h2, I.made, F, h1, hb, h3⟩
theorem at_slot {pl : List (Str × Nat)} {f : Str} {i : Nat} (KX : K.In h) (G : h.Ns mainGlobals mg) (b : icB K l = true) (hT : c.T.ic = tabN K l) (hx : l[j]? = some x) (hs : pl.all (slB K (ga K x)) = true) (hf : (f, i) ∈ pl) : AtOk c k P w K mg base f j (.slot i) := by
  obtain ⟨I, h1, h2, h3⟩ := ic_of KX G b hT hx
  obtain ⟨p, q⟩ := sl_ok hs _ hf
  exact ⟨_, p, h2, I.sc, q⟩
theorem at_meth {f : Str} {m : SE} (KX : K.In h) (G : h.Ns mainGlobals mg) (b : icB K l = true) (hT : c.T.ic = tabN K l) (hx : l[j]? = some x) (hp : mtB K (ga K x) f = true) (F : FnR P w K mg base CX0 k (prG K (ga K x) f) (spC c 2 m)) : AtOk c (k + 1) P w K mg base f j (.meth m) := by
  obtain ⟨I, h1, h2, h3⟩ := ic_of KX G b hT hx
  unfold mtB at hp
  simp only [Bool.and_eq_true, decide_eq_true_eq] at hp
  obtain ⟨⟨z1, z2⟩, z3⟩ := hp
  exact ⟨_, _, k, Nat.lt_succ_self k, h2, I.sc, He.eqO_ok z1, z2, z3 ▸ F⟩
theorem at_prop {f : Str} {m : SE} (KX : K.In h) (G : h.Ns mainGlobals mg) (b : icB K l = true) (hT : c.T.ic = tabN K l) (hx : l[j]? = some x) (hp : prB K (ga K x) f = true) (F : FnR P w K mg base CX0 k (prG K (ga K x) f) (spC c 1 m)) : AtOk c (k + 1) P w K mg base f j (.prop m) := by
  obtain ⟨I, h1, h2, h3⟩ := ic_of KX G b hT hx
  exact ⟨_, _, _, k, Nat.lt_succ_self k, h2, I.sc, pr_ok hp, F⟩
end
end Qs
/-! # k21: the text's mirrors (printed by gene.py) -/
namespace Zk21
open PySem PySem.Spec PyProof.Rows L2 Qs
abbrev Pr : Program := PySem.Challenge.pw_hookstrips_k21_whole_one_word_for_each_r
def top (i : Nat) : Stmt := PySem.Challenge.pw_hookstrips_k21_whole_one_word_for_each_r.main.body.getD i (.Pass ⟨0, 0, 0, 0⟩)
def mth (i j : Nat) : Stmt := match top i with
  | .ClassDef (body := b) .. => b.getD j (.Pass ⟨0, 0, 0, 0⟩)
  | s => s
def clN : List Str := ["InvalidRow", "TooMany", "InvalidWord"]
def fnN : List Str := (["are_falling", "is_integer", "is_within", "is_row_in", "require_row", "often_in", "row_of_often", "lowered_in", "rows_down", "short_word", "word_of", "_law_roll", "_law_rows_of", "_law_words_of", "is_word_in", "require_word", "raised_in", "row_of_word_in", "row_of_word", "_law_often"] : List Str) ++ (["heights_in", "drop_in", "drop_of", "depth_of", "size_of", "_law_right", "_law_dice"] : List Str)
def fldL : List Str := ["limit", "limit", "limit"]
def fld0 (k : Nat) : Str := fldL.getD k ""
def exL : List (List Bool) := [[true, false, false], [false, true, false], [false, false, true]]
def ex0 (j k : Nat) : Bool := (exL.getD j []).getD k false
def c_TooMany : ClD := ⟨"TooMany", "OverflowError", "OverflowError.__new__", "OverflowError.__init__", [.type "OverflowError", .type "ArithmeticError", .type "Exception", .type "BaseException", .type "object"], "__init__", "TooMany.__init__", defArgs (mth 4 0), defBody (mth 4 0), defScope (mth 4 0), none⟩
def icN : List Str := []
def tf : List (He.Defn × Str) := [((("law" : Str), none), "law.<locals>.<lambda>")]
abbrev tfD : List He.Defn := tf.map (·.1)
def tab_0 : List (Str × GK) := ("abs", .blt) :: ("all", .blt) :: ("bool", .blt) :: ("int", .blt) :: ("isinstance", .blt) :: ("len", .blt) :: ("max", .blt) :: ("min", .blt) :: ("range", .blt) :: ("repr", .blt) :: ("set", .blt) :: ("sorted", .blt) :: ("str", .blt) :: ("sum", .blt) :: ("tuple", .blt) :: ("zip", .blt) :: ("LONGEST", .con (.int 1000000000000000000000000000000000000000000000000000000000000)) :: ("MAX_PARTS", .con (.int 60)) :: ("MAX_PART", .con (.int 200)) :: ("MOST_LETTERS", .con (.int 400)) :: ("UP", .con (.str [97])) :: ("DOWN", .con (.str [98])) :: ("LETTERS", .con (.tup [.str [97], .str [98]])) :: ("InvalidRow", .exc0 0) :: ("TooMany", .exc1 1) :: ("InvalidWord", .exc0 2) :: []
def at_0 : List (Str × Nat × AK) := []
def c_are_falling_1_e : SE := (eCmp .GtE (eVar 1) (eVar 2))
def c_are_falling_1 : SE := eLc (iArgs zipW [(eVar 0), (eSl (eVar 0) (some (eCst (.int 1))) none)]) (gTupW [(asgN 1), (asgN 2)]) (blE true) c_are_falling_1_e [1, 2]
def b_are_falling : SS := (sSeq (sRet (eFn all2W [c_are_falling_1])) sNil)
def m_are_falling : SE := callM 3 b_are_falling
def D_are_falling : De := { N := ["values", "one", "other"], sc := defScope (top 12), blk := none, tab := tab_0, g := false, ex := ex0, ats := at_0 }
theorem e_are_falling : callM D_are_falling.N.length (blockD (den 60) D_are_falling (defBody (top 12))) = m_are_falling := by kernel_rfl
theorem s_are_falling : FnScope D_are_falling.N ["values"] D_are_falling.sc := ⟨by kernel_rfl, by kernel_rfl, by kernel_rfl, by decide +kernel, by kernel_rfl, by decide +kernel, by decide +kernel⟩
def tab_1 : List (Str × GK) := ("are_falling", .fn 1 m_are_falling 0) :: tab_0
def at_1 : List (Str × Nat × AK) := at_0
def d_are_falling : He.DefD := ⟨("are_falling", none), "are_falling", "are_falling", defArgs (top 12), defBody (top 12), defScope (top 12), [], []⟩
def b_is_integer : SS := (sSeq (sRet (boolL .And [(eFn isiW [(eVar 0), (eCst (.ty "int"))]), (eNot (eFn isiW [(eVar 0), (eCst (.ty "bool"))])), (eCmp2 .Lt .Lt (eNeg (eCst (.int 1000000000000000000000000000000000000000000000000000000000000))) (eVar 0) (eCst (.int 1000000000000000000000000000000000000000000000000000000000000)))])) sNil)
def m_is_integer : SE := callM 1 b_is_integer
def D_is_integer : De := { N := ["value"], sc := defScope (top 7), blk := none, tab := tab_1, g := false, ex := ex0, ats := at_1 }
theorem e_is_integer : callM D_is_integer.N.length (blockD (den 60) D_is_integer (defBody (top 7))) = m_is_integer := by kernel_rfl
theorem s_is_integer : FnScope D_is_integer.N ["value"] D_is_integer.sc := ⟨by kernel_rfl, by kernel_rfl, by kernel_rfl, by decide +kernel, by kernel_rfl, by decide +kernel, by decide +kernel⟩
def tab_2 : List (Str × GK) := ("is_integer", .fn 1 m_is_integer 1) :: tab_1
def at_2 : List (Str × Nat × AK) := at_1
def d_is_integer : He.DefD := ⟨("is_integer", none), "is_integer", "is_integer", defArgs (top 7), defBody (top 7), defScope (top 7), [], []⟩
def b_is_within : SS := (sSeq (sRet (boolL .And [(eCallX m_is_integer (eVar 0)), (eCmp2 .LtE .LtE (eVar 1) (eVar 0) (eVar 2))])) sNil)
def m_is_within : SE := callM 3 b_is_within
def D_is_within : De := { N := ["value", "least", "most"], sc := defScope (top 8), blk := none, tab := tab_2, g := false, ex := ex0, ats := at_2 }
theorem e_is_within : callM D_is_within.N.length (blockD (den 60) D_is_within (defBody (top 8))) = m_is_within := by kernel_rfl
theorem s_is_within : FnScope D_is_within.N ["value", "least", "most"] D_is_within.sc := ⟨by kernel_rfl, by kernel_rfl, by kernel_rfl, by decide +kernel, by kernel_rfl, by decide +kernel, by decide +kernel⟩
def tab_3 : List (Str × GK) := ("is_within", .fn 3 m_is_within 2) :: tab_2
def at_3 : List (Str × Nat × AK) := at_2
def d_is_within : He.DefD := ⟨("is_within", none), "is_within", "is_within", defArgs (top 8), defBody (top 8), defScope (top 8), [], []⟩
def c_is_row_in_1_e : SE := (eCall m_is_within [(eVar 1), (eCst (.int 1)), (eCst (.int 200))])
def c_is_row_in_1 : SE := eLc (iVal (eVar 0)) (asgN 1) (blE true) c_is_row_in_1_e [1]
def b_is_row_in : SS := (sSeq (sIf (boolL .Or [(eNot (eFn isiW [(eVar 0), (eCst (.ty "tuple"))])), (eCmp .Gt (eFn lenW [(eVar 0)]) (eCst (.int 60)))]) (sSeq (sRet (eCst (.bl false))) sNil) sNil) (sSeq (sRet (boolL .And [(eFn all2W [c_is_row_in_1]), (eCallX m_are_falling (eVar 0))])) sNil))
def m_is_row_in : SE := callM 2 b_is_row_in
def D_is_row_in : De := { N := ["value", "part"], sc := defScope (top 13), blk := none, tab := tab_3, g := false, ex := ex0, ats := at_3 }
theorem e_is_row_in : callM D_is_row_in.N.length (blockD (den 60) D_is_row_in (defBody (top 13))) = m_is_row_in := by kernel_rfl
theorem s_is_row_in : FnScope D_is_row_in.N ["value"] D_is_row_in.sc := ⟨by kernel_rfl, by kernel_rfl, by kernel_rfl, by decide +kernel, by kernel_rfl, by decide +kernel, by decide +kernel⟩
def tab_4 : List (Str × GK) := ("is_row_in", .fn 1 m_is_row_in 3) :: tab_3
def at_4 : List (Str × Nat × AK) := at_3
def d_is_row_in : He.DefD := ⟨("is_row_in", none), "is_row_in", "is_row_in", defArgs (top 13), defBody (top 13), defScope (top 13), [], []⟩
def b_require_row : SS := (sSeq (sIf (eNot (eCallX m_is_row_in (eVar 0))) (sSeq (sRaise0 0) sNil) sNil) sNil)
def m_require_row : SE := callM 1 b_require_row
def D_require_row : De := { N := ["value"], sc := defScope (top 14), blk := none, tab := tab_4, g := false, ex := ex0, ats := at_4 }
theorem e_require_row : callM D_require_row.N.length (blockD (den 60) D_require_row (defBody (top 14))) = m_require_row := by kernel_rfl
theorem s_require_row : FnScope D_require_row.N ["value"] D_require_row.sc := ⟨by kernel_rfl, by kernel_rfl, by kernel_rfl, by decide +kernel, by kernel_rfl, by decide +kernel, by decide +kernel⟩
def tab_5 : List (Str × GK) := ("require_row", .fn 1 m_require_row 4) :: tab_4
def at_5 : List (Str × Nat × AK) := at_4
def d_require_row : He.DefD := ⟨("require_row", none), "require_row", "require_row", defArgs (top 14), defBody (top 14), defScope (top 14), [], []⟩
def f_often_in_1 : SS := (sSeq (sAugIx .Add (eVar 1) (eVar 2) (eCst (.int 1))) sNil)
def b_often_in : SS := (sSeq (sAsg (eBin .Mult (eLst [(false, (eCst (.int 0)))]) (eBin .Add (eIf (eCmp .NotEq (eVar 0) (eTup [])) (eIx (eVar 0) (eCst (.int 0))) (eCst (.int 0))) (eCst (.int 1)))) (asgN 1)) (sSeq (sFor (iVal (eVar 0)) (asgN 2) f_often_in_1) (sSeq (sRet (eVar 1)) sNil)))
def m_often_in : SE := callM 3 b_often_in
def D_often_in : De := { N := ["row", "found", "part"], sc := defScope (top 15), blk := none, tab := tab_5, g := false, ex := ex0, ats := at_5 }
theorem e_often_in : callM D_often_in.N.length (blockD (den 60) D_often_in (defBody (top 15))) = m_often_in := by kernel_rfl
theorem s_often_in : FnScope D_often_in.N ["row"] D_often_in.sc := ⟨by kernel_rfl, by kernel_rfl, by kernel_rfl, by decide +kernel, by kernel_rfl, by decide +kernel, by decide +kernel⟩
def tab_6 : List (Str × GK) := ("often_in", .fn 1 m_often_in 5) :: tab_5
def at_6 : List (Str × Nat × AK) := at_5
def d_often_in : He.DefD := ⟨("often_in", none), "often_in", "often_in", defArgs (top 15), defBody (top 15), defScope (top 15), [], []⟩
def f_row_of_often_1 : SS := (sSeq (sExpr (eMut1 extW (eVar 1) (eBin .Mult (eLst [(false, (eVar 2))]) (eIx (eVar 0) (eVar 2))))) sNil)
def b_row_of_often : SS := (sSeq (sAsg (eLst []) (asgN 1)) (sSeq (sFor (iArgs rng3 [(eBin .Sub (eFn lenW [(eVar 0)]) (eCst (.int 1))), (eCst (.int 0)), (eNeg (eCst (.int 1)))]) (asgN 2) f_row_of_often_1) (sSeq (sRet (eFn tupW [(eVar 1)])) sNil)))
def m_row_of_often : SE := callM 3 b_row_of_often
def D_row_of_often : De := { N := ["often", "found", "part"], sc := defScope (top 24), blk := none, tab := tab_6, g := false, ex := ex0, ats := at_6 }
theorem e_row_of_often : callM D_row_of_often.N.length (blockD (den 60) D_row_of_often (defBody (top 24))) = m_row_of_often := by kernel_rfl
theorem s_row_of_often : FnScope D_row_of_often.N ["often"] D_row_of_often.sc := ⟨by kernel_rfl, by kernel_rfl, by kernel_rfl, by decide +kernel, by kernel_rfl, by decide +kernel, by decide +kernel⟩
def tab_7 : List (Str × GK) := ("row_of_often", .fn 1 m_row_of_often 6) :: tab_6
def at_7 : List (Str × Nat × AK) := at_6
def d_row_of_often : He.DefD := ⟨("row_of_often", none), "row_of_often", "row_of_often", defArgs (top 24), defBody (top 24), defScope (top 24), [], []⟩
def w_lowered_in_1 : SS := (sSeq (sIf (eCmp .Gt (eIx (eVar 1) (eVar 2)) (eCst (.int 0))) (sSeq (sAugIx .Sub (eVar 1) (eVar 2) (eCst (.int 1))) (sSeq (sAugIx .Add (eVar 1) (eBin .Sub (eVar 2) (eCst (.int 1))) (eCst (.int 1))) (sSeq (sAug .Sub 2 (eCst (.int 1))) sNil))) sNil) (sSeq (sAug .Sub 2 (eCst (.int 1))) sNil))
def b_lowered_in : SS := (sSeq (sAsg (eCallX m_often_in (eVar 0)) (asgN 1)) (sSeq (sAsg (eBin .Sub (eFn lenW [(eVar 1)]) (eCst (.int 1))) (asgN 2)) (sSeq (whileN (eCmp .Gt (eVar 2) (eCst (.int 0))) w_lowered_in_1 wFuel) (sSeq (sRet (eTup [(false, (eCallX m_row_of_often (eVar 1))), (false, (eIf (eCmp .Gt (eIx (eVar 1) (eCst (.int 0))) (eCst (.int 0))) (eCst (.str [98])) (eCst (.str [97]))))])) sNil))))
def m_lowered_in : SE := callM 3 b_lowered_in
def D_lowered_in : De := { N := ["row", "often", "part"], sc := defScope (top 25), blk := none, tab := tab_7, g := false, ex := ex0, ats := at_7 }
theorem e_lowered_in : callM D_lowered_in.N.length (blockD (den 60) D_lowered_in (defBody (top 25))) = m_lowered_in := by kernel_rfl
theorem s_lowered_in : FnScope D_lowered_in.N ["row"] D_lowered_in.sc := ⟨by kernel_rfl, by kernel_rfl, by kernel_rfl, by decide +kernel, by kernel_rfl, by decide +kernel, by decide +kernel⟩
def tab_8 : List (Str × GK) := ("lowered_in", .fn 1 m_lowered_in 7) :: tab_7
def at_8 : List (Str × Nat × AK) := at_7
def d_lowered_in : He.DefD := ⟨("lowered_in", none), "lowered_in", "lowered_in", defArgs (top 25), defBody (top 25), defScope (top 25), [], []⟩
def w_rows_down_1 : SS := (sSeq (sIf (eCmp .Eq (eFn lenW [(eVar 2)]) (eCst (.int 400))) (sSeq (sRaise1 1 (eCst (.int 400))) sNil) sNil) (sSeq (sAsg (eCall m_lowered_in [(eIx (eVar 1) (eNeg (eCst (.int 1))))]) (gTupW [(asgN 3), (asgN 4)])) (sSeq (sExpr (eMut1 appW (eVar 1) (eVar 3))) (sSeq (sAug .Add 2 (eVar 4)) sNil))))
def b_rows_down : SS := (sSeq (sPar [1, 2] [(eLst [(false, (eVar 0))]), (eCst (.str []))]) (sSeq (whileN (eCmp .NotEq (eIx (eVar 1) (eNeg (eCst (.int 1)))) (eTup [])) w_rows_down_1 wFuel) (sSeq (sRet (eTup [(false, (eVar 1)), (false, (eVar 2))])) sNil)))
def m_rows_down : SE := callM 5 b_rows_down
def D_rows_down : De := { N := ["row", "found", "letters", "here", "letter"], sc := defScope (top 27), blk := none, tab := tab_8, g := false, ex := ex0, ats := at_8 }
theorem e_rows_down : callM D_rows_down.N.length (blockD (den 60) D_rows_down (defBody (top 27))) = m_rows_down := by kernel_rfl
theorem s_rows_down : FnScope D_rows_down.N ["row"] D_rows_down.sc := ⟨by kernel_rfl, by kernel_rfl, by kernel_rfl, by decide +kernel, by kernel_rfl, by decide +kernel, by decide +kernel⟩
def tab_9 : List (Str × GK) := ("rows_down", .fn 1 m_rows_down 8) :: tab_8
def at_9 : List (Str × Nat × AK) := at_8
def d_rows_down : He.DefD := ⟨("rows_down", none), "rows_down", "rows_down", defArgs (top 27), defBody (top 27), defScope (top 27), [], []⟩
def b_short_word : SS := (sSeq (sRet (eIx (eCallX m_rows_down (eVar 0)) (eCst (.int 1)))) sNil)
def m_short_word : SE := callM 1 b_short_word
def D_short_word : De := { N := ["row"], sc := defScope (top 28), blk := none, tab := tab_9, g := false, ex := ex0, ats := at_9 }
theorem e_short_word : callM D_short_word.N.length (blockD (den 60) D_short_word (defBody (top 28))) = m_short_word := by kernel_rfl
theorem s_short_word : FnScope D_short_word.N ["row"] D_short_word.sc := ⟨by kernel_rfl, by kernel_rfl, by kernel_rfl, by decide +kernel, by kernel_rfl, by decide +kernel, by decide +kernel⟩
def tab_10 : List (Str × GK) := ("short_word", .fn 1 m_short_word 9) :: tab_9
def at_10 : List (Str × Nat × AK) := at_9
def d_short_word : He.DefD := ⟨("short_word", none), "short_word", "short_word", defArgs (top 28), defBody (top 28), defScope (top 28), [], []⟩
def b_word_of : SS := (sSeq (sExpr (eCallX m_require_row (eVar 0))) (sSeq (sRet (eCallX m_short_word (eVar 0))) sNil))
def m_word_of : SE := callM 1 b_word_of
def D_word_of : De := { N := ["row"], sc := defScope (top 32), blk := none, tab := tab_10, g := false, ex := ex0, ats := at_10 }
theorem e_word_of : callM D_word_of.N.length (blockD (den 60) D_word_of (defBody (top 32))) = m_word_of := by kernel_rfl
theorem s_word_of : FnScope D_word_of.N ["row"] D_word_of.sc := ⟨by kernel_rfl, by kernel_rfl, by kernel_rfl, by decide +kernel, by kernel_rfl, by decide +kernel, by decide +kernel⟩
def tab_11 : List (Str × GK) := ("word_of", .fn 1 m_word_of 10) :: tab_10
def at_11 : List (Str × Nat × AK) := at_10
def d_word_of : He.DefD := ⟨("word_of", none), "word_of", "word_of", defArgs (top 32), defBody (top 32), defScope (top 32), [], []⟩
def b__law_roll : SS := (sSeq (sIf (eCmp .Gt (eIx (eVar 0) (eCst (.int 0))) (eCst (.int 0))) (sSeq (sAsg (eBin .Mod (eFn intW [(eIx (eVar 0) (eCst (.int 0)))]) (eVar 1)) (asgN 2)) (sSeq (sAsg (eBin .FloorDiv (eIx (eVar 0) (eCst (.int 0))) (eVar 1)) (gIx (eVar 0) (eCst (.int 0)))) (sSeq (sRet (eVar 2)) sNil))) sNil) (sSeq (sAsg (eBin .Add (eIx (eVar 0) (eCst (.int 2))) (eCst (.int 1))) (gIx (eVar 0) (eCst (.int 2)))) (sSeq (sAsg (eBin .Mod (eFn intW [(eBin .Add (eIx (eVar 0) (eCst (.int 1))) (eBin .Mult (eCst (.int 86028157)) (eIx (eVar 0) (eCst (.int 2)))))]) (eCst (.int 2305843009213693381))) (asgN 3)) (sSeq (sAsg (eBin .Add (eBin .Mult (eBin .Mod (eFn intW [(eBin .Add (eBin .Mult (eVar 3) (eVar 3)) (eBin .Mult (eCst (.int 101)) (eIx (eVar 0) (eCst (.int 2)))))]) (eCst (.int 2305843009213693343))) (eCst (.int 7368791))) (eVar 3)) (asgN 4)) (sSeq (sRet (eBin .Mod (eFn intW [(eBin .FloorDiv (eVar 4) (eCst (.int 65551)))]) (eVar 1))) sNil)))))
def m__law_roll : SE := callM 5 b__law_roll
def D__law_roll : De := { N := ["dice", "most", "found", "one", "two"], sc := defScope (top 38), blk := none, tab := tab_11, g := false, ex := ex0, ats := at_11 }
theorem e__law_roll : callM D__law_roll.N.length (blockD (den 60) D__law_roll (defBody (top 38))) = m__law_roll := by kernel_rfl
theorem s__law_roll : FnScope D__law_roll.N ["dice", "most"] D__law_roll.sc := ⟨by kernel_rfl, by kernel_rfl, by kernel_rfl, by decide +kernel, by kernel_rfl, by decide +kernel, by decide +kernel⟩
def tab_12 : List (Str × GK) := ("_law_roll", .fn 2 m__law_roll 11) :: tab_11
def at_12 : List (Str × Nat × AK) := at_11
def d__law_roll : He.DefD := ⟨("_law_roll", none), "_law_roll", "_law_roll", defArgs (top 38), defBody (top 38), defScope (top 38), [], []⟩
def c__law_rows_of_2_e : SE := (eTup [(false, (eBin .Add (eVar 3) (eTup [(false, (eVar 6))]))), (false, (eBin .Sub (eVar 4) (eVar 6)))])
def c__law_rows_of_2 : SE := eLc (iArgs rng2 [(eCst (.int 1)), (eBin .Add (eVar 5) (eCst (.int 1)))]) (asgN 6) (blE true) c__law_rows_of_2_e [6]
def w__law_rows_of_1 : SS := (sSeq (sAsg (eMut0 popW (eVar 2)) (gTupW [(asgN 3), (asgN 4)])) (sSeq (sIf (eCmp .Eq (eVar 4) (eCst (.int 0))) (sSeq (sExpr (eMut1 appW (eVar 1) (eVar 3))) sNil) (sSeq (sAsg (eIf (eCmp .NotEq (eVar 3) (eTup [])) (eFn min2W [(eVar 4), (eIx (eVar 3) (eNeg (eCst (.int 1))))]) (eVar 4)) (asgN 5)) (sSeq (sExpr (eMut1 extW (eVar 2) c__law_rows_of_2)) sNil))) sNil))
def b__law_rows_of : SS := (sSeq (sPar [1, 2] [(eLst []), (eLst [(false, (eTup [(false, (eTup [])), (false, (eVar 0))]))])]) (sSeq (whileN (eCmp .NotEq (eVar 2) (eLst [])) w__law_rows_of_1 wFuel) (sSeq (sRet (eFn sortBW [(eVar 1)])) sNil)))
def m__law_rows_of : SE := callM 7 b__law_rows_of
def D__law_rows_of : De := { N := ["size", "found", "begun", "row", "left", "most", "part"], sc := defScope (top 39), blk := none, tab := tab_12, g := false, ex := ex0, ats := at_12 }
theorem e__law_rows_of : callM D__law_rows_of.N.length (blockD (den 60) D__law_rows_of (defBody (top 39))) = m__law_rows_of := by kernel_rfl
theorem s__law_rows_of : FnScope D__law_rows_of.N ["size"] D__law_rows_of.sc := ⟨by kernel_rfl, by kernel_rfl, by kernel_rfl, by decide +kernel, by kernel_rfl, by decide +kernel, by decide +kernel⟩
def tab_13 : List (Str × GK) := ("_law_rows_of", .fn 1 m__law_rows_of 12) :: tab_12
def at_13 : List (Str × Nat × AK) := at_12
def d__law_rows_of : He.DefD := ⟨("_law_rows_of", none), "_law_rows_of", "_law_rows_of", defArgs (top 39), defBody (top 39), defScope (top 39), [], []⟩
def w__law_words_of_1 : SS := (sSeq (sAsg (eMut0 popW (eVar 2)) (gTupW [(asgN 4), (asgN 5)])) (sSeq (sAsg (eIf (eCmp .Eq (eSl (eVar 4) (some (eNeg (eCst (.int 1)))) none) (eCst (.str [98]))) (eBin .Add (eVar 5) (eFn lenW [(eVar 4)])) (eVar 5)) (asgN 3)) (sSeq (sIf (boolL .And [(eCmp .Eq (eVar 3) (eVar 0)), (eCmp .NotEq (eSl (eVar 4) (some (eNeg (eCst (.int 1)))) none) (eCst (.str [97])))]) (sSeq (sExpr (eMut1 appW (eVar 1) (eVar 4))) sNil) sNil) (sSeq (sIf (eCmp .Lt (eBin .Add (eVar 5) (eFn lenW [(eVar 4)])) (eVar 0)) (sSeq (sExpr (eMut1 appW (eVar 2) (eTup [(false, (eBin .Add (eVar 4) (eCst (.str [98])))), (false, (eVar 5))]))) (sSeq (sIf (eCmp .LtE (eVar 3) (eVar 0)) (sSeq (sExpr (eMut1 appW (eVar 2) (eTup [(false, (eBin .Add (eVar 4) (eCst (.str [97])))), (false, (eVar 3))]))) sNil) sNil) sNil)) sNil) sNil))))
def b__law_words_of : SS := (sSeq (sPar [1, 2] [(eLst []), (eLst [(false, (eTup [(false, (eCst (.str []))), (false, (eCst (.int 0)))]))])]) (sSeq (whileN (eCmp .NotEq (eVar 2) (eLst [])) w__law_words_of_1 wFuel) (sSeq (sRet (eVar 1)) sNil)))
def m__law_words_of : SE := callM 6 b__law_words_of
def D__law_words_of : De := { N := ["size", "found", "begun", "whole", "word", "total"], sc := defScope (top 41), blk := none, tab := tab_13, g := false, ex := ex0, ats := at_13 }
theorem e__law_words_of : callM D__law_words_of.N.length (blockD (den 60) D__law_words_of (defBody (top 41))) = m__law_words_of := by kernel_rfl
theorem s__law_words_of : FnScope D__law_words_of.N ["size"] D__law_words_of.sc := ⟨by kernel_rfl, by kernel_rfl, by kernel_rfl, by decide +kernel, by kernel_rfl, by decide +kernel, by decide +kernel⟩
def tab_14 : List (Str × GK) := ("_law_words_of", .fn 1 m__law_words_of 13) :: tab_13
def at_14 : List (Str × Nat × AK) := at_13
def d__law_words_of : He.DefD := ⟨("_law_words_of", none), "_law_words_of", "_law_words_of", defArgs (top 41), defBody (top 41), defScope (top 41), [], []⟩
def c_is_word_in_1_e : SE := (eCmp .In (eVar 1) (eCst (.tup [.str [97], .str [98]])))
def c_is_word_in_1 : SE := eLc (iVal (eVar 0)) (asgN 1) (blE true) c_is_word_in_1_e [1]
def b_is_word_in : SS := (sSeq (sIf (boolL .Or [(eNot (eFn isiW [(eVar 0), (eCst (.ty "str"))])), (eCmp .Gt (eFn lenW [(eVar 0)]) (eCst (.int 400))), (eNot (eFn all2W [c_is_word_in_1]))]) (sSeq (sRet (eCst (.bl false))) sNil) sNil) (sSeq (sRet (boolL .Or [(eCmp .Eq (eVar 0) (eCst (.str []))), (eCmp .Eq (eIx (eVar 0) (eNeg (eCst (.int 1)))) (eCst (.str [98])))])) sNil))
def m_is_word_in : SE := callM 2 b_is_word_in
def D_is_word_in : De := { N := ["value", "letter"], sc := defScope (top 22), blk := none, tab := tab_14, g := false, ex := ex0, ats := at_14 }
theorem e_is_word_in : callM D_is_word_in.N.length (blockD (den 60) D_is_word_in (defBody (top 22))) = m_is_word_in := by kernel_rfl
theorem s_is_word_in : FnScope D_is_word_in.N ["value"] D_is_word_in.sc := ⟨by kernel_rfl, by kernel_rfl, by kernel_rfl, by decide +kernel, by kernel_rfl, by decide +kernel, by decide +kernel⟩
def tab_15 : List (Str × GK) := ("is_word_in", .fn 1 m_is_word_in 14) :: tab_14
def at_15 : List (Str × Nat × AK) := at_14
def d_is_word_in : He.DefD := ⟨("is_word_in", none), "is_word_in", "is_word_in", defArgs (top 22), defBody (top 22), defScope (top 22), [], []⟩
def b_require_word : SS := (sSeq (sIf (eNot (eCallX m_is_word_in (eVar 0))) (sSeq (sRaise0 2) sNil) sNil) sNil)
def m_require_word : SE := callM 1 b_require_word
def D_require_word : De := { N := ["value"], sc := defScope (top 23), blk := none, tab := tab_15, g := false, ex := ex0, ats := at_15 }
theorem e_require_word : callM D_require_word.N.length (blockD (den 60) D_require_word (defBody (top 23))) = m_require_word := by kernel_rfl
theorem s_require_word : FnScope D_require_word.N ["value"] D_require_word.sc := ⟨by kernel_rfl, by kernel_rfl, by kernel_rfl, by decide +kernel, by kernel_rfl, by decide +kernel, by decide +kernel⟩
def tab_16 : List (Str × GK) := ("require_word", .fn 1 m_require_word 15) :: tab_15
def at_16 : List (Str × Nat × AK) := at_15
def d_require_word : He.DefD := ⟨("require_word", none), "require_word", "require_word", defArgs (top 23), defBody (top 23), defScope (top 23), [], []⟩
def w_raised_in_1 : SS := (sSeq (sIf (eCmp .Gt (eIx (eVar 2) (eVar 3)) (eCst (.int 0))) (sSeq (sAugIx .Sub (eVar 2) (eVar 3) (eCst (.int 1))) (sSeq (sAugIx .Add (eVar 2) (eBin .Add (eVar 3) (eCst (.int 1))) (eCst (.int 1))) (sSeq (sAug .Add 3 (eCst (.int 1))) sNil))) sNil) (sSeq (sAug .Add 3 (eCst (.int 1))) sNil))
def b_raised_in : SS := (sSeq (sAsg (eLst [(true, (eCallX m_often_in (eVar 0))), (false, (eCst (.int 0)))]) (asgN 2)) (sSeq (sAsg (eTup [(false, (eFn intW [(eCmp .Eq (eVar 1) (eCst (.str [98])))])), (false, (eCst (.int 0)))]) (gTupW [(gIx (eVar 2) (eCst (.int 0))), (asgN 3)])) (sSeq (whileN (eCmp .Lt (eVar 3) (eBin .Sub (eFn lenW [(eVar 2)]) (eCst (.int 1)))) w_raised_in_1 wFuel) (sSeq (sRet (eCallX m_row_of_often (eVar 2))) sNil))))
def m_raised_in : SE := callM 4 b_raised_in
def D_raised_in : De := { N := ["row", "letter", "often", "part"], sc := defScope (top 26), blk := none, tab := tab_16, g := false, ex := ex0, ats := at_16 }
theorem e_raised_in : callM D_raised_in.N.length (blockD (den 60) D_raised_in (defBody (top 26))) = m_raised_in := by kernel_rfl
theorem s_raised_in : FnScope D_raised_in.N ["row", "letter"] D_raised_in.sc := ⟨by kernel_rfl, by kernel_rfl, by kernel_rfl, by decide +kernel, by kernel_rfl, by decide +kernel, by decide +kernel⟩
def tab_17 : List (Str × GK) := ("raised_in", .fn 2 m_raised_in 16) :: tab_16
def at_17 : List (Str × Nat × AK) := at_16
def d_raised_in : He.DefD := ⟨("raised_in", none), "raised_in", "raised_in", defArgs (top 26), defBody (top 26), defScope (top 26), [], []⟩
def f_row_of_word_in_1 : SS := (sSeq (sAsg (eCall m_raised_in [(eVar 1), (eVar 2)]) (asgN 1)) sNil)
def b_row_of_word_in : SS := (sSeq (sAsg (eTup []) (asgN 1)) (sSeq (sFor (iVal (eOne revW (eVar 0))) (asgN 2) f_row_of_word_in_1) (sSeq (sRet (eVar 1)) sNil)))
def m_row_of_word_in : SE := callM 3 b_row_of_word_in
def D_row_of_word_in : De := { N := ["word", "found", "letter"], sc := defScope (top 29), blk := none, tab := tab_17, g := false, ex := ex0, ats := at_17 }
theorem e_row_of_word_in : callM D_row_of_word_in.N.length (blockD (den 60) D_row_of_word_in (defBody (top 29))) = m_row_of_word_in := by kernel_rfl
theorem s_row_of_word_in : FnScope D_row_of_word_in.N ["word"] D_row_of_word_in.sc := ⟨by kernel_rfl, by kernel_rfl, by kernel_rfl, by decide +kernel, by kernel_rfl, by decide +kernel, by decide +kernel⟩
def tab_18 : List (Str × GK) := ("row_of_word_in", .fn 1 m_row_of_word_in 17) :: tab_17
def at_18 : List (Str × Nat × AK) := at_17
def d_row_of_word_in : He.DefD := ⟨("row_of_word_in", none), "row_of_word_in", "row_of_word_in", defArgs (top 29), defBody (top 29), defScope (top 29), [], []⟩
def b_row_of_word : SS := (sSeq (sExpr (eCallX m_require_word (eVar 0))) (sSeq (sRet (eCallX m_row_of_word_in (eVar 0))) sNil))
def m_row_of_word : SE := callM 1 b_row_of_word
def D_row_of_word : De := { N := ["word"], sc := defScope (top 33), blk := none, tab := tab_18, g := false, ex := ex0, ats := at_18 }
theorem e_row_of_word : callM D_row_of_word.N.length (blockD (den 60) D_row_of_word (defBody (top 33))) = m_row_of_word := by kernel_rfl
theorem s_row_of_word : FnScope D_row_of_word.N ["word"] D_row_of_word.sc := ⟨by kernel_rfl, by kernel_rfl, by kernel_rfl, by decide +kernel, by kernel_rfl, by decide +kernel, by decide +kernel⟩
def tab_19 : List (Str × GK) := ("row_of_word", .fn 1 m_row_of_word 18) :: tab_18
def at_19 : List (Str × Nat × AK) := at_18
def d_row_of_word : He.DefD := ⟨("row_of_word", none), "row_of_word", "row_of_word", defArgs (top 33), defBody (top 33), defScope (top 33), [], []⟩
def f__law_often_1 : SS := (sSeq (sAsg (eBin .Add (eIx (eVar 1) (eVar 2)) (eCst (.int 1))) (gIx (eVar 1) (eVar 2))) sNil)
def b__law_often : SS := (sSeq (sAsg (eBin .Mult (eLst [(false, (eCst (.int 0)))]) (eBin .Add (eIf (eCmp .NotEq (eVar 0) (eTup [])) (eIx (eVar 0) (eCst (.int 0))) (eCst (.int 0))) (eCst (.int 3)))) (asgN 1)) (sSeq (sFor (iVal (eVar 0)) (asgN 2) f__law_often_1) (sSeq (sRet (eVar 1)) sNil)))
def m__law_often : SE := callM 3 b__law_often
def D__law_often : De := { N := ["row", "found", "part"], sc := defScope (top 40), blk := none, tab := tab_19, g := false, ex := ex0, ats := at_19 }
theorem e__law_often : callM D__law_often.N.length (blockD (den 60) D__law_often (defBody (top 40))) = m__law_often := by kernel_rfl
theorem s__law_often : FnScope D__law_often.N ["row"] D__law_often.sc := ⟨by kernel_rfl, by kernel_rfl, by kernel_rfl, by decide +kernel, by kernel_rfl, by decide +kernel, by decide +kernel⟩
def tab_20 : List (Str × GK) := ("_law_often", .fn 1 m__law_often 19) :: tab_19
def at_20 : List (Str × Nat × AK) := at_19
def d__law_often : He.DefD := ⟨("_law_often", none), "_law_often", "_law_often", defArgs (top 40), defBody (top 40), defScope (top 40), [], []⟩
def f_heights_in_1 : SS := (sSeq (sExpr (eMut1 appW (eVar 1) (eBin .Add (eIx (eVar 1) (eNeg (eCst (.int 1)))) (eIf (eCmp .Eq (eVar 2) (eCst (.str [97]))) (eCst (.int 1)) (eNeg (eCst (.int 1))))))) sNil)
def b_heights_in : SS := (sSeq (sAsg (eLst [(false, (eCst (.int 0)))]) (asgN 1)) (sSeq (sFor (iVal (eVar 0)) (asgN 2) f_heights_in_1) (sSeq (sRet (eVar 1)) sNil)))
def m_heights_in : SE := callM 3 b_heights_in
def D_heights_in : De := { N := ["word", "found", "letter"], sc := defScope (top 30), blk := none, tab := tab_20, g := false, ex := ex0, ats := at_20 }
theorem e_heights_in : callM D_heights_in.N.length (blockD (den 60) D_heights_in (defBody (top 30))) = m_heights_in := by kernel_rfl
theorem s_heights_in : FnScope D_heights_in.N ["word"] D_heights_in.sc := ⟨by kernel_rfl, by kernel_rfl, by kernel_rfl, by decide +kernel, by kernel_rfl, by decide +kernel, by decide +kernel⟩
def tab_21 : List (Str × GK) := ("heights_in", .fn 1 m_heights_in 20) :: tab_20
def at_21 : List (Str × Nat × AK) := at_20
def d_heights_in : He.DefD := ⟨("heights_in", none), "heights_in", "heights_in", defArgs (top 30), defBody (top 30), defScope (top 30), [], []⟩
def f_drop_in_1 : SS := (sSeq (sAsg (eFn max2W [(eVar 1), (eVar 3)]) (asgN 1)) (sSeq (sAsg (eFn max2W [(eVar 2), (eBin .Sub (eVar 1) (eVar 3))]) (asgN 2)) sNil))
def b_drop_in : SS := (sSeq (sPar [1, 2] [(eCst (.int 0)), (eCst (.int 0))]) (sSeq (sFor (iVal (eCallX m_heights_in (eVar 0))) (asgN 3) f_drop_in_1) (sSeq (sRet (eVar 2)) sNil)))
def m_drop_in : SE := callM 4 b_drop_in
def D_drop_in : De := { N := ["word", "greatest", "found", "height"], sc := defScope (top 31), blk := none, tab := tab_21, g := false, ex := ex0, ats := at_21 }
theorem e_drop_in : callM D_drop_in.N.length (blockD (den 60) D_drop_in (defBody (top 31))) = m_drop_in := by kernel_rfl
theorem s_drop_in : FnScope D_drop_in.N ["word"] D_drop_in.sc := ⟨by kernel_rfl, by kernel_rfl, by kernel_rfl, by decide +kernel, by kernel_rfl, by decide +kernel, by decide +kernel⟩
def tab_22 : List (Str × GK) := ("drop_in", .fn 1 m_drop_in 21) :: tab_21
def at_22 : List (Str × Nat × AK) := at_21
def d_drop_in : He.DefD := ⟨("drop_in", none), "drop_in", "drop_in", defArgs (top 31), defBody (top 31), defScope (top 31), [], []⟩
def b_drop_of : SS := (sSeq (sExpr (eCallX m_require_word (eVar 0))) (sSeq (sRet (eCallX m_drop_in (eVar 0))) sNil))
def m_drop_of : SE := callM 1 b_drop_of
def D_drop_of : De := { N := ["word"], sc := defScope (top 35), blk := none, tab := tab_22, g := false, ex := ex0, ats := at_22 }
theorem e_drop_of : callM D_drop_of.N.length (blockD (den 60) D_drop_of (defBody (top 35))) = m_drop_of := by kernel_rfl
theorem s_drop_of : FnScope D_drop_of.N ["word"] D_drop_of.sc := ⟨by kernel_rfl, by kernel_rfl, by kernel_rfl, by decide +kernel, by kernel_rfl, by decide +kernel, by decide +kernel⟩
def tab_23 : List (Str × GK) := ("drop_of", .fn 1 m_drop_of 22) :: tab_22
def at_23 : List (Str × Nat × AK) := at_22
def d_drop_of : He.DefD := ⟨("drop_of", none), "drop_of", "drop_of", defArgs (top 35), defBody (top 35), defScope (top 35), [], []⟩
def b_depth_of : SS := (sSeq (sExpr (eCallX m_require_word (eVar 0))) (sSeq (sRet (eNeg (eFn min1W [(eCallX m_heights_in (eVar 0))]))) sNil))
def m_depth_of : SE := callM 1 b_depth_of
def D_depth_of : De := { N := ["word"], sc := defScope (top 34), blk := none, tab := tab_23, g := false, ex := ex0, ats := at_23 }
theorem e_depth_of : callM D_depth_of.N.length (blockD (den 60) D_depth_of (defBody (top 34))) = m_depth_of := by kernel_rfl
theorem s_depth_of : FnScope D_depth_of.N ["word"] D_depth_of.sc := ⟨by kernel_rfl, by kernel_rfl, by kernel_rfl, by decide +kernel, by kernel_rfl, by decide +kernel, by decide +kernel⟩
def tab_24 : List (Str × GK) := ("depth_of", .fn 1 m_depth_of 23) :: tab_23
def at_24 : List (Str × Nat × AK) := at_23
def d_depth_of : He.DefD := ⟨("depth_of", none), "depth_of", "depth_of", defArgs (top 34), defBody (top 34), defScope (top 34), [], []⟩
def b_size_of : SS := (sSeq (sExpr (eCallX m_require_row (eVar 0))) (sSeq (sRet (eFn sumW [(eVar 0)])) sNil))
def m_size_of : SE := callM 1 b_size_of
def D_size_of : De := { N := ["row"], sc := defScope (top 16), blk := none, tab := tab_24, g := false, ex := ex0, ats := at_24 }
theorem e_size_of : callM D_size_of.N.length (blockD (den 60) D_size_of (defBody (top 16))) = m_size_of := by kernel_rfl
theorem s_size_of : FnScope D_size_of.N ["row"] D_size_of.sc := ⟨by kernel_rfl, by kernel_rfl, by kernel_rfl, by decide +kernel, by kernel_rfl, by decide +kernel, by decide +kernel⟩
def tab_25 : List (Str × GK) := ("size_of", .fn 1 m_size_of 24) :: tab_24
def at_25 : List (Str × Nat × AK) := at_24
def d_size_of : He.DefD := ⟨("size_of", none), "size_of", "size_of", defArgs (top 16), defBody (top 16), defScope (top 16), [], []⟩
def c__law_right_1_e : SE := (eCallX m_word_of (eVar 5))
def c__law_right_1 : SE := eLc (iVal (eVar 2)) (asgN 5) (blE true) c__law_right_1_e [5]
def c__law_right_2_e : SE := (eCallX m_row_of_word (eVar 7))
def c__law_right_2 : SE := eLc (iVal (eVar 3)) (asgN 7) (blE true) c__law_right_2_e [7]
def c__law_right_3_e : SE := (eVar 5)
def c__law_right_3_t : SE := (eCmp .NotEq (eCallX m_size_of (eVar 5)) (eVar 1))
def c__law_right_3 : SE := eLc (iVal (eVar 6)) (asgN 5) c__law_right_3_t c__law_right_3_e [5]
def c__law_right_5_e : SE := (eBin .Add (eVar 9) (eVar 10))
def c__law_right_5 : SE := eLc (iArgs zipW [(eSl (eVar 8) (some (eCst (.int 1))) none), (eSl (eVar 8) (some (eCst (.int 2))) none)]) (gTupW [(asgN 9), (asgN 10)]) (blE true) c__law_right_5_e [9, 10]
def f__law_right_4 : SS := (sSeq (sAsg (eCallX m__law_often (eVar 5)) (asgN 8)) (sSeq (sIf (boolL .Or [(eCmp .NotEq (eStr1 countW (eVar 7) (eCst (.str [98]))) (eFn lenW [(eVar 5)])), (eCmp .NotEq (eCallX m_depth_of (eVar 7)) (eIx (eVar 8) (eCst (.int 1))))]) (sSeq (sRet (eCst (.bl false))) sNil) sNil) (sSeq (sIf (eCmp .NotEq (eCallX m_drop_of (eVar 7)) (eFn max1W [c__law_right_5])) (sSeq (sRet (eCst (.bl false))) sNil) sNil) sNil)))
def q__law_right_1 : SS := (sAsg (eCall m__law_roll [(eVar 0), (eCst (.int 10))]) (asgN 1))
def q__law_right_2 : SS := (sPar [2, 3] [(eCallX m__law_rows_of (eVar 1)), (eCallX m__law_words_of (eVar 1))])
def q__law_right_3 : SS := (sAsg c__law_right_1 (asgN 4))
def q__law_right_4 : SS := (sIf (boolL .Or [(eCmp .NotEq (eFn sortBW [(eVar 4)]) (eFn sortBW [(eVar 3)])), (eCmp .NotEq (eOne lenSetW (eVar 4)) (eFn lenW [(eVar 2)]))]) (sSeq (sRet (eCst (.bl false))) sNil) sNil)
def q__law_right_5 : SS := (sAsg c__law_right_2 (asgN 6))
def q__law_right_6 : SS := (sIf (boolL .Or [(eCmp .NotEq (eFn sortBW [(eVar 6)]) (eVar 2)), (eCmp .NotEq c__law_right_3 (eLst []))]) (sSeq (sRet (eCst (.bl false))) sNil) sNil)
def q__law_right_7 : SS := (sFor (iArgs zipW [(eVar 3), (eVar 6)]) (gTupW [(asgN 7), (asgN 5)]) f__law_right_4)
def q__law_right_8 : SS := (sRet (eCst (.bl true)))
def b__law_right : SS := (sSeq q__law_right_1 (sSeq q__law_right_2 (sSeq q__law_right_3 (sSeq q__law_right_4 (sSeq q__law_right_5 (sSeq q__law_right_6 (sSeq q__law_right_7 (sSeq q__law_right_8 sNil))))))))
def m__law_right : SE := callM 11 b__law_right
def D__law_right : De := { N := ["dice", "size", "rows", "words", "told", "row", "back", "word", "often", "one", "other"], sc := defScope (top 42), blk := none, tab := tab_25, g := false, ex := ex0, ats := at_25 }
theorem e__law_right : callM D__law_right.N.length (blockD (den 60) D__law_right (defBody (top 42))) = m__law_right := by kernel_rfl
theorem s__law_right : FnScope D__law_right.N ["dice"] D__law_right.sc := ⟨by kernel_rfl, by kernel_rfl, by kernel_rfl, by decide +kernel, by kernel_rfl, by decide +kernel, by decide +kernel⟩
def tab_26 : List (Str × GK) := ("_law_right", .fn 1 m__law_right 25) :: tab_25
def at_26 : List (Str × Nat × AK) := at_25
def d__law_right : He.DefD := ⟨("_law_right", none), "_law_right", "_law_right", defArgs (top 42), defBody (top 42), defScope (top 42), [], []⟩
def b__law_dice : SS := (sSeq (sAsg (eIf (eCmp .Lt (eVar 1) (eFn lenW [(eVar 0)])) (eFn intW [(eIx (eVar 0) (eVar 1))]) (eBin .Add (eBin .Mult (eCst (.int 97)) (eVar 1)) (eCst (.int 61)))) (asgN 2)) (sSeq (sAsg (eBin .Mod (eFn max2W [(eCst (.int 0)), (eBin .Sub (eFn absW [(eVar 2)]) (eBin .Pow (eCst (.int 10)) (eCst (.int 16))))]) (eBin .Mult (eBin .Pow (eCst (.int 10)) (eCst (.int 56))) (eBin .Pow (eCst (.int 10)) (eCst (.int 60))))) (asgN 3)) (sSeq (sRet (eLst [(false, (eVar 3)), (false, (eBin .Add (eBin .Add (eBin .Add (eBin .Mult (eBin .Mod (eFn absW [(eVar 2)]) (eCst (.int 1152921504606846869))) (eCst (.int 67))) (eBin .Mult (eCst (.int 1013)) (eVar 1))) (eBin .Mult (eCst (.int 47)) (eFn intW [(eCmp .Lt (eVar 2) (eCst (.int 0)))]))) (eCst (.int 19)))), (false, (eCst (.int 0)))])) sNil)))
def m__law_dice : SE := callM 4 b__law_dice
def D__law_dice : De := { N := ["script", "spot", "cell", "left"], sc := defScope (top 37), blk := none, tab := tab_26, g := false, ex := ex0, ats := at_26 }
theorem e__law_dice : callM D__law_dice.N.length (blockD (den 60) D__law_dice (defBody (top 37))) = m__law_dice := by kernel_rfl
theorem s__law_dice : FnScope D__law_dice.N ["script", "spot"] D__law_dice.sc := ⟨by kernel_rfl, by kernel_rfl, by kernel_rfl, by decide +kernel, by kernel_rfl, by decide +kernel, by decide +kernel⟩
def tab_27 : List (Str × GK) := ("_law_dice", .fn 2 m__law_dice 26) :: tab_26
def at_27 : List (Str × Nat × AK) := at_26
def d__law_dice : He.DefD := ⟨("_law_dice", none), "_law_dice", "_law_dice", defArgs (top 37), defBody (top 37), defScope (top 37), [], []⟩
def tabV_law (x_word_of : SE) (x__law_words_of : SE) (x__law_right : SE) (x__law_dice : SE) : List (Str × GK) := ("_law_dice", .fn 2 x__law_dice 26) :: ("_law_right", .fn 1 x__law_right 25) :: ("size_of", .fn 1 m_size_of 24) :: ("depth_of", .fn 1 m_depth_of 23) :: ("drop_of", .fn 1 m_drop_of 22) :: ("drop_in", .fn 1 m_drop_in 21) :: ("heights_in", .fn 1 m_heights_in 20) :: ("_law_often", .fn 1 m__law_often 19) :: ("row_of_word", .fn 1 m_row_of_word 18) :: ("row_of_word_in", .fn 1 m_row_of_word_in 17) :: ("raised_in", .fn 2 m_raised_in 16) :: ("require_word", .fn 1 m_require_word 15) :: ("is_word_in", .fn 1 m_is_word_in 14) :: ("_law_words_of", .fn 1 x__law_words_of 13) :: ("_law_rows_of", .fn 1 m__law_rows_of 12) :: ("_law_roll", .fn 2 m__law_roll 11) :: ("word_of", .fn 1 x_word_of 10) :: ("short_word", .fn 1 m_short_word 9) :: ("rows_down", .fn 1 m_rows_down 8) :: ("lowered_in", .fn 1 m_lowered_in 7) :: ("row_of_often", .fn 1 m_row_of_often 6) :: ("often_in", .fn 1 m_often_in 5) :: ("require_row", .fn 1 m_require_row 4) :: ("is_row_in", .fn 1 m_is_row_in 3) :: ("is_within", .fn 3 m_is_within 2) :: ("is_integer", .fn 1 m_is_integer 1) :: ("are_falling", .fn 1 m_are_falling 0) :: tab_0
def f_law_1_1V (x_word_of : SE) (x__law_words_of : SE) (x__law_right : SE) (x__law_dice : SE) : SS := (sIf (eNot (eCallO x__law_right (eCall x__law_dice [(eVar 0), (eVar 1)]))) (sSeq (sRet (eCst (.bl false))) sNil) sNil)
def f_law_1V (x_word_of : SE) (x__law_words_of : SE) (x__law_right : SE) (x__law_dice : SE) : SS := (sSeq (f_law_1_1V x_word_of x__law_words_of x__law_right x__law_dice) sNil)
def c_law_2_eV (x_word_of : SE) (x__law_words_of : SE) (x__law_right : SE) (x__law_dice : SE) : SE := (eCallX x_word_of (eVar 3))
def c_law_2V (x_word_of : SE) (x__law_words_of : SE) (x__law_right : SE) (x__law_dice : SE) : SE := eLc (iVal (eTup [(false, (eTup [(false, (eCst (.int 1))), (false, (eCst (.int 1))), (false, (eCst (.int 1))), (false, (eCst (.int 1)))])), (false, (eTup [(false, (eCst (.int 2))), (false, (eCst (.int 1))), (false, (eCst (.int 1)))])), (false, (eTup [(false, (eCst (.int 2))), (false, (eCst (.int 2)))])), (false, (eTup [(false, (eCst (.int 3))), (false, (eCst (.int 1)))])), (false, (eTup [(false, (eCst (.int 4)))]))])) (asgN 3) (blE true) (c_law_2_eV x_word_of x__law_words_of x__law_right x__law_dice) [3]
def q_law_1V (x_word_of : SE) (x__law_words_of : SE) (x__law_right : SE) (x__law_dice : SE) : SS := (sFor (iArgs rng1 [(eFn max2W [(eCst (.int 1)), (eFn min2W [(eCst (.int 2)), (eFn lenW [(eVar 0)])])])]) (asgN 1) (f_law_1V x_word_of x__law_words_of x__law_right x__law_dice))
def q_law_2V (x_word_of : SE) (x__law_words_of : SE) (x__law_right : SE) (x__law_dice : SE) : SS := (sAsg (c_law_2V x_word_of x__law_words_of x__law_right x__law_dice) (asgN 2))
def q_law_3V (x_word_of : SE) (x__law_words_of : SE) (x__law_right : SE) (x__law_dice : SE) : SS := (sRet (boolL .And [(eCmp .Eq (eVar 2) (eLst [(false, (eCst (.str [98, 98, 98, 98]))), (false, (eCst (.str [97, 98, 98, 98]))), (false, (eCst (.str [97, 97, 98, 98]))), (false, (eCst (.str [98, 97, 98]))), (false, (eCst (.str [97, 97, 97, 98])))])), (eCmp .Eq (eFn sortBW [(eVar 2)]) (eFn sortBW [(eCall x__law_words_of [(eCst (.int 4))])]))]))
def b_lawV (x_word_of : SE) (x__law_words_of : SE) (x__law_right : SE) (x__law_dice : SE) : SS := (sSeq (q_law_1V x_word_of x__law_words_of x__law_right x__law_dice) (sSeq (q_law_2V x_word_of x__law_words_of x__law_right x__law_dice) (sSeq (q_law_3V x_word_of x__law_words_of x__law_right x__law_dice) sNil)))
def f_law_1_1 : SS := f_law_1_1V m_word_of m__law_words_of m__law_right m__law_dice
def f_law_1 : SS := f_law_1V m_word_of m__law_words_of m__law_right m__law_dice
def c_law_2_e : SE := c_law_2_eV m_word_of m__law_words_of m__law_right m__law_dice
def c_law_2 : SE := c_law_2V m_word_of m__law_words_of m__law_right m__law_dice
def q_law_1 : SS := q_law_1V m_word_of m__law_words_of m__law_right m__law_dice
def q_law_2 : SS := q_law_2V m_word_of m__law_words_of m__law_right m__law_dice
def q_law_3 : SS := q_law_3V m_word_of m__law_words_of m__law_right m__law_dice
def b_law : SS := (sSeq q_law_1 (sSeq q_law_2 (sSeq q_law_3 sNil)))
def m_law : SE := callM 4 b_law
def D_lawV (x_word_of : SE) (x__law_words_of : SE) (x__law_right : SE) (x__law_dice : SE) : De := { N := ["script", "spot", "told", "row"], sc := defScope (top 43), blk := none, tab := tabV_law x_word_of x__law_words_of x__law_right x__law_dice, g := true, ex := ex0, ats := at_27 }
theorem e_lawV (x_word_of : SE) (x__law_words_of : SE) (x__law_right : SE) (x__law_dice : SE) : callM (D_lawV x_word_of x__law_words_of x__law_right x__law_dice).N.length (blockD (den 60) (D_lawV x_word_of x__law_words_of x__law_right x__law_dice) (defBody (top 43))) = callM 4 (b_lawV x_word_of x__law_words_of x__law_right x__law_dice) := by kernel_rfl
def D_law : De := D_lawV m_word_of m__law_words_of m__law_right m__law_dice
theorem e_law : callM D_law.N.length (blockD (den 60) D_law (defBody (top 43))) = m_law := e_lawV m_word_of m__law_words_of m__law_right m__law_dice
theorem s_law : FnScope D_law.N ["script"] D_law.sc := ⟨by kernel_rfl, by kernel_rfl, by kernel_rfl, by decide +kernel, by kernel_rfl, by decide +kernel, by decide +kernel⟩
def tab_28 : List (Str × GK) := ("law", .fg 1 m_law) :: tab_27
def at_28 : List (Str × Nat × AK) := at_27
def d_law : He.DefD := ⟨("law", none), "law", "law", defArgs (top 43), defBody (top 43), defScope (top 43), [], []⟩
/-! ### the head -/
def fn0 : List He.DefD := [d_are_falling, d_is_integer, d_is_within, d_is_row_in, d_require_row, d_often_in, d_row_of_often, d_lowered_in, d_rows_down, d_short_word, d_word_of, d__law_roll, d__law_rows_of, d__law_words_of, d_is_word_in, d_require_word, d_raised_in, d_row_of_word_in, d_row_of_word, d__law_often]
def fn1 : List He.DefD := [d_heights_in, d_drop_in, d_drop_of, d_depth_of, d_size_of, d__law_right, d__law_dice, d_law]
def fn : List He.DefD := fn0 ++ fn1
def fa0 : List He.Fa := [.free "abs", .free "all", .free "bool", .free "int", .free "isinstance", .free "len", .free "max", .free "min", .free "range", .free "repr", .free "set", .free "sorted", .free "str", .free "sum", .free "tuple", .free "zip", .int "LONGEST" 1000000000000000000000000000000000000000000000000000000000000, .int "MAX_PARTS" 60, .int "MAX_PART" 200, .int "MOST_LETTERS" 400]
def fa1 : List He.Fa := [.str "UP" ⟨#[97]⟩, .str "DOWN" ⟨#[98]⟩, .exc "InvalidRow", .exc "InvalidWord", .glo "are_falling", .glo "is_integer", .glo "is_within", .glo "is_row_in", .glo "require_row", .glo "often_in", .glo "row_of_often", .glo "lowered_in", .glo "rows_down", .glo "short_word", .glo "word_of", .glo "_law_roll", .glo "_law_rows_of", .glo "_law_words_of", .glo "is_word_in", .glo "require_word"]
def fa2 : List He.Fa := [.glo "raised_in", .glo "row_of_word_in", .glo "row_of_word", .glo "_law_often", .glo "heights_in", .glo "drop_in", .glo "drop_of", .glo "depth_of", .glo "size_of", .glo "_law_right", .glo "_law_dice", .glo "law"]
def fa : List He.Fa := fa0 ++ fa1 ++ fa2
def cld0 : List ClD := [c_TooMany]
def cld : List ClD := cld0
def exB (K : PySem.W.Frag) : Bool := clsB K clN fld0 ex0 && (supB K Pr.main.file c_TooMany "limit" && (ctupB K "LETTERS" [.str [97], .str [98]] && (icB K icN && apart K tfD)))
def loose0 : List PySem.Str := ["HookError", "InvalidRow", "InvalidWord", "TooMany", "LONGEST", "is_integer", "is_within", "MAX_PARTS", "MAX_PART", "are_falling", "is_row_in", "require_row", "often_in", "size_of", "MOST_LETTERS", "UP", "DOWN", "LETTERS", "is_word_in", "require_word"]
def loose1 : List PySem.Str := ["row_of_often", "lowered_in", "raised_in", "rows_down", "short_word", "row_of_word_in", "heights_in", "drop_in", "word_of", "row_of_word", "depth_of", "drop_of", "_law_dice", "_law_roll", "_law_rows_of", "_law_often", "_law_words_of", "_law_right"]
def loose : List PySem.Str := loose0 ++ loose1
abbrev R : PySem.W.OpenRow := PySem.W.OpenLaw.row PySem.Challenge.rw_hookstrips_k21_whole_one_word_for_each_r
abbrev hk : PySem.W.Hook := hookQ 4 fa fn cld tfD exB
def ob (s : PySem.W.SharedT) : AlE := obsQ 4 fa fn cld tfD exB (HandSHeadRun.getT s)
theorem ob_eq (s : PySem.W.SharedT) : ob s = hk.obs s.abs := obsQ_eq (HandSHeadRun.getT_eq s)
theorem run (w : World) : HandSHeadRun.RunEq R (PySem.W.view R.prog [43]) hk ob 4000 loose w := by
  intro os
  kernel_rfl
abbrev cst (K : PySem.W.Frag) : Cst := ⟨{ fn := tabN K fnN, cl := tabN K clN, ic := tabN K icN }, K, tbsOf K tf, fld0, ex0⟩
section
variable {w : World} {K : PySem.W.Frag} {h base : Heap} {mg : Str → Option Value}
theorem hc {h : Heap} (cc : Says fa fn cld tfD exB h K) : clsB K clN fld0 ex0 = true := (He.ba cc.ex).1
theorem u_TooMany {h : Heap} (cc : Says fa fn cld tfD exB h K) : PySem.Qx.SupC Pr K (He.ga K c_TooMany.x) (initAt K c_TooMany.x) c_TooMany.B c_TooMany.newId c_TooMany.initId c_TooMany.bm "limit" "self" "limit" :=
  sup_ok (c := c_TooMany) (cc.init 0 rfl) (He.ba (He.ba cc.ex).2).1 F.excBase_OverflowError PySem.W.kxs_OverflowError F.store_OverflowError (by kernel_rfl) (fun _ _ _ _ _ _ _ _ _ => by kernel_rfl) ⟨_, by rfl, by rfl⟩ ⟨by kernel_rfl, by kernel_rfl, by kernel_rfl, by decide +kernel, by kernel_rfl, by kernel_rfl, by kernel_rfl, by kernel_rfl⟩ (by kernel_rfl) ⟨by decide, by decide, by decide⟩
theorem ct_LETTERS {h : Heap} (cc : Says fa fn cld tfD exB h K) : ctupB K "LETTERS" [.str [97], .str [98]] = true := (He.ba (He.ba (He.ba cc.ex).2).2).1
theorem hic {h : Heap} (cc : Says fa fn cld tfD exB h K) : icB K icN = true := (He.ba (He.ba (He.ba (He.ba cc.ex).2).2).2).1
theorem hap {h : Heap} (cc : Says fa fn cld tfD exB h K) : apart K tfD = true := (He.ba (He.ba (He.ba (He.ba cc.ex).2).2).2).2
theorem t_0 (X : K.In h) (G : h.Ns mainGlobals mg) (cc : Says fa fn cld tfD exB h K) : TabOk (cst K) 1 Pr w K mg base tab_0 := by
  obtain ⟨u0, k0⟩ := He.int_ok X G (cc.d.fact 16 (f := .int "LONGEST" 1000000000000000000000000000000000000000000000000000000000000) (by kernel_rfl))
  obtain ⟨u1, k1⟩ := He.int_ok X G (cc.d.fact 17 (f := .int "MAX_PARTS" 60) (by kernel_rfl))
  obtain ⟨u2, k2⟩ := He.int_ok X G (cc.d.fact 18 (f := .int "MAX_PART" 200) (by kernel_rfl))
  obtain ⟨u3, k3⟩ := He.int_ok X G (cc.d.fact 19 (f := .int "MOST_LETTERS" 400) (by kernel_rfl))
  obtain ⟨u4, k4⟩ := He.str_ok X G (cc.d.fact 20 (f := .str "UP" ⟨#[97]⟩) (by kernel_rfl))
  obtain ⟨u5, k5⟩ := He.str_ok X G (cc.d.fact 21 (f := .str "DOWN" ⟨#[98]⟩) (by kernel_rfl))
  unfold tab_0
  exact (tab_cons (g := .blt) (He.free_ok X G (cc.d.fact 0 (f := .free "abs") (by kernel_rfl))) (tab_cons (g := .blt) (He.free_ok X G (cc.d.fact 1 (f := .free "all") (by kernel_rfl))) (tab_cons (g := .blt) (He.free_ok X G (cc.d.fact 2 (f := .free "bool") (by kernel_rfl))) (tab_cons (g := .blt) (He.free_ok X G (cc.d.fact 3 (f := .free "int") (by kernel_rfl))) (tab_cons (g := .blt) (He.free_ok X G (cc.d.fact 4 (f := .free "isinstance") (by kernel_rfl))) (tab_cons (g := .blt) (He.free_ok X G (cc.d.fact 5 (f := .free "len") (by kernel_rfl))) (tab_cons (g := .blt) (He.free_ok X G (cc.d.fact 6 (f := .free "max") (by kernel_rfl))) (tab_cons (g := .blt) (He.free_ok X G (cc.d.fact 7 (f := .free "min") (by kernel_rfl))) (tab_cons (g := .blt) (He.free_ok X G (cc.d.fact 8 (f := .free "range") (by kernel_rfl))) (tab_cons (g := .blt) (He.free_ok X G (cc.d.fact 9 (f := .free "repr") (by kernel_rfl))) (tab_cons (g := .blt) (He.free_ok X G (cc.d.fact 10 (f := .free "set") (by kernel_rfl))) (tab_cons (g := .blt) (He.free_ok X G (cc.d.fact 11 (f := .free "sorted") (by kernel_rfl))) (tab_cons (g := .blt) (He.free_ok X G (cc.d.fact 12 (f := .free "str") (by kernel_rfl))) (tab_cons (g := .blt) (He.free_ok X G (cc.d.fact 13 (f := .free "sum") (by kernel_rfl))) (tab_cons (g := .blt) (He.free_ok X G (cc.d.fact 14 (f := .free "tuple") (by kernel_rfl))) (tab_cons (g := .blt) (He.free_ok X G (cc.d.fact 15 (f := .free "zip") (by kernel_rfl))) (tab_cons (gok_int k0 ⟨u0, rfl⟩) (tab_cons (gok_int k1 ⟨u1, rfl⟩) (tab_cons (gok_int k2 ⟨u2, rfl⟩) (tab_cons (gok_int k3 ⟨u3, rfl⟩) (tab_cons (gok_str k4 ⟨u4, rfl⟩) (tab_cons (gok_str k5 ⟨u5, rfl⟩) (tab_cons (gok_tup (c := cst K) rfl X G (ct_LETTERS cc)) (tab_cons (gok_exc0 (c := cst K) (j := 0) (cl := clN) X G (hc cc) rfl rfl (cc.d.fact 22 (f := .exc "InvalidRow") (by kernel_rfl))) (tab_cons (gok_exc1 (c := cst K) (j := 1) (cl := clN) X G (hc cc) rfl rfl (u_TooMany cc)) (tab_cons (gok_exc0 (c := cst K) (j := 2) (cl := clN) X G (hc cc) rfl rfl (cc.d.fact 23 (f := .exc "InvalidWord") (by kernel_rfl))) tab_nil))))))))))))))))))))))))))
theorem a_0 (X : K.In h) (G : h.Ns mainGlobals mg) (cc : Says fa fn cld tfD exB h K) : AtsOk (cst K) 1 Pr w K mg base at_0 := by
  unfold at_0
  exact ats_nil
theorem t_1 (X : K.In h) (G : h.Ns mainGlobals mg) (cc : Says fa fn cld tfD exB h K) (tb : ∀ p ∈ tfD.map (He.cT K), LamX.TabB base mg p.1 p.2) : TabOk (cst K) 2 Pr w K mg base tab_1 ∧ AtsOk (cst K) 2 Pr w K mg base at_1 := by
  have t := t_0 (w := w) (base := base) X G cc
  have a := a_0 (w := w) (base := base) X G cc
  obtain ⟨fd, F⟩ := cc.d.def_ 0 (d := d_are_falling) (by kernel_rfl)
  exact ⟨tab_cons (tab_def (c := cst K) (D := D_are_falling) (ps := ["values"]) (j := 0) rfl t a F s_are_falling rfl rfl rfl rfl (by decide) (He.glo_ok X G (cc.d.fact 24 (f := .glo "are_falling") (by kernel_rfl))) (F.bindsN fun _ _ _ _ _ _ us hl => match us, hl with | [_], _ => by kernel_rfl) rfl e_are_falling) (tab_mono (by decide) t), (ats_mono (by decide) a)⟩
theorem t_2 (X : K.In h) (G : h.Ns mainGlobals mg) (cc : Says fa fn cld tfD exB h K) (tb : ∀ p ∈ tfD.map (He.cT K), LamX.TabB base mg p.1 p.2) : TabOk (cst K) 3 Pr w K mg base tab_2 ∧ AtsOk (cst K) 3 Pr w K mg base at_2 := by
  obtain ⟨t, a⟩ := t_1 (w := w) (base := base) X G cc tb
  obtain ⟨fd, F⟩ := cc.d.def_ 1 (d := d_is_integer) (by kernel_rfl)
  exact ⟨tab_cons (tab_def (c := cst K) (D := D_is_integer) (ps := ["value"]) (j := 1) rfl t a F s_is_integer rfl rfl rfl rfl (by decide) (He.glo_ok X G (cc.d.fact 25 (f := .glo "is_integer") (by kernel_rfl))) (F.bindsN fun _ _ _ _ _ _ us hl => match us, hl with | [_], _ => by kernel_rfl) rfl e_is_integer) (tab_mono (by decide) t), (ats_mono (by decide) a)⟩
theorem t_3 (X : K.In h) (G : h.Ns mainGlobals mg) (cc : Says fa fn cld tfD exB h K) (tb : ∀ p ∈ tfD.map (He.cT K), LamX.TabB base mg p.1 p.2) : TabOk (cst K) 4 Pr w K mg base tab_3 ∧ AtsOk (cst K) 4 Pr w K mg base at_3 := by
  obtain ⟨t, a⟩ := t_2 (w := w) (base := base) X G cc tb
  obtain ⟨fd, F⟩ := cc.d.def_ 2 (d := d_is_within) (by kernel_rfl)
  exact ⟨tab_cons (tab_def (c := cst K) (D := D_is_within) (ps := ["value", "least", "most"]) (j := 2) rfl t a F s_is_within rfl rfl rfl rfl (by decide) (He.glo_ok X G (cc.d.fact 26 (f := .glo "is_within") (by kernel_rfl))) (F.bindsN fun _ _ _ _ _ _ us hl => match us, hl with | [_, _, _], _ => by kernel_rfl) rfl e_is_within) (tab_mono (by decide) t), (ats_mono (by decide) a)⟩
theorem t_4 (X : K.In h) (G : h.Ns mainGlobals mg) (cc : Says fa fn cld tfD exB h K) (tb : ∀ p ∈ tfD.map (He.cT K), LamX.TabB base mg p.1 p.2) : TabOk (cst K) 5 Pr w K mg base tab_4 ∧ AtsOk (cst K) 5 Pr w K mg base at_4 := by
  obtain ⟨t, a⟩ := t_3 (w := w) (base := base) X G cc tb
  obtain ⟨fd, F⟩ := cc.d.def_ 3 (d := d_is_row_in) (by kernel_rfl)
  exact ⟨tab_cons (tab_def (c := cst K) (D := D_is_row_in) (ps := ["value"]) (j := 3) rfl t a F s_is_row_in rfl rfl rfl rfl (by decide) (He.glo_ok X G (cc.d.fact 27 (f := .glo "is_row_in") (by kernel_rfl))) (F.bindsN fun _ _ _ _ _ _ us hl => match us, hl with | [_], _ => by kernel_rfl) rfl e_is_row_in) (tab_mono (by decide) t), (ats_mono (by decide) a)⟩
theorem t_5 (X : K.In h) (G : h.Ns mainGlobals mg) (cc : Says fa fn cld tfD exB h K) (tb : ∀ p ∈ tfD.map (He.cT K), LamX.TabB base mg p.1 p.2) : TabOk (cst K) 6 Pr w K mg base tab_5 ∧ AtsOk (cst K) 6 Pr w K mg base at_5 := by
  obtain ⟨t, a⟩ := t_4 (w := w) (base := base) X G cc tb
  obtain ⟨fd, F⟩ := cc.d.def_ 4 (d := d_require_row) (by kernel_rfl)
  exact ⟨tab_cons (tab_def (c := cst K) (D := D_require_row) (ps := ["value"]) (j := 4) rfl t a F s_require_row rfl rfl rfl rfl (by decide) (He.glo_ok X G (cc.d.fact 28 (f := .glo "require_row") (by kernel_rfl))) (F.bindsN fun _ _ _ _ _ _ us hl => match us, hl with | [_], _ => by kernel_rfl) rfl e_require_row) (tab_mono (by decide) t), (ats_mono (by decide) a)⟩
theorem t_6 (X : K.In h) (G : h.Ns mainGlobals mg) (cc : Says fa fn cld tfD exB h K) (tb : ∀ p ∈ tfD.map (He.cT K), LamX.TabB base mg p.1 p.2) : TabOk (cst K) 7 Pr w K mg base tab_6 ∧ AtsOk (cst K) 7 Pr w K mg base at_6 := by
  obtain ⟨t, a⟩ := t_5 (w := w) (base := base) X G cc tb
  obtain ⟨fd, F⟩ := cc.d.def_ 5 (d := d_often_in) (by kernel_rfl)
  exact ⟨tab_cons (tab_def (c := cst K) (D := D_often_in) (ps := ["row"]) (j := 5) rfl t a F s_often_in rfl rfl rfl rfl (by decide) (He.glo_ok X G (cc.d.fact 29 (f := .glo "often_in") (by kernel_rfl))) (F.bindsN fun _ _ _ _ _ _ us hl => match us, hl with | [_], _ => by kernel_rfl) rfl e_often_in) (tab_mono (by decide) t), (ats_mono (by decide) a)⟩
theorem t_7 (X : K.In h) (G : h.Ns mainGlobals mg) (cc : Says fa fn cld tfD exB h K) (tb : ∀ p ∈ tfD.map (He.cT K), LamX.TabB base mg p.1 p.2) : TabOk (cst K) 8 Pr w K mg base tab_7 ∧ AtsOk (cst K) 8 Pr w K mg base at_7 := by
  obtain ⟨t, a⟩ := t_6 (w := w) (base := base) X G cc tb
  obtain ⟨fd, F⟩ := cc.d.def_ 6 (d := d_row_of_often) (by kernel_rfl)
  exact ⟨tab_cons (tab_def (c := cst K) (D := D_row_of_often) (ps := ["often"]) (j := 6) rfl t a F s_row_of_often rfl rfl rfl rfl (by decide) (He.glo_ok X G (cc.d.fact 30 (f := .glo "row_of_often") (by kernel_rfl))) (F.bindsN fun _ _ _ _ _ _ us hl => match us, hl with | [_], _ => by kernel_rfl) rfl e_row_of_often) (tab_mono (by decide) t), (ats_mono (by decide) a)⟩
theorem t_8 (X : K.In h) (G : h.Ns mainGlobals mg) (cc : Says fa fn cld tfD exB h K) (tb : ∀ p ∈ tfD.map (He.cT K), LamX.TabB base mg p.1 p.2) : TabOk (cst K) 9 Pr w K mg base tab_8 ∧ AtsOk (cst K) 9 Pr w K mg base at_8 := by
  obtain ⟨t, a⟩ := t_7 (w := w) (base := base) X G cc tb
  obtain ⟨fd, F⟩ := cc.d.def_ 7 (d := d_lowered_in) (by kernel_rfl)
  exact ⟨tab_cons (tab_def (c := cst K) (D := D_lowered_in) (ps := ["row"]) (j := 7) rfl t a F s_lowered_in rfl rfl rfl rfl (by decide) (He.glo_ok X G (cc.d.fact 31 (f := .glo "lowered_in") (by kernel_rfl))) (F.bindsN fun _ _ _ _ _ _ us hl => match us, hl with | [_], _ => by kernel_rfl) rfl e_lowered_in) (tab_mono (by decide) t), (ats_mono (by decide) a)⟩
theorem t_9 (X : K.In h) (G : h.Ns mainGlobals mg) (cc : Says fa fn cld tfD exB h K) (tb : ∀ p ∈ tfD.map (He.cT K), LamX.TabB base mg p.1 p.2) : TabOk (cst K) 10 Pr w K mg base tab_9 ∧ AtsOk (cst K) 10 Pr w K mg base at_9 := by
  obtain ⟨t, a⟩ := t_8 (w := w) (base := base) X G cc tb
  obtain ⟨fd, F⟩ := cc.d.def_ 8 (d := d_rows_down) (by kernel_rfl)
  exact ⟨tab_cons (tab_def (c := cst K) (D := D_rows_down) (ps := ["row"]) (j := 8) rfl t a F s_rows_down rfl rfl rfl rfl (by decide) (He.glo_ok X G (cc.d.fact 32 (f := .glo "rows_down") (by kernel_rfl))) (F.bindsN fun _ _ _ _ _ _ us hl => match us, hl with | [_], _ => by kernel_rfl) rfl e_rows_down) (tab_mono (by decide) t), (ats_mono (by decide) a)⟩
theorem t_10 (X : K.In h) (G : h.Ns mainGlobals mg) (cc : Says fa fn cld tfD exB h K) (tb : ∀ p ∈ tfD.map (He.cT K), LamX.TabB base mg p.1 p.2) : TabOk (cst K) 11 Pr w K mg base tab_10 ∧ AtsOk (cst K) 11 Pr w K mg base at_10 := by
  obtain ⟨t, a⟩ := t_9 (w := w) (base := base) X G cc tb
  obtain ⟨fd, F⟩ := cc.d.def_ 9 (d := d_short_word) (by kernel_rfl)
  exact ⟨tab_cons (tab_def (c := cst K) (D := D_short_word) (ps := ["row"]) (j := 9) rfl t a F s_short_word rfl rfl rfl rfl (by decide) (He.glo_ok X G (cc.d.fact 33 (f := .glo "short_word") (by kernel_rfl))) (F.bindsN fun _ _ _ _ _ _ us hl => match us, hl with | [_], _ => by kernel_rfl) rfl e_short_word) (tab_mono (by decide) t), (ats_mono (by decide) a)⟩
theorem t_11 (X : K.In h) (G : h.Ns mainGlobals mg) (cc : Says fa fn cld tfD exB h K) (tb : ∀ p ∈ tfD.map (He.cT K), LamX.TabB base mg p.1 p.2) : TabOk (cst K) 12 Pr w K mg base tab_11 ∧ AtsOk (cst K) 12 Pr w K mg base at_11 := by
  obtain ⟨t, a⟩ := t_10 (w := w) (base := base) X G cc tb
  obtain ⟨fd, F⟩ := cc.d.def_ 10 (d := d_word_of) (by kernel_rfl)
  exact ⟨tab_cons (tab_def (c := cst K) (D := D_word_of) (ps := ["row"]) (j := 10) rfl t a F s_word_of rfl rfl rfl rfl (by decide) (He.glo_ok X G (cc.d.fact 34 (f := .glo "word_of") (by kernel_rfl))) (F.bindsN fun _ _ _ _ _ _ us hl => match us, hl with | [_], _ => by kernel_rfl) rfl e_word_of) (tab_mono (by decide) t), (ats_mono (by decide) a)⟩
theorem t_12 (X : K.In h) (G : h.Ns mainGlobals mg) (cc : Says fa fn cld tfD exB h K) (tb : ∀ p ∈ tfD.map (He.cT K), LamX.TabB base mg p.1 p.2) : TabOk (cst K) 13 Pr w K mg base tab_12 ∧ AtsOk (cst K) 13 Pr w K mg base at_12 := by
  obtain ⟨t, a⟩ := t_11 (w := w) (base := base) X G cc tb
  obtain ⟨fd, F⟩ := cc.d.def_ 11 (d := d__law_roll) (by kernel_rfl)
  exact ⟨tab_cons (tab_def (c := cst K) (D := D__law_roll) (ps := ["dice", "most"]) (j := 11) rfl t a F s__law_roll rfl rfl rfl rfl (by decide) (He.glo_ok X G (cc.d.fact 35 (f := .glo "_law_roll") (by kernel_rfl))) (F.bindsN fun _ _ _ _ _ _ us hl => match us, hl with | [_, _], _ => by kernel_rfl) rfl e__law_roll) (tab_mono (by decide) t), (ats_mono (by decide) a)⟩
theorem t_13 (X : K.In h) (G : h.Ns mainGlobals mg) (cc : Says fa fn cld tfD exB h K) (tb : ∀ p ∈ tfD.map (He.cT K), LamX.TabB base mg p.1 p.2) : TabOk (cst K) 14 Pr w K mg base tab_13 ∧ AtsOk (cst K) 14 Pr w K mg base at_13 := by
  obtain ⟨t, a⟩ := t_12 (w := w) (base := base) X G cc tb
  obtain ⟨fd, F⟩ := cc.d.def_ 12 (d := d__law_rows_of) (by kernel_rfl)
  exact ⟨tab_cons (tab_def (c := cst K) (D := D__law_rows_of) (ps := ["size"]) (j := 12) rfl t a F s__law_rows_of rfl rfl rfl rfl (by decide) (He.glo_ok X G (cc.d.fact 36 (f := .glo "_law_rows_of") (by kernel_rfl))) (F.bindsN fun _ _ _ _ _ _ us hl => match us, hl with | [_], _ => by kernel_rfl) rfl e__law_rows_of) (tab_mono (by decide) t), (ats_mono (by decide) a)⟩
theorem t_14 (X : K.In h) (G : h.Ns mainGlobals mg) (cc : Says fa fn cld tfD exB h K) (tb : ∀ p ∈ tfD.map (He.cT K), LamX.TabB base mg p.1 p.2) : TabOk (cst K) 15 Pr w K mg base tab_14 ∧ AtsOk (cst K) 15 Pr w K mg base at_14 := by
  obtain ⟨t, a⟩ := t_13 (w := w) (base := base) X G cc tb
  obtain ⟨fd, F⟩ := cc.d.def_ 13 (d := d__law_words_of) (by kernel_rfl)
  exact ⟨tab_cons (tab_def (c := cst K) (D := D__law_words_of) (ps := ["size"]) (j := 13) rfl t a F s__law_words_of rfl rfl rfl rfl (by decide) (He.glo_ok X G (cc.d.fact 37 (f := .glo "_law_words_of") (by kernel_rfl))) (F.bindsN fun _ _ _ _ _ _ us hl => match us, hl with | [_], _ => by kernel_rfl) rfl e__law_words_of) (tab_mono (by decide) t), (ats_mono (by decide) a)⟩
theorem t_15 (X : K.In h) (G : h.Ns mainGlobals mg) (cc : Says fa fn cld tfD exB h K) (tb : ∀ p ∈ tfD.map (He.cT K), LamX.TabB base mg p.1 p.2) : TabOk (cst K) 16 Pr w K mg base tab_15 ∧ AtsOk (cst K) 16 Pr w K mg base at_15 := by
  obtain ⟨t, a⟩ := t_14 (w := w) (base := base) X G cc tb
  obtain ⟨fd, F⟩ := cc.d.def_ 14 (d := d_is_word_in) (by kernel_rfl)
  exact ⟨tab_cons (tab_def (c := cst K) (D := D_is_word_in) (ps := ["value"]) (j := 14) rfl t a F s_is_word_in rfl rfl rfl rfl (by decide) (He.glo_ok X G (cc.d.fact 38 (f := .glo "is_word_in") (by kernel_rfl))) (F.bindsN fun _ _ _ _ _ _ us hl => match us, hl with | [_], _ => by kernel_rfl) rfl e_is_word_in) (tab_mono (by decide) t), (ats_mono (by decide) a)⟩
theorem t_16 (X : K.In h) (G : h.Ns mainGlobals mg) (cc : Says fa fn cld tfD exB h K) (tb : ∀ p ∈ tfD.map (He.cT K), LamX.TabB base mg p.1 p.2) : TabOk (cst K) 17 Pr w K mg base tab_16 ∧ AtsOk (cst K) 17 Pr w K mg base at_16 := by
  obtain ⟨t, a⟩ := t_15 (w := w) (base := base) X G cc tb
  obtain ⟨fd, F⟩ := cc.d.def_ 15 (d := d_require_word) (by kernel_rfl)
  exact ⟨tab_cons (tab_def (c := cst K) (D := D_require_word) (ps := ["value"]) (j := 15) rfl t a F s_require_word rfl rfl rfl rfl (by decide) (He.glo_ok X G (cc.d.fact 39 (f := .glo "require_word") (by kernel_rfl))) (F.bindsN fun _ _ _ _ _ _ us hl => match us, hl with | [_], _ => by kernel_rfl) rfl e_require_word) (tab_mono (by decide) t), (ats_mono (by decide) a)⟩
theorem t_17 (X : K.In h) (G : h.Ns mainGlobals mg) (cc : Says fa fn cld tfD exB h K) (tb : ∀ p ∈ tfD.map (He.cT K), LamX.TabB base mg p.1 p.2) : TabOk (cst K) 18 Pr w K mg base tab_17 ∧ AtsOk (cst K) 18 Pr w K mg base at_17 := by
  obtain ⟨t, a⟩ := t_16 (w := w) (base := base) X G cc tb
  obtain ⟨fd, F⟩ := cc.d.def_ 16 (d := d_raised_in) (by kernel_rfl)
  exact ⟨tab_cons (tab_def (c := cst K) (D := D_raised_in) (ps := ["row", "letter"]) (j := 16) rfl t a F s_raised_in rfl rfl rfl rfl (by decide) (He.glo_ok X G (cc.d.fact 40 (f := .glo "raised_in") (by kernel_rfl))) (F.bindsN fun _ _ _ _ _ _ us hl => match us, hl with | [_, _], _ => by kernel_rfl) rfl e_raised_in) (tab_mono (by decide) t), (ats_mono (by decide) a)⟩
theorem t_18 (X : K.In h) (G : h.Ns mainGlobals mg) (cc : Says fa fn cld tfD exB h K) (tb : ∀ p ∈ tfD.map (He.cT K), LamX.TabB base mg p.1 p.2) : TabOk (cst K) 19 Pr w K mg base tab_18 ∧ AtsOk (cst K) 19 Pr w K mg base at_18 := by
  obtain ⟨t, a⟩ := t_17 (w := w) (base := base) X G cc tb
  obtain ⟨fd, F⟩ := cc.d.def_ 17 (d := d_row_of_word_in) (by kernel_rfl)
  exact ⟨tab_cons (tab_def (c := cst K) (D := D_row_of_word_in) (ps := ["word"]) (j := 17) rfl t a F s_row_of_word_in rfl rfl rfl rfl (by decide) (He.glo_ok X G (cc.d.fact 41 (f := .glo "row_of_word_in") (by kernel_rfl))) (F.bindsN fun _ _ _ _ _ _ us hl => match us, hl with | [_], _ => by kernel_rfl) rfl e_row_of_word_in) (tab_mono (by decide) t), (ats_mono (by decide) a)⟩
theorem t_19 (X : K.In h) (G : h.Ns mainGlobals mg) (cc : Says fa fn cld tfD exB h K) (tb : ∀ p ∈ tfD.map (He.cT K), LamX.TabB base mg p.1 p.2) : TabOk (cst K) 20 Pr w K mg base tab_19 ∧ AtsOk (cst K) 20 Pr w K mg base at_19 := by
  obtain ⟨t, a⟩ := t_18 (w := w) (base := base) X G cc tb
  obtain ⟨fd, F⟩ := cc.d.def_ 18 (d := d_row_of_word) (by kernel_rfl)
  exact ⟨tab_cons (tab_def (c := cst K) (D := D_row_of_word) (ps := ["word"]) (j := 18) rfl t a F s_row_of_word rfl rfl rfl rfl (by decide) (He.glo_ok X G (cc.d.fact 42 (f := .glo "row_of_word") (by kernel_rfl))) (F.bindsN fun _ _ _ _ _ _ us hl => match us, hl with | [_], _ => by kernel_rfl) rfl e_row_of_word) (tab_mono (by decide) t), (ats_mono (by decide) a)⟩
theorem t_20 (X : K.In h) (G : h.Ns mainGlobals mg) (cc : Says fa fn cld tfD exB h K) (tb : ∀ p ∈ tfD.map (He.cT K), LamX.TabB base mg p.1 p.2) : TabOk (cst K) 21 Pr w K mg base tab_20 ∧ AtsOk (cst K) 21 Pr w K mg base at_20 := by
  obtain ⟨t, a⟩ := t_19 (w := w) (base := base) X G cc tb
  obtain ⟨fd, F⟩ := cc.d.def_ 19 (d := d__law_often) (by kernel_rfl)
  exact ⟨tab_cons (tab_def (c := cst K) (D := D__law_often) (ps := ["row"]) (j := 19) rfl t a F s__law_often rfl rfl rfl rfl (by decide) (He.glo_ok X G (cc.d.fact 43 (f := .glo "_law_often") (by kernel_rfl))) (F.bindsN fun _ _ _ _ _ _ us hl => match us, hl with | [_], _ => by kernel_rfl) rfl e__law_often) (tab_mono (by decide) t), (ats_mono (by decide) a)⟩
theorem t_21 (X : K.In h) (G : h.Ns mainGlobals mg) (cc : Says fa fn cld tfD exB h K) (tb : ∀ p ∈ tfD.map (He.cT K), LamX.TabB base mg p.1 p.2) : TabOk (cst K) 22 Pr w K mg base tab_21 ∧ AtsOk (cst K) 22 Pr w K mg base at_21 := by
  obtain ⟨t, a⟩ := t_20 (w := w) (base := base) X G cc tb
  obtain ⟨fd, F⟩ := cc.d.def_ 20 (d := d_heights_in) (by kernel_rfl)
  exact ⟨tab_cons (tab_def (c := cst K) (D := D_heights_in) (ps := ["word"]) (j := 20) rfl t a F s_heights_in rfl rfl rfl rfl (by decide) (He.glo_ok X G (cc.d.fact 44 (f := .glo "heights_in") (by kernel_rfl))) (F.bindsN fun _ _ _ _ _ _ us hl => match us, hl with | [_], _ => by kernel_rfl) rfl e_heights_in) (tab_mono (by decide) t), (ats_mono (by decide) a)⟩
theorem t_22 (X : K.In h) (G : h.Ns mainGlobals mg) (cc : Says fa fn cld tfD exB h K) (tb : ∀ p ∈ tfD.map (He.cT K), LamX.TabB base mg p.1 p.2) : TabOk (cst K) 23 Pr w K mg base tab_22 ∧ AtsOk (cst K) 23 Pr w K mg base at_22 := by
  obtain ⟨t, a⟩ := t_21 (w := w) (base := base) X G cc tb
  obtain ⟨fd, F⟩ := cc.d.def_ 21 (d := d_drop_in) (by kernel_rfl)
  exact ⟨tab_cons (tab_def (c := cst K) (D := D_drop_in) (ps := ["word"]) (j := 21) rfl t a F s_drop_in rfl rfl rfl rfl (by decide) (He.glo_ok X G (cc.d.fact 45 (f := .glo "drop_in") (by kernel_rfl))) (F.bindsN fun _ _ _ _ _ _ us hl => match us, hl with | [_], _ => by kernel_rfl) rfl e_drop_in) (tab_mono (by decide) t), (ats_mono (by decide) a)⟩
theorem t_23 (X : K.In h) (G : h.Ns mainGlobals mg) (cc : Says fa fn cld tfD exB h K) (tb : ∀ p ∈ tfD.map (He.cT K), LamX.TabB base mg p.1 p.2) : TabOk (cst K) 24 Pr w K mg base tab_23 ∧ AtsOk (cst K) 24 Pr w K mg base at_23 := by
  obtain ⟨t, a⟩ := t_22 (w := w) (base := base) X G cc tb
  obtain ⟨fd, F⟩ := cc.d.def_ 22 (d := d_drop_of) (by kernel_rfl)
  exact ⟨tab_cons (tab_def (c := cst K) (D := D_drop_of) (ps := ["word"]) (j := 22) rfl t a F s_drop_of rfl rfl rfl rfl (by decide) (He.glo_ok X G (cc.d.fact 46 (f := .glo "drop_of") (by kernel_rfl))) (F.bindsN fun _ _ _ _ _ _ us hl => match us, hl with | [_], _ => by kernel_rfl) rfl e_drop_of) (tab_mono (by decide) t), (ats_mono (by decide) a)⟩
theorem t_24 (X : K.In h) (G : h.Ns mainGlobals mg) (cc : Says fa fn cld tfD exB h K) (tb : ∀ p ∈ tfD.map (He.cT K), LamX.TabB base mg p.1 p.2) : TabOk (cst K) 25 Pr w K mg base tab_24 ∧ AtsOk (cst K) 25 Pr w K mg base at_24 := by
  obtain ⟨t, a⟩ := t_23 (w := w) (base := base) X G cc tb
  obtain ⟨fd, F⟩ := cc.d.def_ 23 (d := d_depth_of) (by kernel_rfl)
  exact ⟨tab_cons (tab_def (c := cst K) (D := D_depth_of) (ps := ["word"]) (j := 23) rfl t a F s_depth_of rfl rfl rfl rfl (by decide) (He.glo_ok X G (cc.d.fact 47 (f := .glo "depth_of") (by kernel_rfl))) (F.bindsN fun _ _ _ _ _ _ us hl => match us, hl with | [_], _ => by kernel_rfl) rfl e_depth_of) (tab_mono (by decide) t), (ats_mono (by decide) a)⟩
theorem t_25 (X : K.In h) (G : h.Ns mainGlobals mg) (cc : Says fa fn cld tfD exB h K) (tb : ∀ p ∈ tfD.map (He.cT K), LamX.TabB base mg p.1 p.2) : TabOk (cst K) 26 Pr w K mg base tab_25 ∧ AtsOk (cst K) 26 Pr w K mg base at_25 := by
  obtain ⟨t, a⟩ := t_24 (w := w) (base := base) X G cc tb
  obtain ⟨fd, F⟩ := cc.d.def_ 24 (d := d_size_of) (by kernel_rfl)
  exact ⟨tab_cons (tab_def (c := cst K) (D := D_size_of) (ps := ["row"]) (j := 24) rfl t a F s_size_of rfl rfl rfl rfl (by decide) (He.glo_ok X G (cc.d.fact 48 (f := .glo "size_of") (by kernel_rfl))) (F.bindsN fun _ _ _ _ _ _ us hl => match us, hl with | [_], _ => by kernel_rfl) rfl e_size_of) (tab_mono (by decide) t), (ats_mono (by decide) a)⟩
theorem t_26 (X : K.In h) (G : h.Ns mainGlobals mg) (cc : Says fa fn cld tfD exB h K) (tb : ∀ p ∈ tfD.map (He.cT K), LamX.TabB base mg p.1 p.2) : TabOk (cst K) 27 Pr w K mg base tab_26 ∧ AtsOk (cst K) 27 Pr w K mg base at_26 := by
  obtain ⟨t, a⟩ := t_25 (w := w) (base := base) X G cc tb
  obtain ⟨fd, F⟩ := cc.d.def_ 25 (d := d__law_right) (by kernel_rfl)
  exact ⟨tab_cons (tab_def (c := cst K) (D := D__law_right) (ps := ["dice"]) (j := 25) rfl t a F s__law_right rfl rfl rfl rfl (by decide) (He.glo_ok X G (cc.d.fact 49 (f := .glo "_law_right") (by kernel_rfl))) (F.bindsN fun _ _ _ _ _ _ us hl => match us, hl with | [_], _ => by kernel_rfl) rfl e__law_right) (tab_mono (by decide) t), (ats_mono (by decide) a)⟩
theorem t_27 (X : K.In h) (G : h.Ns mainGlobals mg) (cc : Says fa fn cld tfD exB h K) (tb : ∀ p ∈ tfD.map (He.cT K), LamX.TabB base mg p.1 p.2) : TabOk (cst K) 28 Pr w K mg base tab_27 ∧ AtsOk (cst K) 28 Pr w K mg base at_27 := by
  obtain ⟨t, a⟩ := t_26 (w := w) (base := base) X G cc tb
  obtain ⟨fd, F⟩ := cc.d.def_ 26 (d := d__law_dice) (by kernel_rfl)
  exact ⟨tab_cons (tab_def (c := cst K) (D := D__law_dice) (ps := ["script", "spot"]) (j := 26) rfl t a F s__law_dice rfl rfl rfl rfl (by decide) (He.glo_ok X G (cc.d.fact 50 (f := .glo "_law_dice") (by kernel_rfl))) (F.bindsN fun _ _ _ _ _ _ us hl => match us, hl with | [_, _], _ => by kernel_rfl) rfl e__law_dice) (tab_mono (by decide) t), (ats_mono (by decide) a)⟩
theorem facts (X : K.In h) (G : h.Ns mainGlobals mg) (cc : Says fa fn cld tfD exB h K) {f : Addr} (hfa : mg ("law" : Str) = some (.ref f)) :
    ∃ fd : FuncData, (∀ (s : Shared) (v : Value), BindsTo s fd ⟨[v], []⟩ [("script", v)]) ∧ ∀ B : Heap, K.In B → B.Ns mainGlobals mg → (∀ p ∈ tfD.map (He.cT K), LamX.TabB B mg p.1 p.2) → FnG Pr w K mg B 31 f fd ["script"] (spM (cst K) 1 m_law) := by
  obtain ⟨fd, F⟩ := cc.d.def_ 27 (d := d_law) (by kernel_rfl)
  have e := hfa.symm.trans (He.glo_ok X G (cc.d.fact 51 (f := .glo "law") (by kernel_rfl)))
  cases e
  have b := FunD.bindsA (ps := ["script"]) F fun _ _ _ _ _ _ us hl => match us, hl with | [_], _ => by kernel_rfl
  refine ⟨fd, fun s v => b s [v] rfl, fun B _ _ tb => ?_⟩
  have hl : LamOk (cst K) mg B fd "law.<locals>.<lambda>" := lam_of (c := cst K) (p := ("law", none)) rfl (by exact List.mem_of_getElem? (i := 0) rfl) (hap cc) F tb
  exact e_law ▸ def_okG (c := cst K) (D := D_law) (ps := ["script"]) rfl (t_27 X G cc tb).1 (t_27 X G cc tb).2 F s_law rfl rfl rfl rfl (by decide) hl
end
end Zk21
section
open PySem PySem.W PySem.Calls PyProof.Rows
theorem Zk21.close (hm : ∀ ns : List Int, ns.length ≤ 63 → ∃ as', Zk21.m_law [.fro (.scr (ns.map Qs.W.int))] = .ok (.fro (.bl true), as')) : PySem.Challenge.rw_hookstrips_k21_whole_one_word_for_each_r.Holds := by
  w_on; o_law
  refine HandSHeadRun.head_any (r := OpenLaw.row PySem.Challenge.rw_hookstrips_k21_whole_one_word_for_each_r) (q := view (OpenLaw.row PySem.Challenge.rw_hookstrips_k21_whole_one_word_for_each_r).prog [43]) (H := Zk21.hk) (ob := Zk21.ob) (M := 4000) (loose := Zk21.loose) (d := HandSHeadRun.topDef (OpenLaw.row PySem.Challenge.rw_hookstrips_k21_whole_one_word_for_each_r).prog 43) (kwd := []) Zk21.ob_eq
    (by kernel_rfl) (fun s => by kernel_rfl) Zk21.run (by kernel_rfl) (by kernel_rfl) (by kernel_rfl) (by rfl) (by first | assumption | decide +kernel) (by decide +kernel) ⟨rfl, rfl, rfl, rfl, rfl, by decide +kernel⟩ ?hw ?hc
  case hw => w_witness2
  case hc =>
    refine Qs.walk_g (l := PySem.Challenge.rw_hookstrips_k21_whole_one_word_for_each_r) (n := 63) (k := 31) (x := "script") rfl (by decide) (by kernel_rfl) ⟨rfl, by decide, by decide⟩ ?F
    intro w mg fa h Y G hmg0
    obtain ⟨K, KX, c⟩ := Y
    have hmg : mg ("law" : PySem.Str) = some (.ref fa) := by
      have e : (HandSHeadRun.topDef (OpenLaw.row PySem.Challenge.rw_hookstrips_k21_whole_one_word_for_each_r).prog 43).name = ("law" : PySem.Str) := by kernel_rfl
      rw [← e]
      exact hmg0
    obtain ⟨fd, hb, hF⟩ := Zk21.facts (w := w) KX G c hmg
    refine ⟨K, fd, Zk21.tfD.map (He.cT K), Qs.spM (Zk21.cst K) 1 Zk21.m_law, KX, fun p hp => ?_, fun p hp => ?_, fun p hp => ?_, hb, fun H a ns hl hH hS E _ => Qs.law_end (Qs.tabs_start rfl hH) hS (hm ns hl), hF⟩
    · obtain ⟨q, hq, rfl⟩ := List.mem_map.mp hp
      exact c.tabs q hq
    · obtain ⟨q, hq, rfl⟩ := List.mem_map.mp hp
      exact c.out q hq
    · obtain ⟨q, hq, rfl⟩ := List.mem_map.mp hp
      exact codeHd_of_K KX (c.hd q hq)
end
/-! # Mirrors worked out: rules for simp -/
namespace Qs
section
variable {s : S} {u w z : W} {r ra rb : R} {i j : Int} {n m : Nat} {fa fb fd ft : SE} {f g : SS} {ws us : List W} {b : Bool} {vs : List Nat}
@[simp] theorem val_fro : val s (.fro w) = some w := Eq.trans rfl rfl
@[simp] theorem val_new : val s (.new w) = some w := Eq.trans rfl rfl
@[simp] theorem val_bor : val s (.bor n) = s[n]?.bind slW := Eq.trans rfl rfl
@[simp] theorem slW_fro : slW (.fro w) = some w := Eq.trans rfl rfl
@[simp] theorem slW_own {p : Bool} : slW (.own p w) = some w := Eq.trans rfl rfl
@[simp] theorem frz_fro : frz s (.fro w) = some (w, s) := Eq.trans rfl rfl
@[simp] theorem frz_new : frz s (.new w) = some (w, s) := Eq.trans rfl rfl
@[simp] theorem ev_var : eVar n s = match s[n]? with
  | some (.fro w) => .ok (.fro w, s)
  | some (.own _ _) => .ok (.bor n, s)
  | _ => .bad := Eq.trans rfl rfl
@[simp] theorem ev_cst : eCst w s = .ok (.fro w, s) := Eq.trans rfl rfl
@[simp] theorem ev_blE : blE b s = .ok (.fro (.bl b), s) := Eq.trans rfl rfl
@[simp] theorem ev_bind1 {k : R → SE} : bind1 fa k s = (fa s).bind fun p => k p.1 p.2 := Eq.trans rfl rfl
@[simp] theorem ev_bind2 {k : R → R → SE} : bind2 fa fb k s = (fa s).bind fun p => (fb p.2).bind fun q => k p.1 q.1 q.2 := Eq.trans rfl rfl
@[simp] theorem ev_bin {op : PySem.Operator} : eBin op fa fb s = (fa s).bind fun p => (fb p.2).bind fun q => onW2 (binW op) p.1 q.1 q.2 := Eq.trans rfl rfl
@[simp] theorem ev_cmp {op : PySem.CmpOp} : eCmp op fa fb s = (fa s).bind fun p => (fb p.2).bind fun q => onW2 (cmpW op) p.1 q.1 q.2 := Eq.trans rfl rfl
@[simp] theorem ev_cmp2 {op op' : PySem.CmpOp} : eCmp2 op op' fa fb fd s = (fa s).bind fun p => (fb p.2).bind fun q => (onW2 (cmpW op) p.1 q.1 q.2).bind fun t => ifB t.1 t.2 (fun s => (fd s).bind fun d => onW2 (cmpW op') q.1 d.1 d.2) (blE false) := Eq.trans rfl rfl
@[simp] theorem ev_ix : eIx fa fb s = (fa s).bind fun p => (fb p.2).bind fun q => onW2 ixW p.1 q.1 q.2 := Eq.trans rfl rfl
@[simp] theorem ev_one {k : W → Option R} : eOne k fa s = (fa s).bind fun p => onW k p.1 p.2 := Eq.trans rfl rfl
@[simp] theorem ev_neg : eNeg fa s = (fa s).bind fun p => onW negW p.1 p.2 := Eq.trans rfl rfl
@[simp] theorem ev_not : eNot fa s = (fa s).bind fun p => onW notW p.1 p.2 := Eq.trans rfl rfl
@[simp] theorem ev_onW {k : W → Option R} : onW k r s = match val s r with
  | some w => (ofO (k w)).bind fun z => .ok (z, s)
  | none => .bad := Eq.trans rfl rfl
@[simp] theorem ev_onW2 {k : W → W → Option R} : onW2 k ra rb s = match val s ra, val s rb with
  | some u, some w => (ofO (k u w)).bind fun z => .ok (z, s)
  | _, _ => .bad := Eq.trans rfl rfl
@[simp] theorem ev_onWs {k : List W → Option R} {rs : List R} : onWs k rs s = match vals s rs with
  | some ws => (ofO (k ws)).bind fun z => .ok (z, s)
  | none => .bad := Eq.trans rfl rfl
@[simp] theorem vals_nil : vals s [] = some [] := Eq.trans rfl rfl
@[simp] theorem vals_cons {rs : List R} : vals s (r :: rs) = (val s r).bind fun w => (vals s rs).map (w :: ·) := Eq.trans rfl rfl
@[simp] theorem ev_and : eAnd fa fb s = (fa s).bind fun p => ifB p.1 p.2 fb (blE false) := Eq.trans rfl rfl
@[simp] theorem ev_or : eOr fa fb s = (fa s).bind fun p => ifB p.1 p.2 (blE true) fb := Eq.trans rfl rfl
@[simp] theorem ev_if : eIf ft fa fb s = (ft s).bind fun p => ifB p.1 p.2 fa fb := Eq.trans rfl rfl
@[simp] theorem ifB_bl {ft fe : S → Res (R × S)} : ifB (.fro (.bl b)) s ft fe = if b = true then ft s else fe s := by cases b <;> rfl
@[simp] theorem bool_one {op : PySem.BoolOp} : boolL op [fa] = fa := Eq.trans rfl rfl
@[simp] theorem bool_and {fs : List SE} : boolL .And (fa :: fb :: fs) = eAnd fa (boolL .And (fb :: fs)) := Eq.trans rfl rfl
@[simp] theorem bool_or {fs : List SE} : boolL .Or (fa :: fb :: fs) = eOr fa (boolL .Or (fb :: fs)) := Eq.trans rfl rfl
@[simp] theorem bindL_nil {k : List R → SE} : bindL [] k = k [] := Eq.trans rfl rfl
@[simp] theorem bindL_cons {k : List R → SE} {fs : List SE} : bindL (fa :: fs) k s = (fa s).bind fun p => bindL fs (fun rs => k (p.1 :: rs)) p.2 := Eq.trans rfl rfl
@[simp] theorem ev_fn {k : List W → Option R} {fs : List SE} : eFn k fs s = bindL fs (onWs k) s := Eq.trans rfl rfl
@[simp] theorem bindI_nil {β : Type} {k : List W → S → Res β} : bindI [] k = k [] := Eq.trans rfl rfl
@[simp] theorem bindI_f {β : Type} {k : List W → S → Res β} {fs : List (Bool × SE)} : bindI ((false, fa) :: fs) k s = (fa s).bind fun p => (ofO (frz p.2 p.1)).bind fun q => bindI fs (fun ws => k (q.1 :: ws)) q.2 := Eq.trans rfl rfl
@[simp] theorem bindI_t {β : Type} {k : List W → S → Res β} {fs : List (Bool × SE)} : bindI ((true, fa) :: fs) k s = (fa s).bind fun p => (ofO ((val p.2 p.1).bind itemsOf)).bind fun us => bindI fs (fun ws => k (us ++ ws)) p.2 := Eq.trans rfl rfl
@[simp] theorem items_lst : itemsOf (.lst ws) = some ws := Eq.trans rfl rfl
@[simp] theorem items_tup : itemsOf (.tup ws) = some ws := Eq.trans rfl rfl
@[simp] theorem ev_tup {fs : List (Bool × SE)} : eTup fs s = bindI fs tupE s := Eq.trans rfl rfl
@[simp] theorem ev_lst {fs : List (Bool × SE)} : eLst fs s = bindI fs lstE s := Eq.trans rfl rfl
@[simp] theorem ev_tupE : tupE ws s = chk (decide (ws.length ≤ lim)) (.ok (.fro (.tup ws), s)) := Eq.trans rfl rfl
@[simp] theorem ev_lstE : lstE ws s = chk (decide (ws.length ≤ lim)) (.ok (.new (.lst ws), s)) := Eq.trans rfl rfl
@[simp] theorem chk_true {α : Type} {x : Res α} : chk true x = x := Eq.trans rfl rfl
/-! values -/
@[simp] theorem bin_add : binW .Add = addW := Eq.trans rfl rfl
@[simp] theorem bin_sub : binW .Sub = subW := Eq.trans rfl rfl
@[simp] theorem bin_mul : binW .Mult = mulW := Eq.trans rfl rfl
@[simp] theorem bin_div : binW .FloorDiv = fdivW := Eq.trans rfl rfl
@[simp] theorem bin_mod : binW .Mod = modW := Eq.trans rfl rfl
@[simp] theorem bin_pow : binW .Pow = powW := Eq.trans rfl rfl
@[simp] theorem add_int : addW (.int i) (.int j) = some (.fro (.int (i + j))) := Eq.trans rfl rfl
@[simp] theorem add_lst : addW (.lst us) (.lst ws) = guard' (decide (us.length + ws.length ≤ lim)) (.new (.lst (us ++ ws))) := Eq.trans rfl rfl
@[simp] theorem add_tup : addW (.tup us) (.tup ws) = guard' (decide (us.length + ws.length ≤ lim)) (.fro (.tup (us ++ ws))) := Eq.trans rfl rfl
@[simp] theorem add_str {x y : List Nat} : addW (.str x) (.str y) = guard' (decide (x.length + y.length ≤ lim)) (.fro (.str (x ++ y))) := Eq.trans rfl rfl
@[simp] theorem sub_int : subW (.int i) (.int j) = some (.fro (.int (i - j))) := Eq.trans rfl rfl
@[simp] theorem mul_int : mulW (.int i) (.int j) = guard' (mulOk i j) (.fro (.int (i * j))) := Eq.trans rfl rfl
@[simp] theorem mul_lst : mulW (.lst us) (.int j) = guard' (repOk us.length j) (.new (.lst (List.replicate j.toNat us).flatten)) := Eq.trans rfl rfl
@[simp] theorem mul_tup : mulW (.tup us) (.int j) = cond (us.isEmpty || decide (j = 1)) (guard' (decide (-1000000 ≤ j) && decide (j ≤ 1000000)) (.fro (.tup us))) (cond (decide (j ≤ 0)) (guard' (decide (-1000000 ≤ j)) (.fro (.tup []))) (guard' (!us.isEmpty && decide (2 ≤ j) && decide (j ≤ 1000000) && decide (us.length * j.toNat ≤ 1000000)) (.fro (.tup (List.replicate j.toNat us).flatten)))) := Eq.trans rfl rfl
@[simp] theorem mul_str {a : List Nat} : mulW (.str a) (.int j) = guard' (decide (-1000000 ≤ j) && decide (j ≤ 1000000) && decide (a.length * j.toNat ≤ 1000000)) (.fro (.str (List.replicate j.toNat a).flatten)) := Eq.trans rfl rfl
@[simp] theorem div_int : fdivW (.int i) (.int j) = guard' (divOk j) (.fro (.int (i / j))) := Eq.trans rfl rfl
@[simp] theorem mod_int : modW (.int i) (.int j) = guard' (decide (0 < j)) (.fro (.int (i % j))) := Eq.trans rfl rfl
@[simp] theorem pow_int : powW (.int i) (.int j) = guard' (powOk i j) (.fro (.int (i ^ j.toNat))) := Eq.trans rfl rfl
@[simp] theorem neg_int : negW (.int i) = some (.fro (.int (-i))) := Eq.trans rfl rfl
@[simp] theorem not_bl : notW (.bl b) = some (.fro (.bl (!b))) := Eq.trans rfl rfl
@[simp] theorem cmpW_eq : cmpW .Eq u w = (eqO u w).map fun b => .fro (.bl b) := Eq.trans rfl rfl
@[simp] theorem cmpW_ne : cmpW .NotEq u w = (eqO u w).map fun b => .fro (.bl (!b)) := by
  show ((eqO u w).map (!·)).map _ = _
  cases eqO u w <;> rfl
@[simp] theorem cmpW_lt : cmpW .Lt (.int i) (.int j) = some (.fro (.bl (decide (i < j)))) := Eq.trans rfl rfl
@[simp] theorem cmpW_le : cmpW .LtE (.int i) (.int j) = some (.fro (.bl (decide (i ≤ j)))) := Eq.trans rfl rfl
@[simp] theorem cmpW_gt : cmpW .Gt (.int i) (.int j) = some (.fro (.bl (decide (j < i)))) := Eq.trans rfl rfl
@[simp] theorem cmpW_ge : cmpW .GtE (.int i) (.int j) = some (.fro (.bl (decide (j ≤ i)))) := Eq.trans rfl rfl
@[simp] theorem cmpW_is : cmpW .Is u .non = some (.fro (.bl (isNon u))) := by cases u <;> rfl
@[simp] theorem cmpW_isn : cmpW .IsNot u .non = some (.fro (.bl (!isNon u))) := by cases u <;> rfl
@[simp] theorem ix_tup : ixW (.tup ws) (.int i) = (L2.atI ws i).map .fro := Eq.trans rfl rfl
@[simp] theorem ix_lst : ixW (.lst ws) (.int i) = (L2.atI ws i).map .fro := Eq.trans rfl rfl
@[simp] theorem ix_scr : ixW (.scr ws) (.int i) = (L2.atI ws i).map .fro := Eq.trans rfl rfl
@[simp] theorem len_tup : lenW [.tup ws] = some (.fro (.int ws.length)) := Eq.trans rfl rfl
@[simp] theorem len_lst : lenW [.lst ws] = some (.fro (.int ws.length)) := Eq.trans rfl rfl
@[simp] theorem len_scr : lenW [.scr ws] = some (.fro (.int ws.length)) := Eq.trans rfl rfl
@[simp] theorem tup_tup : tupW [.tup ws] = some (.fro (.tup ws)) := Eq.trans rfl rfl
@[simp] theorem isi_ty {w : W} {t : String} : isiW [w, .ty t] = (tyW w).bind fun q => (isiN q t).map fun b => .fro (.bl b) := Eq.trans rfl rfl
@[simp] theorem ty_int : tyW (.int i) = some "int" := Eq.trans rfl rfl
@[simp] theorem ty_bl : tyW (.bl b) = some "bool" := Eq.trans rfl rfl
@[simp] theorem ty_tup : tyW (.tup ws) = some "tuple" := Eq.trans rfl rfl
@[simp] theorem ty_lst : tyW (.lst ws) = some "list" := Eq.trans rfl rfl
@[simp] theorem ty_non : tyW .non = some "NoneType" := Eq.trans rfl rfl
@[simp] theorem ty_str {x : List Nat} : tyW (.str x) = some "str" := Eq.trans rfl rfl
@[simp] theorem isi_int_int : isiN "int" "int" = some true := by decide
@[simp] theorem isi_int_bool : isiN "int" "bool" = some false := by decide
@[simp] theorem isi_int_str : isiN "int" "str" = some false := by decide
@[simp] theorem isi_int_tuple : isiN "int" "tuple" = some false := by decide
@[simp] theorem isi_int_list : isiN "int" "list" = some false := by decide
@[simp] theorem isi_int_dict : isiN "int" "dict" = some false := by decide
@[simp] theorem isi_bool_int : isiN "bool" "int" = some true := by decide
@[simp] theorem isi_bool_bool : isiN "bool" "bool" = some true := by decide
@[simp] theorem isi_bool_str : isiN "bool" "str" = some false := by decide
@[simp] theorem isi_bool_tuple : isiN "bool" "tuple" = some false := by decide
@[simp] theorem isi_bool_list : isiN "bool" "list" = some false := by decide
@[simp] theorem isi_bool_dict : isiN "bool" "dict" = some false := by decide
@[simp] theorem isi_str_int : isiN "str" "int" = some false := by decide
@[simp] theorem isi_str_bool : isiN "str" "bool" = some false := by decide
@[simp] theorem isi_str_str : isiN "str" "str" = some true := by decide
@[simp] theorem isi_str_tuple : isiN "str" "tuple" = some false := by decide
@[simp] theorem isi_str_list : isiN "str" "list" = some false := by decide
@[simp] theorem isi_str_dict : isiN "str" "dict" = some false := by decide
@[simp] theorem isi_tuple_int : isiN "tuple" "int" = some false := by decide
@[simp] theorem isi_tuple_bool : isiN "tuple" "bool" = some false := by decide
@[simp] theorem isi_tuple_str : isiN "tuple" "str" = some false := by decide
@[simp] theorem isi_tuple_tuple : isiN "tuple" "tuple" = some true := by decide
@[simp] theorem isi_tuple_list : isiN "tuple" "list" = some false := by decide
@[simp] theorem isi_tuple_dict : isiN "tuple" "dict" = some false := by decide
@[simp] theorem isi_list_int : isiN "list" "int" = some false := by decide
@[simp] theorem isi_list_bool : isiN "list" "bool" = some false := by decide
@[simp] theorem isi_list_str : isiN "list" "str" = some false := by decide
@[simp] theorem isi_list_tuple : isiN "list" "tuple" = some false := by decide
@[simp] theorem isi_list_list : isiN "list" "list" = some true := by decide
@[simp] theorem isi_list_dict : isiN "list" "dict" = some false := by decide
@[simp] theorem isi_NoneType_int : isiN "NoneType" "int" = some false := by decide
@[simp] theorem isi_NoneType_bool : isiN "NoneType" "bool" = some false := by decide
@[simp] theorem isi_NoneType_str : isiN "NoneType" "str" = some false := by decide
@[simp] theorem isi_NoneType_tuple : isiN "NoneType" "tuple" = some false := by decide
@[simp] theorem isi_NoneType_list : isiN "NoneType" "list" = some false := by decide
@[simp] theorem isi_NoneType_dict : isiN "NoneType" "dict" = some false := by decide
/-! a def's end -/
def endF (as : S) : Fl → Res (R × S)
  | .nx s' => (ofO (endA as s')).bind fun as' => .ok (.fro .non, as')
  | .rt r s' => (ofO (retR s' r)).bind fun r' => (ofO (endA as s')).bind fun as' => .ok (r', as')
  | _ => .bad
theorem ev_callM {as : S} : callM n f as = (f (startS n as)).bind (endF as) := by
  unfold callM
  rw [nfLs_eq]
  rfl
@[simp] theorem endF_nx {as : S} : endF as (.nx s) = (ofO (endA as s)).bind fun as' => .ok (.fro .non, as') := Eq.trans rfl rfl
@[simp] theorem endF_rt {as : S} : endF as (.rt r s) = (ofO (retR s r)).bind fun r' => (ofO (endA as s)).bind fun as' => .ok (r', as') := Eq.trans rfl rfl
@[simp] theorem retR_fro : retR s (.fro w) = some (.fro w) := Eq.trans rfl rfl
@[simp] theorem retR_new : retR s (.new w) = some (.new w) := Eq.trans rfl rfl
@[simp] theorem retR_bor : retR s (.bor n) = match s[n]? with
  | some (.fro w) => some (.fro w)
  | some (.own false w) => some (.new w)
  | _ => none := Eq.trans rfl rfl
@[simp] theorem endA_nil : endA [] s = some [] := Eq.trans rfl rfl
@[simp] theorem endA_fro {as : S} {x : Sl} : endA (.fro w :: as) (x :: s) = (endA as s).map (.fro w :: ·) := Eq.trans rfl rfl
@[simp] theorem endA_own {as : S} {p : Bool} : endA (.own p w :: as) (.own true z :: s) = (endA as s).map (.own p z :: ·) := Eq.trans rfl rfl
@[simp] theorem toP_f : toP (.fro w) = .fro w := Eq.trans rfl rfl
@[simp] theorem toP_o {p : Bool} : toP (.own p w) = .own true w := Eq.trans rfl rfl
/-! calls -/
def callK (m : SE) (rs : List R) : SE := fun s => (ofO (argsS s rs)).bind fun as => chk (decide (ownIx s rs).Nodup) <| (m as).bind fun p => (ofO (backA rs p.2 s)).bind fun s' => match p.1 with
  | .bor _ => .bad
  | r => .ok (r, s')
@[simp] theorem ev_call {m : SE} {fs : List SE} : eCall m fs s = bindL (fs.map eFz) (callK m) s := Eq.trans rfl rfl
@[simp] theorem ev_callK {m : SE} {rs : List R} : callK m rs s = (ofO (argsS s rs)).bind fun as => chk (decide (ownIx s rs).Nodup) <| (m as).bind fun p => (ofO (backA rs p.2 s)).bind fun s' => match p.1 with
  | .bor _ => .bad
  | r => .ok (r, s') := Eq.trans rfl rfl
@[simp] theorem argsS_nil : argsS s [] = some [] := Eq.trans rfl rfl
@[simp] theorem argsS_cons {rs : List R} : argsS s (r :: rs) = (argS s r).bind fun a => (argsS s rs).map (a :: ·) := Eq.trans rfl rfl
@[simp] theorem argS_f : argS s (.fro w) = some (.fro w) := Eq.trans rfl rfl
@[simp] theorem argS_b : argS s (.bor n) = match s[n]? with
    | some (.fro w) => some (.fro w)
    | some (.own _ w) => some (.own false w)
    | _ => none := Eq.trans rfl rfl
@[simp] theorem ownI_f : ownI s (.fro w) = none := Eq.trans rfl rfl
@[simp] theorem ownI_b : ownI s (.bor n) = match s[n]? with
    | some (.own _ _) => some n
    | _ => none := Eq.trans rfl rfl
@[simp] theorem ownIx_nil : ownIx s [] = [] := Eq.trans rfl rfl
@[simp] theorem ownIx_cons {rs : List R} : ownIx s (r :: rs) = match ownI s r with
    | some i => i :: ownIx s rs
    | none => ownIx s rs := Eq.trans rfl rfl
@[simp] theorem backA_nil : backA [] [] s = some s := Eq.trans rfl rfl
@[simp] theorem backA_f {rs : List R} {as : S} {a : Sl} : backA (.fro w :: rs) (a :: as) s = backA rs as s := Eq.trans rfl rfl
@[simp] theorem backA_b {rs : List R} {as : S} {a : Sl} : backA (.bor n :: rs) (a :: as) s = match s[n]?, a with
    | some (.own p _), .own _ w => backA rs as (s.set n (.own p w))
    | some (.own _ _), .fro w => backA rs as (s.set n (.fro w))
    | some (.fro _), _ => backA rs as s
    | _, _ => none := Eq.trans rfl rfl
/-! equality -/
@[simp] theorem eqO_int : eqO (.int i) (.int j) = some (decide (i = j)) := by
  show guard' _ _ = _
  simp only [datW, Bool.and_self, guard'_true]
  show some (i == j) = _
  rfl
theorem dat_ints {l : List Int} {n : Nat} : (l.map W.int).all (datW n) = true := by
  rw [List.all_map, List.all_eq_true]
  intro x hx
  cases n <;> rfl
theorem eqs_ints : ∀ {l l' : List Int}, eqWs (l.map W.int) (l'.map W.int) = decide (l = l')
  | [], [] => by simp [eqWs]
  | [], _ :: _ => by simp [eqWs]
  | _ :: _, [] => by simp [eqWs]
  | x :: xs, y :: ys => by
    simp only [List.map_cons, eqWs, eqs_ints, eqW, List.cons.injEq, Bool.decide_and]
    rfl
@[simp] theorem eqO_tints {l l' : List Int} : eqO (.tup (l.map W.int)) (.tup (l'.map W.int)) = some (decide (l = l')) := by
  show guard' _ _ = _
  simp only [datW, dat_ints, Bool.and_self, guard'_true, eqW, eqs_ints]
@[simp] theorem eqO_lints {l l' : List Int} : eqO (.lst (l.map W.int)) (.lst (l'.map W.int)) = some (decide (l = l')) := by
  show guard' _ _ = _
  simp only [datW, dat_ints, Bool.and_self, guard'_true, eqW, eqs_ints]
@[simp] theorem eqO_tnil {l : List Int} : eqO (.tup (l.map W.int)) (.tup []) = some (decide (l = [])) := eqO_tints (l' := [])
@[simp] theorem eqO_lnil {l : List Int} : eqO (.lst (l.map W.int)) (.lst []) = some (decide (l = [])) := eqO_lints (l' := [])
/-! statements -/
@[simp] theorem ev_nil : sNil s = .ok (.nx s) := Eq.trans rfl rfl
@[simp] theorem ev_seq : sSeq f g s = (f s).bind (thenS g) := Eq.trans rfl rfl
@[simp] theorem then_nx : thenS g (.nx s) = g s := thenS_nx
@[simp] theorem then_rt : thenS g (.rt r s) = .ok (.rt r s) := Eq.trans rfl rfl
@[simp] theorem then_bk : thenS g (.bk s) = .ok (.bk s) := Eq.trans rfl rfl
@[simp] theorem then_ct : thenS g (.ct s) = .ok (.ct s) := Eq.trans rfl rfl
@[simp] theorem ev_brk : sBreak s = .ok (.bk s) := Eq.trans rfl rfl
@[simp] theorem ev_ct : sCont s = .ok (.ct s) := Eq.trans rfl rfl
@[simp] theorem ev_exp : sExpr fa s = (fa s).bind fun p => .ok (.nx p.2) := Eq.trans rfl rfl
@[simp] theorem ev_ret : sRet fa s = (fa s).bind fun p => .ok (.rt p.1 p.2) := Eq.trans rfl rfl
/-- by a truth -/
def ifSt (o : Option W) (x y : Res Fl) : Res Fl := match o with
  | some (.bl true) => x
  | some (.bl false) => y
  | _ => .bad
@[simp] theorem ifSt_bl {x y : Res Fl} : ifSt (some (.bl b)) x y = if b = true then x else y := by cases b <;> rfl
@[simp] theorem ev_sif : sIf ft f g s = (ft s).bind fun p => ifSt (val p.2 p.1) (f p.2) (g p.2) := Eq.trans rfl rfl
@[simp] theorem ev_asg {t : GT} : sAsg fa t s = (fa s).bind fun p => (t p.1 p.2).bind fun s' => .ok (.nx s') := Eq.trans rfl rfl
@[simp] theorem asg_fro : asgN n (.fro w) s = chk (decide (n < s.length)) (.ok (s.set n (.fro w))) := nfW_eq _ _
@[simp] theorem asg_new : asgN n (.new w) s = chk (decide (n < s.length)) (.ok (s.set n (.own false w))) := nfW_eq _ _
@[simp] theorem gtup_f {gs : List GT} : gTupW gs (.fro (.tup ws)) s = chk (decide (ws.length = gs.length)) (gsL gs ws s) := Eq.trans rfl rfl
@[simp] theorem gsL_nil : gsL [] [] s = .ok s := Eq.trans rfl rfl
@[simp] theorem gsL_cons {t : GT} {gs : List GT} : gsL (t :: gs) (w :: ws) s = (t (.fro w) s).bind fun s1 => gsL gs ws s1 := Eq.trans rfl rfl
@[simp] theorem ev_fz : eFz fa s = (fa s).bind fun p => match p.1 with
  | .new w => .ok (.fro w, p.2)
  | r => .ok (r, p.2) := Eq.trans rfl rfl
end
/-! ### loops -/
theorem forL_inv {g : GT} {fb : SS} (I : List W → S → Prop) (step : ∀ w ws s, I (w :: ws) s → ∃ s1 s2, g (.fro w) s = .ok s1 ∧ (fb s1 = .ok (.nx s2) ∨ fb s1 = .ok (.ct s2)) ∧ I ws s2) : ∀ ws s, I ws s → ∃ s', forL g fb ws s = .ok (.nx s') ∧ I [] s'
  | [], s, h => ⟨s, rfl, h⟩
  | w :: ws, s, h => by
    obtain ⟨s1, s2, e1, e2, h2⟩ := step w ws s h
    obtain ⟨s', e3, h3⟩ := forL_inv I step ws s2 h2
    refine ⟨s', ?_, h3⟩
    unfold forL
    rw [e1]
    rcases e2 with e2 | e2 <;> (simp only [Res.bind_ok, e2]; exact e3)
theorem while_inv {ft : SE} {fb : SS} (I : Nat → S → Prop) (J : S → Prop) (step : ∀ n s, I n s → (∃ r s1 s2 n', ft s = .ok (r, s1) ∧ val s1 r = some (.bl true) ∧ (fb s1 = .ok (.nx s2) ∨ fb s1 = .ok (.ct s2)) ∧ n' < n ∧ I n' s2) ∨
    ∃ r s1, ft s = .ok (r, s1) ∧ val s1 r = some (.bl false) ∧ J s1) : ∀ (n m : Nat) (s : S), n < m → I n s → ∃ s', whileN ft fb m s = .ok (.nx s') ∧ J s'
  | n, 0, s, hn, h => absurd hn (Nat.not_lt_zero _)
  | n, m + 1, s, hn, h => by
    unfold whileN
    rcases step n s h with ⟨r, s1, s2, n', e1, e2, e3, hl, h2⟩ | ⟨r, s1, e1, e2, h2⟩
    · obtain ⟨s', e4, h4⟩ := while_inv I J step n' m s2 (by omega) h2
      refine ⟨s', ?_, h4⟩
      rw [e1]
      rcases e3 with e3 | e3 <;> (simp only [Res.bind_ok, e2, e3]; exact e4)
    · refine ⟨s1, ?_, h2⟩
      rw [e1]
      simp only [Res.bind_ok, e2]
/-- a block whose turns leave all as it is -/
theorem compL_pure {g : GT} {ft fe : SE} {vs : List Nat} {s : S} (p : W → Bool) (F : W → W) : ∀ ws : List W, (∀ w ∈ ws, ∃ s1 r s2, g (.fro w) s = .ok s1 ∧ ft s1 = .ok (r, s2) ∧ val s2 r = some (.bl (p w)) ∧
    (p w = true → ∃ r' s3 s4, fe s2 = .ok (r', s3) ∧ frz s3 r' = some (F w, s4) ∧ wipeS s4 vs = s) ∧ (p w = false → wipeS s2 vs = s)) → compL g ft fe vs ws s = .ok ((ws.filter p).map F, s)
  | [], _ => rfl
  | w :: ws, h => by
    obtain ⟨s1, r, s2, e1, e2, e3, h4, h5⟩ := h w List.mem_cons_self
    have ih := compL_pure p F ws fun w' hw => h w' (List.mem_cons_of_mem _ hw)
    unfold compL
    cases q : p w with
    | true =>
      obtain ⟨r', s3, s4, e5, e6, e7⟩ := h4 q
      rw [q] at e3
      simp only [e1, Res.bind_ok, e2, e3, e5, e6, ofO_some, e7, ih, List.filter_cons, q, if_true, List.map_cons]
    | false =>
      rw [q] at e3
      simp only [e1, Res.bind_ok, e2, e3, h5 q, ih, List.filter_cons, q, if_false]
      rfl
theorem lc_pure {fi : IE} {g : GT} {ft fe : SE} {vs : List Nat} {s s1 : S} {ws : List W} (p : W → Bool) (F : W → W) (ei : fi s = .ok (ws, s1)) (hl : ws.length ≤ lenMost) (hb : backS vs 0 s1 (wipeS s1 vs) = some s1)
    (h : ∀ w ∈ ws, ∃ s2 r s3, g (.fro w) (wipeS s1 vs) = .ok s2 ∧ ft s2 = .ok (r, s3) ∧ val s3 r = some (.bl (p w)) ∧
    (p w = true → ∃ r' s4 s5, fe s3 = .ok (r', s4) ∧ frz s4 r' = some (F w, s5) ∧ wipeS s5 vs = wipeS s1 vs) ∧ (p w = false → wipeS s3 vs = wipeS s1 vs)) : eLc fi g ft fe vs s = .ok (.new (.lst ((ws.filter p).map F)), s1) := by
  unfold eLc
  rw [ei]
  simp only [Res.bind_ok]
  rw [compL_pure p F ws h, decide_eq_true hl]
  simp only [chk_true, noX, Res.bind_ok, hb, ofO_some]
end Qs
/-! # Mirrors worked out: blocks over lists of things, places, cuts -/
namespace Qs
section
variable {α : Type} {g : GT} {ft fe : SE} {fi : IE} {vs : List Nat} {s s1 : S}
/-- one turn of a block -/
def turnT (g : GT) (ft fe : SE) (vs : List Nat) (w : W) (s : S) : Res (Option W × S) := (g (.fro w) s).bind fun s1 => (ft s1).bind fun p => match val p.2 p.1 with
  | some (.bl true) => (fe p.2).bind fun q => (ofO (frz q.2 q.1)).bind fun u => .ok (some u.1, wipeS u.2 vs)
  | some (.bl false) => .ok (none, wipeS p.2 vs)
  | _ => .bad
theorem turn_bl {b : Bool} {k : Res (Option W × S)} {s' : S} : (match (some (W.bl b) : Option W) with
  | some (.bl true) => k
  | some (.bl false) => .ok (none, s')
  | _ => .bad) = if b = true then k else .ok (none, s') := by cases b <;> rfl
theorem compL_eq {w : W} {ws : List W} : compL g ft fe vs (w :: ws) s = (g (.fro w) s).bind fun s1 => (ft s1).bind fun p => match val p.2 p.1 with
    | some (.bl true) => (fe p.2).bind fun q => (ofO (frz q.2 q.1)).bind fun u => (compL g ft fe vs ws (wipeS u.2 vs)).bind fun z => .ok (u.1 :: z.1, z.2)
    | some (.bl false) => compL g ft fe vs ws (wipeS p.2 vs)
    | _ => .bad := by
  conv => lhs; unfold compL
  all_goals rfl
theorem compL_cons {w : W} {ws : List W} {o : Option W} {s2 : S} (e : turnT g ft fe vs w s = .ok (o, s2)) : compL g ft fe vs (w :: ws) s = (compL g ft fe vs ws s2).bind fun z => .ok (o.toList ++ z.1, z.2) := by
  unfold turnT at e
  rw [compL_eq]
  cases e1 : g (.fro w) s with
  | exc x => rw [e1] at e; cases e
  | bad => rw [e1] at e; cases e
  | ok s3 =>
    simp only [e1, Res.bind_ok] at e ⊢
    cases e2 : ft s3 with
    | exc x => rw [e2] at e; cases e
    | bad => rw [e2] at e; cases e
    | ok p =>
      simp only [e2, Res.bind_ok] at e ⊢
      split at e
      · cases e3 : fe p.2 with
        | exc x => rw [e3] at e; cases e
        | bad => rw [e3] at e; cases e
        | ok q =>
          simp only [e3, Res.bind_ok] at e ⊢
          cases e4 : frz q.2 q.1 with
          | none => rw [e4] at e; cases e
          | some u =>
            simp only [e4, ofO_some, Res.bind_ok] at e ⊢
            cases e
            rfl
      · cases e
        cases compL g ft fe vs ws (wipeS p.2 vs) <;> rfl
      · cases e
theorem compL_map (xs : List α) (e : α → W) (F : α → Option W) (h : ∀ x ∈ xs, turnT g ft fe vs (e x) s = .ok (F x, s)) : compL g ft fe vs (xs.map e) s = .ok (xs.filterMap F, s) := by
  induction xs with
  | nil => rfl
  | cons x xs ih =>
    rw [List.map_cons, compL_cons (h x List.mem_cons_self), ih fun y hy => h y (List.mem_cons_of_mem _ hy), List.filterMap_cons]
    cases F x <;> rfl
/-- a block with a state: J tells the state at the items that are left -/
theorem compL_inv {β : Type} (J : List α → List W → S → Prop) (e : α → W) (h : ∀ x xs acc s, J (x :: xs) acc s → ∃ o s2, turnT g ft fe vs (e x) s = .ok (o, s2) ∧ J xs (acc ++ o.toList) s2) :
    ∀ (xs : List α) (acc : List W) (s : S), J xs acc s → ∃ l s', compL g ft fe vs (xs.map e) s = .ok (l, s') ∧ J [] (acc ++ l) s'
  | [], acc, s, h0 => ⟨[], s, rfl, by simpa using h0⟩
  | x :: xs, acc, s, h0 => by
    obtain ⟨o, s2, e1, h1⟩ := h x xs acc s h0
    obtain ⟨l, s', e2, h2⟩ := compL_inv (β := β) J e h xs _ s2 h1
    refine ⟨o.toList ++ l, s', ?_, by simpa using h2⟩
    rw [List.map_cons, compL_cons e1, e2]; rfl
theorem lc_of {ws l : List W} {s2 s3 : S} (ei : fi s = .ok (ws, s1)) (hl : ws.length ≤ 4096) (ec : compL g ft fe vs ws (wipeS s1 vs) = .ok (l, s2)) (hb : backS vs 0 s1 s2 = some s3) : eLc fi g ft fe vs s = .ok (.new (.lst l), s3) := by
  unfold eLc
  rw [ei]
  simp only [Res.bind_ok]
  rw [ec, decide_eq_true (show ws.length ≤ lenMost from hl)]
  simp only [chk_true, noX, Res.bind_ok, hb, ofO_some]
/-- [.. for x in xs if ..], nothing outside changes -/
theorem lc_map (xs : List α) (e : α → W) (F : α → Option W) (ei : fi s = .ok (xs.map e, s1)) (hl : xs.length ≤ 4096) (hb : backS vs 0 s1 (wipeS s1 vs) = some s1)
    (h : ∀ x ∈ xs, turnT g ft fe vs (e x) (wipeS s1 vs) = .ok (F x, wipeS s1 vs)) : eLc fi g ft fe vs s = .ok (.new (.lst (xs.filterMap F)), s1) :=
  lc_of ei (by rw [List.length_map]; exact hl) (compL_map xs e F h) hb
/-- .. all of them -/
theorem lc_all (xs : List α) (e : α → W) (F : α → W) (ei : fi s = .ok (xs.map e, s1)) (hl : xs.length ≤ 4096) (hb : backS vs 0 s1 (wipeS s1 vs) = some s1)
    (h : ∀ x ∈ xs, turnT g ft fe vs (e x) (wipeS s1 vs) = .ok (some (F x), wipeS s1 vs)) : eLc fi g ft fe vs s = .ok (.new (.lst (xs.map F)), s1) := by
  rw [lc_map xs e (fun x => some (F x)) ei hl hb h, List.filterMap_eq_map']
end
/-! ### iterables -/
section
variable {s s1 s2 : S} {fa fb : SE} {w : W} {ws us : List W} {i j : Int} {n : Nat} {vs : List Nat}
theorem iv_of {r : R} (e : fa s = .ok (r, s1)) (e2 : frz s1 r = some (w, s2)) (e3 : iterV w = some ws) : iVal fa s = .ok (ws, s2) := by
  unfold iVal
  rw [e]
  simp only [Res.bind_ok, e2, ofO_some, e3]
@[simp] theorem iargs1 {g : List W → Option (List W)} : iArgs g [fa] s = (fa s).bind fun p => (ofO (frz p.2 p.1)).bind fun q => (ofO (g [q.1])).bind fun ws => .ok (ws, q.2) := Eq.trans rfl rfl
@[simp] theorem iargs2 {g : List W → Option (List W)} : iArgs g [fa, fb] s = (fa s).bind fun p => (ofO (frz p.2 p.1)).bind fun q => (fb q.2).bind fun p2 => (ofO (frz p2.2 p2.1)).bind fun q2 => (ofO (g [q.1, q2.1])).bind fun ws => .ok (ws, q2.2) := Eq.trans rfl rfl
@[simp] theorem zip_tup : zipW [.tup us, .tup ws] = some (zipL us ws) := Eq.trans rfl rfl
@[simp] theorem zip_lst : zipW [.lst us, .lst ws] = some (zipL us ws) := Eq.trans rfl rfl
@[simp] theorem enum_tup : enumA [.tup ws] = some (numL ws) := Eq.trans rfl rfl
@[simp] theorem enum_lst : enumA [.lst ws] = some (numL ws) := Eq.trans rfl rfl
@[simp] theorem iter_tup : iterV (.tup ws) = some ws := Eq.trans rfl rfl
@[simp] theorem iter_lst : iterV (.lst ws) = some ws := Eq.trans rfl rfl
theorem rng1_of (h : 0 ≤ j) (h2 : j ≤ 4000000000) : rng1 [.int j] = some (rngL 0 1 j.toNat) := by
  show guard' _ _ = _
  have : inR j = true := by unfold inR; simp; omega
  rw [this]; rfl
theorem rng2_of (h1 : -4000000000 ≤ i) (h3 : i ≤ 4000000000) (h : -4000000000 ≤ j) (h2 : j ≤ 4000000000) : rng2 [.int i, .int j] = some (rngL i 1 (j - i).toNat) := by
  show guard' _ _ = _
  have a : inR j = true := by unfold inR; simp; omega
  have b : inR i = true := by unfold inR; simp; omega
  rw [a, b]; rfl
/-! ### places, cuts -/
theorem at_nat {α : Type} {xs : List α} : L2.atI xs ((n : Nat) : Int) = xs[n]? := by
  unfold L2.atI L2.ixN
  rw [if_pos (Int.natCast_nonneg n)]
  by_cases h : n < xs.length
  · rw [if_pos (by omega)]; simp
  · rw [if_neg (by omega), List.getElem?_eq_none (by omega)]; rfl
theorem at_pos {α : Type} {xs : List α} (h : 0 ≤ i) : L2.atI xs i = xs[i.toNat]? := by
  obtain ⟨n, rfl⟩ := Int.eq_ofNat_of_zero_le h
  rw [at_nat]; simp
theorem cut_from {α : Type} {xs : List α} : cutG xs (some ((n : Nat) : Int)) none = xs.drop n := by
  unfold cutG
  rw [HT.sIx_nat, HT.sIx_none]
  by_cases h : n ≤ xs.length
  · rw [Nat.min_eq_left h, List.take_of_length_le (by rw [List.length_drop]; exact Nat.le_refl _)]
  · rw [Nat.min_eq_right (by omega), List.drop_eq_nil_of_le (by omega), List.drop_eq_nil_of_le (by omega)]; simp
theorem cut_to {α : Type} {xs : List α} : cutG xs none (some ((n : Nat) : Int)) = xs.take n := by
  unfold cutG
  rw [HT.sIx_nat, HT.sIx_none, List.drop_zero, Nat.sub_zero]
  by_cases h : n ≤ xs.length
  · rw [Nat.min_eq_left h]
  · rw [Nat.min_eq_right (by omega), List.take_of_length_le (by omega), List.take_of_length_le (by omega)]
@[simp] theorem sl_from {lo : Int} : eSl fa (some (eCst (.int lo))) none s = (fa s).bind fun p => onW (sliceW (some lo) none) p.1 p.2 := Eq.trans rfl rfl
@[simp] theorem sl_to {lo : Int} : eSl fa none (some (eCst (.int lo))) s = (fa s).bind fun p => onW (sliceW none (some lo)) p.1 p.2 := Eq.trans rfl rfl
@[simp] theorem slice_tup {a b : Option Int} : sliceW a b (.tup ws) = some (.fro (.tup (cutG ws a b))) := Eq.trans rfl rfl
@[simp] theorem slice_lst {a b : Option Int} : sliceW a b (.lst ws) = some (.new (.lst (cutG ws a b))) := Eq.trans rfl rfl
@[simp] theorem wipeS_of : wipeS s vs = wipeS.go vs 0 s := Eq.trans rfl rfl
@[simp] theorem wgo_nil {k : Nat} : wipeS.go vs k [] = [] := Eq.trans rfl rfl
@[simp] theorem wgo_cons {k : Nat} {x : Sl} : wipeS.go vs k (x :: s) = (if vs.contains k then .un else x) :: wipeS.go vs (k + 1) s := Eq.trans rfl rfl
@[simp] theorem backS_nil {k : Nat} : backS vs k [] [] = some [] := Eq.trans rfl rfl
@[simp] theorem backS_cons {k : Nat} {x y : Sl} : backS vs k (x :: s) (y :: s1) = (if vs.contains k then some x else backSl x y).bind fun z => (backS vs (k + 1) s s1).map (z :: ·) := Eq.trans rfl rfl
@[simp] theorem backSl_f {x : Sl} : backSl (.fro w) x = some (.fro w) := by cases x <;> rfl
@[simp] theorem backSl_u {x : Sl} : backSl .un x = some .un := by cases x <;> rfl
@[simp] theorem backSl_oo {b : Bool} {u : W} : backSl (.own b w) (.own b u) = some (.own b u) := by cases b <;> rfl
@[simp] theorem ev_par {is : List Nat} {fs : List SE} : sPar is fs s = (bindB fs (asgL is) s).bind fun s' => .ok (.nx s') := Eq.trans rfl rfl
@[simp] theorem bindB_nil {k : List R → S → Res S} : bindB [] k s = k [] s := Eq.trans rfl rfl
@[simp] theorem bindB_cons {k : List R → S → Res S} {fs : List SE} : bindB (fa :: fs) k s = (fa s).bind fun p => (ofO (frzB p.2 p.1)).bind fun q => bindB fs (fun rs => k (q.1 :: rs)) q.2 := Eq.trans rfl rfl
@[simp] theorem frzB_f : frzB s (.fro w) = some (.fro w, s) := Eq.trans rfl rfl
@[simp] theorem frzB_n : frzB s (.new w) = some (.new w, s) := Eq.trans rfl rfl
@[simp] theorem asgL_nil : asgL [] [] s = .ok s := Eq.trans rfl rfl
@[simp] theorem asgL_cons {r : R} {is : List Nat} {rs : List R} : asgL (n :: is) (r :: rs) s = (asgN n r s).bind fun s1 => asgL is rs s1 := Eq.trans rfl rfl
@[simp] theorem ev_mut1 {g : List W → W → Option (W × List W)} : eMut1 g fa fb s = (fa s).bind fun p => chk (isLst (val p.2 p.1)) ((fb p.2).bind fun t => (ofO (frz t.2 t.1)).bind fun f => (ofO (ownL f.2 p.1)).bind fun q => (ofO (g q.2.2 f.1)).bind fun z => .ok (.fro z.1, f.2.set q.1 (.own q.2.1 (.lst z.2)))) := by
  unfold eMut1
  simp only [nfW_eq, nfLs_eq]
@[simp] theorem ev_mut0 {g : List W → Option (W × List W)} : eMut0 g fa s = (fa s).bind fun p => (ofO (ownL p.2 p.1)).bind fun q => (ofO (g q.2.2)).bind fun z => .ok (.fro z.1, p.2.set q.1 (.own q.2.1 (.lst z.2))) := by
  unfold eMut0
  simp only [nfLs_eq]
@[simp] theorem isLst_lst : isLst (some (.lst ws)) = true := Eq.trans rfl rfl
@[simp] theorem ownL_bor : ownL s (.bor n) = match s[n]? with
  | some (.own p (.lst ws)) => some (n, p, ws)
  | _ => none := Eq.trans rfl rfl
@[simp] theorem app_of : appW ws w = guard' (decide (ws.length < lim)) (.non, ws ++ [w]) := Eq.trans rfl rfl
@[simp] theorem ext_of : extW ws (.lst us) = guard' (decide (ws.length + us.length ≤ lim)) (.non, ws ++ us) := Eq.trans rfl rfl
@[simp] theorem ev_aug {op : PySem.Operator} : sAug op n fa s = match s[n]? with
  | some (.fro u) => (fa s).bind fun p => match val p.2 p.1 with
    | some w => (ofO (augW op u w)).bind fun z => .ok (.nx (p.2.set n (.fro z)))
    | none => .bad
  | _ => .bad := by
  unfold sAug
  simp only [nfW_eq]
  all_goals rfl
@[simp] theorem aug_add : augW .Add (.int i) (.int j) = some (.int (i + j)) := Eq.trans rfl rfl
@[simp] theorem aug_sub : augW .Sub (.int i) (.int j) = some (.int (i - j)) := Eq.trans rfl rfl
@[simp] theorem ev_for {fi : IE} {g : GT} {fb : SS} : sFor fi g fb s = (fi s).bind fun p => forL g fb p.1 p.2 := Eq.trans rfl rfl
@[simp] theorem max2_of : max2W [.int i, .int j] = some (.fro (.int (if j > i then j else i))) := Eq.trans rfl rfl
@[simp] theorem min2_of : min2W [.int i, .int j] = some (.fro (.int (if j < i then j else i))) := Eq.trans rfl rfl
@[simp] theorem tup_lst : tupW [.lst ws] = some (.fro (.tup ws)) := Eq.trans rfl rfl
end
end Qs
/-! # What all laws share: dice, a roll, a pick, the loop over the script -/
namespace Qs
theorem forL_range {g : GT} {fb : SS} {n : Nat} {e : Nat → W} (J : Nat → S → Prop) (step : ∀ k s, k < n → J k s → ∃ s1 s2, g (.fro (e k)) s = .ok s1 ∧ (fb s1 = .ok (.nx s2) ∨ fb s1 = .ok (.ct s2)) ∧ J (k + 1) s2) {s : S} (h : J 0 s) :
    ∃ s', forL g fb ((List.range n).map e) s = .ok (.nx s') ∧ J n s' := by
  obtain ⟨s', e1, k, hk, ek, h2⟩ := forL_inv (g := g) (fb := fb) (fun ws s => ∃ k, k ≤ n ∧ ws = ((List.range n).map e).drop k ∧ J k s) (fun w ws s ⟨k, hk, ek, hj⟩ => by
    have hlt : k < n := by
      rcases Nat.lt_or_ge k n with z | z
      · exact z
      · rw [List.drop_eq_nil_of_le (by simpa using z)] at ek; cases ek
    rw [List.drop_eq_getElem_cons (by simpa using hlt)] at ek
    injection ek with e1 e2
    obtain ⟨s1, s2, f1, f2, f3⟩ := step k s hlt hj
    refine ⟨s1, s2, ?_, f2, k + 1, hlt, e2, f3⟩
    rw [e1]
    simpa using f1) ((List.range n).map e) s ⟨0, Nat.zero_le _, by simp, h⟩
  have : n ≤ k := by
    have z := congrArg List.length ek
    simp at z
    omega
  have : k = n := by omega
  subst this
  exact ⟨s', e1, h2⟩
theorem log2_small {n k : Nat} (h : n < 2 ^ k) : n.log2 ≤ k := by
  by_cases h0 : n = 0
  · subst h0; simp
  · exact Nat.le_of_lt ((Nat.log2_lt h0).mpr h)
theorem mulOk_of {i j : Int} (hi : i.natAbs < 2 ^ 300) (hj : j.natAbs < 2 ^ 300) : mulOk i j = true := by
  unfold mulOk
  have a := log2_small hi
  have b := log2_small hj
  simp only [decide_eq_true_eq]
  omega
theorem divOk_of {j : Int} (h : 0 < j) (h2 : j.natAbs < 2 ^ 300) : divOk j = true := by
  unfold divOk
  have := log2_small h2
  simp only [Bool.and_eq_true, decide_eq_true_eq]
  exact ⟨h, by omega⟩
section
variable {s : S} {fa fb : SE} {w : W}
@[simp] theorem ev_gix {r : R} : gIx fa fb r s = (ofO (frz s r)).bind fun f => (fa f.2).bind fun p => (fb p.2).bind fun q => (ofO (ownL q.2 p.1)).bind fun l => (ofO ((val q.2 q.1).bind (idx l.2.2.length))).bind fun j => .ok (q.2.set l.1 (.own l.2.1 (.lst (l.2.2.set j f.1)))) := by
  unfold gIx
  simp only [nfW_eq, nfLs_eq]
@[simp] theorem int_int {i : Int} : intW [.int i] = some (.fro (.int i)) := Eq.trans rfl rfl
end
@[simp] theorem abs_of {i : Int} : absW [.int i] = some (.fro (.int (if i < 0 then -i else i))) := Eq.trans rfl rfl
@[simp] theorem int_bl {b : Bool} : intW [.bl b] = some (.fro (.int (if b then 1 else 0))) := Eq.trans rfl rfl
end Qs
namespace Qs
theorem backSl_self : ∀ x : Sl, backSl x x = some x
  | .un => by simp
  | .fro w => by simp
  | .own b w => by simp
theorem back_go (vs : List Nat) : ∀ (s : S) (k : Nat), backS vs k s (wipeS.go vs k s) = some s
  | [], k => rfl
  | x :: s, k => by
    rw [wgo_cons, backS_cons, back_go vs s (k + 1)]
    by_cases h : vs.contains k = true
    · rw [if_pos h]; rfl
    · rw [if_neg h, if_neg h, backSl_self]; rfl
theorem back_self {vs : List Nat} {s : S} : backS vs 0 s (wipeS s vs) = some s := back_go vs s 0
mutual
theorem eqW_self : ∀ (n : Nat) (w : W), datW n w = true → eqW w w = true
  | _, .non, _ => by unfold eqW; rfl
  | _, .bl b, _ => by unfold eqW; cases b <;> rfl
  | _, .int i, _ => by unfold eqW; simp
  | _, .str s, _ => by unfold eqW; simp
  | n + 1, .tup xs, h => by
    unfold eqW
    unfold datW at h
    exact eqWs_self n xs h
  | n + 1, .lst xs, h => by
    unfold eqW
    unfold datW at h
    exact eqWs_self n xs h
  | 0, .tup xs, h => by unfold datW at h; cases h
  | 0, .lst xs, h => by unfold datW at h; cases h
  | n, .dic _ _, h => by cases n <;> (unfold datW at h; cases h)
  | n, .fn _, h => by cases n <;> (unfold datW at h; cases h)
  | n, .cl _, h => by cases n <;> (unfold datW at h; cases h)
  | n, .ty _, h => by cases n <;> (unfold datW at h; cases h)
  | n, .ins _ _, h => by cases n <;> (unfold datW at h; cases h)
  | n, .scr _, h => by cases n <;> (unfold datW at h; cases h)
theorem eqWs_self : ∀ (n : Nat) (ws : List W), ws.all (datW n) = true → eqWs ws ws = true
  | _, [], _ => by unfold eqWs; rfl
  | n, w :: ws, h => by
    rw [List.all_cons, Bool.and_eq_true] at h
    unfold eqWs
    rw [eqW_self n w h.1, eqWs_self n ws h.2]; rfl
end
theorem eqO_self {w : W} (h : datW 60 w = true) : eqO w w = some true := by
  unfold eqO
  rw [h, eqW_self 60 w h]; rfl
end Qs
namespace Qd
open Qs
/-- a number as a tree -/
def wi (n : Nat) : W := .int (n : Int)
theorem rng_of {n : Nat} : rngL 0 1 n = (List.range n).map wi := by
  unfold rngL
  apply List.map_congr_left
  intro a _
  simp [wi]
def b_dice : SS := (sSeq (sAsg (eIf (eCmp .Lt (eVar 1) (eFn lenW [(eVar 0)])) (eFn intW [(eIx (eVar 0) (eVar 1))]) (eBin .Add (eBin .Mult (eCst (.int 97)) (eVar 1)) (eCst (.int 61)))) (asgN 2)) (sSeq (sAsg (eBin .Mod (eFn max2W [(eCst (.int 0)), (eBin .Sub (eFn absW [(eVar 2)]) (eBin .Pow (eCst (.int 10)) (eCst (.int 16))))]) (eBin .Mult (eBin .Pow (eCst (.int 10)) (eCst (.int 56))) (eBin .Pow (eCst (.int 10)) (eCst (.int 60))))) (asgN 3)) (sSeq (sRet (eLst [(false, (eVar 3)), (false, (eBin .Add (eBin .Add (eBin .Add (eBin .Mult (eBin .Mod (eFn absW [(eVar 2)]) (eCst (.int 1152921504606846869))) (eCst (.int 67))) (eBin .Mult (eCst (.int 1013)) (eVar 1))) (eBin .Mult (eCst (.int 47)) (eFn intW [(eCmp .Lt (eVar 2) (eCst (.int 0)))]))) (eCst (.int 19)))), (false, (eCst (.int 0)))])) sNil)))
def m_dice : SE := callM 4 b_dice
def b_roll : SS := (sSeq (sIf (eCmp .Gt (eIx (eVar 0) (eCst (.int 0))) (eCst (.int 0))) (sSeq (sAsg (eBin .Mod (eFn intW [(eIx (eVar 0) (eCst (.int 0)))]) (eVar 1)) (asgN 2)) (sSeq (sAsg (eBin .FloorDiv (eIx (eVar 0) (eCst (.int 0))) (eVar 1)) (gIx (eVar 0) (eCst (.int 0)))) (sSeq (sRet (eVar 2)) sNil))) sNil) (sSeq (sAsg (eBin .Add (eIx (eVar 0) (eCst (.int 2))) (eCst (.int 1))) (gIx (eVar 0) (eCst (.int 2)))) (sSeq (sAsg (eBin .Mod (eFn intW [(eBin .Add (eIx (eVar 0) (eCst (.int 1))) (eBin .Mult (eCst (.int 86028157)) (eIx (eVar 0) (eCst (.int 2)))))]) (eCst (.int 2305843009213693381))) (asgN 3)) (sSeq (sAsg (eBin .Add (eBin .Mult (eBin .Mod (eFn intW [(eBin .Add (eBin .Mult (eVar 3) (eVar 3)) (eBin .Mult (eCst (.int 101)) (eIx (eVar 0) (eCst (.int 2)))))]) (eCst (.int 2305843009213693343))) (eCst (.int 7368791))) (eVar 3)) (asgN 4)) (sSeq (sRet (eBin .Mod (eFn intW [(eBin .FloorDiv (eVar 4) (eCst (.int 65551)))]) (eVar 1))) sNil)))))
def m_roll : SE := callM 5 b_roll
def b_pick : SS := (sSeq (sRet (eIx (eVar 1) (eCall m_roll [(eVar 0), (eFn lenW [(eVar 1)])]))) sNil)
def m_pick : SE := callM 2 b_pick
theorem rng1_wi {n : Nat} (hn : n ≤ 4000) : rng1 [wi n] = some ((List.range n).map wi) := by
  unfold wi
  rw [rng1_of (by omega) (by omega), Int.toNat_natCast, rng_of]
  rfl
theorem roll_a {a b k m : Int} {p : Bool} (ha : 0 < a) (hm : 0 < m) (hd : divOk m = true) : m_roll [.own p (.lst [.int a, .int b, .int k]), .fro (.int m)] = .ok (.fro (.int (a % m)), [.own p (.lst [.int (a / m), .int b, .int k]), .fro (.int m)]) := by
  have e0 : L2.atI [W.int a, W.int b, W.int k] 0 = some (.int a) := rfl
  have i0 : idx 3 (.int 0) = some 0 := rfl
  simp [m_roll, b_roll, ev_callM, startS, e0, ha, hm, hd, i0]
theorem roll_b {a b k m o t : Int} {p : Bool} (ha : ¬ 0 < a) (hm : 0 < m) (h1 : mulOk 86028157 (k + 1) = true) (ho : (b + 86028157 * (k + 1)) % 2305843009213693381 = o) (h2 : mulOk o o = true) (h3 : mulOk 101 (k + 1) = true)
    (ht : (o * o + 101 * (k + 1)) % 2305843009213693343 = t) (h4 : mulOk t 7368791 = true) (h5 : divOk 65551 = true) : ∃ z, 0 ≤ z ∧ z < m ∧ m_roll [.own p (.lst [.int a, .int b, .int k]), .fro (.int m)] = .ok (.fro (.int z), [.own p (.lst [.int a, .int b, .int (k + 1)]), .fro (.int m)]) := by
  refine ⟨(t * 7368791 + o) / 65551 % m, Int.emod_nonneg _ (by omega), Int.emod_lt_of_pos _ hm, ?_⟩
  have e0 : L2.atI [W.int a, W.int b, W.int k] 0 = some (.int a) := rfl
  have e2 : L2.atI [W.int a, W.int b, W.int k] 2 = some (.int k) := rfl
  have f1 : L2.atI [W.int a, W.int b, W.int (k + 1)] 1 = some (.int b) := rfl
  have f2 : L2.atI [W.int a, W.int b, W.int (k + 1)] 2 = some (.int (k + 1)) := rfl
  have i2 : idx 3 (.int 2) = some 2 := rfl
  simp [m_roll, b_roll, ev_callM, startS, e0, e2, f1, f2, ha, hm, i2, h1, ho, h2, h3, ht, h4, h5]
/-- dice that can be rolled n times -/
def DiceOk (n : Nat) (d : List W) : Prop := ∃ a b k : Int, d = [.int a, .int b, .int k] ∧ 0 ≤ a ∧ 0 ≤ k ∧ k + n ≤ 1000000000000
theorem nat_pow_big : (2305843009213693951 : Nat) < 2 ^ 300 := by decide +kernel
theorem small_abs {i : Int} (h : 0 ≤ i) (h2 : i < 2305843009213693951) : i.natAbs < 2 ^ 300 := Nat.lt_trans (by omega) nat_pow_big
theorem roll {n : Nat} {d : List W} {m : Int} {p : Bool} (h : DiceOk (n + 1) d) (hm : 0 < m) (hm2 : m ≤ 1000000) : ∃ z d', 0 ≤ z ∧ z < m ∧ DiceOk n d' ∧ m_roll [.own p (.lst d), .fro (.int m)] = .ok (.fro (.int z), [.own p (.lst d'), .fro (.int m)]) := by
  obtain ⟨a, b, k, rfl, ha, hk, hn⟩ := h
  by_cases h0 : 0 < a
  · exact ⟨a % m, _, Int.emod_nonneg _ (by omega), Int.emod_lt_of_pos _ hm, ⟨a / m, b, k, rfl, Int.ediv_nonneg ha (by omega), hk, by omega⟩, roll_a h0 hm (divOk_of hm (small_abs (by omega) (by omega)))⟩
  · have ho1 := Int.emod_nonneg (b + 86028157 * (k + 1)) (show (2305843009213693381 : Int) ≠ 0 by decide)
    have ho2 := Int.emod_lt_of_pos (b + 86028157 * (k + 1)) (show (0 : Int) < 2305843009213693381 by decide)
    generalize ho : (b + 86028157 * (k + 1)) % 2305843009213693381 = o at ho1 ho2
    have ht1 := Int.emod_nonneg (o * o + 101 * (k + 1)) (show (2305843009213693343 : Int) ≠ 0 by decide)
    have ht2 := Int.emod_lt_of_pos (o * o + 101 * (k + 1)) (show (0 : Int) < 2305843009213693343 by decide)
    generalize ht : (o * o + 101 * (k + 1)) % 2305843009213693343 = t at ht1 ht2
    have sk : (k + 1).natAbs < 2 ^ 300 := small_abs (by omega) (by omega)
    have so : o.natAbs < 2 ^ 300 := small_abs ho1 (by omega)
    obtain ⟨z, z1, z2, z3⟩ := roll_b (p := p) (a := a) (b := b) (k := k) (m := m) h0 hm (mulOk_of (small_abs (by decide) (by decide)) sk) ho (mulOk_of so so) (mulOk_of (small_abs (by decide) (by decide)) sk) ht (mulOk_of (small_abs ht1 (by omega)) (small_abs (by decide) (by decide))) (divOk_of (by decide) (small_abs (by decide) (by decide)))
    exact ⟨z, _, z1, z2, ⟨a, b, k + 1, rfl, ha, by omega, by omega⟩, z3⟩
theorem DiceOk.less {n m : Nat} {d : List W} (h : DiceOk n d) (hm : m ≤ n) : DiceOk m d := by
  obtain ⟨a, b, k, e, h1, h2, h3⟩ := h
  exact ⟨a, b, k, e, h1, h2, by omega⟩
theorem dice0 {sc : W} {k c A B C M l r x y z : Int} (h1 : powW (.int 10) (.int 16) = some (.fro (.int A))) (h2 : powW (.int 10) (.int 56) = some (.fro (.int B))) (h3 : powW (.int 10) (.int 60) = some (.fro (.int C)))
    (h4 : mulW (.int B) (.int C) = some (.fro (.int M))) (hM : 0 < M) (ha : (if c < 0 then -c else c) = l) (hm : (if A < l then l - A else 0) = r) (h5 : mulW (.int (l % 1152921504606846869)) (.int 67) = some (.fro (.int x)))
    (h6 : mulW (.int 1013) (.int k) = some (.fro (.int y))) (h7 : mulW (.int 47) (.int (if decide (c < 0) = true then 1 else 0)) = some (.fro (.int z)))
    (e1 : (eIf (eCmp .Lt (eVar 1) (eFn lenW [(eVar 0)])) (eFn intW [(eIx (eVar 0) (eVar 1))]) (eBin .Add (eBin .Mult (eCst (.int 97)) (eVar 1)) (eCst (.int 61)))) [.fro sc, .fro (.int k), .un, .un] = .ok (.fro (.int c), [.fro sc, .fro (.int k), .un, .un])) :
    m_dice [.fro sc, .fro (.int k)] = .ok (.new (.lst [.int (r % M), .int (x + y + z + 19), .int 0]), [.fro sc, .fro (.int k)]) := by
  have hlim : (3 : Nat) ≤ lim := by unfold lim; omega
  simp only [decide_eq_true_eq] at h7
  simp [m_dice, b_dice, ev_callM, startS, -ev_if, -pow_int, -mul_int, e1, h1, h2, h3, h4, hM, ha, hm, h5, h6, h7, hlim]
theorem dice_in {ns : List Int} {k : Nat} (h : k < ns.length) {x y : Qs.Sl} : (eIf (eCmp .Lt (eVar 1) (eFn lenW [(eVar 0)])) (eFn intW [(eIx (eVar 0) (eVar 1))]) (eBin .Add (eBin .Mult (eCst (.int 97)) (eVar 1)) (eCst (.int 61)))) [.fro (.scr (ns.map W.int)), .fro (wi k), x, y] = .ok (.fro (.int ns[k]), [.fro (.scr (ns.map W.int)), .fro (wi k), x, y]) := by
  have e : L2.atI (ns.map W.int) ((k : Nat) : Int) = some (.int ns[k]) := by
    rw [at_nat, List.getElem?_map, List.getElem?_eq_getElem h]; rfl
  simp [wi, h, e]
theorem dice_out {ws : List W} {k q v : Int} (hq : (ws.length : Int) = q) (h : ¬ k < q) (hm : mulW (.int 97) (.int k) = some (.fro (.int v))) {x y : Qs.Sl} : (eIf (eCmp .Lt (eVar 1) (eFn lenW [(eVar 0)])) (eFn intW [(eIx (eVar 0) (eVar 1))]) (eBin .Add (eBin .Mult (eCst (.int 97)) (eVar 1)) (eCst (.int 61)))) [.fro (.scr ws), .fro (.int k), x, y] = .ok (.fro (.int (v + 61)), [.fro (.scr ws), .fro (.int k), x, y]) := by
  simp [-mul_int, hq, h, hm]
theorem mul_some {i j : Int} (hi : i.natAbs < 2 ^ 300) (hj : j.natAbs < 2 ^ 300) : mulW (.int i) (.int j) = some (.fro (.int (i * j))) := by
  rw [mul_int, mulOk_of hi hj]; rfl
def dM : Int := 10 ^ 116
theorem dM_pos : 0 < dM := by decide +kernel
theorem d_16 : powW (.int 10) (.int 16) = some (.fro (.int (10 ^ 16))) := by kernel_rfl
theorem d_56 : powW (.int 10) (.int 56) = some (.fro (.int (10 ^ 56))) := by kernel_rfl
theorem d_60 : powW (.int 10) (.int 60) = some (.fro (.int (10 ^ 60))) := by kernel_rfl
theorem d_M : mulW (.int (10 ^ 56)) (.int (10 ^ 60)) = some (.fro (.int dM)) := by kernel_rfl
theorem dice1 {sc : W} {k c : Int} (hk : 0 ≤ k) (hk2 : k ≤ 1000)
    (e1 : (eIf (eCmp .Lt (eVar 1) (eFn lenW [(eVar 0)])) (eFn intW [(eIx (eVar 0) (eVar 1))]) (eBin .Add (eBin .Mult (eCst (.int 97)) (eVar 1)) (eCst (.int 61)))) [.fro sc, .fro (.int k), .un, .un] = .ok (.fro (.int c), [.fro sc, .fro (.int k), .un, .un])) :
    ∃ d, DiceOk 100000 d ∧ m_dice [.fro sc, .fro (.int k)] = .ok (.new (.lst d), [.fro sc, .fro (.int k)]) := by
  generalize hl : (if c < 0 then -c else c) = l
  have hl0 : 0 ≤ l := by split at hl <;> omega
  have hn := Int.emod_nonneg l (show (1152921504606846869 : Int) ≠ 0 by decide)
  have hn2 := Int.emod_lt_of_pos l (show (0 : Int) < 1152921504606846869 by decide)
  have m1 := mul_some (small_abs hn (by omega)) (j := 67) (small_abs (by decide) (by decide))
  have m2 := mul_some (i := 1013) (j := k) (small_abs (by decide) (by decide)) (small_abs hk (by omega))
  have m3 := mul_some (i := 47) (j := if decide (c < 0) = true then 1 else 0) (small_abs (by decide) (by decide)) (by split <;> exact small_abs (by decide) (by decide))
  exact ⟨_, ⟨_, _, _, rfl, Int.emod_nonneg _ (Int.ne_of_gt dM_pos), Int.le_refl _, by decide⟩, dice0 d_16 d_56 d_60 d_M dM_pos hl rfl m1 m2 m3 e1⟩
theorem y_dice {ns : List Int} {k : Nat} (hk : k ≤ 1000) : ∃ d, DiceOk 100000 d ∧ m_dice [.fro (.scr (ns.map W.int)), .fro (wi k)] = .ok (.new (.lst d), [.fro (.scr (ns.map W.int)), .fro (wi k)]) := by
  by_cases h : k < ns.length
  · exact dice1 (by omega) (by omega) (dice_in h)
  · refine dice1 (by omega) (by omega) (dice_out (q := (ns.length : Int)) (by simp) (by omega) (mul_some (small_abs (by decide) (by decide)) (small_abs (by omega) (by omega))))
/-- items[..]: one of them -/
theorem pick {n : Nat} {d ws : List W} {p p2 : Bool} (h : DiceOk (n + 1) d) (h1 : 0 < ws.length) (h2 : ws.length ≤ 1000000) : ∃ w d', w ∈ ws ∧ DiceOk n d' ∧ m_pick [.own p (.lst d), .own p2 (.lst ws)] = .ok (.fro w, [.own p (.lst d'), .own p2 (.lst ws)]) := by
  obtain ⟨z, d', z1, z2, h3, e⟩ := roll (p := false) (m := (ws.length : Int)) h (by omega) (by omega)
  obtain ⟨i, rfl⟩ := Int.eq_ofNat_of_zero_le z1
  have hi : i < ws.length := by omega
  refine ⟨ws[i], d', List.getElem_mem hi, h3, ?_⟩
  have e2 : L2.atI ws ((i : Nat) : Int) = some ws[i] := by rw [at_nat]; exact List.getElem?_eq_getElem hi
  generalize hq : (ws.length : Int) = q at e
  simp [m_pick, b_pick, ev_callM, startS, hq, e, e2]
theorem pickF {n : Nat} {d ws : List W} {p : Bool} (h : DiceOk (n + 1) d) (h1 : 0 < ws.length) (h2 : ws.length ≤ 1000000) : ∃ w d', w ∈ ws ∧ DiceOk n d' ∧ m_pick [.own p (.lst d), .fro (.lst ws)] = .ok (.fro w, [.own p (.lst d'), .fro (.lst ws)]) := by
  obtain ⟨z, d', z1, z2, h3, e⟩ := roll (p := false) (m := (ws.length : Int)) h (by omega) (by omega)
  obtain ⟨i, rfl⟩ := Int.eq_ofNat_of_zero_le z1
  have hi : i < ws.length := by omega
  refine ⟨ws[i], d', List.getElem_mem hi, h3, ?_⟩
  have e2 : L2.atI ws ((i : Nat) : Int) = some ws[i] := by rw [at_nat]; exact List.getElem?_eq_getElem hi
  generalize hq : (ws.length : Int) = q at e
  simp [m_pick, b_pick, ev_callM, startS, hq, e, e2]
/-- name = pick(dice, [..]) -/
theorem pick_new {n i : Nat} {d ws : List W} {t : S} {fL : SE} {p : Bool} (h : DiceOk (n + 1) d) (h1 : (0 < ws.length ∧ ws.length ≤ 1000000)) (eL : fL (.own p (.lst d) :: t) = .ok (.new (.lst ws), .own p (.lst d) :: t)) (hi : i < t.length + 1) :
    ∃ w d', w ∈ ws ∧ DiceOk n d' ∧ sAsg (eCall m_pick [(eVar 0), fL]) (asgN i) (.own p (.lst d) :: t) = .ok (.nx ((.own p (.lst d') :: t).set i (.fro w))) := by
  obtain ⟨w, d', hw, hd, e⟩ := pickF (p := false) h h1.1 h1.2
  refine ⟨w, d', hw, hd, ?_⟩
  simp [eL, e, hi]
/-- .. the list in the slot behind the dice -/
theorem pick_var {n i : Nat} {d ws : List W} {t : S} {p p2 : Bool} (h : DiceOk (n + 1) d) (h1 : (0 < ws.length ∧ ws.length ≤ 1000000)) (hi : i < t.length + 2) :
    ∃ w d', w ∈ ws ∧ DiceOk n d' ∧ sAsg (eCall m_pick [(eVar 0), (eVar 1)]) (asgN i) (.own p (.lst d) :: .own p2 (.lst ws) :: t) = .ok (.nx ((.own p (.lst d') :: .own p2 (.lst ws) :: t).set i (.fro w))) := by
  obtain ⟨w, d', hw, hd, e⟩ := pick (p := false) (p2 := false) h h1.1 h1.2
  refine ⟨w, d', hw, hd, ?_⟩
  simp [e, hi]
/-- one statement behind another -/
theorem seq_step {f g : SS} {s s1 : S} (e : f s = .ok (.nx s1)) : sSeq f g s = g s1 := by
  rw [ev_seq, e, Res.bind_ok, then_nx]
theorem seq_end {f g : SS} {s s1 : S} {r : R} (e : f s = .ok (.rt r s1)) : sSeq f g s = .ok (.rt r s1) := by
  rw [ev_seq, e]; rfl
/-- name = what is worked out -/
theorem asg_new_step {f : SE} {s : S} {w : W} {i : Nat} (e : f s = .ok (.new w, s)) (hi : i < s.length) : sAsg f (asgN i) s = .ok (.nx (s.set i (.own false w))) := by
  simp [e, hi]
theorem asg_fro_step {f : SE} {s : S} {w : W} {i : Nat} (e : f s = .ok (.fro w, s)) (hi : i < s.length) : sAsg f (asgN i) s = .ok (.nx (s.set i (.fro w))) := by
  simp [e, hi]
theorem par3_step {f1 f2 f3 : SE} {s : S} {w1 w2 w3 : W} {i j k : Nat} (e1 : f1 s = .ok (.fro w1, s)) (e2 : f2 s = .ok (.fro w2, s)) (e3 : f3 s = .ok (.fro w3, s)) (h : i < s.length ∧ j < s.length ∧ k < s.length) : sPar [i, j, k] [f1, f2, f3] s = .ok (.nx (((s.set i (.fro w1)).set j (.fro w2)).set k (.fro w3))) := by
  simp [e1, e2, e3, h.1, h.2.1, h.2.2]
theorem par2_step {f1 f2 : SE} {s : S} {w1 w2 : W} {i j : Nat} (e1 : f1 s = .ok (.fro w1, s)) (e2 : f2 s = .ok (.fro w2, s)) (h : i < s.length ∧ j < s.length) : sPar [i, j] [f1, f2] s = .ok (.nx ((s.set i (.fro w1)).set j (.fro w2))) := by
  simp [e1, e2, h.1, h.2]
/-- name.extend(..), name.append(..) -/
theorem ext_step {fe : SE} {s : S} {m : Nat} {p : Bool} {ws us : List W} (hm : s[m]? = some (.own p (.lst ws))) (e : fe s = .ok (.new (.lst us), s)) (hl : decide (ws.length + us.length ≤ lim) = true) : sExpr (eMut1 extW (eVar m) fe) s = .ok (.nx (s.set m (.own p (.lst (ws ++ us))))) := by
  show (eMut1 extW (eVar m) fe s).bind _ = _
  simp [hm, e, of_decide_eq_true hl]
theorem app_step {fe : SE} {s : S} {m : Nat} {p : Bool} {ws : List W} {u : W} (hm : s[m]? = some (.own p (.lst ws))) (e : fe s = .ok (.fro u, s)) (hl : decide (ws.length < lim) = true) : sExpr (eMut1 appW (eVar m) fe) s = .ok (.nx (s.set m (.own p (.lst (ws ++ [u]))))) := by
  show (eMut1 appW (eVar m) fe s).bind _ = _
  simp [hm, e, of_decide_eq_true hl]
/-- for name in (..): turn by turn -/
theorem for_of {fi : IE} {g : GT} {fb : SS} {s : S} {ws : List W} (e : fi s = .ok (ws, s)) : sFor fi g fb s = forL g fb ws s := by
  rw [ev_for, e]; rfl
theorem for_cons {g : GT} {fb : SS} {s s1 s2 : S} {w : W} {ws : List W} (e1 : g (.fro w) s = .ok s1) (e2 : fb s1 = .ok (.nx s2)) : forL g fb (w :: ws) s = forL g fb ws s2 := by
  conv => lhs; unfold forL
  rw [e1]
  simp only [Res.bind_ok, e2]
/-- [(t, x) for x in ..] -/
theorem lc_pair {fi : IE} {i : Nat} {s : S} {ws : List W} {t : List Nat} (ei : fi s = .ok (ws, s)) (hl : ws.length ≤ 4096) (hi : i < s.length) (hw : wipeS s [i] = s) (hb : backS [i] 0 s s = some s) (hu : ∀ u, wipeS (s.set i (.fro u)) [i] = s) :
    eLc fi (asgN i) (blE true) (eTup [(false, (eCst (.str t))), (false, (eVar i))]) [i] s = .ok (.new (.lst (ws.map fun u => .tup [.str t, u])), s) := by
  have h2 : (2 : Nat) ≤ lim := by unfold lim; omega
  refine lc_all (s1 := s) ws id (fun u => .tup [.str t, u]) (by rw [List.map_id]; exact ei) hl (by rw [hw]; exact hb) fun u _ => ?_
  rw [hw]
  have e1 : asgN i (.fro u) s = .ok (s.set i (.fro u)) := by simp [hi]
  have e2 : (s.set i (Sl.fro u))[i]? = some (.fro u) := List.getElem?_set_self hi
  show turnT (asgN i) (blE true) _ [i] u s = _
  unfold turnT
  rw [e1]
  simp only [Res.bind_ok, ev_blE, val_fro]
  simp [-wipeS_of, e2, h2, hu u]
/-- return name == .. -/
theorem ret_eq {m : Nat} {c : SE} {s : S} {p : Bool} {us : List W} (hm : s[m]? = some (.own p (.lst us))) (ec : c s = .ok (.new (.lst us), s)) (hd : datW 60 (.lst us) = true) : sRet (eCmp .Eq (eVar m) c) s = .ok (.rt (.fro (.bl true)) s) := by
  have e1 : eVar m s = .ok (.bor m, s) := by simp [hm]
  show (eCmp .Eq (eVar m) c s).bind _ = _
  rw [ev_cmp, e1]
  simp [hm, ec, eqO_self hd]
/-- the text of a refusal by what was given -/
def numW (pre : List Nat) (w : W) : W := .str (pre ++ (reprW w).getD [])
def f_law (R : SE) : SS := (sSeq (sIf (eNot (eCallO R (eCall m_dice [(eVar 0), (eVar 1)]))) (sSeq (sRet (eCst (.bl false))) sNil) sNil) sNil)
def i_law (M : Int) : IE := (iArgs rng1 [(eFn max2W [(eCst (.int 1)), (eFn min2W [(eCst (.int M)), (eFn lenW [(eVar 0)])])])])
theorem callO_new {m f : SE} {s s1 s2 : S} {w z : W} (e : f s = .ok (.new w, s1)) (e2 : m [.own false w] = .ok (.fro z, s2)) : eCallO m f s = .ok (.fro z, s1) := by
  have h : eCallP m f s = .ok (.fro z, s1) := by
    unfold eCallP
    rw [e]
    show (m [.own false w]).bind _ = _
    rw [e2]
    rfl
  unfold eCallO
  rw [h]
theorem f_step {R : SE} {sc k : W} {d d' : List W} {us : S} (e1 : m_dice [.fro sc, .fro k] = .ok (.new (.lst d), [.fro sc, .fro k])) (e2 : R [.own false (.lst d)] = .ok (.fro (.bl true), [.own false (.lst d')])) :
    f_law R (.fro sc :: .fro k :: us) = .ok (.nx (.fro sc :: .fro k :: us)) := by
  have e3 : (eCall m_dice [(eVar 0), (eVar 1)]) (.fro sc :: .fro k :: us) = .ok (.new (.lst d), .fro sc :: .fro k :: us) := by simp [e1]
  have e4 := callO_new (m := R) e3 e2
  simp [-ev_call, f_law, e4]
theorem i_rng {M : Int} {ws l : List W} {q m : Int} {us : S} (hq : (ws.length : Int) = q) (hm : (if (if q < M then q else M) > 1 then (if q < M then q else M) else 1) = m) (e : rng1 [.int m] = some l) : i_law M (.fro (.scr ws) :: us) = .ok (l, .fro (.scr ws) :: us) := by
  have hm' : (if 1 < (if q < M then q else M) then (if q < M then q else M) else 1) = m := hm
  simp [i_law, hq, hm', e]
theorem tg_law {s0 s1 : Sl} {us : S} {w : W} : asgN 1 (.fro w) (s0 :: s1 :: us) = .ok (s0 :: .fro w :: us) := by
  simp
def okT : Res Fl → Bool
  | .ok (.rt (.fro (.bl b)) (_ :: _)) => b
  | _ => false
theorem okT_ok {z : Res Fl} (h : okT z = true) : ∃ x r, z = .ok (.rt (.fro (.bl true)) (x :: r)) := by
  unfold okT at h
  split at h
  · subst h; exact ⟨_, _, rfl⟩
  · cases h
/-- a law: each turn holds, the tail holds -/
theorem law_of {R : SE} {T : SS} {M : Nat} {k : Nat} {ns : List Int} (hM : M ≤ 1000) (hR : ∀ d, DiceOk 100000 d → ∃ d', R [.own false (.lst d)] = .ok (.fro (.bl true), [.own false (.lst d')]))
    (hT : ∀ (ws : List W) (w : W), okT (T (.fro (.scr ws) :: .fro w :: List.replicate k .un)) = true) :
    ∃ as', callM (k + 2) (sSeq (sFor (i_law M) (asgN 1) (f_law R)) T) [.fro (.scr (ns.map W.int))] = .ok (.fro (.bl true), as') := by
  obtain ⟨m, hm⟩ : ∃ m : Nat, (if (if ((ns.map W.int).length : Int) < (M : Int) then ((ns.map W.int).length : Int) else (M : Int)) > 1 then (if ((ns.map W.int).length : Int) < (M : Int) then ((ns.map W.int).length : Int) else (M : Int)) else 1) = (m : Int) ∧ m ≤ 1000 := by
    by_cases h : ((ns.map W.int).length : Int) < (M : Int)
    · rw [if_pos h]
      split
      · exact ⟨(ns.map W.int).length, rfl, by omega⟩
      · exact ⟨1, rfl, by omega⟩
    · rw [if_neg h]
      split
      · exact ⟨M, rfl, hM⟩
      · exact ⟨1, rfl, by omega⟩
  have hm1 : 1 ≤ m := by
    have := hm.1
    split at this <;> omega
  obtain ⟨s', e1, x, rfl, hx⟩ := forL_range (g := asgN 1) (fb := f_law R) (n := m) (e := wi) (fun j s => ∃ x : Sl, s = .fro (.scr (ns.map W.int)) :: x :: List.replicate k .un ∧ (1 ≤ j → ∃ w, x = .fro w))
    (fun j s hj ⟨x, es, _⟩ => by
      subst es
      obtain ⟨d, h1, e1⟩ := y_dice (ns := ns) (k := j) (by omega)
      obtain ⟨d', e2⟩ := hR d h1
      exact ⟨_, _, tg_law, .inl (f_step e1 e2), _, rfl, fun _ => ⟨_, rfl⟩⟩)
    (s := .fro (.scr (ns.map W.int)) :: .un :: List.replicate k .un) ⟨.un, rfl, fun z => absurd z (by omega)⟩
  obtain ⟨xw, rfl⟩ := hx hm1
  have e2 : sFor (i_law M) (asgN 1) (f_law R) (.fro (.scr (ns.map W.int)) :: .un :: List.replicate k .un) = .ok (.nx (.fro (.scr (ns.map W.int)) :: .fro xw :: List.replicate k .un)) := by
    rw [ev_for, i_rng rfl hm.1 (rng1_wi (n := m) (by omega))]
    exact e1
  have e0 : startS (k + 2) [.fro (.scr (ns.map W.int))] = .fro (.scr (ns.map W.int)) :: .un :: List.replicate k .un := rfl
  obtain ⟨z, r, hT⟩ := okT_ok (hT (ns.map W.int) xw)
  rw [ev_callM, e0, ev_seq, e2, Res.bind_ok, then_nx, hT]
  exact ⟨_, rfl⟩
end Qd
/-! # Steps of a law, for printed plain laws -/
namespace Qd
open Qs
variable {s : S} {fa fb f c : SE} {m k i : Nat} {p p2 : Bool} {us ws : List W} {u w : W}
theorem and_step (e : fa s = .ok (.fro (.bl true), s)) : eAnd fa fb s = fb s := by simp [e]
theorem band_step {s1 : S} {fs : List SE} (e : fa s = .ok (.fro (.bl true), s1)) : boolL .And (fa :: fb :: fs) s = boolL .And (fb :: fs) s1 := by
  rw [bool_and]; simp [e]
theorem band_one {op : PySem.BoolOp} : boolL op [fa] s = fa s := by rw [bool_one]
theorem or_step (e : fa s = .ok (.fro (.bl false), s)) : eOr fa fb s = fb s := by simp [e]
theorem not_step {b : Bool} (e : f s = .ok (.fro (.bl b), s)) : eNot f s = .ok (.fro (.bl (!b)), s) := by
  rw [ev_not, e]; cases b <;> rfl
theorem ret_of {r : R} {s1 : S} (e : f s = .ok (r, s1)) : sRet f s = .ok (.rt r s1) := by
  show (f s).bind _ = _
  rw [e]; rfl
theorem if_no {ga gb : SS} (e : f s = .ok (.fro (.bl false), s)) : sIf f ga gb s = gb s := by
  show (f s).bind _ = _
  rw [e]; rfl
theorem if_yes {ga gb : SS} (e : f s = .ok (.fro (.bl true), s)) : sIf f ga gb s = ga s := by
  show (f s).bind _ = _
  rw [e]; rfl
theorem cmp_new {s1 : S} (hm : s[m]? = some (.own p (.lst us))) (hm1 : s1[m]? = some (.own p (.lst us))) (ec : c s = .ok (.new (.lst us), s1)) (hd : datW 60 (.lst us) = true) : eCmp .Eq (eVar m) c s = .ok (.fro (.bl true), s1) := by
  have e1 : eVar m s = .ok (.bor m, s) := by simp [hm]
  rw [ev_cmp, e1]
  simp [hm1, ec, eqO_self hd]
theorem cmp_bor (hm : s[m]? = some (.own p (.lst us))) (hk : s[k]? = some (.own p2 (.lst us))) (hd : datW 60 (.lst us) = true) : eCmp .Eq (eVar m) (eVar k) s = .ok (.fro (.bl true), s) := by
  have e1 : eVar m s = .ok (.bor m, s) := by simp [hm]
  have e2 : eVar k s = .ok (.bor k, s) := by simp [hk]
  rw [ev_cmp, e1, Res.bind_ok, e2]
  simp [hm, hk, eqO_self hd]
theorem ne_new {s1 : S} (hm : s[m]? = some (.own p (.lst us))) (hm1 : s1[m]? = some (.own p (.lst us))) (ec : c s = .ok (.new (.lst us), s1)) (hd : datW 60 (.lst us) = true) : eCmp .NotEq (eVar m) c s = .ok (.fro (.bl false), s1) := by
  have e1 : eVar m s = .ok (.bor m, s) := by simp [hm]
  rw [ev_cmp, e1]
  simp [hm1, ec, eqO_self hd]
theorem dat_nil {n : Nat} : ([] : List W).all (datW n) = true := rfl
theorem dat_cons {n : Nat} (h : datW n u = true) (t : ws.all (datW n) = true) : (u :: ws).all (datW n) = true := by rw [List.all_cons, h, t]; rfl
theorem dat_tup {n : Nat} (h : ws.all (datW n) = true) : datW (n + 1) (.tup ws) = true := by unfold datW; exact h
theorem dat_lst {n : Nat} (h : ws.all (datW n) = true) : datW (n + 1) (.lst ws) = true := by unfold datW; exact h
theorem dat_str {n : Nat} {x : List Nat} (h : x.all (fun c => decide (c < 1114112)) = true) : datW n (.str x) = true := by cases n <;> (unfold datW; exact h)
/-- name = pick(dice, a list's name) -/
theorem pick_bor {n i j : Nat} {d ws : List W} {t : S} {p p2 : Bool} (h : DiceOk (n + 1) d) (h1 : (0 < ws.length ∧ ws.length ≤ 1000000)) (hj : t[j]? = some (.own p2 (.lst ws))) (hi : i < t.length + 1) :
    ∃ w d', w ∈ ws ∧ DiceOk n d' ∧ sAsg (eCall m_pick [(eVar 0), (eVar (j + 1))]) (asgN i) (.own p (.lst d) :: t) = .ok (.nx ((.own p (.lst d') :: t).set i (.fro w))) := by
  obtain ⟨w, d', hw, hd, e⟩ := pick (p := false) (p2 := false) h h1.1 h1.2
  refine ⟨w, d', hw, hd, ?_⟩
  have hs : t.set j (.own p2 (.lst ws)) = t := by
    apply List.ext_getElem?
    intro k
    by_cases hk : j = k
    · subst hk
      rw [List.getElem?_set_self (List.getElem?_eq_some_iff.mp hj).1, hj]
    · rw [List.getElem?_set_ne hk]
  simp [e, hi, hj, hs]
/-- [.. for x in ..] -/
theorem lc_gen {fi : IE} {fe : SE} {s1 : S} (F : W → W) (ei : fi s = .ok (ws, s1)) (hl : ws.length ≤ 4096) (hi : i < s1.length) (hw : wipeS s1 [i] = s1) (hb : backS [i] 0 s1 s1 = some s1) (hu : ∀ u, wipeS (s1.set i (.fro u)) [i] = s1)
    (hF : ∀ u ∈ ws, fe (s1.set i (.fro u)) = .ok (.fro (F u), s1.set i (.fro u))) : eLc fi (asgN i) (blE true) fe [i] s = .ok (.new (.lst (ws.map F)), s1) := by
  refine lc_all (s1 := s1) ws id F (by rw [List.map_id]; exact ei) hl (by rw [hw]; exact hb) fun u hu2 => ?_
  rw [hw]
  have e1 : asgN i (.fro u) s1 = .ok (s1.set i (.fro u)) := by simp [hi]
  show turnT (asgN i) (blE true) _ [i] u s1 = _
  unfold turnT
  rw [e1]
  simp only [Res.bind_ok, ev_blE, val_fro, hF u hu2]
  simp [-wipeS_of, hu u]
theorem all_nil {P : W → Prop} : ∀ u ∈ ([] : List W), P u := fun _ h => nomatch h
theorem all_cons {P : W → Prop} (h : P u) (t : ∀ x ∈ ws, P x) : ∀ x ∈ u :: ws, P x := fun x hx => by
  rcases List.mem_cons.mp hx with e | e
  · subst e; exact h
  · exact t x e
end Qd
/-! # Heavy calls: that they come to an end is shown, not worked out -/
namespace Qd
open Qs
theorem intsOf_int : ∀ {l : List Int}, intsOf (l.map W.int) = some l
  | [] => rfl
  | i :: l => by
    show (intsOf (l.map W.int)).map _ = _
    rw [intsOf_int]; rfl
theorem at_int {ns : List Int} {i : Int} (h0 : 0 ≤ i) (h : i < ns.length) : L2.atI (ns.map W.int) i = some (.int (ns.getD i.toNat 0)) := by
  obtain ⟨n, rfl⟩ := Int.eq_ofNat_of_zero_le h0
  have hn : n < ns.length := by omega
  have e1 : L2.atI (ns.map W.int) ((n : Nat) : Int) = (ns.map W.int)[n]? := at_nat
  have e2 : ns.getD ((n : Nat) : Int).toNat 0 = ns[n] := by
    rw [Int.toNat_natCast, List.getD_eq_getElem?_getD, List.getElem?_eq_getElem hn]; rfl
  rw [e2]
  refine e1.trans ?_
  rw [List.getElem?_map, List.getElem?_eq_getElem hn]; rfl
theorem ix_int {n : Nat} {i : Int} (h0 : 0 ≤ i) (h : i < n) : idx n (.int i) = some i.toNat := by
  obtain ⟨k, rfl⟩ := Int.eq_ofNat_of_zero_le h0
  show L2.ixN n _ = _
  unfold L2.ixN
  simp
  omega
theorem met_fin {ex : Nat → Nat → Bool} {M : Met} {fb : SE} {s : S} {p : R × S} (h : fb (hideS s) = .ok p) : eMet ex M fb s = .ok (.fro M.fin, s) := by
  unfold eMet
  rw [nfLs_eq, h]
/-- a call with one argument that is a constant -/
theorem call1 {m : SE} {u w : W} {s : S} (h : m [.fro u] = .ok (.fro w, [.fro u])) : eCall m [eCst u] s = .ok (.fro w, s) := by
  simp [h]
theorem getD_mem {ns : List Int} {k : Nat} (h : k < ns.length) : ns.getD k 0 ∈ ns := by
  rw [List.getD_eq_getElem?_getD, List.getElem?_eq_getElem h]
  exact List.getElem_mem h
theorem sum_le {B : Nat} : ∀ {l : List Int}, (∀ x ∈ l, x.natAbs ≤ B) → l.sum.natAbs ≤ l.length * B
  | [], _ => by simp
  | x :: l, h => by
    have h1 := sum_le (l := l) fun y hy => h y (List.mem_cons_of_mem _ hy)
    have h2 := h x List.mem_cons_self
    rw [List.sum_cons, List.length_cons, Nat.succ_mul]
    omega
theorem log2_le {n m : Nat} (h : n ≤ m) : n.log2 ≤ m.log2 := by
  by_cases h0 : n = 0
  · subst h0; simp
  · have h2 := Nat.log2_self_le h0
    have : 2 ^ n.log2 ≤ m := Nat.le_trans h2 h
    exact (Nat.le_log2 (by omega)).mpr this
end Qd
/-! # Steps whose lambda rolls dice -/
namespace Qd
open Qs
variable {s s1 : S} {fb f pk fe : SE} {m k i : Nat} {p p2 : Bool} {us ws : List W} {u w : W} {fs pre : List SE}
/-- the value that an expression gives -/
def valOf : Res (R × S) → W
  | .ok (.fro w, _) => w
  | _ => .non
theorem app_step2 (h0 : s[m]? = some (.own p (.lst ws))) (e : fe s = .ok (.fro u, s1)) (hm : s1[m]? = some (.own p (.lst ws))) (hl : decide (ws.length < lim) = true) : sExpr (eMut1 appW (eVar m) fe) s = .ok (.nx (s1.set m (.own p (.lst (ws ++ [u]))))) := by
  show (eMut1 appW (eVar m) fe s).bind _ = _
  simp [h0, hm, e, of_decide_eq_true hl]
theorem argsS_fro {s : S} : ∀ {ws : List W}, argsS s (ws.map R.fro) = some (ws.map Sl.fro)
  | [] => rfl
  | w :: ws => by
    show ((some (Sl.fro w)).bind fun a => (argsS s (ws.map R.fro)).map (a :: ·)) = _
    rw [argsS_fro]; rfl
theorem all_fro : ∀ {ws : List W}, (ws.map Sl.fro).all isFroS = true
  | [] => rfl
  | w :: ws => by
    rw [List.map_cons, List.all_cons, all_fro]; rfl
theorem fz_fro (e : f s = .ok (.fro w, s1)) : eFz f s = .ok (.fro w, s1) := by
  unfold eFz
  rw [e]; rfl
theorem arg_last : ∀ {pre : List SE} {ws : List W}, argL (pre.map eFz) s = .ok (ws.map R.fro, s) → pk s = .ok (.fro w, s1) → argL ((pre ++ [pk]).map eFz) s = .ok ((ws ++ [w]).map R.fro, s1) := by
  have app : ∀ (xs ys : List SE) (s : S), argL (xs ++ ys) s = (argL xs s).bind fun p => (argL ys p.2).bind fun q => .ok (p.1 ++ q.1, q.2) := by
    intro xs
    induction xs with
    | nil =>
      intro ys s
      show argL ys s = (argL ys s).bind fun q => .ok ([] ++ q.1, q.2)
      cases argL ys s <;> rfl
    | cons x xs ih =>
      intro ys s
      show (x s).bind (fun p => (argL (xs ++ ys) p.2).bind fun q => .ok (p.1 :: q.1, q.2)) = ((x s).bind fun p => (argL xs p.2).bind fun q => .ok (p.1 :: q.1, q.2)).bind _
      cases x s with
      | ok p =>
        simp only [Res.bind_ok]
        rw [ih]
        cases argL xs p.2 with
        | ok q =>
          simp only [Res.bind_ok]
          cases argL ys q.2 <;> rfl
        | exc x => rfl
        | bad => rfl
      | exc x => rfl
      | bad => rfl
  intro pre ws h1 h2
  rw [List.map_append, app, h1, Res.bind_ok]
  show ((eFz pk s).bind fun p => (argL [] p.2).bind fun q => .ok (p.1 :: q.1, q.2)).bind _ = _
  rw [fz_fro h2]
  simp only [Res.bind_ok, argL]
  rw [List.map_append]
  rfl
theorem metF_step {ex : Nat → Nat → Bool} {M : Met} {m : SE} (hb : eMet ex M fb s = .bad) (ha : argL (fs.map eFz) s = .ok (ws.map R.fro, s1)) (h : metEnd ex M s1 (m (ws.map Sl.fro)) = .ok (.fro u, s1)) : eMetF ex M fb m fs s = .ok (.fro u, s1) := by
  unfold eMetF
  rw [hb]
  show eMetA ex M m fs s = _
  unfold eMetA
  rw [ha]
  show (ofO (argsS s1 (ws.map R.fro))).bind _ = _
  rw [argsS_fro, ofO_some, Res.bind_ok, all_fro, chk_true, h]
/-- pick(dice, [..]) as a value -/
theorem pick_exp {n : Nat} {d ws : List W} {t : S} {fL : SE} {p : Bool} (h : DiceOk (n + 1) d) (h1 : (0 < ws.length ∧ ws.length ≤ 1000000)) (eL : fL (.own p (.lst d) :: t) = .ok (.new (.lst ws), .own p (.lst d) :: t)) :
    ∃ w d', w ∈ ws ∧ DiceOk n d' ∧ eCall m_pick [(eVar 0), fL] (.own p (.lst d) :: t) = .ok (.fro w, .own p (.lst d') :: t) := by
  obtain ⟨w, d', hw, hd, e⟩ := pickF (p := false) h h1.1 h1.2
  refine ⟨w, d', hw, hd, ?_⟩
  simp [eL, e]
/-- k + roll(dice, m) as a value -/
theorem roll_exp {n : Nat} {d : List W} {t : S} {p : Bool} {a m : Int} (h : DiceOk (n + 1) d) (hm : 0 < m) (hm2 : m ≤ 1000000) :
    ∃ z d', 0 ≤ z ∧ z < m ∧ DiceOk n d' ∧ eBin .Add (eCst (.int a)) (eCall m_roll [(eVar 0), (eCst (.int m))]) (.own p (.lst d) :: t) = .ok (.fro (.int (a + z)), .own p (.lst d') :: t) := by
  obtain ⟨z, d', a1, b1, h1, e⟩ := roll (p := false) h hm hm2
  refine ⟨z, d', a1, b1, h1, ?_⟩
  simp [e]
/-- [.. for x in ..], x a name that stands for something outside -/
theorem lc_gen2 {fi : IE} {fe : SE} {s1 sw : S} (F : W → W) (ei : fi s = .ok (ws, s1)) (hl : ws.length ≤ 4096) (hi : i < sw.length) (hw : wipeS s1 [i] = sw) (hb : backS [i] 0 s1 sw = some s1) (hu : ∀ u, wipeS (sw.set i (.fro u)) [i] = sw)
    (hF : ∀ u ∈ ws, fe (sw.set i (.fro u)) = .ok (.fro (F u), sw.set i (.fro u))) : eLc fi (asgN i) (blE true) fe [i] s = .ok (.new (.lst (ws.map F)), s1) := by
  refine lc_all (s1 := s1) ws id F (by rw [List.map_id]; exact ei) hl (by rw [hw]; exact hb) fun u hu2 => ?_
  rw [hw]
  have e1 : asgN i (.fro u) sw = .ok (sw.set i (.fro u)) := by simp [hi]
  show turnT (asgN i) (blE true) _ [i] u sw = _
  unfold turnT
  rw [e1]
  simp only [Res.bind_ok, ev_blE, val_fro, hF u hu2]
  simp [-wipeS_of, hu u]
/-- pick(dice, name) as a value -/
theorem pick_bexp {n j : Nat} {d ws : List W} {t : S} {p p2 : Bool} (h : DiceOk (n + 1) d) (h1 : (0 < ws.length ∧ ws.length ≤ 1000000)) (hj : t[j]? = some (.own p2 (.lst ws))) :
    ∃ w d', w ∈ ws ∧ DiceOk n d' ∧ eCall m_pick [(eVar 0), (eVar (j + 1))] (.own p (.lst d) :: t) = .ok (.fro w, .own p (.lst d') :: t) := by
  obtain ⟨w, d', hw, hd, e⟩ := pick (p := false) (p2 := false) h h1.1 h1.2
  refine ⟨w, d', hw, hd, ?_⟩
  have hs : t.set j (.own p2 (.lst ws)) = t := by
    apply List.ext_getElem?
    intro k
    by_cases hk : j = k
    · subst hk
      rw [List.getElem?_set_self (List.getElem?_eq_some_iff.mp hj).1, hj]
    · rw [List.getElem?_set_ne hk]
  simp [e, hj, hs]
theorem par2_pick {f1 f2 : SE} {s2 : S} {w1 w2 : W} {i j : Nat} (e1 : f1 s = .ok (.fro w1, s1)) (e2 : f2 s1 = .ok (.fro w2, s2)) (h : i < s2.length ∧ j < s2.length) : sPar [i, j] [f1, f2] s = .ok (.nx ((s2.set i (.fro w1)).set j (.fro w2))) := by
  simp [e1, e2, h.1, h.2]
theorem callX_ok {m f : SE} {s : S} {q : R × S} (e : eCall m [f] s = .ok q) : eCallX m f s = .ok q := by
  unfold eCallX
  rw [e]
def f_lawL (D : SE) (Rs : List SE) : SS := (sSeq (sAsg (eCall D [(eVar 0), (eVar 1)]) (asgN 2)) (sSeq (sIf (boolL .Or (Rs.map fun R => eNot (eCallX R (eVar 2)))) (sSeq (sRet (eCst (.bl false))) sNil) sNil) sNil))
/-- one right behind another, over the same dice -/
def Chain : List SE → List W → List W → Prop
  | [], d, d' => d = d'
  | R :: Rs, d, d' => ∃ d1, R [.own false (.lst d)] = .ok (.fro (.bl true), [.own false (.lst d1)]) ∧ Chain Rs d1 d'
theorem if_no' {f : SE} {ga gb : SS} {s s1 : S} (e : f s = .ok (.fro (.bl false), s1)) : sIf f ga gb s = gb s1 := by
  show (f s).bind _ = _
  rw [e]; rfl
theorem chain_or {sc k : W} {us : S} : ∀ {Rs : List SE} {d d' : List W}, Rs ≠ [] → Chain Rs d d' → boolL .Or (Rs.map fun R => eNot (eCallX R (eVar 2))) (.fro sc :: .fro k :: .own false (.lst d) :: us) = .ok (.fro (.bl false), .fro sc :: .fro k :: .own false (.lst d') :: us)
  | [], _, _, h, _ => absurd rfl h
  | [R], d, d', _, ⟨d1, e, h⟩ => by
    have h : d1 = d' := h
    subst h
    have f1 : eCallX R (eVar 2) (.fro sc :: .fro k :: .own false (.lst d) :: us) = .ok (.fro (.bl true), .fro sc :: .fro k :: .own false (.lst d1) :: us) := callX_ok (by simp [e])
    show boolL .Or [eNot (eCallX R (eVar 2))] _ = _
    rw [bool_one, ev_not, f1]
    rfl
  | R :: R2 :: Rs, d, d', _, ⟨d1, e, h⟩ => by
    have f1 : eCallX R (eVar 2) (.fro sc :: .fro k :: .own false (.lst d) :: us) = .ok (.fro (.bl true), .fro sc :: .fro k :: .own false (.lst d1) :: us) := callX_ok (by simp [e])
    have ih := chain_or (sc := sc) (k := k) (us := us) (Rs := R2 :: Rs) (fun z => nomatch z) h
    show boolL .Or (eNot (eCallX R (eVar 2)) :: eNot (eCallX R2 (eVar 2)) :: Rs.map fun R => eNot (eCallX R (eVar 2))) _ = _
    have n1 : eNot (eCallX R (eVar 2)) (.fro sc :: .fro k :: .own false (.lst d) :: us) = .ok (.fro (.bl false), .fro sc :: .fro k :: .own false (.lst d1) :: us) := by
      rw [ev_not, f1]; rfl
    rw [bool_or]
    show eOr _ _ _ = _
    rw [ev_or, n1]
    exact ih
theorem turnL {Rs : List SE} {sc k : W} {y : Sl} {us : S} {d d' : List W} (hn : Rs ≠ []) (e : m_dice [.fro sc, .fro k] = .ok (.new (.lst d), [.fro sc, .fro k])) (h : Chain Rs d d') :
    f_lawL m_dice Rs (.fro sc :: .fro k :: y :: us) = .ok (.nx (.fro sc :: .fro k :: .own false (.lst d') :: us)) := by
  have s1 : sAsg (eCall m_dice [(eVar 0), (eVar 1)]) (asgN 2) (.fro sc :: .fro k :: y :: us) = .ok (.nx (.fro sc :: .fro k :: .own false (.lst d) :: us)) := by
    simp [e]
  unfold f_lawL
  rw [seq_step s1]
  exact (seq_step ((if_no' (chain_or hn h)).trans rfl)).trans rfl
mutual
def same : W → W → Bool
  | .non, .non => true
  | .bl a, .bl b => a == b
  | .int i, .int j => decide (i = j)
  | .str x, .str y => decide (x = y)
  | .tup xs, .tup ys => sames xs ys
  | .lst xs, .lst ys => sames xs ys
  | _, _ => false
def sames : List W → List W → Bool
  | [], [] => true
  | x :: xs, y :: ys => same x y && sames xs ys
  | _, _ => false
end
mutual
theorem same_ok : ∀ (u w : W), same u w = true → u = w
  | .non, w, h => by cases w <;> first | rfl | (unfold same at h; cases h)
  | .bl a, w, h => by
    cases w with
    | bl b => unfold same at h; rw [eq_of_beq h]
    | _ => unfold same at h; cases h
  | .int i, w, h => by
    cases w with
    | int j => unfold same at h; rw [of_decide_eq_true h]
    | _ => unfold same at h; cases h
  | .str x, w, h => by
    cases w with
    | str y => unfold same at h; rw [of_decide_eq_true h]
    | _ => unfold same at h; cases h
  | .tup xs, w, h => by
    cases w with
    | tup ys => unfold same at h; rw [sames_ok xs ys h]
    | _ => unfold same at h; cases h
  | .lst xs, w, h => by
    cases w with
    | lst ys => unfold same at h; rw [sames_ok xs ys h]
    | _ => unfold same at h; cases h
  | .dic _ _, w, h => by cases w <;> (unfold same at h; cases h)
  | .fn _, w, h => by cases w <;> (unfold same at h; cases h)
  | .cl _, w, h => by cases w <;> (unfold same at h; cases h)
  | .ty _, w, h => by cases w <;> (unfold same at h; cases h)
  | .ins _ _, w, h => by cases w <;> (unfold same at h; cases h)
  | .scr _, w, h => by cases w <;> (unfold same at h; cases h)
theorem sames_ok : ∀ (us ws : List W), sames us ws = true → us = ws
  | [], [], _ => rfl
  | [], _ :: _, h => by unfold sames at h; cases h
  | _ :: _, [], h => by unfold sames at h; cases h
  | u :: us, w :: ws, h => by
    unfold sames at h
    rw [Bool.and_eq_true] at h
    rw [same_ok u w h.1, sames_ok us ws h.2]
end
def sameO : Option W → W → Bool
  | some w, u => same w u
  | none, _ => false
def metV (ex : Nat → Nat → Bool) (M : Met) : Res (R × S) → Option W
  | .ok _ => some M.fin
  | .exc x => handW ex x M.hs
  | .bad => none
theorem metEnd_of {ex : Nat → Nat → Bool} {M : Met} {r : Res (R × S)} {s : S} (h : metV ex M r = some u) : metEnd ex M s r = .ok (.fro u, s) := by
  cases r with
  | ok p => cases h; rfl
  | exc x =>
    show (ofO (handW ex x M.hs)).bind _ = _
    rw [show handW ex x M.hs = some u from h]
    rfl
  | bad => cases h
theorem sameO_ok {o : Option W} (h : sameO o u = true) : o = some u := by
  cases o with
  | none => cases h
  | some w => rw [same_ok w u h]
/-- a lambda's call for each number that the dice can give -/
theorem met_all {ex : Nat → Nat → Bool} {M : Met} {m : SE} {pre : List W} {ra : Int} {rm : Nat} (h : ((List.range rm).all fun z => sameO (metV ex M (m ((pre ++ [W.int (ra + (z : Int))]).map Sl.fro))) u) = true) {z : Int} (h1 : 0 ≤ z) (h2 : z < (rm : Int)) (s : S) : metEnd ex M s (m ((pre ++ [W.int (ra + z)]).map Sl.fro)) = .ok (.fro u, s) := by
  obtain ⟨n, rfl⟩ := Int.eq_ofNat_of_zero_le h1
  exact metEnd_of (sameO_ok (List.all_eq_true.mp h n (List.mem_range.mpr (by omega))))
/-- a law with several rights over the same dice -/
theorem law_ofL {Rs : List SE} {T : SS} {M : Nat} {k : Nat} {ns : List Int} (hn : Rs ≠ []) (hM : M ≤ 1000) (hR : ∀ d, DiceOk 100000 d → ∃ d', Chain Rs d d')
    (hT : ∀ (ws : List W) (w y : W), okT (T (.fro (.scr ws) :: .fro w :: .own false y :: List.replicate k .un)) = true) :
    ∃ as', callM (k + 3) (sSeq (sFor (i_law M) (asgN 1) (f_lawL m_dice Rs)) T) [.fro (.scr (ns.map W.int))] = .ok (.fro (.bl true), as') := by
  obtain ⟨m, hm⟩ : ∃ m : Nat, (if (if ((ns.map W.int).length : Int) < (M : Int) then ((ns.map W.int).length : Int) else (M : Int)) > 1 then (if ((ns.map W.int).length : Int) < (M : Int) then ((ns.map W.int).length : Int) else (M : Int)) else 1) = (m : Int) ∧ m ≤ 1000 := by
    by_cases h : ((ns.map W.int).length : Int) < (M : Int)
    · rw [if_pos h]
      split
      · exact ⟨(ns.map W.int).length, rfl, by omega⟩
      · exact ⟨1, rfl, by omega⟩
    · rw [if_neg h]
      split
      · exact ⟨M, rfl, hM⟩
      · exact ⟨1, rfl, by omega⟩
  have hm1 : 1 ≤ m := by
    have := hm.1
    split at this <;> omega
  obtain ⟨s', e1, x, y, rfl, hx⟩ := forL_range (g := asgN 1) (fb := f_lawL m_dice Rs) (n := m) (e := wi) (fun j s => ∃ x y : Sl, s = .fro (.scr (ns.map W.int)) :: x :: y :: List.replicate k .un ∧ (1 ≤ j → ∃ w d, x = .fro w ∧ y = .own false (.lst d)))
    (fun j s hj ⟨x, y, es, _⟩ => by
      subst es
      obtain ⟨d, h1, e1⟩ := y_dice (ns := ns) (k := j) (by omega)
      obtain ⟨d', e2⟩ := hR d h1
      exact ⟨_, _, tg_law, .inl (turnL hn e1 e2), _, _, rfl, fun _ => ⟨_, _, rfl, rfl⟩⟩)
    (s := .fro (.scr (ns.map W.int)) :: .un :: .un :: List.replicate k .un) ⟨.un, .un, rfl, fun z => absurd z (by omega)⟩
  obtain ⟨xw, d, rfl, rfl⟩ := hx hm1
  have e2 : sFor (i_law M) (asgN 1) (f_lawL m_dice Rs) (.fro (.scr (ns.map W.int)) :: .un :: .un :: List.replicate k .un) = .ok (.nx (.fro (.scr (ns.map W.int)) :: .fro xw :: .own false (.lst d) :: List.replicate k .un)) := by
    rw [ev_for, i_rng rfl hm.1 (rng1_wi (n := m) (by omega))]
    exact e1
  have e0 : startS (k + 3) [.fro (.scr (ns.map W.int))] = .fro (.scr (ns.map W.int)) :: .un :: .un :: List.replicate k .un := rfl
  obtain ⟨z, r, hT⟩ := okT_ok (hT (ns.map W.int) xw (.lst d))
  rw [ev_callM, e0, ev_seq, e2, Res.bind_ok, then_nx, hT]
  exact ⟨_, rfl⟩
end Qd
namespace Zk21
open Qs
def out0 : Res Fl → Option (Bool × Sl)
  | .ok (.rt (.fro (.bl b)) (x :: _)) => some (b, x)
  | _ => none
theorem out0_ok {r : Res Fl} {x : Sl} (h : out0 r = some (true, x)) : ∃ u, r = .ok (.rt (.fro (.bl true)) (x :: u)) := by
  unfold out0 at h
  split at h
  · cases h; exact ⟨_, rfl⟩
  · cases h
theorem roll_eq : m__law_roll = Qd.m_roll := by kernel_rfl
def rest : SS := sSeq q__law_right_2 (sSeq q__law_right_3 (sSeq q__law_right_4 (sSeq q__law_right_5 (sSeq q__law_right_6 (sSeq q__law_right_7 (sSeq q__law_right_8 sNil))))))
def st (d : List W) (k : Nat) : S := [.own true (.lst d), .fro (.int (Int.ofNat k)), .un, .un, .un, .un, .un, .un, .un, .un, .un]
theorem c_0 (d : List W) : out0 (rest (st d 0)) = some (true, .own true (.lst d)) := by kernel_rfl
theorem c_1 (d : List W) : out0 (rest (st d 1)) = some (true, .own true (.lst d)) := by kernel_rfl
theorem c_2 (d : List W) : out0 (rest (st d 2)) = some (true, .own true (.lst d)) := by kernel_rfl
theorem c_3 (d : List W) : out0 (rest (st d 3)) = some (true, .own true (.lst d)) := by kernel_rfl
theorem c_4 (d : List W) : out0 (rest (st d 4)) = some (true, .own true (.lst d)) := by kernel_rfl
theorem c_5 (d : List W) : out0 (rest (st d 5)) = some (true, .own true (.lst d)) := by kernel_rfl
theorem c_6 (d : List W) : out0 (rest (st d 6)) = some (true, .own true (.lst d)) := by kernel_rfl
theorem c_7 (d : List W) : out0 (rest (st d 7)) = some (true, .own true (.lst d)) := by kernel_rfl
theorem c_8 (d : List W) : out0 (rest (st d 8)) = some (true, .own true (.lst d)) := by kernel_rfl
theorem c_9 (d : List W) : out0 (rest (st d 9)) = some (true, .own true (.lst d)) := by kernel_rfl
theorem c_all (d : List W) : ∀ k, k < 10 → out0 (rest (st d k)) = some (true, .own true (.lst d))
  | 0, _ => c_0 d
  | 1, _ => c_1 d
  | 2, _ => c_2 d
  | 3, _ => c_3 d
  | 4, _ => c_4 d
  | 5, _ => c_5 d
  | 6, _ => c_6 d
  | 7, _ => c_7 d
  | 8, _ => c_8 d
  | 9, _ => c_9 d
  | k + 10, h => absurd h (by omega)
theorem y_right {n : Nat} {d : List W} {p : Bool} (h : Qd.DiceOk (n + 1) d) : ∃ d', Qd.DiceOk n d' ∧ m__law_right [.own p (.lst d)] = .ok (.fro (.bl true), [.own p (.lst d')]) := by
  obtain ⟨z1, d1, a1, b1, h1, e1⟩ := Qd.roll (p := false) (m := 10) h (by decide) (by decide)
  obtain ⟨k, rfl⟩ := Int.eq_ofNat_of_zero_le a1
  refine ⟨d1, h1, ?_⟩
  have s1 : q__law_right_1 [.own true (.lst d), .un, .un, .un, .un, .un, .un, .un, .un, .un, .un] = .ok (.nx (st d1 k)) := by
    unfold q__law_right_1 st
    rw [roll_eq]
    simp [e1]
  obtain ⟨u, e⟩ := out0_ok (c_all d1 k (by omega))
  show callM 11 (sSeq q__law_right_1 rest) _ = _
  rw [ev_callM, show startS 11 [.own p (.lst d)] = [.own true (.lst d), .un, .un, .un, .un, .un, .un, .un, .un, .un, .un] from rfl, Qd.seq_step s1, e]
  rfl
theorem tl : b_law = sSeq (sFor (Qd.i_law 2) (asgN 1) (Qd.f_law m__law_right)) (sSeq q_law_2 (sSeq q_law_3 sNil)) := by kernel_rfl
theorem tl2 (ws : List W) (x : W) : Qd.okT ((sSeq q_law_2 (sSeq q_law_3 sNil)) (.fro (.scr ws) :: .fro x :: List.replicate 2 .un)) = true := by kernel_rfl
theorem y_law {ns : List Int} : ∃ as', m_law [.fro (.scr (ns.map W.int))] = .ok (.fro (.bl true), as') := by
  have := Qd.law_of (R := m__law_right) (T := (sSeq q_law_2 (sSeq q_law_3 sNil))) (M := 2) (k := 2) (ns := ns) (by decide) (fun d h => by
    obtain ⟨d', _, e⟩ := y_right (n := 0) (p := false) (Qd.DiceOk.less h (by decide))
    exact ⟨d', e⟩) tl2
  unfold m_law
  rw [tl]
  exact this
end Zk21
theorem PySem.Challenge.cw_hookstrips_k21_whole_one_word_for_each_r_holds : PySem.Challenge.rw_hookstrips_k21_whole_one_word_for_each_r.Holds :=
  Zk21.close fun _ _ => Zk21.y_law
