import PyProof.Rows.All
import Wide.All
import OpenK.AllK
import Wide.FinOn
import HandS.ForMost
import HandS.ForExc
import HandS.Lambda
import HandS.Wide
import HandS.TupAny
import HandS.TupMul
import HandS.Deep
import HandS.Star
import KE.KTupSum
import HandS.Style
import HandS.Zip
import HandS.Comp
import HandS.ExcOwn
import HandS.WordsExc
import HandS.Defaults
import HandS.IsInst
import HandS.SortInts
import KE.GoesMore
import KE.GoesEnum
import HandS.HeadEnd
import HandS.HeadHook1
import HandS.HeadHook2
import HandS.Head0
import HandS.Head1
import HandS.Head2
import PySem.Challenge.RW_hookstrips_k07_whole_turned_rows_and_dif
set_option Elab.async false
set_option linter.all false
set_option maxRecDepth 100000
set_option maxHeartbeats 0
/-! # Values as trees, results, slots -/
namespace Qs
open PySem PySem.Spec PyProof.Rows L2
/-- a value as a tree; a text by its codes -/
inductive W where
  | non
  | bl (b : Bool)
  | int (i : Int)
  | str (s : List Nat)
  | tup (xs : List W)
  | lst (xs : List W)
  | dic (ks : List W) (vs : List W)
  | fn (k : Nat)
  | cl (k : Nat)
  | ty (n : String)
  | ins (c : Nat) (fs : List W)
  | scr (xs : List W)
  deriving Inhabited
/-- what stands at a place of a def's names: nothing told, a value that never changes, a list or dict of the def's own (p: the one that was handed in) -/
inductive Sl where
  | un
  | fro (w : W)
  | own (p : Bool) (w : W)
  deriving Inhabited
abbrev S := List Sl
/-- what an expression gives: a value that never changes, a new list or dict that nobody else knows, the list or dict at a place -/
inductive R where
  | fro (w : W)
  | new (w : W)
  | bor (i : Nat)
/-- an exception: the place of its class, what it keeps -/
structure Ex where
  cls : Nat
  arg : Option W
inductive Res (α : Type) where
  | ok (a : α)
  | exc (x : Ex)
  | bad
def Res.bind {α β : Type} : Res α → (α → Res β) → Res β
  | .ok a, f => f a
  | .exc x, _ => .exc x
  | .bad, _ => .bad
@[simp] theorem Res.bind_ok {α β : Type} (a : α) (f : α → Res β) : (Res.ok a).bind f = f a := rfl
@[simp] theorem Res.bind_exc {α β : Type} (x : Ex) (f : α → Res β) : (Res.exc x : Res α).bind f = .exc x := rfl
@[simp] theorem Res.bind_bad {α β : Type} (f : α → Res β) : (Res.bad : Res α).bind f = .bad := rfl
instance : Monad Res where
  pure := .ok
  bind := Res.bind
/-- an option as a result -/
def ofO {α : Type} : Option α → Res α
  | some a => .ok a
  | none => .bad
@[simp] theorem ofO_some {α : Type} (a : α) : ofO (some a) = .ok a := rfl
@[simp] theorem ofO_none {α : Type} : (ofO (none : Option α)) = .bad := rfl
/-- go on if it holds -/
def chk {α : Type} (b : Bool) (r : Res α) : Res α := if b then r else .bad
abbrev SE := S → Res (R × S)
inductive Fl where
  | nx (s : S)
  | rt (r : R) (s : S)
  | bk (s : S)
  | ct (s : S)
abbrev SS := S → Res Fl
def slW : Sl → Option W
  | .un => none
  | .fro w => some w
  | .own _ w => some w
/-- what is read there now -/
def val (s : S) : R → Option W
  | .fro w => some w
  | .new w => some w
  | .bor i => s[i]?.bind slW
/-- the value for good: a list of a place is not changed from now on -/
def frz (s : S) : R → Option (W × S)
  | .fro w => some (w, s)
  | .new w => some (w, s)
  | .bor i => s[i]?.bind fun
    | .fro w => some (w, s)
    | .own _ w => some (w, s.set i (.fro w))
    | .un => none
/-! ### the tables -/
/-- where the defs and classes stand -/
structure Tab where
  fn : Nat → Option Addr
  cl : Nat → Option Addr
/-- a list that never changes (P) -/
def FzL (P : Addr → Prop) (H : Hp) (a : Addr) (xs : List V) : Prop := P a ∧ H a = some (.lst xs)
/-- the script: a list that is handed in and never changes -/
def FzS (K : PySem.W.Frag) (P : Addr → Prop) (H : Hp) (a : Addr) (xs : List V) : Prop := (P a ∧ Rd H a (.lst xs)) ∨ SqL K (fun _ => none) a xs
theorem FzS.sq {K : PySem.W.Frag} {P : Addr → Prop} {H : Hp} {a : Addr} {xs : List V} (h : FzS K P H a xs) : SqL K H a xs := by
  rcases h with ⟨_, h⟩ | h
  · exact .inl h
  · rcases h with h | h
    · rcases h with h | ⟨o, h⟩ <;> cases h
    · exact .inr h
/-- the pairs of a dict: its keys as trees -/
def kW : Key → W
  | .inl i => .int i
  | .inr x => .str x.cps.toList
/-- a dict's content -/
inductive DicAt (H : Hp) (a : Addr) : List W → List V → Prop where
  | k {kvs : List (Key × V)} : Rd H a (.dK kvs) → DicAt H a (kvs.map fun p => kW p.1) (kvs.map (·.2))
  | t {kvs : List (List Key × V)} : Rd H a (.dT kvs) → DicAt H a (kvs.map fun p => W.tup (p.1.map kW)) (kvs.map (·.2))
mutual
/-- v stands for the tree w; its lists and dicts never change -/
def Rep (T : Tab) (K : PySem.W.Frag) (P : Addr → Prop) (H : Hp) : W → V → Prop
  | .non, v => v = .non
  | .bl b, v => v = .bl b
  | .int i, v => v = .int i
  | .str s, v => v = .str ⟨s.toArray⟩
  | .tup ws, v => ∃ a vs, v = .ref a ∧ SqT K H a vs ∧ Reps T K P H ws vs
  | .lst ws, v => ∃ a vs, v = .ref a ∧ FzL P H a vs ∧ Reps T K P H ws vs
  | .scr ws, v => ∃ a vs, v = .ref a ∧ FzS K P H a vs ∧ Reps T K P H ws vs
  | .dic ks ws, v => ∃ a vs, v = .ref a ∧ P a ∧ DicAt H a ks vs ∧ Reps T K P H ws vs
  | .fn k, v => ∃ a, T.fn k = some a ∧ v = .ref a
  | .cl k, v => ∃ a, T.cl k = some a ∧ v = .ref a
  | .ty n, v => v = .ty n
  | .ins _ _, _ => False
def Reps (T : Tab) (K : PySem.W.Frag) (P : Addr → Prop) (H : Hp) : List W → List V → Prop
  | [], vs => vs = []
  | w :: ws, vs => ∃ v r, vs = v :: r ∧ Rep T K P H w v ∧ Reps T K P H ws r
end
/-- what never changes -/
def Imm : HO → Prop
  | .tup _ => True
  | .frz _ _ => True
  | .rng _ _ => True
  | _ => False
def Tbl : HO → Prop
  | .tbl _ => True
  | _ => False
section
variable {T : Tab} {K : PySem.W.Frag} {P P' : Addr → Prop} {H H' : Hp}
/-- what is kept for the sake of P -/
structure Kp (P P' : Addr → Prop) (H H' : Hp) : Prop where
  pin : ∀ a, P a → P' a
  keep : ∀ a o, H a = some o → Imm o ∨ (P a ∧ ¬ Tbl o) → H' a = some o
theorem Kp.refl : Kp P P H H := ⟨fun _ h => h, fun _ _ h _ => h⟩
theorem Kp.rdL (k : Kp P P' H H') {a : Addr} {xs : List V} (p : P a) (h : Rd H a (.lst xs)) : Rd H' a (.lst xs) := by
  rcases h with h | ⟨o, h⟩
  · exact .inl (k.keep _ _ h (.inr ⟨p, fun z => z⟩))
  · exact .inr ⟨o, k.keep _ _ h (.inl trivial)⟩
theorem Kp.rdK (k : Kp P P' H H') {a : Addr} {xs : List (Key × V)} (p : P a) (h : Rd H a (.dK xs)) : Rd H' a (.dK xs) := by
  rcases h with h | ⟨o, h⟩
  · exact .inl (k.keep _ _ h (.inr ⟨p, fun z => z⟩))
  · exact .inr ⟨o, k.keep _ _ h (.inl trivial)⟩
theorem Kp.rdT (k : Kp P P' H H') {a : Addr} {xs : List (List Key × V)} (p : P a) (h : Rd H a (.dT xs)) : Rd H' a (.dT xs) := by
  rcases h with h | ⟨o, h⟩
  · exact .inl (k.keep _ _ h (.inr ⟨p, fun z => z⟩))
  · exact .inr ⟨o, k.keep _ _ h (.inl trivial)⟩
theorem Kp.sqt (k : Kp P P' H H') {a : Addr} {xs : List V} (h : SqT K H a xs) : SqT K H' a xs := by
  rcases h with h | h
  · rcases h with h | ⟨o, h⟩
    · exact .inl (.inl (k.keep _ _ h (.inl trivial)))
    · exact .inl (.inr ⟨o, k.keep _ _ h (.inl trivial)⟩)
  · exact .inr h
theorem Kp.fzl (k : Kp P P' H H') {a : Addr} {xs : List V} (h : FzL P H a xs) : FzL P' H' a xs := ⟨k.pin _ h.1, k.keep _ _ h.2 (.inr ⟨h.1, fun z => z⟩)⟩
theorem Kp.fzs (k : Kp P P' H H') {a : Addr} {xs : List V} (h : FzS K P H a xs) : FzS K P' H' a xs := by
  rcases h with ⟨p, h⟩ | h
  · exact .inl ⟨k.pin _ p, k.rdL p h⟩
  · exact .inr h
theorem Kp.dic (k : Kp P P' H H') {a : Addr} {ks : List W} {vs : List V} (p : P a) (h : DicAt H a ks vs) : DicAt H' a ks vs := by
  cases h with
  | k h => exact .k (k.rdK p h)
  | t h => exact .t (k.rdT p h)
mutual
theorem Rep.mono (k : Kp P P' H H') : ∀ (w : W) (v : V), Rep T K P H w v → Rep T K P' H' w v
  | .non, _, h => h
  | .bl _, _, h => h
  | .int _, _, h => h
  | .str _, _, h => h
  | .tup ws, v, h => by
    unfold Rep at h ⊢
    obtain ⟨a, vs, e, q, r⟩ := h
    exact ⟨a, vs, e, k.sqt q, Reps.mono k ws vs r⟩
  | .lst ws, v, h => by
    unfold Rep at h ⊢
    obtain ⟨a, vs, e, q, r⟩ := h
    exact ⟨a, vs, e, k.fzl q, Reps.mono k ws vs r⟩
  | .dic ks ws, v, h => by
    unfold Rep at h ⊢
    obtain ⟨a, vs, e, p, q, r⟩ := h
    exact ⟨a, vs, e, k.pin _ p, k.dic p q, Reps.mono k ws vs r⟩
  | .scr ws, v, h => by
    unfold Rep at h ⊢
    obtain ⟨a, vs, e, q, r⟩ := h
    exact ⟨a, vs, e, k.fzs q, Reps.mono k ws vs r⟩
  | .fn _, _, h => h
  | .cl _, _, h => h
  | .ty _, _, h => h
  | .ins _ _, _, h => h
theorem Reps.mono (k : Kp P P' H H') : ∀ (ws : List W) (vs : List V), Reps T K P H ws vs → Reps T K P' H' ws vs
  | [], _, h => h
  | w :: ws, vs, h => by
    unfold Reps at h ⊢
    obtain ⟨v, r, e, h1, h2⟩ := h
    exact ⟨v, r, e, Rep.mono k w v h1, Reps.mono k ws r h2⟩
end
theorem Reps.length : ∀ {ws : List W} {vs : List V}, Reps T K P H ws vs → ws.length = vs.length
  | [], _, h => by unfold Reps at h; subst h; rfl
  | w :: ws, vs, h => by
    unfold Reps at h
    obtain ⟨v, r, e, _, h2⟩ := h
    subst e
    simp [Reps.length h2]
theorem Reps.nil : Reps T K P H [] [] := by unfold Reps; rfl
theorem Reps.cons {w : W} {ws : List W} {v : V} {vs : List V} (h : Rep T K P H w v) (h2 : Reps T K P H ws vs) : Reps T K P H (w :: ws) (v :: vs) := by
  unfold Reps; exact ⟨v, vs, rfl, h, h2⟩
theorem Reps.get : ∀ {ws : List W} {vs : List V} {i : Nat} {w : W}, Reps T K P H ws vs → ws[i]? = some w → ∃ v, vs[i]? = some v ∧ Rep T K P H w v
  | [], _, _, _, _, e => by simp at e
  | w :: ws, vs, i, w', h, e => by
    unfold Reps at h
    obtain ⟨v, r, e1, h1, h2⟩ := h
    subst e1
    cases i with
    | zero => simp at e; subst e; exact ⟨v, rfl, h1⟩
    | succ i =>
      obtain ⟨u, e2, q⟩ := Reps.get (i := i) h2 (by simpa using e)
      exact ⟨u, by simpa using e2, q⟩
theorem Reps.app : ∀ {ws us : List W} {vs xs : List V}, Reps T K P H ws vs → Reps T K P H us xs → Reps T K P H (ws ++ us) (vs ++ xs)
  | [], _, _, _, h, h2 => by unfold Reps at h; subst h; exact h2
  | w :: ws, us, vs, xs, h, h2 => by
    unfold Reps at h
    obtain ⟨v, r, e1, h1, h3⟩ := h
    subst e1
    exact Reps.cons h1 (Reps.app h3 h2)
theorem Reps.set : ∀ {ws : List W} {vs : List V} {i : Nat} {w : W} {v : V}, Reps T K P H ws vs → Rep T K P H w v → Reps T K P H (ws.set i w) (vs.set i v)
  | [], vs, _, _, _, h, _ => by unfold Reps at h; subst h; simpa using Reps.nil
  | w :: ws, vs, i, w', v', h, q => by
    unfold Reps at h
    obtain ⟨v, r, e1, h1, h3⟩ := h
    subst e1
    cases i with
    | zero => exact Reps.cons q h3
    | succ i => exact Reps.cons h1 (Reps.set h3 q)
theorem Reps.take : ∀ {ws : List W} {vs : List V} (n : Nat), Reps T K P H ws vs → Reps T K P H (ws.take n) (vs.take n)
  | _, _, 0, _ => by simpa using Reps.nil
  | [], vs, n + 1, h => by unfold Reps at h; subst h; simpa using Reps.nil
  | w :: ws, vs, n + 1, h => by
    unfold Reps at h
    obtain ⟨v, r, e1, h1, h3⟩ := h
    subst e1
    exact Reps.cons h1 (Reps.take n h3)
theorem Reps.drop : ∀ {ws : List W} {vs : List V} (n : Nat), Reps T K P H ws vs → Reps T K P H (ws.drop n) (vs.drop n)
  | _, _, 0, h => h
  | [], vs, n + 1, h => by unfold Reps at h; subst h; simpa using Reps.nil
  | w :: ws, vs, n + 1, h => by
    unfold Reps at h
    obtain ⟨v, r, e1, h1, h3⟩ := h
    subst e1
    exact Reps.drop n h3
theorem Reps.rev {ws : List W} {vs : List V} (h : Reps T K P H ws vs) : Reps T K P H ws.reverse vs.reverse := by
  induction ws generalizing vs with
  | nil => unfold Reps at h; subst h; exact Reps.nil
  | cons w ws ih =>
    unfold Reps at h
    obtain ⟨v, r, e1, h1, h3⟩ := h
    subst e1
    rw [List.reverse_cons, List.reverse_cons]
    exact Reps.app (ih h3) (Reps.cons h1 Reps.nil)
end
end Qs
/-! # The relation between slots as trees and the machine's; readings -/
namespace Qs
open PySem PySem.Spec PyProof.Rows L2
/-- a list or dict of the def's own, by its content -/
def Cell (T : Tab) (K : PySem.W.Frag) (P : Addr → Prop) (H : Hp) : W → Addr → Prop
  | .lst ws, a => ∃ vs, H a = some (.lst vs) ∧ Reps T K P H ws vs
  | .dic ks ws, a => ∃ vs, ((∃ kvs : List (Key × V), H a = some (.dK kvs) ∧ ks = kvs.map (fun p => kW p.1) ∧ vs = kvs.map (·.2)) ∨
      (∃ kvs : List (List Key × V), H a = some (.dT kvs) ∧ ks = kvs.map (fun p => W.tup (p.1.map kW)) ∧ vs = kvs.map (·.2))) ∧ Reps T K P H ws vs
  | _, _ => False
/-- the static part of a context -/
structure Cst where
  T : Tab
  K : PySem.W.Frag
  tbs : List (Addr × Str)
section
variable (c : Cst)
/-- the addresses that the def's own lists and dicts stand at -/
def Own (s : S) (σ : L2.St) (a : Addr) : Prop := ∃ (i : Nat) (p : Bool) (w : W), s[i]? = some (Sl.own p w) ∧ σ[i]? = some (some (V.ref a))
structure Rel (P : Addr → Prop) (s : S) (σ : L2.St) (H : Hp) : Prop where
  len : s.length = σ.length
  fro : ∀ (i : Nat) (w : W), s[i]? = some (Sl.fro w) → ∃ v : V, σ[i]? = some (some v) ∧ Rep c.T c.K P H w v
  own : ∀ (i : Nat) (p : Bool) (w : W), s[i]? = some (Sl.own p w) → ∃ a, σ[i]? = some (some (V.ref a)) ∧ ¬ P a ∧ Cell c.T c.K P H w a
  inj : ∀ (i j : Nat) (p q : Bool) (u w : W) (a : Addr), s[i]? = some (Sl.own p u) → s[j]? = some (Sl.own q w) → σ[i]? = some (some (V.ref a)) → σ[j]? = some (some (V.ref a)) → i = j
  tbs : LamX.Tabs c.tbs H
  dom : ∀ a, P a → H a ≠ none
/-- from a state to a later one of the same def -/
structure Stp (P : Addr → Prop) (s : S) (σ : L2.St) (H : Hp) (P' : Addr → Prop) (s' : S) (σ' : L2.St) (H' : Hp) : Prop where
  keep : ∀ a o, H a = some o → ¬ Own s σ a → ¬ Tbl o → H' a = some o
  there : ∀ a, H a ≠ none → H' a ≠ none
  pin : ∀ a, P a → P' a
  new : ∀ a, P' a → P a ∨ H a = none ∨ Own s σ a
  own : ∀ a, Own s' σ' a → Own s σ a ∨ H a = none
  par : ∀ (i : Nat) (w' : W), s'[i]? = some (Sl.own true w') → (∃ w, s[i]? = some (Sl.own true w)) ∧ σ'[i]? = σ[i]?
/-- .. the slots at the machine as they were -/
structure StE (P : Addr → Prop) (s : S) (σ : L2.St) (H : Hp) (P' : Addr → Prop) (s' : S) (H' : Hp) : Prop extends Stp P s σ H P' s' σ H' where
  sl : ∀ i : Nat, s'[i]? = s[i]? ∨ ∃ (p : Bool) (w : W), s[i]? = some (Sl.own p w) ∧ ∃ w' : W, s'[i]? = some (Sl.own p w') ∨ s'[i]? = some (Sl.fro w')
/-- what an expression's value is, in the state that it leaves; H₀: where it began -/
def RvR (P : Addr → Prop) (s : S) (σ : L2.St) (H₀ H : Hp) : R → V → Prop
  | .fro w, v => Rep c.T c.K P H w v
  | .new w, v => ∃ a, v = .ref a ∧ ¬ P a ∧ ¬ Own s σ a ∧ H₀ a = none ∧ Cell c.T c.K P H w a
  | .bor i, v => σ[i]? = some (some v) ∧ ∃ w, (s[i]?.bind slW) = some w
/-- a value as it can be read now -/
def View (P : Addr → Prop) (H : Hp) : W → V → Prop
  | .lst ws, v => ∃ a vs, v = .ref a ∧ H a = some (.lst vs) ∧ Reps c.T c.K P H ws vs
  | .dic ks ws, v => ∃ a vs, v = .ref a ∧ DicAt H a ks vs ∧ Reps c.T c.K P H ws vs
  | w, v => Rep c.T c.K P H w v
/-- an exception -/
def XRel (P : Addr → Prop) (H : Hp) (x : Ex) (cls : Value) (d : Option Addr) : Prop :=
  (∃ C, c.T.cl x.cls = some C ∧ cls = .ref C) ∧
  match x.arg with
  | none => True
  | some w => ∃ dd f v, d = some dd ∧ H dd = some (.xd [(f, v)]) ∧ Rep c.T c.K P H w v
/-- behind an exception -/
structure Sxc (P : Addr → Prop) (s : S) (σ : L2.St) (H : Hp) (P' : Addr → Prop) (H' : Hp) : Prop where
  keep : ∀ a o, H a = some o → ¬ Own s σ a → ¬ Tbl o → H' a = some o
  pin : ∀ a, P a → P' a
  new : ∀ a, P' a → P a ∨ H a = none ∨ Own s σ a
  tbs : LamX.Tabs c.tbs H'
def PostX (Wx : WX) (P : Addr → Prop) (s : S) (σ : L2.St) (H : Hp) (x : Ex) : Prop := ∀ cls d P' H', Sxc c P s σ H P' H' → XRel c P' H' x cls d → Wx cls d σ H'
/-- what follows an expression's result, from the state (P, s, H) at which the expression began -/
def Out (Wx : WX) (σ : L2.St) (P : Addr → Prop) (s : S) (H : Hp) (Q : VK) : Res (R × S) → Prop
  | .ok (r, s') => ∀ v P' H', StE P s σ H P' s' H' → Rel c P' s' σ H' → RvR c P' s' σ H H' r v → Q v H'
  | .exc x => PostX c Wx P s σ H x
  | .bad => False
/-- the reading of an expression that f tells -/
def rd (Wx : WX) (f : SE) : TE := fun σ H Q => ∃ P s, Rel c P s σ H ∧ Out c Wx σ P s H Q (f s)
end
section
variable {c : Cst} {P P' P'' : Addr → Prop} {s s' s'' : S} {σ σ' σ'' : L2.St} {H H' H'' : Hp}
theorem Own.get {a : Addr} {i : Nat} {p : Bool} {w : W} (e : s[i]? = some (Sl.own p w)) (e2 : σ[i]? = some (some (V.ref a))) : Own s σ a := ⟨i, p, w, e, e2⟩
theorem Cell.ex {T : Tab} {K : PySem.W.Frag} {w : W} {a : Addr} (h : Cell T K P H w a) : ∃ o, H a = some o ∧ ¬ Tbl o ∧ ¬ Imm o := by
  cases w with
  | lst ws => obtain ⟨vs, e, _⟩ := h; exact ⟨_, e, fun z => z, fun z => z⟩
  | dic ks ws =>
    obtain ⟨vs, h, _⟩ := h
    rcases h with ⟨kvs, e, _⟩ | ⟨kvs, e, _⟩
    · exact ⟨_, e, fun z => z, fun z => z⟩
    · exact ⟨_, e, fun z => z, fun z => z⟩
  | _ => exact h.elim
theorem Cell.mono {T : Tab} {K : PySem.W.Frag} (k : Kp P P' H H') {w : W} {a : Addr} (h : Cell T K P H w a) (e : ∀ o, H a = some o → ¬ Tbl o → H' a = some o) : Cell T K P' H' w a := by
  cases w with
  | lst ws => obtain ⟨vs, q, r⟩ := h; exact ⟨vs, e _ q (fun z => z), Reps.mono k _ _ r⟩
  | dic ks ws =>
    obtain ⟨vs, h, r⟩ := h
    rcases h with ⟨kvs, q, z⟩ | ⟨kvs, q, z⟩
    · exact ⟨vs, .inl ⟨kvs, e _ q (fun z => z), z⟩, Reps.mono k _ _ r⟩
    · exact ⟨vs, .inr ⟨kvs, e _ q (fun z => z), z⟩, Reps.mono k _ _ r⟩
  | _ => exact h.elim
theorem Rel.ownP (R : Rel c P s σ H) {a : Addr} (h : Own s σ a) : ¬ P a ∧ ∃ w, Cell c.T c.K P H w a := by
  obtain ⟨i, p, w, e, e2⟩ := h
  obtain ⟨b, e3, n, z⟩ := R.own i p w e
  rw [e2] at e3
  cases e3
  exact ⟨n, w, z⟩
theorem Stp.kp (R : Rel c P s σ H) (t : Stp P s σ H P' s' σ' H') : Kp P P' H H' where
  pin := t.pin
  keep := fun a o e h => by
    refine t.keep a o e (fun z => ?_) ?_
    · obtain ⟨n, w, q⟩ := R.ownP z
      obtain ⟨o', e', _, ni⟩ := Cell.ex q
      rw [e] at e'; cases e'
      rcases h with h | h
      · exact ni h
      · exact n h.1
    · rcases h with h | h
      · cases o <;> first | exact h.elim | exact fun z => z
      · exact h.2
theorem Stp.refl : Stp P s σ H P s σ H := ⟨fun _ _ e _ _ => e, fun _ e => e, fun _ e => e, fun _ e => .inl e, fun _ e => .inl e, fun i w e => ⟨⟨w, e⟩, rfl⟩⟩
theorem StE.refl : StE P s σ H P s H := ⟨Stp.refl, fun _ => .inl rfl⟩
theorem Stp.trans (t : Stp P s σ H P' s' σ' H') (u : Stp P' s' σ' H' P'' s'' σ'' H'') : Stp P s σ H P'' s'' σ'' H'' where
  keep := fun a o e n nt => by
    refine u.keep a o (t.keep a o e n nt) (fun z => ?_) nt
    rcases t.own a z with z | z
    · exact n z
    · rw [z] at e; cases e
  there := fun a e => u.there a (t.there a e)
  pin := fun a e => u.pin a (t.pin a e)
  new := fun a e => by
    rcases u.new a e with z | z | z
    · exact t.new a z
    · by_cases q : H a = none
      · exact .inr (.inl q)
      · exact absurd z (t.there a q)
    · rcases t.own a z with z | z
      · exact .inr (.inr z)
      · exact .inr (.inl z)
  own := fun a e => by
    rcases u.own a e with z | z
    · exact t.own a z
    · by_cases q : H a = none
      · exact .inr q
      · exact absurd z (t.there a q)
  par := fun i w e => by
    obtain ⟨⟨w1, e1⟩, q1⟩ := u.par i w e
    obtain ⟨⟨w2, e2⟩, q2⟩ := t.par i w1 e1
    exact ⟨⟨w2, e2⟩, q1.trans q2⟩
theorem StE.trans (t : StE P s σ H P' s' H') (u : StE P' s' σ H' P'' s'' H'') : StE P s σ H P'' s'' H'' := ⟨t.toStp.trans u.toStp, fun i => by
  rcases u.sl i with e | ⟨p, w, e, w', e'⟩
  · rcases t.sl i with e2 | ⟨p, w, e2, w', e3⟩
    · exact .inl (e.trans e2)
    · exact .inr ⟨p, w, e2, w', by rw [e]; exact e3⟩
  · rcases t.sl i with e2 | ⟨p2, w2, e2, w3, e3⟩
    · exact .inr ⟨p, w, by rw [← e2]; exact e, w', e'⟩
    · rcases e3 with e3 | e3
      · rw [e] at e3; cases e3
        exact .inr ⟨p, w2, e2, w', e'⟩
      · rw [e] at e3; cases e3⟩
theorem Sxc.of (t : Stp P s σ H P' s' σ H') (R : Rel c P' s' σ H') {Wx : WX} {x : Ex} (h : PostX c Wx P s σ H x) : PostX c Wx P' s' σ H' x := fun cls d P2 H2 u xr => by
  refine h cls d P2 H2 ⟨fun a o e n nt => ?_, fun a e => u.pin a (t.pin a e), fun a e => ?_, u.tbs⟩ xr
  · refine u.keep a o (t.keep a o e n nt) (fun z => ?_) nt
    rcases t.own a z with z | z
    · exact n z
    · rw [z] at e; cases e
  · rcases u.new a e with z | z | z
    · exact t.new a z
    · by_cases q : H a = none
      · exact .inr (.inl q)
      · exact absurd z (t.there a q)
    · rcases t.own a z with z | z
      · exact .inr (.inr z)
      · exact .inr (.inl z)
/-- a value carried over a later expression -/
theorem RvR.over {H₀ : Hp} {r : R} {v : V} (R : Rel c P s σ H) (h : RvR c P s σ H₀ H r v) (t : StE P s σ H P' s' H') : RvR c P' s' σ H₀ H' r v := by
  cases r with
  | fro w => exact Rep.mono (Stp.kp R t.toStp) _ _ h
  | new w =>
    obtain ⟨a, e, n, no, hn, q⟩ := h
    obtain ⟨o, eo, nt, _⟩ := Cell.ex q
    have ha : H a ≠ none := by rw [eo]; exact fun z => nomatch z
    refine ⟨a, e, fun z => ?_, fun z => ?_, hn, Cell.mono (Stp.kp R t.toStp) q fun o e nt => t.keep a o e no nt⟩
    · rcases t.new a z with z | z | z
      · exact n z
      · exact ha z
      · exact no z
    · rcases t.own a z with z | z
      · exact no z
      · exact ha z
  | bor i =>
    obtain ⟨e, w, q⟩ := h
    refine ⟨e, ?_⟩
    rcases t.sl i with z | ⟨p, w, _, w', z | z⟩
    · exact ⟨w, by rw [z]; exact q⟩
    · exact ⟨w', by rw [z]; rfl⟩
    · exact ⟨w', by rw [z]; rfl⟩
theorem Rep.view {w : W} {v : V} (h : Rep c.T c.K P H w v) : View c P H w v := by
  cases w with
  | lst ws =>
    unfold Rep at h
    obtain ⟨a, vs, e, q, r⟩ := h
    exact ⟨a, vs, e, q.2, r⟩
  | dic ks ws =>
    unfold Rep at h
    obtain ⟨a, vs, e, _, q, r⟩ := h
    exact ⟨a, vs, e, q, r⟩
  | _ => exact h
theorem Cell.view {w : W} {a : Addr} (h : Cell c.T c.K P H w a) : View c P H w (.ref a) := by
  cases w with
  | lst ws =>
    obtain ⟨vs, q, r⟩ := h
    exact ⟨a, vs, rfl, q, r⟩
  | dic ks ws =>
    obtain ⟨vs, h, r⟩ := h
    rcases h with ⟨kvs, q, rfl, rfl⟩ | ⟨kvs, q, rfl, rfl⟩
    · exact ⟨a, _, rfl, .k (.inl q), r⟩
    · exact ⟨a, _, rfl, .t (.inl q), r⟩
  | _ => exact h.elim
theorem RvR.view {H₀ : Hp} {r : R} {v : V} {w : W} (R : Rel c P s σ H) (h : RvR c P s σ H₀ H r v) (e : val s r = some w) : View c P H w v := by
  cases r with
  | fro w' => cases e; exact Rep.view h
  | new w' =>
    cases e
    obtain ⟨a, e, _, _, _, q⟩ := h
    subst e
    exact Cell.view q
  | bor i =>
    obtain ⟨h1, _⟩ := h
    have e : s[i]?.bind slW = some w := e
    cases q : s[i]? with
    | none => rw [q] at e; cases e
    | some x =>
      rw [q] at e
      cases x with
      | un => cases e
      | fro w' =>
        cases e
        obtain ⟨v', e1, r⟩ := R.fro i _ q
        rw [h1] at e1; cases e1
        exact Rep.view r
      | own p w' =>
        cases e
        obtain ⟨a, e1, _, z⟩ := R.own i p _ q
        rw [h1] at e1; cases e1
        exact Cell.view z
end
end Qs
/-! # Readings put together; new objects -/
namespace Qs
open PySem PySem.Spec PyProof.Rows L2
section
variable {c : Cst} {P P' P'' P0 : Addr → Prop} {s s' s'' s0 : S} {σ σ' σ'' : L2.St} {H H' H'' H0 : Hp} {Wx : WX} {Q : VK}
theorem StE.there' (t : StE P s σ H P' s' H') {a : Addr} (h : H' a = none) : H a = none := by
  cases e : H a with
  | none => rfl
  | some o => exact absurd h (t.there a (by rw [e]; exact fun z => nomatch z))
theorem RvR.start {r : R} {v : V} (t : StE P0 s0 σ H0 P s H) (h : RvR c P' s' σ H H' r v) : RvR c P' s' σ H0 H' r v := by
  cases r with
  | fro w => exact h
  | new w =>
    obtain ⟨a, e, n, no, hn, q⟩ := h
    exact ⟨a, e, n, no, t.there' hn, q⟩
  | bor i => exact h
theorem Out.at_ {res : Res (R × S)} (h : Out c Wx σ P0 s0 H0 Q res) (t : StE P0 s0 σ H0 P s H) (R : Rel c P s σ H) : Out c Wx σ P s H Q res := by
  cases res with
  | ok p =>
    obtain ⟨r, s'⟩ := p
    exact fun v P' H' t' R' rv => h v P' H' (t.trans t') R' (rv.start t)
  | exc x => exact Sxc.of t.toStp R h
  | bad => exact h
theorem Out.imp {Q' : VK} {res : Res (R × S)} (h : Out c Wx σ P s H Q res) (k : ∀ v H', Q v H' → Q' v H') : Out c Wx σ P s H Q' res := by
  cases res with
  | ok p => obtain ⟨r, s'⟩ := p; exact fun v P' H' t' R' rv => k _ _ (h v P' H' t' R' rv)
  | exc x => exact h
  | bad => exact h
/-- a later state of the def at which nothing but new objects came -/
theorem Rel.more (R : Rel c P s σ H) (k : ∀ b o, H b = some o → H' b = some o) : Rel c P s σ H' where
  len := R.len
  fro := fun i w e => by
    obtain ⟨v, e2, r⟩ := R.fro i w e
    exact ⟨v, e2, Rep.mono ⟨fun _ h => h, fun a o q _ => k a o q⟩ _ _ r⟩
  own := fun i p w e => by
    obtain ⟨a, e2, n, r⟩ := R.own i p w e
    exact ⟨a, e2, n, Cell.mono ⟨fun _ h => h, fun a o q _ => k a o q⟩ r fun o q _ => k a o q⟩
  inj := R.inj
  tbs := R.tbs.ext k
  dom := fun a h => by
    have z := R.dom a h
    cases e : H a with
    | none => exact absurd e z
    | some o => rw [k _ _ e]; exact fun z => nomatch z
theorem Stp.more (k : ∀ b o, H b = some o → H' b = some o) : StE P s σ H P s H' where
  keep := fun a o e _ _ => k a o e
  there := fun a e => by
    cases q : H a with
    | none => exact absurd q e
    | some o => rw [k _ _ q]; exact fun z => nomatch z
  pin := fun a h => h
  new := fun a h => .inl h
  own := fun a h => .inl h
  par := fun i w e => ⟨⟨w, e⟩, rfl⟩
  sl := fun i => .inl rfl
theorem keep_upd {p : Addr} {o : HO} (h : H p = none) : ∀ b u, H b = some u → upd H p o b = some u := fun b u e => by
  rw [upd_ne (ne_of_none e h)]; exact e
/-- a new tuple -/
theorem new_tup {p : Addr} {vs : List V} {ws : List W} (R : Rel c P s σ H) (hp : H p = none) (r : Reps c.T c.K P H ws vs) :
    StE P s σ H P s (upd H p (.tup vs)) ∧ Rel c P s σ (upd H p (.tup vs)) ∧ RvR c P s σ H (upd H p (.tup vs)) (.fro (.tup ws)) (.ref p) := by
  refine ⟨Stp.more (keep_upd hp), R.more (keep_upd hp), ?_⟩
  show Rep c.T c.K P _ (.tup ws) (.ref p)
  unfold Rep
  exact ⟨p, vs, rfl, .of upd_same, Reps.mono ⟨fun _ h => h, fun a o q _ => keep_upd hp a o q⟩ _ _ r⟩
/-- a new list -/
theorem new_lst {p : Addr} {vs : List V} {ws : List W} (R : Rel c P s σ H) (hp : H p = none) (r : Reps c.T c.K P H ws vs) :
    StE P s σ H P s (upd H p (.lst vs)) ∧ Rel c P s σ (upd H p (.lst vs)) ∧ RvR c P s σ H (upd H p (.lst vs)) (.new (.lst ws)) (.ref p) := by
  refine ⟨Stp.more (keep_upd hp), R.more (keep_upd hp), p, rfl, fun z => absurd hp (R.dom p z), fun z => ?_, hp, vs, upd_same, Reps.mono ⟨fun _ h => h, fun a o q _ => keep_upd hp a o q⟩ _ _ r⟩
  obtain ⟨_, w, q⟩ := R.ownP z
  obtain ⟨o, e, _⟩ := Cell.ex q
  rw [hp] at e; cases e
/-- a value that is no object -/
theorem Out.flat {w : W} {v : V} (R : Rel c P s σ H) (h : Out c Wx σ P s H Q (.ok (.fro w, s))) (r : Rep c.T c.K P H w v) : Q v H := h v P H StE.refl R r
theorem Out.tup {vs : List V} {ws : List W} (R : Rel c P s σ H) (h : Out c Wx σ P s H Q (.ok (.fro (.tup ws), s))) (r : Reps c.T c.K P H ws vs) : ∀ p, H p = none → Q (.ref p) (upd H p (.tup vs)) := fun p hp => by
  obtain ⟨h1, h2, h3⟩ := new_tup R hp r
  exact h _ _ _ h1 h2 h3
theorem Out.lst {vs : List V} {ws : List W} (R : Rel c P s σ H) (h : Out c Wx σ P s H Q (.ok (.new (.lst ws), s))) (r : Reps c.T c.K P H ws vs) : ∀ p, H p = none → Q (.ref p) (upd H p (.lst vs)) := fun p hp => by
  obtain ⟨h1, h2, h3⟩ := new_lst R hp r
  exact h _ _ _ h1 h2 h3
/-! ### one, two expressions in a row -/
def bind1 (fa : SE) (k : R → SE) : SE := fun s => (fa s).bind fun p => k p.1 p.2
theorem rd_one {fa : SE} {k : R → SE} {Z : V → Hp → Prop} (h : rd c Wx (bind1 fa k) σ H Q)
    (hz : ∀ P s r x H1, Rel c P s σ H1 → RvR c P s σ H H1 r x → Out c Wx σ P s H1 Q (k r s) → Z x H1) : rd c Wx fa σ H Z := by
  obtain ⟨P, s, R, h⟩ := h
  refine ⟨P, s, R, ?_⟩
  unfold bind1 at h
  cases e : fa s with
  | ok p =>
    obtain ⟨r, s1⟩ := p
    rw [e] at h
    exact fun v P1 H1 t1 R1 rv => hz P1 s1 r v H1 R1 rv (Out.at_ h t1 R1)
  | exc x => rw [e] at h; exact h
  | bad => rw [e] at h; exact h
def bind2 (fa fb : SE) (k : R → R → SE) : SE := bind1 fa fun ra => bind1 fb fun rb => k ra rb
theorem rd_two {fa fb : SE} {k : R → R → SE} {Z : V → V → Hp → Prop} (h : rd c Wx (bind2 fa fb k) σ H Q)
    (hz : ∀ P s ra rb x y H2, Rel c P s σ H2 → RvR c P s σ H H2 ra x → RvR c P s σ H H2 rb y → Out c Wx σ P s H2 Q (k ra rb s) → Z x y H2) :
    rd c Wx fa σ H fun x H1 => rd c Wx fb σ H1 fun y H2 => Z x y H2 := by
  obtain ⟨P, s, R, h⟩ := h
  refine ⟨P, s, R, ?_⟩
  unfold bind2 bind1 at h
  cases e : fa s with
  | ok p =>
    obtain ⟨ra, s1⟩ := p
    rw [e] at h
    intro x P1 H1 t1 R1 rx
    have h1 := Out.at_ h t1 R1
    refine ⟨P1, s1, R1, ?_⟩
    dsimp only [Res.bind_ok] at h1
    cases e2 : fb s1 with
    | ok q =>
      obtain ⟨rb, s2⟩ := q
      rw [e2] at h1
      exact fun y P2 H2 t2 R2 ry => hz P2 s2 ra rb x y H2 R2 (rx.over R1 t2) (ry.start t1) (Out.at_ h1 t2 R2)
    | exc x => rw [e2] at h1; exact h1
    | bad => rw [e2] at h1; exact h1
  | exc x => rw [e] at h; exact h
  | bad => rw [e] at h; exact h
/-- by the values as they stand -/
def onW (g : W → Option R) (r : R) : SE := fun s => match val s r with
  | some w => (ofO (g w)).bind fun z => .ok (z, s)
  | none => .bad
def onW2 (g : W → W → Option R) (ra rb : R) : SE := fun s => match val s ra, val s rb with
  | some u, some w => (ofO (g u w)).bind fun z => .ok (z, s)
  | _, _ => .bad
theorem Out.onW {g : W → Option R} {r : R} {H1 : Hp} {x : V} (R : Rel c P s σ H1) (rx : RvR c P s σ H H1 r x) (h : Out c Wx σ P s H1 Q (Qs.onW g r s)) :
    ∃ u z, g u = some z ∧ View c P H1 u x ∧ Out c Wx σ P s H1 Q (.ok (z, s)) := by
  unfold Qs.onW at h
  cases e : val s r with
  | none => rw [e] at h; exact h.elim
  | some u =>
    rw [e] at h
    cases q : g u with
    | none => simp only [q, ofO_none, Res.bind_bad] at h; exact h.elim
    | some z => simp only [q, ofO_some, Res.bind_ok] at h; exact ⟨u, z, q, rx.view R e, h⟩
theorem Out.onW2 {g : W → W → Option R} {ra rb : R} {H1 Ha Hb : Hp} {x y : V} (R : Rel c P s σ H1) (rx : RvR c P s σ Ha H1 ra x) (ry : RvR c P s σ Hb H1 rb y) (h : Out c Wx σ P s H1 Q (Qs.onW2 g ra rb s)) :
    ∃ u w z, g u w = some z ∧ View c P H1 u x ∧ View c P H1 w y ∧ Out c Wx σ P s H1 Q (.ok (z, s)) := by
  unfold Qs.onW2 at h
  cases e : val s ra with
  | none => rw [e] at h; exact h.elim
  | some u =>
    cases e2 : val s rb with
    | none => rw [e, e2] at h; exact h.elim
    | some w =>
      rw [e, e2] at h
      cases q : g u w with
      | none => simp only [q, ofO_none, Res.bind_bad] at h; exact h.elim
      | some z => simp only [q, ofO_some, Res.bind_ok] at h; exact ⟨u, w, z, q, rx.view R e, ry.view R e2, h⟩
end
/-! ### judgements by readings -/
section
variable {X : Cx} {e : Expr}
theorem pe_imp {t t' : TE} (h : PE X e t) (k : ∀ σ H Q, t' σ H Q → t σ H Q) : PE X e t' := ⟨fun pins s σ H Q I hq => h.run pins s σ H Q I (k σ H Q hq)⟩
theorem pt_imp {t t' : TT} (h : PT X e t) (k : ∀ σ H Q, t' σ H Q → t σ H Q) : PT X e t' := ⟨fun pins s σ H Q I hq => h.run pins s σ H Q I (k σ H Q hq)⟩
theorem pw_imp {t t' : TT} (h : PW X e t) (k : ∀ σ H Q, t' σ H Q → t σ H Q) : PW X e t' := ⟨fun wh pins s σ H Q I hq => h.run wh pins s σ H Q I (k σ H Q hq)⟩
theorem ps_imp {st : Stmt} {t t' : TS} (h : PS X st t) (k : ∀ D σ H, t' D σ H → t D σ H) : PS X st t' := ⟨fun pins s σ H D I hq => h.run pins s σ H D I (k D σ H hq)⟩
theorem pss_imp {st : List Stmt} {t t' : TS} (h : PSs X st t) (k : ∀ D σ H, t' D σ H → t D σ H) : PSs X st t' := ⟨fun pins s σ H D I hq => h.run pins s σ H D I (k D σ H hq)⟩
theorem op_imp {f : Value → Value → Sem Value} {r r' : R2} (h : OpR X f r) (k : ∀ x y H Q, r' x y H Q → r x y H Q) : OpR X f r' := fun pins s σ H x y v u Q I rx ry hq => h pins s σ H x y v u Q I rx ry (k _ _ _ _ hq)
end
end Qs
/-! # Names, constants, operators, comparisons, subscripts, slices -/
namespace Qs
open PySem PySem.Spec PyProof.Rows L2
def lim : Nat := 16777216
theorem lim_eq : sizeLine = lim := sizeLine_eq
/-- a text of codes -/
abbrev mkS (s : List Nat) : Str := ⟨s.toArray⟩
theorem mkS_len (s : List Nat) : (mkS s).length = s.length := by simp [Str.length]
theorem mkS_app (a b : List Nat) : mkS a ++ mkS b = mkS (a ++ b) := by
  show (⟨a.toArray ++ b.toArray⟩ : Str) = ⟨(a ++ b).toArray⟩
  simp
/-- int arithmetic with its limits -/
def mulOk (i j : Int) : Bool := decide (i.natAbs.log2 + j.natAbs.log2 < 1000000)
def divOk (j : Int) : Bool := decide (0 < j) && decide (j.natAbs.log2 < 9000)
def powOk (i j : Int) : Bool := decide (0 ≤ j) && decide (j ≤ 1000000) && decide (i.natAbs < 18446744073709551616)
def repOk (n : Nat) (k : Int) : Bool := decide (-9223372036854775808 ≤ k) && decide (k < 9223372036854775808) && decide (n * k.toNat ≤ lim)
def guard' {α : Type} (b : Bool) (x : α) : Option α := if b then some x else none
@[simp] theorem guard'_true {α : Type} (x : α) : guard' true x = some x := rfl
theorem guard'_some {α : Type} {b : Bool} {x y : α} (h : guard' b x = some y) : b = true ∧ x = y := by
  unfold guard' at h
  split at h
  · rename_i q; exact ⟨q, Option.some.inj h⟩
  · cases h
def addW : W → W → Option R
  | .int i, .int j => some (.fro (.int (i + j)))
  | .str a, .str b => guard' (decide (a.length + b.length ≤ lim)) (.fro (.str (a ++ b)))
  | .lst a, .lst b => guard' (decide (a.length + b.length ≤ lim)) (.new (.lst (a ++ b)))
  | .tup a, .tup b => guard' (decide (a.length + b.length ≤ lim)) (.fro (.tup (a ++ b)))
  | _, _ => none
def subW : W → W → Option R
  | .int i, .int j => some (.fro (.int (i - j)))
  | _, _ => none
def mulW : W → W → Option R
  | .int i, .int j => guard' (mulOk i j) (.fro (.int (i * j)))
  | .lst a, .int k => guard' (repOk a.length k) (.new (.lst (List.replicate k.toNat a).flatten))
  | .tup a, .int k => guard' (!a.isEmpty && decide (2 ≤ k) && decide (k ≤ 1000) && decide (a.length ≤ 1000)) (.fro (.tup (List.replicate k.toNat a).flatten))
  | _, _ => none
def fdivW : W → W → Option R
  | .int i, .int j => guard' (divOk j) (.fro (.int (i / j)))
  | _, _ => none
def modW : W → W → Option R
  | .int i, .int j => guard' (decide (0 < j)) (.fro (.int (i % j)))
  | _, _ => none
def powW : W → W → Option R
  | .int i, .int j => guard' (powOk i j) (.fro (.int (i ^ j.toNat)))
  | _, _ => none
def binW : Operator → W → W → Option R
  | .Add => addW
  | .Sub => subW
  | .Mult => mulW
  | .FloorDiv => fdivW
  | .Mod => modW
  | .Pow => powW
  | _ => fun _ _ => none
/-! ### equality of trees -/
mutual
def eqW : W → W → Bool
  | .non, .non => true
  | .bl a, .bl b => a == b
  | .bl a, .int j => (if a then 1 else 0) == j
  | .int i, .bl b => i == (if b then 1 else 0)
  | .int i, .int j => i == j
  | .str x, .str y => x == y
  | .lst xs, .lst ys => eqWs xs ys
  | .tup xs, .tup ys => eqWs xs ys
  | _, _ => false
def eqWs : List W → List W → Bool
  | [], [] => true
  | x :: xs, y :: ys => eqW x y && eqWs xs ys
  | _, _ => false
end
/-- data of at most so many levels -/
def datW : Nat → W → Bool
  | _, .non => true
  | _, .bl _ => true
  | _, .int _ => true
  | _, .str s => s.all (fun c => decide (c < 1114112))
  | n + 1, .tup xs => xs.all (datW n)
  | n + 1, .lst xs => xs.all (datW n)
  | _, _ => false
mutual
def pd : W → PyData
  | .bl b => .bool b
  | .int i => .int i
  | .str s => .str (mkS s)
  | .lst xs => .list (pds xs)
  | .tup xs => .tuple (pds xs)
  | _ => .none
def pds : List W → List PyData
  | [] => []
  | x :: xs => pd x :: pds xs
end
theorem mkS_eq (x y : List Nat) : (mkS x == mkS y) = (x == y) := by
  by_cases h : x = y
  · subst h; simp
  · have h2 : mkS x ≠ mkS y := fun e => h (by have := congrArg (fun z : Str => z.cps.toList) e; simpa using this)
    rw [beq_eq_false_iff_ne.mpr h, beq_eq_false_iff_ne.mpr h2]
mutual
theorem eqv_pd : ∀ (n m : Nat) (u w : W), datW n u = true → datW m w = true → PyData.eqv (pd u) (pd w) = eqW u w
  | n, m, .tup xs, .tup ys, h, h2 => by
    cases n with
    | zero => cases h
    | succ n =>
      cases m with
      | zero => cases h2
      | succ m => exact eqv_pds n m xs ys h h2
  | n, m, .lst xs, .lst ys, h, h2 => by
    cases n with
    | zero => cases h
    | succ n =>
      cases m with
      | zero => cases h2
      | succ m => exact eqv_pds n m xs ys h h2
  | n, m, .str x, w, h, h2 => by
    cases w <;> first | rfl | (cases m <;> cases h2) | skip
    rename_i y
    show (mkS x == mkS y) = (x == y)
    exact mkS_eq x y
  | n, m, .non, w, h, h2 => by cases w <;> first | rfl | (cases m <;> cases h2)
  | n, m, .bl _, w, h, h2 => by cases w <;> first | rfl | (cases m <;> cases h2)
  | n, m, .int _, w, h, h2 => by cases w <;> first | rfl | (cases m <;> cases h2)
  | n, m, .tup xs, .non, h, h2 => rfl
  | n, m, .tup xs, .bl _, h, h2 => rfl
  | n, m, .tup xs, .int _, h, h2 => rfl
  | n, m, .tup xs, .str _, h, h2 => rfl
  | n, m, .tup xs, .lst _, h, h2 => rfl
  | n, m, .lst xs, .non, h, h2 => rfl
  | n, m, .lst xs, .bl _, h, h2 => rfl
  | n, m, .lst xs, .int _, h, h2 => rfl
  | n, m, .lst xs, .str _, h, h2 => rfl
  | n, m, .lst xs, .tup _, h, h2 => rfl
  | n, m, .dic _ _, w, h, h2 => by cases n <;> cases h
  | n, m, .fn _, w, h, h2 => by cases n <;> cases h
  | n, m, .cl _, w, h, h2 => by cases n <;> cases h
  | n, m, .ty _, w, h, h2 => by cases n <;> cases h
  | n, m, .ins _ _, w, h, h2 => by cases n <;> cases h
  | n, m, .scr _, w, h, h2 => by cases n <;> cases h
  | n, m, .tup _, .dic _ _, h, h2 => by cases m <;> cases h2
  | n, m, .tup _, .fn _, h, h2 => by cases m <;> cases h2
  | n, m, .tup _, .cl _, h, h2 => by cases m <;> cases h2
  | n, m, .tup _, .ty _, h, h2 => by cases m <;> cases h2
  | n, m, .tup _, .ins _ _, h, h2 => by cases m <;> cases h2
  | n, m, .tup _, .scr _, h, h2 => by cases m <;> cases h2
  | n, m, .lst _, .dic _ _, h, h2 => by cases m <;> cases h2
  | n, m, .lst _, .fn _, h, h2 => by cases m <;> cases h2
  | n, m, .lst _, .cl _, h, h2 => by cases m <;> cases h2
  | n, m, .lst _, .ty _, h, h2 => by cases m <;> cases h2
  | n, m, .lst _, .ins _ _, h, h2 => by cases m <;> cases h2
  | n, m, .lst _, .scr _, h, h2 => by cases m <;> cases h2
theorem eqv_pds : ∀ (n m : Nat) (xs ys : List W), xs.all (datW n) = true → ys.all (datW m) = true → PyData.eqvAll (pds xs) (pds ys) = eqWs xs ys
  | _, _, [], [], _, _ => rfl
  | _, _, [], _ :: _, _, _ => rfl
  | _, _, _ :: _, [], _, _ => rfl
  | n, m, x :: xs, y :: ys, h, h2 => by
    rw [List.all_cons, Bool.and_eq_true] at h h2
    show (PyData.eqv (pd x) (pd y) && PyData.eqvAll (pds xs) (pds ys)) = (eqW x y && eqWs xs ys)
    rw [eqv_pd n m x y h.1 h2.1, eqv_pds n m xs ys h.2 h2.2]
end
mutual
theorem lay_pd : ∀ (n : Nat) (w : W), datW n w = true → PyData.canLay0 (pd w) = true ∧ PyData.depth (pd w) ≤ n
  | n, .non, _ => ⟨rfl, Nat.zero_le _⟩
  | n, .bl _, _ => ⟨rfl, Nat.zero_le _⟩
  | n, .int _, _ => ⟨rfl, Nat.zero_le _⟩
  | n, .str s, h => by
    refine ⟨?_, Nat.zero_le _⟩
    have h : s.all (fun c => decide (c < 1114112)) = true := by cases n <;> exact h
    show (mkS s).cps.all (fun c => decide (c < 1114112)) = true
    rw [← Array.all_toList]
    simpa using h
  | n, .tup xs, h => by
    cases n with
    | zero => cases h
    | succ n => exact ⟨(lay_pds n xs h).1, Nat.succ_le_succ (lay_pds n xs h).2⟩
  | n, .lst xs, h => by
    cases n with
    | zero => cases h
    | succ n => exact ⟨(lay_pds n xs h).1, Nat.succ_le_succ (lay_pds n xs h).2⟩
  | n, .dic _ _, h => by cases n <;> cases h
  | n, .fn _, h => by cases n <;> cases h
  | n, .cl _, h => by cases n <;> cases h
  | n, .ty _, h => by cases n <;> cases h
  | n, .ins _ _, h => by cases n <;> cases h
  | n, .scr _, h => by cases n <;> cases h
theorem lay_pds : ∀ (n : Nat) (ws : List W), ws.all (datW n) = true → PyData.canLayAll0 (pds ws) = true ∧ PyData.depthAll (pds ws) ≤ n
  | _, [], _ => ⟨rfl, Nat.zero_le _⟩
  | n, x :: xs, h => by
    rw [List.all_cons, Bool.and_eq_true] at h
    obtain ⟨a1, a2⟩ := lay_pd n x h.1
    obtain ⟨b1, b2⟩ := lay_pds n xs h.2
    refine ⟨?_, Nat.max_le.mpr ⟨a2, b2⟩⟩
    show (PyData.canLay0 (pd x) && PyData.canLayAll0 (pds xs)) = true
    rw [a1, b1]; rfl
end
theorem shaped_pd {w : W} (h : datW 60 w = true) : SeqAt.shaped (pd w) = true := by
  obtain ⟨a, b⟩ := lay_pd 60 w h
  unfold SeqAt.shaped
  rw [a]
  exact decide_eq_true (Nat.le_trans b (by decide))
section
variable {c : Cst} {P : Addr → Prop} {H : Hp}
mutual
theorem dp_rep : ∀ (n : Nat) (w : W) (v : V), datW n w = true → Rep c.T c.K P H w v → Dp c.K H v (pd w)
  | n, .non, v, _, r => by unfold Rep at r; subst r; exact .non
  | n, .bl b, v, _, r => by unfold Rep at r; subst r; exact .bl b
  | n, .int i, v, _, r => by unfold Rep at r; subst r; exact .int i
  | n, .str s, v, _, r => by unfold Rep at r; subst r; exact .str _
  | n, .tup ws, v, h, r => by
    cases n with
    | zero => cases h
    | succ n =>
      unfold Rep at r
      obtain ⟨a, vs, e, q, r⟩ := r
      subst e
      exact .tup q (dp_reps n ws vs h r)
  | n, .lst ws, v, h, r => by
    cases n with
    | zero => cases h
    | succ n =>
      unfold Rep at r
      obtain ⟨a, vs, e, q, r⟩ := r
      subst e
      exact .lst (.of q.2) (dp_reps n ws vs h r)
  | n, .dic _ _, _, h, _ => by cases n <;> cases h
  | n, .fn _, _, h, _ => by cases n <;> cases h
  | n, .cl _, _, h, _ => by cases n <;> cases h
  | n, .ty _, _, h, _ => by cases n <;> cases h
  | n, .ins _ _, _, h, _ => by cases n <;> cases h
  | n, .scr _, _, h, _ => by cases n <;> cases h
theorem dp_reps : ∀ (n : Nat) (ws : List W) (vs : List V), ws.all (datW n) = true → Reps c.T c.K P H ws vs → DpAll c.K H vs (pds ws)
  | _, [], vs, _, r => by unfold Reps at r; subst r; exact .nil
  | n, w :: ws, vs, h, r => by
    rw [List.all_cons, Bool.and_eq_true] at h
    unfold Reps at r
    obtain ⟨v, r', e, h1, h2⟩ := r
    subst e
    exact .cons (dp_rep n w v h.1 h1) (dp_reps n ws r' h.2 h2)
end
theorem dp_view {w : W} {v : V} (h : datW 60 w = true) (r : View c P H w v) : Dp c.K H v (pd w) := by
  cases w with
  | lst ws =>
    obtain ⟨a, vs, e, q, r⟩ := r
    subst e
    exact .lst (.of q) (dp_reps 59 ws vs h r)
  | dic _ _ => cases h
  | non => exact dp_rep (P := P) 60 _ v h r
  | bl _ => exact dp_rep (P := P) 60 _ v h r
  | int _ => exact dp_rep (P := P) 60 _ v h r
  | str _ => exact dp_rep (P := P) 60 _ v h r
  | tup _ => exact dp_rep (P := P) 60 _ v h r
  | fn _ => cases h
  | cl _ => cases h
  | ty _ => cases h
  | ins _ _ => cases h
  | scr _ => cases h
end
end Qs
/-! # Operators: each way by the values -/
namespace Qs
open PySem PySem.Spec PyProof.Rows L2
/-- what an expression's soundness asks of the context -/
structure Cok (c : Cst) (Wx : WX) (k : Nat) (X : Cx) : Prop where
  K : X.K = c.K
  calm : X.calm = true
  nd : X.N.Nodup
  rm : Room k X.A
  tk : Takes X Wx
section
variable {c : Cst} {Wx : WX} {k : Nat} {X : Cx} {P : Addr → Prop} {s : S} {σ : L2.St} {H : Hp} {Q : VK} {u w : W} {z : R} {x y : V}
theorem View.int {i : Int} (h : View c P H (.int i) x) : x = .int i := by unfold View Rep at h; exact h
theorem View.bl {i : Bool} (h : View c P H (.bl i) x) : x = .bl i := by unfold View Rep at h; exact h
theorem View.non (h : View c P H .non x) : x = .non := by unfold View Rep at h; exact h
theorem View.str {i : List Nat} (h : View c P H (.str i) x) : x = .str (mkS i) := by unfold View Rep at h; exact h
theorem View.tup {ws : List W} (h : View c P H (.tup ws) x) : ∃ a vs, x = .ref a ∧ SqT c.K H a vs ∧ Reps c.T c.K P H ws vs := by unfold View Rep at h; exact h
theorem View.lst {ws : List W} (h : View c P H (.lst ws) x) : ∃ a vs, x = .ref a ∧ H a = some (.lst vs) ∧ Reps c.T c.K P H ws vs := h
theorem View.scr {ws : List W} (h : View c P H (.scr ws) x) : ∃ a vs, x = .ref a ∧ FzS c.K P H a vs ∧ Reps c.T c.K P H ws vs := by unfold View Rep at h; exact h
theorem rep_int {i : Int} : Rep c.T c.K P H (.int i) (.int i) := by unfold Rep; rfl
theorem rep_bl {i : Bool} : Rep c.T c.K P H (.bl i) (.bl i) := by unfold Rep; rfl
theorem rep_str {i : List Nat} : Rep c.T c.K P H (.str i) (.str (mkS i)) := by unfold Rep; rfl
theorem rep_non : Rep c.T c.K P H .non .non := by unfold Rep; rfl
theorem rep_tup {ws : List W} {a : Addr} {vs : List V} (q : SqT c.K H a vs) (r : Reps c.T c.K P H ws vs) : Rep c.T c.K P H (.tup ws) (.ref a) := by unfold Rep; exact ⟨a, vs, rfl, q, r⟩
theorem outI {i : Int} (R : Rel c P s σ H) (h : Out c Wx σ P s H Q (.ok (.fro (.int i), s))) : Q (.int i) H := h.flat R rep_int
theorem outB {i : Bool} (R : Rel c P s σ H) (h : Out c Wx σ P s H Q (.ok (.fro (.bl i), s))) : Q (.bl i) H := h.flat R rep_bl
theorem outS {i : List Nat} (R : Rel c P s σ H) (h : Out c Wx σ P s H Q (.ok (.fro (.str i), s))) : Q (.str (mkS i)) H := h.flat R rep_str
/-! ### + -/
def rAddStr : R2 := fun x y H Q => ∃ i j, x = .str i ∧ y = .str j ∧ i.length + j.length ≤ sizeLine ∧ Q (.str (i ++ j)) H
def rAddA (K : PySem.W.Frag) : R2 := fun x y H Q => (rI0 (fun i j => .int (i + j)) x y H Q ∨ rAddStr x y H Q) ∨ (rCat x y H Q ∨ rCatA K x y H Q)
theorem op_addA : OpR X (binaryOp .Add) (rAddA X.K) := (op_add.or op_add_str).or (op_cat.or op_catA)
theorem addW_ok (R : Rel c P s σ H) (e : addW u w = some z) (hx : View c P H u x) (hy : View c P H w y) (h : Out c Wx σ P s H Q (.ok (z, s))) : rAddA c.K x y H Q := by
  unfold addW at e
  split at e
  · cases e; rw [hx.int, hy.int]; exact .inl (.inl ⟨_, _, rfl, rfl, outI R h⟩)
  · obtain ⟨g, rfl⟩ := guard'_some e
    rw [hx.str, hy.str]
    refine .inl (.inr ⟨_, _, rfl, rfl, ?_, ?_⟩)
    · rw [mkS_len, mkS_len, lim_eq]; exact of_decide_eq_true g
    · rw [mkS_app]; exact outS R h
  · obtain ⟨g, rfl⟩ := guard'_some e
    obtain ⟨a, vs, rfl, qa, ra⟩ := hx.lst
    obtain ⟨b, us, rfl, qb, rb⟩ := hy.lst
    refine .inr (.inl ⟨a, b, vs, us, rfl, rfl, qa, qb, ?_, h.lst R (ra.app rb)⟩)
    rw [← ra.length, ← rb.length, lim_eq]; exact of_decide_eq_true g
  · rename_i as bs
    obtain ⟨g, rfl⟩ := guard'_some e
    obtain ⟨a, vs, rfl, qa, ra⟩ := hx.tup
    obtain ⟨b, us, rfl, qb, rb⟩ := hy.tup
    refine .inr (.inr ⟨a, b, vs, us, rfl, rfl, qa, qb, ?_, fun e1 => ?_, fun _ e1 => ?_, fun _ _ => h.tup R (ra.app rb)⟩)
    · rw [← ra.length, ← rb.length, lim_eq]; exact of_decide_eq_true g
    · have ea : as = [] := List.eq_nil_of_length_eq_zero (by rw [ra.length, e1]; rfl)
      subst ea
      exact h.flat R (rep_tup qb rb)
    · have eb : bs = [] := List.eq_nil_of_length_eq_zero (by rw [rb.length, e1]; rfl)
      subst eb
      rw [List.append_nil] at h
      exact h.flat R (rep_tup qa ra)
  · cases e
/-! ### - * // % ** -/
theorem subW_ok (R : Rel c P s σ H) (e : subW u w = some z) (hx : View c P H u x) (hy : View c P H w y) (h : Out c Wx σ P s H Q (.ok (z, s))) : rI0 (fun i j => .int (i - j)) x y H Q := by
  unfold subW at e
  split at e
  · cases e; rw [hx.int, hy.int]; exact ⟨_, _, rfl, rfl, outI R h⟩
  · cases e
def rMulA (K : PySem.W.Frag) : R2 := fun x y H Q => rI CMulW (fun i j => .int (i * j)) x y H Q ∨ (rRep x y H Q ∨ rRepT K x y H Q)
theorem op_mulA : OpR X (binaryOp .Mult) (rMulA X.K) := op_mulW.or (op_rep.or op_repT)
theorem reps_rep {T : Tab} {K : PySem.W.Frag} {ws : List W} {vs : List V} (r : Reps T K P H ws vs) : ∀ n : Nat, Reps T K P H (List.replicate n ws).flatten (List.replicate n vs).flatten
  | 0 => Reps.nil
  | n + 1 => by
    rw [List.replicate_succ, List.replicate_succ, List.flatten_cons, List.flatten_cons]
    exact r.app (reps_rep r n)
theorem mulW_ok (R : Rel c P s σ H) (e : mulW u w = some z) (hx : View c P H u x) (hy : View c P H w y) (h : Out c Wx σ P s H Q (.ok (z, s))) : rMulA c.K x y H Q := by
  unfold mulW at e
  split at e
  · obtain ⟨g, rfl⟩ := guard'_some e
    rw [hx.int, hy.int]; exact .inl ⟨_, _, rfl, rfl, (show CMulW _ _ from of_decide_eq_true (p := _ < 1000000) g), outI R h⟩
  · obtain ⟨g, rfl⟩ := guard'_some e
    obtain ⟨a, vs, rfl, qa, ra⟩ := hx.lst
    rw [hy.int]
    unfold repOk at g
    simp only [Bool.and_eq_true, decide_eq_true_eq] at g
    refine .inr (.inl ⟨a, _, vs, rfl, rfl, qa, g.1.1, g.1.2, ?_, h.lst R (reps_rep ra _)⟩)
    rw [← ra.length, lim_eq]; exact g.2
  · rename_i as k'
    obtain ⟨g, rfl⟩ := guard'_some e
    obtain ⟨a, vs, rfl, qa, ra⟩ := hx.tup
    rw [hy.int]
    simp only [Bool.and_eq_true, decide_eq_true_eq, Bool.not_eq_true'] at g
    refine .inr (.inr ⟨a, _, vs, rfl, rfl, qa, fun e1 => ?_, g.1.1.2, g.1.2, by rw [← ra.length]; exact g.2, h.tup R (reps_rep ra _)⟩)
    have ea : as = [] := List.eq_nil_of_length_eq_zero (by rw [ra.length, e1]; rfl)
    rw [ea] at g
    exact absurd g.1.1.1 (by decide)
  · cases e
theorem fdivW_ok (R : Rel c P s σ H) (e : fdivW u w = some z) (hx : View c P H u x) (hy : View c P H w y) (h : Out c Wx σ P s H Q (.ok (z, s))) : rI CDivW (fun i j => .int (i / j)) x y H Q := by
  unfold fdivW at e
  split at e
  · obtain ⟨g, rfl⟩ := guard'_some e
    unfold divOk at g
    simp only [Bool.and_eq_true, decide_eq_true_eq] at g
    rw [hx.int, hy.int]; exact ⟨_, _, rfl, rfl, g, outI R h⟩
  · cases e
theorem modW_ok (R : Rel c P s σ H) (e : modW u w = some z) (hx : View c P H u x) (hy : View c P H w y) (h : Out c Wx σ P s H Q (.ok (z, s))) : rI (fun _ j => 0 < j) (fun i j => .int (i % j)) x y H Q := by
  unfold modW at e
  split at e
  · obtain ⟨g, rfl⟩ := guard'_some e
    rw [hx.int, hy.int]; exact ⟨_, _, rfl, rfl, of_decide_eq_true g, outI R h⟩
  · cases e
theorem powW_ok (R : Rel c P s σ H) (e : powW u w = some z) (hx : View c P H u x) (hy : View c P H w y) (h : Out c Wx σ P s H Q (.ok (z, s))) : rI CPow (fun i j => .int (i ^ j.toNat)) x y H Q := by
  unfold powW at e
  split at e
  · obtain ⟨g, rfl⟩ := guard'_some e
    unfold powOk at g
    simp only [Bool.and_eq_true, decide_eq_true_eq] at g
    rw [hx.int, hy.int]; exact ⟨_, _, rfl, rfl, ⟨g.1.1, g.1.2, g.2⟩, outI R h⟩
  · cases e
/-- a op b -/
def eBin (op : Operator) (fa fb : SE) : SE := bind2 fa fb (onW2 (binW op))
theorem op_false {f : Value → Value → Sem Value} : OpR X f (fun _ _ _ _ => False) := fun _ _ _ _ _ _ _ _ _ _ _ _ h => h.elim
theorem pe_bin_of {op : Operator} {r : R2} {fa fb : SE} {a b : Expr} {pos : Pos} (ho : OpR X (binaryOp op) r) (ha : PE X a (rd c Wx fa)) (hb : PE X b (rd c Wx fb))
    (hk : ∀ {P : Addr → Prop} {s : S} {σ : L2.St} {H : Hp} {Q : VK} {u w : W} {z : R} {x y : V}, Rel c P s σ H → binW op u w = some z → View c P H u x → View c P H w y → Out c Wx σ P s H Q (.ok (z, s)) → r x y H Q) :
    PE X (.BinOp a op b pos) (rd c Wx (eBin op fa fb)) :=
  pe_imp (pe_op ho ha hb) fun σ H Q h => rd_two h fun P s ra rb x y H2 R rx ry h2 =>
    let ⟨u, w, z, e, hx, hy, h3⟩ := Out.onW2 R rx ry h2
    hk R e hx hy h3
theorem pe_bin {op : Operator} {fa fb : SE} {a b : Expr} {pos : Pos} (hK : X.K = c.K) (ha : PE X a (rd c Wx fa)) (hb : PE X b (rd c Wx fb)) : PE X (.BinOp a op b pos) (rd c Wx (eBin op fa fb)) := by
  cases op <;> first
    | exact pe_bin_of op_addA ha hb fun R e hx hy h => by rw [hK]; exact addW_ok R e hx hy h
    | exact pe_bin_of op_sub ha hb fun R e hx hy h => subW_ok R e hx hy h
    | exact pe_bin_of op_mulA ha hb fun R e hx hy h => by rw [hK]; exact mulW_ok R e hx hy h
    | exact pe_bin_of op_fdivW ha hb fun R e hx hy h => fdivW_ok R e hx hy h
    | exact pe_bin_of op_mod ha hb fun R e hx hy h => modW_ok R e hx hy h
    | exact pe_bin_of op_pow ha hb fun R e hx hy h => powW_ok R e hx hy h
    | exact pe_bin_of op_false ha hb fun R e hx hy h => nomatch e
/-! ### names and constants -/
def eVar (i : Nat) : SE := fun s => match s[i]? with
  | some (.fro w) => .ok (.fro w, s)
  | some (.own _ _) => .ok (.bor i, s)
  | _ => .bad
theorem pe_slot {i : Nat} {x : Str} {pos : Pos} (hN : X.N[i]? = some x) (hv : Vis X.env.scope x) (hd : (x == ("__debug__" : Str)) = false) (hcd : (x == ("__classdict__" : Str)) = false) : PE X (.Name x pos) (rd c Wx (eVar i)) := by
  refine pe_imp (pe_var hN hv hd hcd) fun σ H Q h => ?_
  obtain ⟨P, s, R, h⟩ := h
  unfold eVar at h
  cases e : s[i]? with
  | none => rw [e] at h; exact h.elim
  | some sl =>
    rw [e] at h
    cases sl with
    | un => exact h.elim
    | fro w =>
      obtain ⟨v, e2, r⟩ := R.fro i w e
      exact ⟨v, e2, h v P H StE.refl R r⟩
    | own p w =>
      obtain ⟨a, e2, n, q⟩ := R.own i p w e
      exact ⟨.ref a, e2, h _ P H StE.refl R ⟨e2, w, by rw [e]; rfl⟩⟩
def eCst (w : W) : SE := fun s => .ok (.fro w, s)
theorem pe_cst {e : Expr} {w : W} {v : V} (h : PE X e (tC v)) (r : ∀ P H, Rep c.T c.K P H w v) : PE X e (rd c Wx (eCst w)) :=
  pe_imp h fun σ H Q h => by
    obtain ⟨P, s, R, h⟩ := h
    exact h v P H StE.refl R (r P H)
/-! ### by one value -/
def eOne (g : W → Option R) (fa : SE) : SE := bind1 fa (onW g)
def negW : W → Option R
  | .int i => some (.fro (.int (-i)))
  | _ => none
def eNeg (fa : SE) : SE := eOne negW fa
theorem pe_neg {a : Expr} {fa : SE} {pos : Pos} (ha : PE X a (rd c Wx fa)) : PE X (.UnaryOp .USub a pos) (rd c Wx (eNeg fa)) :=
  pe_imp (pe_un un_neg ha) fun σ H Q h => rd_one h fun P s r x H1 R rx h2 => by
    obtain ⟨u, z, e, hx, h3⟩ := Out.onW R rx h2
    unfold negW at e
    split at e
    · cases e; rw [hx.int]; exact ⟨_, rfl, outI R h3⟩
    · cases e
end
end Qs
/-! # Comparisons, tests, and, or, not, if -/
namespace Qs
open PySem PySem.Spec PyProof.Rows L2
section
variable {c : Cst} {Wx : WX} {k : Nat} {X : Cx} {P : Addr → Prop} {s : S} {σ : L2.St} {H : Hp} {Q : VK} {u w : W} {z : R} {x y : V}
def isNon : W → Bool
  | .non => true
  | _ => false
def flatW : W → Bool
  | .non => true
  | .bl _ => true
  | .int _ => true
  | .str _ => true
  | _ => false
def ltW : W → W → Option Bool
  | .int i, .int j => some (decide (i < j))
  | _, _ => none
def leW : W → W → Option Bool
  | .int i, .int j => some (decide (i ≤ j))
  | _, _ => none
/-- u in w -/
def inW : W → W → Option Bool
  | .str [a], .str z => some (decide (a ∈ z))
  | u, .lst ws => guard' (flatW u && ws.all flatW) (ws.any fun y => eqW y u)
  | u, .tup ws => guard' (flatW u && ws.all flatW) (ws.any fun y => eqW y u)
  | _, _ => none
def eqO (u w : W) : Option Bool := guard' (datW 60 u && datW 60 w) (eqW u w)
def isO : W → W → Option Bool
  | u, .non => some (isNon u)
  | _, _ => none
def cmpB : CmpOp → W → W → Option Bool
  | .Eq, u, w => eqO u w
  | .NotEq, u, w => (eqO u w).map (!·)
  | .Lt, u, w => ltW u w
  | .LtE, u, w => leW u w
  | .Gt, u, w => ltW w u
  | .GtE, u, w => leW w u
  | .Is, u, w => isO u w
  | .IsNot, u, w => (isO u w).map (!·)
  | .In, u, w => inW u w
  | .NotIn, u, w => (inW u w).map (!·)
def cmpW (op : CmpOp) (u w : W) : Option R := (cmpB op u w).map fun b => .fro (.bl b)
/-- what a comparison's rule must give -/
def CmpOk (c : Cst) (op : CmpOp) (r : R2) : Prop := ∀ {P : Addr → Prop} {H : Hp} {u w : W} {b : Bool} {x y : V} {Q : VK}, cmpB op u w = some b → View c P H u x → View c P H w y → Q (.bl b) H → r x y H Q
theorem cok_eq : CmpOk c .Eq (rEqD c.K) := fun e hx hy q => by
  obtain ⟨g, rfl⟩ := guard'_some e
  rw [Bool.and_eq_true] at g
  exact ⟨_, _, dp_view g.1 hx, dp_view g.2 hy, shaped_pd g.1, shaped_pd g.2, by rw [eqv_pd 60 60 _ _ g.1 g.2]; exact q⟩
theorem map_not {o : Option Bool} {b : Bool} (e : o.map (!·) = some b) : o = some (!b) := by
  cases o with
  | none => cases e
  | some d => cases e; simp
theorem cok_ne : CmpOk c .NotEq (rNeD c.K) := fun e hx hy q => by
  obtain ⟨g, e2⟩ := guard'_some (map_not e)
  rw [Bool.and_eq_true] at g
  exact ⟨_, _, dp_view g.1 hx, dp_view g.2 hy, shaped_pd g.1, shaped_pd g.2, by rw [eqv_pd 60 60 _ _ g.1 g.2, e2, Bool.not_not]; exact q⟩
theorem cok_lt : CmpOk c .Lt (rI0 fun i j => .bl (decide (i < j))) := fun {P H u w b x y Q} e hx hy q => by
  have e : ltW u w = some b := e
  unfold ltW at e
  split at e
  · cases e; rw [hx.int, hy.int]; exact ⟨_, _, rfl, rfl, q⟩
  · cases e
theorem cok_le : CmpOk c .LtE (rI0 fun i j => .bl (decide (i ≤ j))) := fun {P H u w b x y Q} e hx hy q => by
  have e : leW u w = some b := e
  unfold leW at e
  split at e
  · cases e; rw [hx.int, hy.int]; exact ⟨_, _, rfl, rfl, q⟩
  · cases e
theorem cok_gt : CmpOk c .Gt (rI0 fun i j => .bl (decide (j < i))) := fun {P H u w b x y Q} e hx hy q => by
  have e : ltW w u = some b := e
  unfold ltW at e
  split at e
  · cases e; rw [hx.int, hy.int]; exact ⟨_, _, rfl, rfl, q⟩
  · cases e
theorem cok_ge : CmpOk c .GtE (rI0 fun i j => .bl (decide (j ≤ i))) := fun {P H u w b x y Q} e hx hy q => by
  have e : leW w u = some b := e
  unfold leW at e
  split at e
  · cases e; rw [hx.int, hy.int]; exact ⟨_, _, rfl, rfl, q⟩
  · cases e
theorem view_non (h : View c P H u x) : decide (x = .non) = isNon u := by
  cases u with
  | non => rw [h.non]; rfl
  | bl _ => rw [h.bl]; rfl
  | int _ => rw [h.int]; rfl
  | str _ => rw [h.str]; rfl
  | tup _ => obtain ⟨a, vs, e, _⟩ := h.tup; rw [e]; rfl
  | lst _ => obtain ⟨a, vs, e, _⟩ := h.lst; rw [e]; rfl
  | scr _ => obtain ⟨a, vs, e, _⟩ := h.scr; rw [e]; rfl
  | dic _ _ => obtain ⟨a, vs, e, _⟩ := h; rw [e]; rfl
  | fn _ => unfold View Rep at h; obtain ⟨a, _, e⟩ := h; rw [e]; rfl
  | cl _ => unfold View Rep at h; obtain ⟨a, _, e⟩ := h; rw [e]; rfl
  | ty _ => unfold View Rep at h; rw [h]; rfl
  | ins _ _ => unfold View Rep at h; exact h.elim
def rIsNA : R2 := fun x y H Q => y = .non ∧ Q (.bl (decide (x = .non))) H
def rIsNotA : R2 := fun x y H Q => y = .non ∧ Q (.bl (!decide (x = .non))) H
theorem cok_is : CmpOk c .Is rIsNA := fun {P H u w b x y Q} e hx hy q => by
  have e : isO u w = some b := e
  unfold isO at e
  split at e
  · cases e; exact ⟨hy.non, by rw [view_non hx]; exact q⟩
  · cases e
theorem cok_isnot : CmpOk c .IsNot rIsNotA := fun {P H u w b x y Q} e hx hy q => by
  have e := map_not e
  unfold isO at e
  split at e
  · have e := Option.some.inj e
    exact ⟨hy.non, by rw [view_non hx, e, Bool.not_not]; exact q⟩
  · cases e
theorem flat_view (h : View c P H u x) (f : flatW u = true) : flatV x = true ∧ ∀ w y, View c P H w y → flatW w = true → eqV y x = eqW w u := by
  cases u with
  | non => rw [h.non]; exact ⟨rfl, fun w y hy f2 => by
      cases w <;> first | (cases f2; done) | (rw [hy.non]; rfl) | (rw [hy.bl]; rfl) | (rw [hy.int]; rfl) | (rw [hy.str]; rfl)⟩
  | bl _ => rw [h.bl]; exact ⟨rfl, fun w y hy f2 => by
      cases w <;> first | (cases f2; done) | (rw [hy.non]; rfl) | (rw [hy.bl]; rfl) | (rw [hy.int]; rfl) | (rw [hy.str]; rfl)⟩
  | int _ => rw [h.int]; exact ⟨rfl, fun w y hy f2 => by
      cases w <;> first | (cases f2; done) | (rw [hy.non]; rfl) | (rw [hy.bl]; rfl) | (rw [hy.int]; rfl) | (rw [hy.str]; rfl)⟩
  | str a => rw [h.str]; exact ⟨rfl, fun w y hy f2 => by
      cases w <;> first | (cases f2; done) | (rw [hy.non]; rfl) | (rw [hy.bl]; rfl) | (rw [hy.int]; rfl) | (rw [hy.str]; exact mkS_eq _ _)⟩
  | _ => cases f
theorem flats {ws : List W} {vs : List V} (r : Reps c.T c.K P H ws vs) (f : ws.all flatW = true) (hu : View c P H u x) (fu : flatW u = true) : vs.all flatV = true ∧ inV x vs = ws.any fun y => eqW y u := by
  induction ws generalizing vs with
  | nil => unfold Reps at r; subst r; exact ⟨rfl, rfl⟩
  | cons w ws ih =>
    unfold Reps at r
    obtain ⟨v, r', e, h1, h2⟩ := r
    subst e
    rw [List.all_cons, Bool.and_eq_true] at f
    obtain ⟨i1, i2⟩ := ih h2 f.2
    refine ⟨?_, ?_⟩
    · rw [List.all_cons, (flat_view h1.view f.1).1, i1]; rfl
    · show (eqV v x || inV x r') = (eqW w u || ws.any fun y => eqW y u)
      rw [i2, (flat_view hu fu).2 w v h1.view f.1]
def rInSign : R2 := fun x y H Q => ∃ (c : Nat) (z : Str), x = .str ⟨#[c]⟩ ∧ y = .str z ∧ Q (.bl (decide (c ∈ z.cps.toList))) H
def rNotInSign : R2 := fun x y H Q => ∃ (c : Nat) (z : Str), x = .str ⟨#[c]⟩ ∧ y = .str z ∧ Q (.bl (!decide (c ∈ z.cps.toList))) H
theorem in_cases {b : Bool} {Q : Bool → Prop} (e : inW u w = some b) (hx : View c P H u x) (hy : View c P H w y) (q : Q b) :
    (∃ (a : Nat) (z : Str), x = .str ⟨#[a]⟩ ∧ y = .str z ∧ Q (decide (a ∈ z.cps.toList))) ∨ (∃ p xs, y = .ref p ∧ (SqL c.K H p xs ∨ SqT c.K H p xs) ∧ flatV x = true ∧ xs.all flatV = true ∧ Q (inV x xs)) := by
  unfold inW at e
  split at e
  · cases e
    rw [hx.str, hy.str]
    exact .inl ⟨_, _, rfl, rfl, by simpa using q⟩
  · obtain ⟨g, rfl⟩ := guard'_some e
    rw [Bool.and_eq_true] at g
    obtain ⟨a, vs, rfl, qa, ra⟩ := hy.lst
    obtain ⟨f1, f2⟩ := flats ra g.2 hx g.1
    exact .inr ⟨a, vs, rfl, .inl (.of qa), (flat_view hx g.1).1, f1, by rw [f2]; exact q⟩
  · obtain ⟨g, rfl⟩ := guard'_some e
    rw [Bool.and_eq_true] at g
    obtain ⟨a, vs, rfl, qa, ra⟩ := hy.tup
    obtain ⟨f1, f2⟩ := flats ra g.2 hx g.1
    exact .inr ⟨a, vs, rfl, .inr qa, (flat_view hx g.1).1, f1, by rw [f2]; exact q⟩
  · cases e
theorem cok_in : CmpOk c .In (fun x y H Q => rInSign x y H Q ∨ rIn c.K false x y H Q) := fun {P H u w b x y Q} e hx hy q => by
  rcases in_cases (Q := fun b => Q (.bl b) H) e hx hy q with h | h
  · exact .inl h
  · exact .inr h
theorem cok_notin : CmpOk c .NotIn (fun x y H Q => rNotInSign x y H Q ∨ rIn c.K true x y H Q) := fun {P H u w b x y Q} e hx hy q => by
  rcases in_cases (Q := fun b => Q (.bl (!b)) H) (map_not e) hx hy (by rw [Bool.not_not]; exact q) with h | h
  · exact .inl h
  · exact .inr h
/-- for each comparison a rule that is enough -/
theorem cmp_rule (hK : X.K = c.K) (hu : X.A.units + 64 < cLine) (op : CmpOp) : ∃ r, OpR X (compareOp op) r ∧ CmpOk c op r := by
  cases op with
  | Eq => exact ⟨_, op_eqD hu, by rw [hK]; exact cok_eq⟩
  | NotEq => exact ⟨_, op_neD hu, by rw [hK]; exact cok_ne⟩
  | Lt => exact ⟨_, op_lt, cok_lt⟩
  | LtE => exact ⟨_, op_le, cok_le⟩
  | Gt => exact ⟨_, op_gt, cok_gt⟩
  | GtE => exact ⟨_, op_ge, cok_ge⟩
  | Is => exact ⟨_, op_isN, cok_is⟩
  | IsNot => exact ⟨_, op_notN, cok_isnot⟩
  | In => exact ⟨_, op_in_sign.or op_in_seq, by rw [hK]; exact cok_in⟩
  | NotIn => exact ⟨_, op_notIn_sign.or op_notIn_seq, by rw [hK]; exact cok_notin⟩
def eCmp (op : CmpOp) (fa fb : SE) : SE := bind2 fa fb (onW2 (cmpW op))
theorem cmp_out {op : CmpOp} {r : R2} (hc : CmpOk c op r) {ra rb : R} {H0 H0' : Hp} (R : Rel c P s σ H) (rx : RvR c P s σ H0 H ra x) (ry : RvR c P s σ H0' H rb y) (h : Out c Wx σ P s H Q (onW2 (cmpW op) ra rb s)) : r x y H Q := by
  obtain ⟨u, w, z, e, hx, hy, h3⟩ := Out.onW2 R rx ry h
  unfold cmpW at e
  cases q : cmpB op u w with
  | none => rw [q] at e; cases e
  | some b => rw [q] at e; cases e; exact hc q hx hy (outB R h3)
variable {a b d : Expr} {fa fb fd : SE} {pos : Pos}
theorem pe_cmp' {op : CmpOp} (hK : X.K = c.K) (hu : X.A.units + 64 < cLine) (hm : behindInMarks op b = false) (ha : PE X a (rd c Wx fa)) (hb : PE X b (rd c Wx fb)) : PE X (.Compare a [op] [b] pos) (rd c Wx (eCmp op fa fb)) := by
  obtain ⟨r, h1, h2⟩ := cmp_rule (c := c) hK hu op
  exact pe_imp (pe_cmpR h1 ha hb hm) fun σ H Q h => rd_two h fun P s ra rb x y H2 R rx ry h3 => cmp_out h2 R rx ry h3
/-! ### tests -/
def rdT (c : Cst) (Wx : WX) (f : SE) : TT := fun σ H Q => rd c Wx f σ H fun v H' => ∃ b, v = .bl b ∧ Q b H'
theorem pt_cmp' {op : CmpOp} (hK : X.K = c.K) (hu : X.A.units + 64 < cLine) (hm : behindInMarks op b = false) (ha : PE X a (rd c Wx fa)) (hb : PE X b (rd c Wx fb)) : PT X (.Compare a [op] [b] pos) (rdT c Wx (eCmp op fa fb)) := by
  obtain ⟨r, h1, h2⟩ := cmp_rule (c := c) hK hu op
  exact pt_imp (pt_cmpR h1 ha hb hm) fun σ H Q h => rd_two h fun P s ra rb x y H2 R rx ry h3 => cmp_out h2 R rx ry h3
theorem pt_value {e : Expr} {f : SE} (h : PE X e (rd c Wx f)) (he : ∀ whole, isTrue e X.env whole = (do let v ← whole; standAt e.pos; holding [v] (truthy v))) : PT X e (rdT c Wx f) := pt_val h he
/-- go on where it is true -/
def ifB (r : R) (s : S) (ft fe : S → Res (R × S)) : Res (R × S) := match val s r with
  | some (.bl true) => ft s
  | some (.bl false) => fe s
  | _ => .bad
theorem out_ifB {r : R} {ft fe : S → Res (R × S)} {H0 : Hp} (R : Rel c P s σ H) (rx : RvR c P s σ H0 H r x) (h : Out c Wx σ P s H Q (ifB r s ft fe)) :
    ∃ b, x = .bl b ∧ Out c Wx σ P s H Q (if b = true then ft s else fe s) := by
  unfold ifB at h
  split at h
  · rename_i e; exact ⟨true, (rx.view R e).bl, h⟩
  · rename_i e; exact ⟨false, (rx.view R e).bl, h⟩
  · exact h.elim
def blE (b : Bool) : SE := fun s => .ok (.fro (.bl b), s)
def eAnd (fa fb : SE) : SE := bind1 fa fun r s => ifB r s fb (blE false)
def eOr (fa fb : SE) : SE := bind1 fa fun r s => ifB r s (blE true) fb
def notW : W → Option R
  | .bl b => some (.fro (.bl (!b)))
  | _ => none
def eNot (fa : SE) : SE := eOne notW fa
theorem pe_and' {rest : List Expr} (ha : PE X a (rd c Wx fa)) (hb : PE X (.BoolOp .And (b :: rest) pos) (rd c Wx fb)) : PE X (.BoolOp .And (a :: b :: rest) pos) (rd c Wx (eAnd fa fb)) :=
  pe_imp (L2.pe_and ha hb) fun σ H Q h => rd_one h fun P s r x H1 R rx h2 => by
    obtain ⟨b, e, h3⟩ := out_ifB R rx h2
    refine ⟨b, e, ?_⟩
    cases b with
    | true => exact ⟨P, s, R, h3⟩
    | false => exact outB R h3
theorem pe_or' {rest : List Expr} (ha : PE X a (rd c Wx fa)) (hb : PE X (.BoolOp .Or (b :: rest) pos) (rd c Wx fb)) : PE X (.BoolOp .Or (a :: b :: rest) pos) (rd c Wx (eOr fa fb)) :=
  pe_imp (L2.pe_or ha hb) fun σ H Q h => rd_one h fun P s r x H1 R rx h2 => by
    obtain ⟨b, e, h3⟩ := out_ifB R rx h2
    refine ⟨b, e, ?_⟩
    cases b with
    | true => exact outB R h3
    | false => exact ⟨P, s, R, h3⟩
theorem pe_not' (ha : PE X a (rd c Wx fa)) : PE X (.UnaryOp .Not a pos) (rd c Wx (eNot fa)) :=
  pe_imp (L2.pe_not ha) fun σ H Q h => rd_one h fun P s r x H1 R rx h2 => by
    obtain ⟨u, z, e, hx, h3⟩ := Out.onW R rx h2
    unfold notW at e
    split at e
    · cases e; exact ⟨_, hx.bl, outB R h3⟩
    · cases e
theorem pt_not' (ha : PT X a (rdT c Wx fa)) : PT X (.UnaryOp .Not a pos) (rdT c Wx (eNot fa)) :=
  pt_imp (L2.pt_not ha) fun σ H Q h => rd_one h fun P s r x H1 R rx h2 => by
    obtain ⟨u, z, e, hx, h3⟩ := Out.onW R rx h2
    unfold notW at e
    split at e
    · cases e
      obtain ⟨b, e2, q⟩ := outB R h3
      cases e2
      exact ⟨_, hx.bl, q⟩
    · cases e
theorem pw_one {op : BoolOp} (ha : PT X a (rdT c Wx fa)) : PW X (.BoolOp op [a] pos) (rdT c Wx fa) := by
  cases op with
  | And => exact pw_and1 ha
  | Or => exact pw_or1 ha
theorem pw_and' {rest : List Expr} (ha : PT X a (rdT c Wx fa)) (hb : PW X (.BoolOp .And (b :: rest) pos) (rdT c Wx fb)) : PW X (.BoolOp .And (a :: b :: rest) pos) (rdT c Wx (eAnd fa fb)) :=
  pw_imp (pw_and ha hb) fun σ H Q h => rd_one h fun P s r x H1 R rx h2 => by
    obtain ⟨b, e, h3⟩ := out_ifB R rx h2
    refine ⟨b, e, ?_⟩
    cases b with
    | true => exact ⟨P, s, R, h3⟩
    | false => obtain ⟨b, e, q⟩ := outB R h3; cases e; exact q
theorem pw_or' {rest : List Expr} (ha : PT X a (rdT c Wx fa)) (hb : PW X (.BoolOp .Or (b :: rest) pos) (rdT c Wx fb)) : PW X (.BoolOp .Or (a :: b :: rest) pos) (rdT c Wx (eOr fa fb)) :=
  pw_imp (pw_or ha hb) fun σ H Q h => rd_one h fun P s r x H1 R rx h2 => by
    obtain ⟨b, e, h3⟩ := out_ifB R rx h2
    refine ⟨b, e, ?_⟩
    cases b with
    | true => obtain ⟨b, e, q⟩ := outB R h3; cases e; exact q
    | false => exact ⟨P, s, R, h3⟩
def eIf (ft fa fb : SE) : SE := bind1 ft fun r s => ifB r s fa fb
theorem pe_if (ht : PT X d (rdT c Wx fd)) (ha : PE X a (rd c Wx fa)) (hb : PE X b (rd c Wx fb)) : PE X (.IfExp d a b pos) (rd c Wx (eIf fd fa fb)) :=
  pe_imp (pe_ifExp ht ha hb) fun σ H Q h => rd_one h fun P s r x H1 R rx h2 => by
    obtain ⟨b, e, h3⟩ := out_ifB R rx h2
    refine ⟨b, e, ?_⟩
    cases b with
    | true => exact ⟨P, s, R, h3⟩
    | false => exact ⟨P, s, R, h3⟩
/-! ### a op b op c -/
def eCmp2 (op op' : CmpOp) (fa fb fd : SE) : SE := bind2 fa fb fun ra rb => bind1 (onW2 (cmpW op) ra rb) fun r s => ifB r s (bind1 fd fun rd => onW2 (cmpW op') rb rd) (blE false)
theorem chain_out {op op' : CmpOp} {r r' : R2} (hc : CmpOk c op r) (hc' : CmpOk c op' r') {ra rb : R} {H0 : Hp} (R : Rel c P s σ H) (rx : RvR c P s σ H0 H ra x) (ry : RvR c P s σ H0 H rb y)
    (h : Out c Wx σ P s H Q ((bind1 (onW2 (cmpW op) ra rb) fun r s => ifB r s (bind1 fd fun rd => onW2 (cmpW op') rb rd) (blE false)) s)) :
    r x y H fun z H3 => ∃ k, z = .bl k ∧ (if k = true then rd c Wx fd σ H3 (fun w' H4 => r' y w' H4 Q) else Q (.bl false) H3) := by
  unfold bind1 onW2 at h
  cases e1 : val s ra with
  | none => rw [e1] at h; exact h.elim
  | some u =>
    cases e2 : val s rb with
    | none => rw [e1, e2] at h; exact h.elim
    | some w =>
      rw [e1, e2] at h
      unfold cmpW at h
      cases q : cmpB op u w with
      | none => simp only [q, Option.map_none, ofO_none, Res.bind_bad] at h; exact h.elim
      | some b =>
        simp only [q, Option.map_some, ofO_some, Res.bind_ok] at h
        refine hc q (rx.view R e1) (ry.view R e2) ⟨b, rfl, ?_⟩
        cases b with
        | true =>
          rw [if_pos rfl]
          refine ⟨P, s, R, ?_⟩
          have h : Out c Wx σ P s H Q ((bind1 fd fun rd => onW2 (cmpW op') rb rd) s) := h
          unfold bind1 at h
          cases e3 : fd s with
          | ok p =>
            obtain ⟨r3, s3⟩ := p
            rw [e3] at h
            exact fun v P3 H3 t3 R3 rv => cmp_out hc' R3 (ry.over R t3) rv (Out.at_ h t3 R3)
          | exc x => rw [e3] at h; exact h
          | bad => rw [e3] at h; exact h
        | false =>
          rw [if_neg (by decide)]
          exact outB R h
theorem pe_cmp2 {op op' : CmpOp} (hK : X.K = c.K) (hu : X.A.units + 64 < cLine) (hm : lastMarks [op, op'] [b, d] = false) (ha : PE X a (rd c Wx fa)) (hb : PE X b (rd c Wx fb)) (hd : PE X d (rd c Wx fd)) : PE X (.Compare a [op, op'] [b, d] pos) (rd c Wx (eCmp2 op op' fa fb fd)) := by
  obtain ⟨r, h1, h2⟩ := cmp_rule (c := c) hK hu op
  obtain ⟨r', h1', h2'⟩ := cmp_rule (c := c) hK hu op'
  exact pe_imp (pe_chain h1 h1' ha hb hd hm) fun σ H Q h => rd_two h fun P s ra rb x y H2 R rx ry h3 => chain_out h2 h2' R rx ry h3
theorem pt_cmp2 {op op' : CmpOp} (hK : X.K = c.K) (hu : X.A.units + 64 < cLine) (hm : lastMarks [op, op'] [b, d] = false) (ha : PE X a (rd c Wx fa)) (hb : PE X b (rd c Wx fb)) (hd : PE X d (rd c Wx fd)) : PT X (.Compare a [op, op'] [b, d] pos) (rdT c Wx (eCmp2 op op' fa fb fd)) := by
  obtain ⟨r, h1, h2⟩ := cmp_rule (c := c) hK hu op
  obtain ⟨r', h1', h2'⟩ := cmp_rule (c := c) hK hu op'
  exact pt_imp (pt_chain h1 h1' ha hb hd hm) fun σ H Q h => rd_two h fun P s ra rb x y H2 R rx ry h3 => chain_out h2 h2' R rx ry h3
end
end Qs
/-! # Lists of arguments; displays -/
namespace Qs
open PySem PySem.Spec PyProof.Rows L2
section
variable {c : Cst} {Wx : WX} {k : Nat} {X : Cx} {P P0 P1 : Addr → Prop} {s s' s0 s1 : S} {σ : L2.St} {H H0 H1 : Hp} {Q : VK} {u w : W} {r z : R} {x y v : V}
/-- one more address that never changes -/
theorem frz_add (R : Rel c P s σ H) {a : Addr} (hn : ¬ Own s σ a) (ha : H a ≠ none) : Rel c (fun b => P b ∨ b = a) s σ H ∧ Kp P (fun b => P b ∨ b = a) H H := by
  have kp : Kp P (fun b => P b ∨ b = a) H H := ⟨fun _ h => .inl h, fun _ _ h _ => h⟩
  refine ⟨⟨R.len, fun i w e => ?_, fun i p w e => ?_, R.inj, R.tbs, fun b h => ?_⟩, kp⟩
  · obtain ⟨v, e2, r⟩ := R.fro i w e
    exact ⟨v, e2, Rep.mono kp _ _ r⟩
  · obtain ⟨b, e2, n, r⟩ := R.own i p w e
    refine ⟨b, e2, fun z => ?_, Cell.mono kp r fun o q _ => q⟩
    rcases z with z | z
    · exact n z
    · subst z; exact hn ⟨i, p, w, e, e2⟩
  · rcases h with h | h
    · exact R.dom b h
    · subst h; exact ha
theorem Cell.rep {P : Addr → Prop} {w : W} {a : Addr} (h : Cell c.T c.K P H w a) (k : Kp P P1 H H) (p : P1 a) : Rep c.T c.K P1 H w (.ref a) := by
  cases w with
  | lst ws =>
    obtain ⟨vs, q, r⟩ := h
    unfold Rep
    exact ⟨a, vs, rfl, ⟨p, q⟩, Reps.mono k _ _ r⟩
  | dic ks ws =>
    obtain ⟨vs, h, r⟩ := h
    unfold Rep
    rcases h with ⟨kvs, q, rfl, rfl⟩ | ⟨kvs, q, rfl, rfl⟩
    · exact ⟨a, _, rfl, p, .k (.inl q), Reps.mono k _ _ r⟩
    · exact ⟨a, _, rfl, p, .t (.inl q), Reps.mono k _ _ r⟩
  | _ => exact h.elim
/-- a value for good -/
theorem frz_ok (t : StE P0 s0 σ H0 P s H) (R : Rel c P s σ H) (rv : RvR c P s σ H0 H r v) (e : frz s r = some (w, s')) :
    ∃ P', StE P0 s0 σ H0 P' s' H ∧ Rel c P' s' σ H ∧ Rep c.T c.K P' H w v ∧ Kp P P' H H := by
  cases r with
  | fro w' => cases e; exact ⟨P, t, R, rv, Kp.refl⟩
  | new w' =>
    cases e
    obtain ⟨a, rfl, n, no, hn, q⟩ := rv
    obtain ⟨o, eo, _, _⟩ := Cell.ex q
    obtain ⟨R', kp⟩ := frz_add R no (by rw [eo]; exact fun z => nomatch z)
    refine ⟨_, ⟨⟨t.keep, t.there, fun b h => .inl (t.pin b h), fun b h => ?_, t.own, t.par⟩, t.sl⟩, R', Cell.rep q kp (.inr rfl), kp⟩
    rcases h with h | h
    · exact t.new b h
    · subst h; exact .inr (.inl hn)
  | bor i =>
    obtain ⟨e1, _⟩ := rv
    have e : s[i]?.bind _ = some (w, s') := e
    cases q : s[i]? with
    | none => rw [q] at e; cases e
    | some sl =>
      rw [q] at e
      cases sl with
      | un => cases e
      | fro w' =>
        cases e
        obtain ⟨v', e2, r⟩ := R.fro i w q
        rw [e1] at e2; cases e2
        exact ⟨P, t, R, r, Kp.refl⟩
      | own p w' =>
        cases e
        obtain ⟨a, e2, n, z⟩ := R.own i p w q
        rw [e1] at e2; cases e2
        have hi : i < s.length := (List.getElem?_eq_some_iff.mp q).1
        have kp : Kp P (fun b => P b ∨ b = a) H H := ⟨fun _ h => .inl h, fun _ _ h _ => h⟩
        have fin : Rep c.T c.K (fun b => P b ∨ b = a) H w (.ref a) := Cell.rep z kp (.inr rfl)
        have oth : ∀ (j : Nat) (p' : Bool) (w' : W), (s.set i (.fro w))[j]? = some (.own p' w') → j ≠ i ∧ s[j]? = some (.own p' w') := fun j p' w' e => by
          by_cases h : i = j
          · subst h; rw [List.getElem?_set_self hi] at e; cases e
          · rw [List.getElem?_set_ne h] at e; exact ⟨fun z => h z.symm, e⟩
        have ow : ∀ b, Own (s.set i (.fro w)) σ b → Own s σ b := fun b ⟨j, p', w', e, e3⟩ => ⟨j, p', w', (oth j p' w' e).2, e3⟩
        refine ⟨fun b => P b ∨ b = a, t.trans ⟨⟨fun b o e _ _ => e, fun b h => h, fun b h => .inl h, fun b h => ?_, fun b h => .inl (ow b h), fun j w' e => ⟨⟨w', (oth j true w' e).2⟩, rfl⟩⟩, fun j => ?_⟩, ⟨by rw [List.length_set]; exact R.len, fun j w' e => ?_, fun j p' w' e => ?_, fun j l p' q' u' w' b e3 e4 => R.inj j l p' q' u' w' b (oth _ _ _ e3).2 (oth _ _ _ e4).2, R.tbs, fun b h => ?_⟩, fin, kp⟩
        · rcases h with h | h
          · exact .inl h
          · subst h; exact .inr (.inr ⟨i, p, w, q, e1⟩)
        · by_cases h : i = j
          · subst h; exact .inr ⟨p, w, q, w, .inr (List.getElem?_set_self hi)⟩
          · exact .inl (List.getElem?_set_ne h)
        · by_cases h : i = j
          · subst h
            rw [List.getElem?_set_self hi] at e; cases e
            exact ⟨_, e1, fin⟩
          · rw [List.getElem?_set_ne h] at e
            obtain ⟨v', e3, r⟩ := R.fro j w' e
            exact ⟨v', e3, Rep.mono kp _ _ r⟩
        · obtain ⟨hj, e⟩ := oth j p' w' e
          obtain ⟨b, e3, n', r⟩ := R.own j p' w' e
          refine ⟨b, e3, fun z => ?_, Cell.mono kp r fun o q _ => q⟩
          rcases z with z | z
          · exact n' z
          · subst z; exact hj (R.inj j i p' p w' w _ e q e3 e1)
        · rcases h with h | h
          · exact R.dom b h
          · subst h
            obtain ⟨o, eo, _⟩ := Cell.ex z
            rw [eo]; exact fun z => nomatch z
/-! ### one expression in a row, the start kept -/
theorem rd_sub {f : SE} {kk : Qs.R × S → Res (R × S)} {Z : V → Hp → Prop} (R0 : Rel c P0 s0 σ H0) (t : StE P0 s0 σ H0 P s H) (R : Rel c P s σ H) (h : Out c Wx σ P0 s0 H0 Q ((f s).bind kk))
    (hz : ∀ P1 r s1 v H1, StE P0 s0 σ H0 P1 s1 H1 → StE P s σ H P1 s1 H1 → Rel c P1 s1 σ H1 → RvR c P1 s1 σ H0 H1 r v → Out c Wx σ P0 s0 H0 Q (kk (r, s1)) → Z v H1) : rd c Wx f σ H Z := by
  refine ⟨P, s, R, ?_⟩
  cases e : f s with
  | ok p =>
    obtain ⟨r, s1⟩ := p
    rw [e] at h
    exact fun v P1 H1 t1 R1 rv => hz P1 r s1 v H1 (t.trans t1) t1 R1 (rv.start t) h
  | exc x => rw [e] at h; exact Sxc.of t.toStp R h
  | bad => rw [e] at h; exact h.elim
theorem rd_go {f : SE} (h : rd c Wx f σ H Q) {Z : Prop} (hz : ∀ P s, Rel c P s σ H → Out c Wx σ P s H Q (f s) → Z) : Z := by
  obtain ⟨P, s, R, h⟩ := h
  exact hz P s R h
/-! ### arguments as they are read -/
def bindL : List SE → (List R → SE) → SE
  | [], k => k []
  | f :: fs, k => bind1 f fun r => bindL fs fun rs => k (r :: rs)
def tArgs (c : Cst) (Wx : WX) : List SE → TA
  | [] => tNil
  | f :: fs => tCons (rd c Wx f) (tArgs c Wx fs)
theorem rvs_over {H0 : Hp} (R : Rel c P s σ H) {rs : List Qs.R} {vs : List V} (t : StE P s σ H P1 s1 H1) (h : Paired (fun r v => RvR c P s σ H0 H r v) rs vs) : Paired (fun r v => RvR c P1 s1 σ H0 H1 r v) rs vs := by
  induction h with
  | nil => exact .nil
  | cons h _ ih => exact .cons (h.over R t) ih
theorem args_aux : ∀ (fs : List SE) (kk : List Qs.R → SE) (Z : List V → Hp → Prop) (P : Addr → Prop) (s : S) (H : Hp) (racc : List Qs.R) (xacc : List V), Rel c P0 s0 σ H0 → StE P0 s0 σ H0 P s H → Rel c P s σ H →
    Paired (fun r v => RvR c P s σ H0 H r v) racc xacc → Out c Wx σ P0 s0 H0 Q (bindL fs (fun rs => kk (racc ++ rs)) s) →
    (∀ P s rs xs H1, StE P0 s0 σ H0 P s H1 → Rel c P s σ H1 → Paired (fun r v => RvR c P s σ H0 H1 r v) rs xs → Out c Wx σ P0 s0 H0 Q (kk rs s) → Z xs H1) →
    tArgs c Wx fs σ H (fun xs H1 => Z (xacc ++ xs) H1)
  | [], kk, Z, P, s, H, racc, xacc, R0, t, R, ra, h, hz => by
    have h : Out c Wx σ P0 s0 H0 Q (kk (racc ++ []) s) := h
    show Z (xacc ++ []) H
    rw [List.append_nil] at h ⊢
    exact hz P s racc xacc H t R ra h
  | f :: fs, kk, Z, P, s, H, racc, xacc, R0, t, R, ra, h, hz => by
    refine rd_sub R0 t R h fun P1 r s1 v H1 t1 t1' R1 rv h1 => ?_
    have q := args_aux fs kk Z P1 s1 H1 (racc ++ [r]) (xacc ++ [v]) R0 t1 R1 ((rvs_over R t1' ra).snoc rv) (by simpa using h1) hz
    simpa using q
theorem rd_args {fs : List SE} {kk : List Qs.R → SE} {Z : List V → Hp → Prop} (h : rd c Wx (bindL fs kk) σ H Q)
    (hz : ∀ P0 s0 P s rs xs H1, Rel c P0 s0 σ H → StE P0 s0 σ H P s H1 → Rel c P s σ H1 → Paired (fun r v => RvR c P s σ H H1 r v) rs xs → Out c Wx σ P0 s0 H Q (kk rs s) → Z xs H1) : tArgs c Wx fs σ H Z := by
  obtain ⟨P0, s0, R0, h⟩ := h
  have q := args_aux fs kk Z P0 s0 H [] [] R0 StE.refl R0 .nil (by simpa using h) (fun P s rs xs H1 t R ra h => hz P0 s0 P s rs xs H1 R0 t R ra h)
  simpa using q
/-- the values as they stand -/
def vals (s : S) : List R → Option (List W)
  | [] => some []
  | r :: rs => (val s r).bind fun w => (vals s rs).map (w :: ·)
def onWs (g : List W → Option R) (rs : List R) : SE := fun s => match vals s rs with
  | some ws => (ofO (g ws)).bind fun z => .ok (z, s)
  | none => .bad
theorem vals_view (R : Rel c P s σ H) : ∀ {rs : List Qs.R} {xs : List V} {ws : List W}, Paired (fun r v => RvR c P s σ H0 H r v) rs xs → vals s rs = some ws → Paired (fun w v => View c P H w v) ws xs
  | _, _, _, .nil, e => by cases e; exact .nil
  | r :: rs, x :: xs, ws, .cons h t, e => by
    unfold vals at e
    cases q : val s r with
    | none => rw [q] at e; cases e
    | some w =>
      rw [q] at e
      cases q2 : vals s rs with
      | none => rw [q2] at e; cases e
      | some us => rw [q2] at e; cases e; exact .cons (h.view R q) (vals_view R t q2)
theorem Out.onWs {g : List W → Option R} {rs : List Qs.R} {xs : List V} (R0 : Rel c P0 s0 σ H0) (t : StE P0 s0 σ H0 P s H) (R : Rel c P s σ H) (ra : Paired (fun r v => RvR c P s σ H0 H r v) rs xs) (h : Out c Wx σ P0 s0 H0 Q (Qs.onWs g rs s)) :
    ∃ ws z, g ws = some z ∧ Paired (fun w v => View c P H w v) ws xs ∧ Out c Wx σ P s H Q (.ok (z, s)) := by
  unfold Qs.onWs at h
  cases e : vals s rs with
  | none => rw [e] at h; exact h.elim
  | some ws =>
    rw [e] at h
    cases q : g ws with
    | none => simp only [q, ofO_none, Res.bind_bad] at h; exact h.elim
    | some z => simp only [q, ofO_some, Res.bind_ok] at h; exact ⟨ws, z, q, vals_view R ra e, Out.at_ h t R⟩
/-! ### items for good, with stars -/
def itemsOf : W → Option (List W)
  | .lst ws => some ws
  | .tup ws => some ws
  | _ => none
def bindI {β : Type} : List (Bool × SE) → (List W → S → Res β) → S → Res β
  | [], k => k []
  | (false, f) :: fs, k => fun s => (f s).bind fun p => (ofO (frz p.2 p.1)).bind fun q => bindI fs (fun ws => k (q.1 :: ws)) q.2
  | (true, f) :: fs, k => fun s => (f s).bind fun p => (ofO ((val p.2 p.1).bind itemsOf)).bind fun us => bindI fs (fun ws => k (us ++ ws)) p.2
def tItems (c : Cst) (Wx : WX) : List (Bool × SE) → TA
  | [] => tNil
  | (false, f) :: fs => tCons (rd c Wx f) (tItems c Wx fs)
  | (true, f) :: fs => StX.tStar c.K (rd c Wx f) (tItems c Wx fs)
/-- what a result's tail must tell of exceptions -/
structure Tail (c : Cst) (Wx : WX) (σ : L2.St) (P0 : Addr → Prop) (s0 : S) (H0 : Hp) {β : Type} (OT : Res β → Prop) : Prop where
  exc : ∀ x, OT (.exc x) → PostX c Wx P0 s0 σ H0 x
  bad : OT .bad → False
theorem Tail.out : Tail c Wx σ P0 s0 H0 (Out c Wx σ P0 s0 H0 Q) := ⟨fun _ h => h, fun h => h⟩
theorem rd_subT {β : Type} {OT : Res β → Prop} {f : SE} {kk : Qs.R × S → Res β} {Z : V → Hp → Prop} (hT : Tail c Wx σ P0 s0 H0 OT) (t : StE P0 s0 σ H0 P s H) (R : Rel c P s σ H) (h : OT ((f s).bind kk))
    (hz : ∀ P1 r s1 v H1, StE P0 s0 σ H0 P1 s1 H1 → StE P s σ H P1 s1 H1 → Rel c P1 s1 σ H1 → RvR c P1 s1 σ H0 H1 r v → OT (kk (r, s1)) → Z v H1) : rd c Wx f σ H Z := by
  refine ⟨P, s, R, ?_⟩
  cases e : f s with
  | ok p =>
    obtain ⟨r, s1⟩ := p
    rw [e] at h
    exact fun v P1 H1 t1 R1 rv => hz P1 r s1 v H1 (t.trans t1) t1 R1 (rv.start t) h
  | exc x => rw [e] at h; exact Sxc.of t.toStp R (hT.exc x h)
  | bad => rw [e] at h; exact (hT.bad h).elim
theorem items_auxT {β : Type} {OT : Res β → Prop} (hT : Tail c Wx σ P0 s0 H0 OT) : ∀ (fs : List (Bool × SE)) (kk : List W → S → Res β) (Z : List V → Hp → Prop) (P : Addr → Prop) (s : S) (H : Hp) (wacc : List W) (xacc : List V), Rel c P0 s0 σ H0 → StE P0 s0 σ H0 P s H → Rel c P s σ H →
    Reps c.T c.K P H wacc xacc → OT (bindI fs (fun ws => kk (wacc ++ ws)) s) →
    (∀ P s ws xs H1, StE P0 s0 σ H0 P s H1 → Rel c P s σ H1 → Reps c.T c.K P H1 ws xs → OT (kk ws s) → Z xs H1) →
    tItems c Wx fs σ H (fun xs H1 => Z (xacc ++ xs) H1)
  | [], kk, Z, P, s, H, wacc, xacc, R0, t, R, ra, h, hz => by
    have h : OT (kk (wacc ++ []) s) := h
    show Z (xacc ++ []) H
    rw [List.append_nil] at h ⊢
    exact hz P s wacc xacc H t R ra h
  | (false, f) :: fs, kk, Z, P, s, H, wacc, xacc, R0, t, R, ra, h, hz => by
    refine rd_subT hT t R h fun P1 r s1 v H1 t1 t1' R1 rv h1 => ?_
    dsimp only at h1
    cases e : frz s1 r with
    | none => rw [e] at h1; exact (hT.bad h1).elim
    | some q =>
      obtain ⟨w, s2⟩ := q
      rw [e] at h1
      obtain ⟨P2, t2, R2, rw2, kp⟩ := frz_ok t1 R1 rv e
      have ra2 : Reps c.T c.K P2 H1 wacc xacc := Reps.mono kp _ _ (Reps.mono (Stp.kp R t1'.toStp) _ _ ra)
      have q := items_auxT hT fs kk Z P2 s2 H1 (wacc ++ [w]) (xacc ++ [v]) R0 t2 R2 (ra2.app (Reps.cons rw2 Reps.nil)) (by simpa using h1) hz
      simpa using q
  | (true, f) :: fs, kk, Z, P, s, H, wacc, xacc, R0, t, R, ra, h, hz => by
    refine rd_subT hT t R h fun P1 r s1 v H1 t1 t1' R1 rv h1 => ?_
    dsimp only at h1
    cases e : val s1 r with
    | none => rw [e] at h1; exact (hT.bad h1).elim
    | some w =>
      rw [e] at h1
      cases e2 : itemsOf w with
      | none => simp only [Option.bind_some, e2, ofO_none, Res.bind_bad] at h1; exact (hT.bad h1).elim
      | some us =>
        simp only [Option.bind_some, e2, ofO_some, Res.bind_ok] at h1
        have vw := rv.view R1 e
        have ra2 : Reps c.T c.K P1 H1 wacc xacc := Reps.mono (Stp.kp R t1'.toStp) _ _ ra
        unfold itemsOf at e2
        split at e2
        · cases e2
          obtain ⟨a, vs, rfl, qa, rb⟩ := vw.lst
          refine ⟨a, vs, rfl, .inr (.of qa), ?_⟩
          have q := items_auxT hT fs kk Z P1 s1 H1 (wacc ++ us) (xacc ++ vs) R0 t1 R1 (ra2.app rb) (by simpa using h1) hz
          simpa using q
        · cases e2
          obtain ⟨a, vs, rfl, qa, rb⟩ := vw.tup
          refine ⟨a, vs, rfl, .inl qa, ?_⟩
          have q := items_auxT hT fs kk Z P1 s1 H1 (wacc ++ us) (xacc ++ vs) R0 t1 R1 (ra2.app rb) (by simpa using h1) hz
          simpa using q
        · cases e2
theorem rd_items {fs : List (Bool × SE)} {kk : List W → SE} {Z : List V → Hp → Prop} (h : rd c Wx (bindI fs kk) σ H Q)
    (hz : ∀ P0 s0 P s ws xs H1, Rel c P0 s0 σ H → StE P0 s0 σ H P s H1 → Rel c P s σ H1 → Reps c.T c.K P H1 ws xs → Out c Wx σ P0 s0 H Q (kk ws s) → Z xs H1) : tItems c Wx fs σ H Z := by
  obtain ⟨P0, s0, R0, h⟩ := h
  have q := items_auxT Tail.out fs kk Z P0 s0 H [] [] R0 StE.refl R0 Reps.nil (by simpa using h) (fun P s ws xs H1 t R ra h => hz P0 s0 P s ws xs H1 R0 t R ra h)
  simpa using q
/-! ### displays -/
def tupE (ws : List W) : SE := fun s => chk (decide (ws.length ≤ lim)) (.ok (.fro (.tup ws), s))
def lstE (ws : List W) : SE := fun s => chk (decide (ws.length ≤ lim)) (.ok (.new (.lst ws), s))
theorem out_chk {b : Bool} {res : Res (R × S)} (h : Out c Wx σ P s H Q (chk b res)) : b = true ∧ Out c Wx σ P s H Q res := by
  unfold chk at h
  split at h
  · rename_i q; exact ⟨q, h⟩
  · exact h.elim
def eTup (fs : List (Bool × SE)) : SE := bindI fs tupE
def eLst (fs : List (Bool × SE)) : SE := bindI fs lstE
theorem pe_tuple {es : List Expr} {n : Nat} {pos : Pos} {fs : List (Bool × SE)} (ha : PA X es (tItems c Wx fs)) : PE X (.Tuple es n pos) (rd c Wx (eTup fs)) :=
  pe_imp (pe_tup ha) fun σ H Q h => rd_items h fun P0 s0 P s ws xs H1 R0 t R ra h => by
    obtain ⟨g, h⟩ := out_chk h
    refine ⟨by rw [← ra.length, lim_eq]; exact of_decide_eq_true g, (Out.at_ h t R).tup R ra⟩
theorem pe_list {es : List Expr} {pos : Pos} {fs : List (Bool × SE)} (ha : PA X es (tItems c Wx fs)) : PE X (.List es pos) (rd c Wx (eLst fs)) :=
  pe_imp (pe_lst ha) fun σ H Q h => rd_items h fun P0 s0 P s ws xs H1 R0 t R ra h => by
    obtain ⟨g, h⟩ := out_chk h
    refine ⟨by rw [← ra.length, lim_eq]; exact of_decide_eq_true g, (Out.at_ h t R).lst R ra⟩
/-! ### built-in functions by values -/
def eFn (g : List W → Option R) (fs : List SE) : SE := bindL fs (onWs g)
/-- what a built-in's rule must give -/
def FnOkW (c : Cst) (Wx : WX) (g : List W → Option R) (r : List V → Hp → VK → Prop) : Prop :=
  ∀ {P : Addr → Prop} {s : S} {σ : L2.St} {H : Hp} {Q : VK} {ws : List W} {z : R} {xs : List V}, Rel c P s σ H → g ws = some z → Paired (fun w v => View c P H w v) ws xs → Out c Wx σ P s H Q (.ok (z, s)) → r xs H Q
theorem pe_fn_of {f : TE → Prop} {g : List W → Option R} {r : List V → Hp → VK → Prop} {fs : List SE} {e : Expr} (hr : FnOkW c Wx g r) (h : PE X e (tCB r (tArgs c Wx fs))) : PE X e (rd c Wx (eFn g fs)) :=
  pe_imp h fun σ H Q h => rd_args h fun P0 s0 P s rs xs H1 R0 t R ra h => by
    obtain ⟨ws, z, e, hx, h3⟩ := Out.onWs R0 t R ra h
    exact hr R e hx h3
end
end Qs
/-! # Subscripts, slices; len, abs, min, max, int, tuple, list, sum, all, any -/
namespace Qs
open PySem PySem.Spec PyProof.Rows L2
section
variable {c : Cst} {Wx : WX} {k : Nat} {X : Cx} {P P0 P1 : Addr → Prop} {s s' s0 s1 : S} {σ : L2.St} {H H0 H1 : Hp} {Q : VK} {u w : W} {r z : R} {x y v : V} {a b : Expr} {fa fb : SE} {pos p2 : Pos}
theorem one_of {α β : Type} {F : α → β → Prop} {a : α} {xs : List β} (h : Paired F [a] xs) : ∃ x, xs = [x] ∧ F a x := by
  cases h with
  | cons h t => cases t; exact ⟨_, rfl, h⟩
theorem two_of {α β : Type} {F : α → β → Prop} {a b : α} {xs : List β} (h : Paired F [a, b] xs) : ∃ x y, xs = [x, y] ∧ F a x ∧ F b y := by
  cases h with
  | cons h t =>
    cases t with
    | cons h2 t => cases t; exact ⟨_, _, rfl, h, h2⟩
/-! ### o[i] -/
def ixW : W → W → Option R
  | .lst ws, .int i => (atI ws i).map .fro
  | .tup ws, .int i => (atI ws i).map .fro
  | .scr ws, .int i => (atI ws i).map .fro
  | .str l, .int i => if l.length ≤ lim then (atI l i).map fun d => .fro (.str [d]) else none
  | _, _ => none
def eIx (fa fb : SE) : SE := bind2 fa fb (onW2 ixW)
theorem reps_at {T : Tab} {K : PySem.W.Frag} {ws : List W} {vs : List V} {i : Int} (r : Reps T K P H ws vs) (e : atI ws i = some w) : ∃ v, atI vs i = some v ∧ Rep T K P H w v := by
  unfold atI at e ⊢
  rw [← r.length]
  cases q : ixN ws.length i with
  | none => rw [q] at e; cases e
  | some j =>
    rw [q] at e
    exact r.get e
theorem pe_sub (hK : X.K = c.K) (hs : PlainIx b) (ha : PE X a (rd c Wx fa)) (hb : PE X b (rd c Wx fb)) : PE X (.Subscript a b pos) (rd c Wx (eIx fa fb)) :=
  pe_imp (pe_ix ix_seq ha hb hs) fun σ H Q h => rd_two h fun P s ra rb x y H2 R rx ry h2 => by
    obtain ⟨u, w, z, e, hx, hy, h3⟩ := Out.onW2 R rx ry h2
    unfold ixW at e
    split at e
    · rename_i ws i
      cases q : atI ws i with
      | none => rw [q] at e; cases e
      | some t =>
        rw [q] at e; cases e
        obtain ⟨p, vs, rfl, qa, rr⟩ := hx.lst
        obtain ⟨v, e1, rv⟩ := reps_at rr q
        exact .inl ⟨p, vs, i, v, rfl, hy.int, .of qa, e1, h3.flat R rv⟩
    · rename_i ws i
      cases q : atI ws i with
      | none => rw [q] at e; cases e
      | some t =>
        rw [q] at e; cases e
        obtain ⟨p, vs, rfl, qa, rr⟩ := hx.tup
        obtain ⟨v, e1, rv⟩ := reps_at rr q
        exact .inr (.inl ⟨p, vs, i, v, rfl, hy.int, by rw [hK]; exact qa, e1, h3.flat R rv⟩)
    · rename_i ws i
      cases q : atI ws i with
      | none => rw [q] at e; cases e
      | some t =>
        rw [q] at e; cases e
        obtain ⟨p, vs, rfl, qa, rr⟩ := hx.scr
        obtain ⟨v, e1, rv⟩ := reps_at rr q
        exact .inl ⟨p, vs, i, v, rfl, hy.int, by rw [hK]; exact qa.sq, e1, h3.flat R rv⟩
    · rename_i l i
      split at e
      · rename_i g
        cases q : atI l i with
        | none => rw [q] at e; cases e
        | some t =>
          rw [q] at e; cases e
          exact .inr (.inr ⟨mkS l, i, t, hx.str, hy.int, by rw [mkS_len, lim_eq]; exact g, by simpa using q, outS R h3⟩)
      · cases e
    · cases e
/-! ### o[lo:hi] -/
/-- a part of a slice -/
def oInt : W → Option (Option Int)
  | .int i => some (some i)
  | .non => some none
  | _ => none
def cutG {α : Type} (xs : List α) (lo hi : Option Int) : List α := (xs.drop (HT.sIx xs.length 0 lo)).take (HT.sIx xs.length xs.length hi - HT.sIx xs.length 0 lo)
def sliceW (lo hi : Option Int) : W → Option R
  | .lst ws => some (.new (.lst (cutG ws lo hi)))
  | .tup ws => some (.fro (.tup (cutG ws lo hi)))
  | .str l => if l.length ≤ lim then some (.fro (.str (cutG l lo hi))) else none
  | _ => none
/-- a part as an expression or none -/
def bindP : Option SE → (Option Int → SE) → SE
  | none, k => k none
  | some f, k => bind1 f fun r s => match val s r with
    | some (.int i) => k (some i) s
    | _ => .bad
def eSl (fa : SE) (lo hi : Option SE) : SE := bind1 fa fun r => bindP lo fun l => bindP hi fun h => onW (sliceW l h) r
def tP (c : Cst) (Wx : WX) : Option SE → TO
  | none => tNoPart
  | some f => tPart (rd c Wx f)
theorem reps_cut {T : Tab} {K : PySem.W.Frag} {ws : List W} {vs : List V} {lo hi : Option Int} (r : Reps T K P H ws vs) : Reps T K P H (cutG ws lo hi) (cutV vs lo hi) := by
  unfold cutG cutV
  rw [r.length]
  exact (r.drop _).take _
theorem rd_part {f : Option SE} {kk : Option Int → SE} {Z : Option Int → Hp → Prop} (R : Rel c P s σ H) (h : Out c Wx σ P s H Q (bindP f kk s))
    (hz : ∀ P1 s1 o H1, StE P s σ H P1 s1 H1 → Rel c P1 s1 σ H1 → Out c Wx σ P s H Q (kk o s1) → Z o H1) : tP c Wx f σ H Z := by
  cases f with
  | none => exact hz P s none H StE.refl R h
  | some f =>
    refine rd_sub R StE.refl R h fun P1 r s1 v H1 t1 _ R1 rv h1 => ?_
    dsimp only at h1
    split at h1
    · rename_i i e
      exact ⟨i, (rv.view R1 e).int, hz P1 s1 _ H1 t1 R1 h1⟩
    · exact h1.elim
theorem pe_sl {lo hi : Option Expr} {fl fh : Option SE} (hK : X.K = c.K) (ha : PE X a (rd c Wx fa)) (hl : PO X lo (tP c Wx fl)) (hh : PO X hi (tP c Wx fh)) : PE X (.Subscript a (.Slice lo hi none p2) pos) (rd c Wx (eSl fa fl fh)) :=
  pe_imp (pe_slice ((sl_list.or sl_tupA).or sl_str) ha hl hh) fun σ H Q ⟨P0, s0, R0, h⟩ => by
    refine rd_sub R0 StE.refl R0 h fun P1 r s1 x H1 t1 _ R1 rv h1 => ?_
    refine rd_part R1 (Out.at_ h1 t1 R1) fun P2 s2 l H2 t2 R2 h2 => ?_
    have h2 := Out.at_ h2 t2 R2
    refine rd_part R2 h2 fun P3 s3 hh H3 t3 R3 h3 => ?_
    have h3 := Out.at_ h3 t3 R3
    obtain ⟨u, z, e, hx, h4⟩ := Out.onW R3 ((rv.over R1 t2).over R2 t3) h3
    unfold sliceW at e
    split at e
    · cases e
      obtain ⟨p, vs, rfl, qa, rr⟩ := hx.lst
      exact .inl (.inl ⟨p, vs, rfl, .of qa, h4.lst R3 (reps_cut rr)⟩)
    · rename_i ws
      cases e
      obtain ⟨p, vs, rfl, qa, rr⟩ := hx.tup
      refine .inl (.inr ⟨p, vs, rfl, by rw [hK]; exact qa, fun ⟨e1, e2⟩ => ?_, fun _ => h4.tup R3 (reps_cut rr)⟩)
      have ew : cutG ws l hh = ws := by
        unfold cutG
        rw [rr.length, e1, e2]
        simp only [List.drop_zero, Nat.sub_zero]
        exact List.take_of_length_le (Nat.le_of_eq rr.length)
      rw [ew] at h4
      exact h4.flat R3 (rep_tup qa rr)
    · rename_i l'
      split at e
      · rename_i g
        cases e
        refine .inr ⟨mkS l', hx.str, by rw [mkS_len, lim_eq]; exact g, ?_⟩
        have q := outS R3 h4
        have e1 : mkS (cutG l' l hh) = cutS (mkS l') l hh := by
          unfold cutS cutG mkS
          simp [Str.length]
        rw [e1] at q
        exact q
      · cases e
    · cases e
/-! ### built-in functions -/
def lenW : List W → Option R
  | [.lst ws] => some (.fro (.int ws.length))
  | [.tup ws] => some (.fro (.int ws.length))
  | [.scr ws] => some (.fro (.int ws.length))
  | [.str l] => if l.length ≤ lim then some (.fro (.int l.length)) else none
  | _ => none
theorem fn_len : FnOkW c Wx lenW (fun xs H Q => ∃ x n, xs = [x] ∧ LenV c.K x H n ∧ Q (.int n) H) := fun {P s σ H Q ws z xs} R e hx h => by
  unfold lenW at e
  split at e
  · cases e
    obtain ⟨_, rfl, h1⟩ := one_of hx
    obtain ⟨p, vs, rfl, qa, rr⟩ := h1.lst
    exact ⟨_, vs.length, rfl, .inl ⟨vs, .of qa, rfl⟩, by rw [← rr.length]; exact outI R h⟩
  · cases e
    obtain ⟨_, rfl, h1⟩ := one_of hx
    obtain ⟨p, vs, rfl, qa, rr⟩ := h1.tup
    exact ⟨_, vs.length, rfl, .inr ⟨vs, qa, rfl⟩, by rw [← rr.length]; exact outI R h⟩
  · cases e
    obtain ⟨_, rfl, h1⟩ := one_of hx
    obtain ⟨p, vs, rfl, qa, rr⟩ := h1.scr
    exact ⟨_, vs.length, rfl, .inl ⟨vs, qa.sq, rfl⟩, by rw [← rr.length]; exact outI R h⟩
  · split at e
    · rename_i g
      cases e
      obtain ⟨_, rfl, h1⟩ := one_of hx
      refine ⟨_, _, rfl, ?_, outI R h⟩
      rw [h1.str]
      exact ⟨by rw [mkS_len, lim_eq]; exact g, (mkS_len _).symm⟩
    · cases e
  · cases e
def absW : List W → Option R
  | [.int i] => some (.fro (.int (if i < 0 then -i else i)))
  | _ => none
theorem fn_abs : FnOkW c Wx absW (fun xs H Q => ∃ i, xs = [.int i] ∧ Q (.int (if i < 0 then -i else i)) H) := fun {P s σ H Q ws z xs} R e hx h => by
  unfold absW at e
  split at e
  · cases e
    obtain ⟨_, rfl, h1⟩ := one_of hx
    rw [h1.int]
    exact ⟨_, rfl, outI R h⟩
  · cases e
def max2W : List W → Option R
  | [.int i, .int j] => some (.fro (.int (if j > i then j else i)))
  | _ => none
theorem fn_max2 : FnOkW c Wx max2W (fun xs H Q => ∃ i j, xs = [.int i, .int j] ∧ Q (.int (if j > i then j else i)) H) := fun {P s σ H Q ws z xs} R e hx h => by
  unfold max2W at e
  split at e
  · cases e
    obtain ⟨_, _, rfl, h1, h2⟩ := two_of hx
    rw [h1.int, h2.int]
    exact ⟨_, _, rfl, outI R h⟩
  · cases e
def min2W : List W → Option R
  | [.int i, .int j] => some (.fro (.int (if j < i then j else i)))
  | _ => none
theorem fn_min2 : FnOkW c Wx min2W (fun xs H Q => ∃ i j, xs = [.int i, .int j] ∧ Q (.int (if j < i then j else i)) H) := fun {P s σ H Q ws z xs} R e hx h => by
  unfold min2W at e
  split at e
  · cases e
    obtain ⟨_, _, rfl, h1, h2⟩ := two_of hx
    rw [h1.int, h2.int]
    exact ⟨_, _, rfl, outI R h⟩
  · cases e
def intW : List W → Option R
  | [.int i] => some (.fro (.int i))
  | [.bl b] => some (.fro (.int (if b then 1 else 0)))
  | _ => none
theorem fn_int : FnOkW c Wx intW (fun xs H Q => (∃ i, xs = [.int i] ∧ Q (.int i) H) ∨ ∃ k, xs = [.bl k] ∧ Q (.int (if k then 1 else 0)) H) := fun {P s σ H Q ws z xs} R e hx h => by
  unfold intW at e
  split at e
  · cases e
    obtain ⟨_, rfl, h1⟩ := one_of hx
    rw [h1.int]
    exact .inl ⟨_, rfl, outI R h⟩
  · cases e
    obtain ⟨_, rfl, h1⟩ := one_of hx
    rw [h1.bl]
    exact .inr ⟨_, rfl, outI R h⟩
  · cases e
def tupW : List W → Option R
  | [.lst ws] => some (.fro (.tup ws))
  | [.tup ws] => some (.fro (.tup ws))
  | _ => none
theorem fn_tup : FnOkW c Wx tupW (fun xs H Q => ∃ p ys, xs = [.ref p] ∧ ((SqL c.K H p ys ∧ ∀ l, H l = none → Q (.ref l) (upd H l (.tup ys))) ∨ (SqT c.K H p ys ∧ Q (.ref p) H))) := fun {P s σ H Q ws z xs} R e hx h => by
  unfold tupW at e
  split at e
  · cases e
    obtain ⟨_, rfl, h1⟩ := one_of hx
    obtain ⟨p, vs, rfl, qa, rr⟩ := h1.lst
    exact ⟨p, vs, rfl, .inl ⟨.of qa, h.tup R rr⟩⟩
  · cases e
    obtain ⟨_, rfl, h1⟩ := one_of hx
    obtain ⟨p, vs, rfl, qa, rr⟩ := h1.tup
    exact ⟨p, vs, rfl, .inr ⟨qa, h.flat R (rep_tup qa rr)⟩⟩
  · cases e
def listW : List W → Option R
  | [.lst ws] => some (.new (.lst ws))
  | [.tup ws] => some (.new (.lst ws))
  | _ => none
theorem fn_list : FnOkW c Wx listW (fun xs H Q => ∃ p ys, xs = [.ref p] ∧ (SqL c.K H p ys ∨ SqT c.K H p ys) ∧ ∀ l, H l = none → Q (.ref l) (upd H l (.lst ys))) := fun {P s σ H Q ws z xs} R e hx h => by
  unfold listW at e
  split at e
  · cases e
    obtain ⟨_, rfl, h1⟩ := one_of hx
    obtain ⟨p, vs, rfl, qa, rr⟩ := h1.lst
    exact ⟨p, vs, rfl, .inl (.of qa), h.lst R rr⟩
  · cases e
    obtain ⟨_, rfl, h1⟩ := one_of hx
    obtain ⟨p, vs, rfl, qa, rr⟩ := h1.tup
    exact ⟨p, vs, rfl, .inr qa, h.lst R rr⟩
  · cases e
/-- the ints of a list -/
def intsOf : List W → Option (List Int)
  | [] => some []
  | .int i :: ws => (intsOf ws).map (i :: ·)
  | _ => none
def boolsOf : List W → Option (List Bool)
  | [] => some []
  | .bl i :: ws => (boolsOf ws).map (i :: ·)
  | _ => none
theorem reps_ints {T : Tab} {K : PySem.W.Frag} : ∀ {ws : List W} {vs : List V} {ns : List Int}, Reps T K P H ws vs → intsOf ws = some ns → vs = ns.map V.int
  | [], _, _, r, e => by cases e; unfold Reps at r; exact r
  | .int i :: ws, vs, ns, r, e => by
    unfold intsOf at e
    cases q : intsOf ws with
    | none => rw [q] at e; cases e
    | some ms =>
      rw [q] at e; cases e
      unfold Reps at r
      obtain ⟨v, r', e1, h1, h2⟩ := r
      subst e1
      unfold Rep at h1
      rw [h1, reps_ints h2 q]; rfl
  | .non :: _, _, _, _, e => by cases e
  | .bl _ :: _, _, _, _, e => by cases e
  | .str _ :: _, _, _, _, e => by cases e
  | .tup _ :: _, _, _, _, e => by cases e
  | .lst _ :: _, _, _, _, e => by cases e
  | .dic _ _ :: _, _, _, _, e => by cases e
  | .fn _ :: _, _, _, _, e => by cases e
  | .cl _ :: _, _, _, _, e => by cases e
  | .ty _ :: _, _, _, _, e => by cases e
  | .ins _ _ :: _, _, _, _, e => by cases e
  | .scr _ :: _, _, _, _, e => by cases e
theorem reps_bools {T : Tab} {K : PySem.W.Frag} : ∀ {ws : List W} {vs : List V} {ns : List Bool}, Reps T K P H ws vs → boolsOf ws = some ns → vs = ns.map V.bl
  | [], _, _, r, e => by cases e; unfold Reps at r; exact r
  | .bl i :: ws, vs, ns, r, e => by
    unfold boolsOf at e
    cases q : boolsOf ws with
    | none => rw [q] at e; cases e
    | some ms =>
      rw [q] at e; cases e
      unfold Reps at r
      obtain ⟨v, r', e1, h1, h2⟩ := r
      subst e1
      unfold Rep at h1
      rw [h1, reps_bools h2 q]; rfl
  | .non :: _, _, _, _, e => by cases e
  | .int _ :: _, _, _, _, e => by cases e
  | .str _ :: _, _, _, _, e => by cases e
  | .tup _ :: _, _, _, _, e => by cases e
  | .lst _ :: _, _, _, _, e => by cases e
  | .dic _ _ :: _, _, _, _, e => by cases e
  | .fn _ :: _, _, _, _, e => by cases e
  | .cl _ :: _, _, _, _, e => by cases e
  | .ty _ :: _, _, _, _, e => by cases e
  | .ins _ _ :: _, _, _, _, e => by cases e
  | .scr _ :: _, _, _, _, e => by cases e
def sumW : List W → Option R
  | [.lst ws] => (intsOf ws).map fun ns => .fro (.int ns.sum)
  | [.tup ws] => (intsOf ws).map fun ns => .fro (.int ns.sum)
  | _ => none
def rSumA (K : PySem.W.Frag) : List V → Hp → VK → Prop := fun vs H Q => ∃ (a : Addr) (ns : List Int), vs = [V.ref a] ∧ (SqL K H a (ns.map V.int) ∨ SqT K H a (ns.map V.int)) ∧ Q (.int ns.sum) H
theorem cr_sumA (hc : X.calm = true) : CallR X (.builtin "sum") (rSumA X.K) := by
  intro pins s σ H vs us Q I r h
  obtain ⟨a, ns, rfl, hs, q⟩ := h
  rcases hs with hs | hs
  · obtain ⟨its, rv, hl, _⟩ := I.list hs
    rw [Vals.ref1 r]
    exact sum_raw (I.ok.hd hc) hl.isList rv.ints fun h' tk t' hk => ⟨.int _, H, I.kept hk, ⟨_, rfl⟩, q⟩
  · obtain ⟨its, rv, hl, _⟩ := I.tuple hs
    rw [Vals.ref1 r]
    obtain ⟨xs, e⟩ := rv.ints.allInts.items
    have hn : numsOf (intItems xs).toList = ns := by rw [← e]; exact rv.ints.numsOf
    rw [nums_intItems] at hn
    rw [e] at hl
    obtain ⟨o, ho, hc2, n, hd⟩ := hl
    refine PySem.W.ktm_sumG (xs := xs) (I.ok.hd hc) ⟨o, ho, hc2, n, hd⟩ fun h' tk t' hk => ?_
    rw [preSum_eq, List.take_of_length_le (by simp), hn]
    exact ⟨.int _, H, I.kept hk, ⟨_, rfl⟩, q⟩
theorem fn_sum : FnOkW c Wx sumW (rSumA c.K) := fun {P s σ H Q ws z xs} R e hx h => by
  unfold sumW at e
  split at e
  · rename_i ws
    cases q : intsOf ws with
    | none => rw [q] at e; cases e
    | some ns =>
      rw [q] at e; cases e
      obtain ⟨_, rfl, h1⟩ := one_of hx
      obtain ⟨p, vs, rfl, qa, rr⟩ := h1.lst
      rw [reps_ints rr q] at qa
      exact ⟨p, ns, rfl, .inl (.of qa), outI R h⟩
  · rename_i ws
    cases q : intsOf ws with
    | none => rw [q] at e; cases e
    | some ns =>
      rw [q] at e; cases e
      obtain ⟨_, rfl, h1⟩ := one_of hx
      obtain ⟨p, vs, rfl, qa, rr⟩ := h1.tup
      rw [reps_ints rr q] at qa
      exact ⟨p, ns, rfl, .inr qa, outI R h⟩
  · cases e
def allW : List W → Option R
  | [.lst ws] => (boolsOf ws).map fun ns => .fro (.bl (ns.all id))
  | _ => none
theorem fn_all : FnOkW c Wx allW (rAll c.K) := fun {P s σ H Q ws z xs} R e hx h => by
  unfold allW at e
  split at e
  · rename_i ws
    cases q : boolsOf ws with
    | none => rw [q] at e; cases e
    | some ns =>
      rw [q] at e; cases e
      obtain ⟨_, rfl, h1⟩ := one_of hx
      obtain ⟨p, vs, rfl, qa, rr⟩ := h1.lst
      rw [reps_bools rr q] at qa
      exact ⟨p, ns, rfl, .of qa, outB R h⟩
  · cases e
def anyW : List W → Option R
  | [.lst ws] => (boolsOf ws).map fun ns => .fro (.bl (ns.any id))
  | _ => none
theorem fn_any : FnOkW c Wx anyW (rAny c.K) := fun {P s σ H Q ws z xs} R e hx h => by
  unfold anyW at e
  split at e
  · rename_i ws
    cases q : boolsOf ws with
    | none => rw [q] at e; cases e
    | some ns =>
      rw [q] at e; cases e
      obtain ⟨_, rfl, h1⟩ := one_of hx
      obtain ⟨p, vs, rfl, qa, rr⟩ := h1.lst
      rw [reps_bools rr q] at qa
      exact ⟨p, ns, rfl, .of qa, outB R h⟩
  · cases e
end
end Qs
/-! # Statements -/
namespace Qs
open PySem PySem.Spec PyProof.Rows L2
section
variable (c : Cst)
/-- what follows a statement's result, from the state at which it began -/
def OutS (Wx : WX) (σ : L2.St) (P : Addr → Prop) (s : S) (H : Hp) (D : Ends) : Res Fl → Prop
  | .ok (.nx s') => ∀ σ' P' H', Stp P s σ H P' s' σ' H' → Rel c P' s' σ' H' → D.nx σ' H'
  | .ok (.bk s') => ∀ σ' P' H', Stp P s σ H P' s' σ' H' → Rel c P' s' σ' H' → D.bk σ' H'
  | .ok (.ct s') => ∀ σ' P' H', Stp P s σ H P' s' σ' H' → Rel c P' s' σ' H' → D.ct σ' H'
  | .ok (.rt r s') => ∀ σ' v P' H', Stp P s σ H P' s' σ' H' → Rel c P' s' σ' H' → RvR c P' s' σ' H H' r v → D.rt v H'
  | .exc x => ∀ σ' cls d P' H', Sxc c P s σ H P' H' → XRel c P' H' x cls d → Wx cls d σ' H'
  | .bad => False
def rdS (Wx : WX) (f : SS) : TS := fun D σ H => ∃ P s, Rel c P s σ H ∧ OutS c Wx σ P s H D (f s)
end
section
variable {c : Cst} {Wx : WX} {k : Nat} {X : Cx} {P P0 P1 P' : Addr → Prop} {s s' s0 s1 : S} {σ σ0 σ' : L2.St} {H H0 H1 H' : Hp} {Q : VK} {D D' : Ends} {u w : W} {r z : R} {x y v : V} {a b e : Expr} {fa fb : SE} {pos p2 : Pos}
theorem Stp.there' (t : Stp P s σ H P' s' σ' H') {a : Addr} (h : H' a = none) : H a = none := by
  cases e : H a with
  | none => rfl
  | some o => exact absurd h (t.there a (by rw [e]; exact fun z => nomatch z))
theorem RvR.startS {r : R} {v : V} {P2 : Addr → Prop} {s2 : S} {σ2 : L2.St} {H2 : Hp} (t : Stp P0 s0 σ0 H0 P s σ H) (h : RvR c P2 s2 σ2 H H2 r v) : RvR c P2 s2 σ2 H0 H2 r v := by
  cases r with
  | fro w => exact h
  | new w =>
    obtain ⟨a, e, n, no, hn, q⟩ := h
    exact ⟨a, e, n, no, t.there' hn, q⟩
  | bor i => exact h
theorem Sxc.ofS (t : Stp P0 s0 σ0 H0 P s σ H) (u : Sxc c P s σ H P' H') : Sxc c P0 s0 σ0 H0 P' H' where
  keep := fun a o e n nt => by
    refine u.keep a o (t.keep a o e n nt) (fun z => ?_) nt
    rcases t.own a z with z | z
    · exact n z
    · rw [z] at e; cases e
  pin := fun a e => u.pin a (t.pin a e)
  new := fun a e => by
    rcases u.new a e with z | z | z
    · exact t.new a z
    · by_cases q : H0 a = none
      · exact .inr (.inl q)
      · exact absurd z (t.there a q)
    · rcases t.own a z with z | z
      · exact .inr (.inr z)
      · exact .inr (.inl z)
  tbs := u.tbs
theorem OutS.at_ {res : Res Fl} (h : OutS c Wx σ0 P0 s0 H0 D res) (t : Stp P0 s0 σ0 H0 P s σ H) : OutS c Wx σ P s H D res := by
  cases res with
  | ok f =>
    cases f with
    | nx s' => exact fun σ' P' H' t' R' => h σ' P' H' (t.trans t') R'
    | bk s' => exact fun σ' P' H' t' R' => h σ' P' H' (t.trans t') R'
    | ct s' => exact fun σ' P' H' t' R' => h σ' P' H' (t.trans t') R'
    | rt r s' => exact fun σ' v P' H' t' R' rv => h σ' v P' H' (t.trans t') R' (rv.startS t)
  | exc x => exact fun σ' cls d P' H' u xr => h σ' cls d P' H' (Sxc.ofS t u) xr
  | bad => exact h
/-- from a statement's start through an expression -/
theorem OutS.exp {res : Res (R × S)} {kk : R × S → Res Fl} (h : OutS c Wx σ P s H D (res.bind kk))
    (hz : ∀ r s1 v P1 H1, res = .ok (r, s1) → StE P s σ H P1 s1 H1 → Rel c P1 s1 σ H1 → RvR c P1 s1 σ H H1 r v → OutS c Wx σ P s H D (kk (r, s1)) → Q v H1) : Out c Wx σ P s H Q res := by
  cases res with
  | ok p =>
    obtain ⟨r, s1⟩ := p
    exact fun v P1 H1 t1 R1 rv => hz r s1 v P1 H1 rfl t1 R1 rv h
  | exc x => exact fun cls d P' H' u xr => h σ cls d P' H' u xr
  | bad => exact h
/-! ### blocks -/
def sNil : SS := fun s => .ok (.nx s)
/-! all that is known, worked out ahead (for the kernel's sake) -/
def nfN {α : Type} (n : Nat) (k : Nat → α) : α := match n with
  | 0 => k 0
  | m + 1 => k (m + 1)
theorem nfN_eq {α : Type} {n : Nat} {k : Nat → α} : nfN n k = k n := by cases n <;> rfl
def nfI {α : Type} (i : Int) (k : Int → α) : α := match i with
  | .ofNat n => nfN n fun m => k (.ofNat m)
  | .negSucc n => nfN n fun m => k (.negSucc m)
theorem nfI_eq {α : Type} {i : Int} {k : Int → α} : nfI i k = k i := by cases i <;> (unfold nfI; exact nfN_eq)
def nfNs {α : Type} : List Nat → (List Nat → α) → α
  | [], k => k []
  | n :: ns, k => nfN n fun m => nfNs ns fun ms => k (m :: ms)
theorem nfNs_eq {α : Type} : ∀ {l : List Nat} {k : List Nat → α}, nfNs l k = k l
  | [], _ => rfl
  | n :: ns, k => nfN_eq.trans nfNs_eq
mutual
def nfW {α : Type} : W → (W → α) → α
  | .non, k => k .non
  | .bl b, k => (match b with
    | true => k (.bl true)
    | false => k (.bl false))
  | .int i, k => nfI i fun j => k (.int j)
  | .str s, k => nfNs s fun s => k (.str s)
  | .tup ws, k => nfWs ws fun ws => k (.tup ws)
  | .lst ws, k => nfWs ws fun ws => k (.lst ws)
  | .scr ws, k => nfWs ws fun ws => k (.scr ws)
  | .dic ks ws, k => nfWs ks fun ks => nfWs ws fun ws => k (.dic ks ws)
  | .fn n, k => k (.fn n)
  | .cl n, k => k (.cl n)
  | .ty n, k => k (.ty n)
  | .ins n ws, k => nfWs ws fun ws => k (.ins n ws)
def nfWs {α : Type} : List W → (List W → α) → α
  | [], k => k []
  | w :: ws, k => nfW w fun u => nfWs ws fun us => k (u :: us)
end
mutual
theorem nfW_eq {α : Type} : ∀ (w : W) (k : W → α), nfW w k = k w
  | .non, k => by unfold nfW; rfl
  | .bl b, k => by unfold nfW; cases b <;> rfl
  | .int i, k => by unfold nfW; exact nfI_eq
  | .str s, k => by unfold nfW; exact nfNs_eq
  | .tup ws, k => by unfold nfW; exact nfWs_eq ws _
  | .lst ws, k => by unfold nfW; exact nfWs_eq ws _
  | .scr ws, k => by unfold nfW; exact nfWs_eq ws _
  | .dic ks ws, k => by unfold nfW; rw [nfWs_eq ks]; exact nfWs_eq ws _
  | .fn n, k => by unfold nfW; rfl
  | .cl n, k => by unfold nfW; rfl
  | .ty n, k => by unfold nfW; rfl
  | .ins n ws, k => by unfold nfW; exact nfWs_eq ws _
theorem nfWs_eq {α : Type} : ∀ (ws : List W) (k : List W → α), nfWs ws k = k ws
  | [], k => by unfold nfWs; rfl
  | w :: ws, k => by unfold nfWs; rw [nfW_eq w]; exact nfWs_eq ws _
end
/-- a list's spine -/
def nfLs {α β : Type} : List α → (List α → β) → β
  | [], k => k []
  | x :: xs, k => nfLs xs fun ys => k (x :: ys)
theorem nfLs_eq {α β : Type} : ∀ {s : List α} {k : List α → β}, nfLs s k = k s
  | [], _ => rfl
  | x :: xs, k => nfLs_eq (s := xs)
def thenS (g : SS) : Fl → Res Fl
  | .nx s => nfLs s g
  | f => .ok f
theorem thenS_nx {g : SS} {s : S} : thenS g (.nx s) = g s := nfLs_eq
def sSeq (f g : SS) : SS := fun s => (f s).bind (thenS g)
theorem pss_nil' : PSs X [] (rdS c Wx sNil) := pss_imp pss_nil fun D σ H ⟨P, s, R, h⟩ => h σ P H Stp.refl R
theorem pss_cons' {st : Stmt} {rest : List Stmt} {f g : SS} (h1 : PS X st (rdS c Wx f)) (h2 : PSs X rest (rdS c Wx g)) : PSs X (st :: rest) (rdS c Wx (sSeq f g)) :=
  pss_imp (pss_cons h1 h2) fun D σ H ⟨P, s, R, h⟩ => by
    refine ⟨P, s, R, ?_⟩
    unfold sSeq at h
    cases e : f s with
    | ok fl =>
      rw [e] at h
      cases fl with
      | nx s' =>
        have h : OutS c Wx σ P s H D (thenS g (.nx s')) := h
        rw [thenS_nx] at h
        exact fun σ' P' H' t' R' => ⟨P', s', R', OutS.at_ h t'⟩
      | bk s' => exact h
      | ct s' => exact h
      | rt r s' => exact h
    | exc x => rw [e] at h; exact h
    | bad => rw [e] at h; exact h.elim
def sBreak : SS := fun s => .ok (.bk s)
def sCont : SS := fun s => .ok (.ct s)
theorem ps_break' : PS X (.Break pos) (rdS c Wx sBreak) := ps_imp ps_break fun D σ H ⟨P, s, R, h⟩ => h σ P H Stp.refl R
theorem ps_cont' : PS X (.Continue pos) (rdS c Wx sCont) := ps_imp ps_continue fun D σ H ⟨P, s, R, h⟩ => h σ P H Stp.refl R
theorem ps_pass' : PS X (.Pass pos) (rdS c Wx sNil) := ps_imp ps_pass fun D σ H ⟨P, s, R, h⟩ => h σ P H Stp.refl R
theorem ps_doc' {x j pos'} : PS X (.Expr (.Constant (.str x) j pos) pos') (rdS c Wx sNil) := ps_imp ps_doc fun D σ H ⟨P, s, R, h⟩ => h σ P H Stp.refl R
def sExpr (f : SE) : SS := fun s => (f s).bind fun p => .ok (.nx p.2)
theorem ps_expr' (he : PE X e (rd c Wx fa)) (hs : swapsWith e none pos.line X.env = pure false) : PS X (.Expr e pos) (rdS c Wx (sExpr fa)) :=
  ps_imp (ps_expr he hs) fun D σ H ⟨P, s, R, h⟩ => ⟨P, s, R, h.exp fun r s1 v P1 H1 _ t1 R1 rv h1 => h1 σ P1 H1 t1.toStp R1⟩
def sRet (f : SE) : SS := fun s => (f s).bind fun p => .ok (.rt p.1 p.2)
theorem ps_ret' (he : PE X e (rd c Wx fa)) : PS X (.Return (some e) pos) (rdS c Wx (sRet fa)) :=
  ps_imp (ps_ret he) fun D σ H ⟨P, s, R, h⟩ => ⟨P, s, R, h.exp fun r s1 v P1 H1 _ t1 R1 rv h1 => h1 σ v P1 H1 t1.toStp R1 rv⟩
theorem ps_retN' : PS X (.Return none pos) (rdS c Wx (sRet (eCst .non))) :=
  ps_imp ps_retN fun D σ H ⟨P, s, R, h⟩ => h σ .non P H Stp.refl R (rep_non (c := c) (P := P) (H := H))
/-! ### if -/
def sIf (ft : SE) (f g : SS) : SS := fun s => (ft s).bind fun p => match val p.2 p.1 with
  | some (.bl true) => f p.2
  | some (.bl false) => g p.2
  | _ => .bad
theorem ps_if' {cd : Expr} {as bs : List Stmt} {ft : SE} {f g : SS} (ht : PT X cd (rdT c Wx ft)) (ha : PSs X as (rdS c Wx f)) (hb : PSs X bs (rdS c Wx g)) : PS X (.If cd as bs pos) (rdS c Wx (sIf ft f g)) :=
  ps_imp (ps_if ht ha hb) fun D σ H ⟨P, s, R, h⟩ => ⟨P, s, R, h.exp fun r s1 v P1 H1 _ t1 R1 rv h1 => by
    dsimp only at h1
    split at h1
    · rename_i e1
      exact ⟨true, (rv.view R1 e1).bl, P1, s1, R1, OutS.at_ h1 t1.toStp⟩
    · rename_i e1
      exact ⟨false, (rv.view R1 e1).bl, P1, s1, R1, OutS.at_ h1 t1.toStp⟩
    · exact h1.elim⟩
/-! ### while -/
def whileN (ft : SE) (fb : SS) : Nat → SS
  | 0, _ => .bad
  | n + 1, s => (ft s).bind fun p => match val p.2 p.1 with
    | some (.bl true) => (fb p.2).bind fun
      | .nx s2 => whileN ft fb n s2
      | .ct s2 => whileN ft fb n s2
      | .bk s2 => .ok (.nx s2)
      | .rt r s2 => .ok (.rt r s2)
    | some (.bl false) => .ok (.nx p.2)
    | _ => .bad
theorem ps_while' {cd : Expr} {body : List Stmt} {ft : SE} {fb : SS} {n : Nat} (hp : PassesOwn (model X.prog X.w) X.A X.env X.xe) (ht : PT X cd (rdT c Wx ft)) (hb : PSs X body (rdS c Wx fb)) : PS X (.While cd body [] pos) (rdS c Wx (whileN ft fb n)) :=
  ps_imp (ps_while hp ht hb) fun D σ H ⟨P, s, R, h⟩ => by
    refine ⟨fun m σ H => ∃ P s, Rel c P s σ H ∧ OutS c Wx σ P s H D (whileN ft fb m s), ⟨n, P, s, R, h⟩, ?_⟩
    rintro m σ H ⟨P, s, R, h⟩
    cases m with
    | zero => exact h.elim
    | succ m =>
      unfold whileN at h
      refine ⟨P, s, R, h.exp fun r s1 v P1 H1 _ t1 R1 rv h1 => ?_⟩
      dsimp only at h1
      split at h1
      · rename_i e1
        refine ⟨true, (rv.view R1 e1).bl, ?_⟩
        refine (if_pos rfl).mpr ?_
        refine ⟨fun σ' H' => ∃ P s, Rel c P s σ' H' ∧ OutS c Wx σ' P s H' D (whileN ft fb m s), fun σ' H' q => ⟨m, Nat.lt_succ_self m, q⟩, P1, s1, R1, ?_⟩
        have h2 := OutS.at_ h1 t1.toStp
        cases e2 : fb s1 with
        | ok fl =>
          rw [e2] at h2
          cases fl with
          | nx s2 => exact fun σ' P' H' t' R' => ⟨P', s2, R', OutS.at_ h2 t'⟩
          | ct s2 => exact fun σ' P' H' t' R' => ⟨P', s2, R', OutS.at_ h2 t'⟩
          | bk s2 => exact h2
          | rt r s2 => exact h2
        | exc x => rw [e2] at h2; exact h2
        | bad => rw [e2] at h2; exact h2.elim
      · rename_i e1
        refine ⟨false, (rv.view R1 e1).bl, ?_⟩
        refine (if_neg (by decide)).mpr ?_
        exact h1 σ P1 H1 t1.toStp R1
      · exact h1.elim
/-! ### stores -/
/-- store a value at a place -/
def asgN (i : Nat) (r : R) (s : S) : Res S := match r with
  | .fro w => nfW w fun w => chk (decide (i < s.length)) (.ok (s.set i (.fro w)))
  | .new w => nfW w fun w => chk (decide (i < s.length)) (.ok (s.set i (.own false w)))
  | .bor j => (ofO (frz s (.bor j))).bind fun p => chk (decide (i < p.2.length)) (.ok (p.2.set i (.fro p.1)))
theorem set_own {i : Nat} {sl : Sl} {j : Nat} {p : Bool} {w : W} (e : (s.set i sl)[j]? = some (.own p w)) (h : j ≠ i) : s[j]? = some (.own p w) := by
  rw [List.getElem?_set_ne (Ne.symm h)] at e; exact e
/-- a place gets a value that never changes -/
theorem set_fro {i : Nat} (R : Rel c P s σ H) (hi : i < s.length) (rv : Rep c.T c.K P H w v) : Stp P s σ H P (s.set i (.fro w)) (σ.set i (some v)) H ∧ Rel c P (s.set i (.fro w)) (σ.set i (some v)) H := by
  have hs : i < σ.length := by rw [← R.len]; exact hi
  have oth : ∀ (j : Nat) (p : Bool) (w' : W), (s.set i (.fro w))[j]? = some (.own p w') → i ≠ j ∧ s[j]? = some (.own p w') := fun j p w' e => by
    by_cases h : i = j
    · subst h; rw [List.getElem?_set_self hi] at e; cases e
    · rw [List.getElem?_set_ne h] at e; exact ⟨h, e⟩
  refine ⟨⟨fun a o e _ _ => e, fun a h => h, fun a h => h, fun a h => .inl h, fun a ⟨j, p, w', e, e2⟩ => ?_, fun j w' e => ?_⟩, ⟨by simp [R.len], fun j w' e => ?_, fun j p w' e => ?_, fun j l p q u' w' a e1 e2 e3 e4 => ?_, R.tbs, R.dom⟩⟩
  · obtain ⟨h, e⟩ := oth j p w' e
    rw [List.getElem?_set_ne h] at e2
    exact .inl ⟨j, p, w', e, e2⟩
  · obtain ⟨h, e⟩ := oth j true w' e
    exact ⟨⟨w', e⟩, List.getElem?_set_ne h⟩
  · by_cases h : i = j
    · subst h
      rw [List.getElem?_set_self hi] at e; cases e
      exact ⟨v, List.getElem?_set_self hs, rv⟩
    · rw [List.getElem?_set_ne h] at e
      obtain ⟨v', e2, r⟩ := R.fro j w' e
      exact ⟨v', by rw [List.getElem?_set_ne h]; exact e2, r⟩
  · obtain ⟨h, e⟩ := oth j p w' e
    obtain ⟨a, e2, n, z⟩ := R.own j p w' e
    exact ⟨a, by rw [List.getElem?_set_ne h]; exact e2, n, z⟩
  · obtain ⟨h1, e1⟩ := oth j p u' e1
    obtain ⟨h2, e2⟩ := oth l q w' e2
    rw [List.getElem?_set_ne h1] at e3
    rw [List.getElem?_set_ne h2] at e4
    exact R.inj j l p q u' w' a e1 e2 e3 e4
/-- a place gets a list of its own -/
theorem set_new {i : Nat} {a : Addr} (t : Stp P0 s0 σ0 H0 P s σ H) (R : Rel c P s σ H) (hi : i < s.length) (n : ¬ P a) (no : ¬ Own s σ a) (hn : H0 a = none) (q : Cell c.T c.K P H w a) :
    Stp P0 s0 σ0 H0 P (s.set i (.own false w)) (σ.set i (some (.ref a))) H ∧ Rel c P (s.set i (.own false w)) (σ.set i (some (.ref a))) H := by
  have hs : i < σ.length := by rw [← R.len]; exact hi
  have oth : ∀ (j : Nat) (p : Bool) (w' : W), i ≠ j → (s.set i (.own false w))[j]? = some (.own p w') → s[j]? = some (.own p w') := fun j p w' h e => by
    rw [List.getElem?_set_ne h] at e; exact e
  refine ⟨⟨t.keep, t.there, t.pin, t.new, fun b ⟨j, p, w', e, e2⟩ => ?_, fun j w' e => ?_⟩, ⟨by simp [R.len], fun j w' e => ?_, fun j p w' e => ?_, fun j l p q' u' w' b e1 e2 e3 e4 => ?_, R.tbs, R.dom⟩⟩
  · by_cases h : i = j
    · subst h
      rw [List.getElem?_set_self hs] at e2
      cases e2
      exact .inr hn
    · rw [List.getElem?_set_ne h] at e2
      exact t.own b ⟨j, p, w', oth j p w' h e, e2⟩
  · by_cases h : i = j
    · subst h; rw [List.getElem?_set_self hi] at e; cases e
    · obtain ⟨z1, z2⟩ := t.par j w' (oth j true w' h e)
      exact ⟨z1, by rw [List.getElem?_set_ne h]; exact z2⟩
  · by_cases h : i = j
    · subst h; rw [List.getElem?_set_self hi] at e; cases e
    · rw [List.getElem?_set_ne h] at e
      obtain ⟨v', e2, r⟩ := R.fro j w' e
      exact ⟨v', by rw [List.getElem?_set_ne h]; exact e2, r⟩
  · by_cases h : i = j
    · subst h
      rw [List.getElem?_set_self hi] at e; cases e
      exact ⟨a, List.getElem?_set_self hs, n, q⟩
    · obtain ⟨b, e2, n', z⟩ := R.own j p w' (oth j p w' h e)
      exact ⟨b, by rw [List.getElem?_set_ne h]; exact e2, n', z⟩
  · by_cases h1 : i = j
    · subst h1
      by_cases h2 : i = l
      · exact h2
      · rw [List.getElem?_set_self hs] at e3
        cases e3
        rw [List.getElem?_set_ne h2] at e4
        exact absurd ⟨l, q', w', oth l q' w' h2 e2, e4⟩ no
    · by_cases h2 : i = l
      · subst h2
        rw [List.getElem?_set_self hs] at e4
        cases e4
        rw [List.getElem?_set_ne h1] at e3
        exact absurd ⟨j, p, u', oth j p u' h1 e1, e3⟩ no
      · rw [List.getElem?_set_ne h1] at e3
        rw [List.getElem?_set_ne h2] at e4
        exact R.inj j l p q' u' w' b (oth j p u' h1 e1) (oth l q' w' h2 e2) e3 e4
theorem chk_ok {α : Type} {b : Bool} {res : Res α} {a : α} (h : chk b res = .ok a) : b = true ∧ res = .ok a := by
  unfold chk at h
  split at h
  · rename_i q; exact ⟨q, h⟩
  · cases h
theorem asg_ok {i : Nat} (t : StE P0 s0 σ H0 P s H) (R : Rel c P s σ H) (rv : RvR c P s σ H0 H r v) (e : asgN i r s = .ok s') :
    ∃ P', Stp P0 s0 σ H0 P' s' (σ.set i (some v)) H ∧ Rel c P' s' (σ.set i (some v)) H := by
  cases r with
  | fro w =>
    obtain ⟨hi, e⟩ := chk_ok ((nfW_eq w _).symm.trans e)
    cases e
    obtain ⟨h1, h2⟩ := set_fro R (of_decide_eq_true hi) rv
    exact ⟨P, t.toStp.trans h1, h2⟩
  | new w =>
    obtain ⟨hi, e⟩ := chk_ok ((nfW_eq w _).symm.trans e)
    cases e
    obtain ⟨a, rfl, n, no, hn, q⟩ := rv
    obtain ⟨h1, h2⟩ := set_new t.toStp R (of_decide_eq_true hi) n no hn q
    exact ⟨P, h1, h2⟩
  | bor j =>
    have e : (ofO (frz s (.bor j))).bind _ = .ok s' := e
    cases q : frz s (.bor j) with
    | none => rw [q] at e; cases e
    | some p =>
      obtain ⟨w, s1⟩ := p
      rw [q] at e
      obtain ⟨hi, e⟩ := chk_ok e
      cases e
      obtain ⟨P1, t1, R1, rw1, _⟩ := frz_ok t R rv q
      obtain ⟨h1, h2⟩ := set_fro R1 (of_decide_eq_true hi) rw1
      exact ⟨P1, t1.toStp.trans h1, h2⟩
end
end Qs
/-! # Assignments -/
namespace Qs
open PySem PySem.Spec PyProof.Rows L2
section
variable {c : Cst} {Wx : WX} {k : Nat} {X : Cx} {P P0 P1 P' : Addr → Prop} {s s' s0 s1 : S} {σ σ0 σ' : L2.St} {H H0 H1 H' : Hp} {Q : VK} {D D' : Ends} {u w : W} {r z : R} {x y v : V} {a b e : Expr} {fa fb : SE} {pos p2 : Pos} {ρ : SR}
abbrev GT := R → S → Res S
/-- what is told of how the machine's slots change at a store -/
structure SR where
  rel : L2.St → L2.St → Prop
  refl : ∀ σ, rel σ σ
  trans : ∀ {a b d}, rel a b → rel b d → rel a d
/-- nothing -/
def sr0 : SR := ⟨fun _ _ => True, fun _ => trivial, fun _ _ => trivial⟩
/-- the end of a store -/
def OutG (c : Cst) (Wx : WX) (ρ : SR) (σ : L2.St) (P : Addr → Prop) (s : S) (H : Hp) (Q : L2.St → Hp → Prop) : Res S → Prop
  | .ok s' => ∀ σ' P' H', Stp P s σ H P' s' σ' H' → Rel c P' s' σ' H' → ρ.rel σ σ' → Q σ' H'
  | .exc x => ∀ σ' cls d P' H', Sxc c P s σ H P' H' → XRel c P' H' x cls d → Wx cls d σ' H'
  | .bad => False
/-- the reading of a target -/
def rdG (c : Cst) (Wx : WX) (ρ : SR) (g : GT) : TG := fun v σ H Q => ∃ P0 s0 H0 P s r, Rel c P0 s0 σ H0 ∧ StE P0 s0 σ H0 P s H ∧ Rel c P s σ H ∧ RvR c P s σ H0 H r v ∧ OutG c Wx ρ σ P0 s0 H0 Q (g r s)
/-- .. of a value that never changes -/
theorem rdG_fro {g : GT} {Q : L2.St → Hp → Prop} (R : Rel c P s σ H) (r : Rep c.T c.K P H w v) (h : OutG c Wx ρ σ P s H Q (g (.fro w) s)) : rdG c Wx ρ g v σ H Q := ⟨P, s, H, P, s, .fro w, R, StE.refl, R, r, h⟩
theorem OutG.at_ {Q : L2.St → Hp → Prop} {res : Res S} (h : OutG c Wx ρ σ0 P0 s0 H0 Q res) (t : Stp P0 s0 σ0 H0 P s σ H) (hr : ρ.rel σ0 σ) : OutG c Wx ρ σ P s H Q res := by
  cases res with
  | ok s' => exact fun σ' P' H' t' R' r' => h σ' P' H' (t.trans t') R' (ρ.trans hr r')
  | exc x => exact fun σ' cls d P' H' u xr => h σ' cls d P' H' (Sxc.ofS t u) xr
  | bad => exact h
theorem pg_imp {tg : Expr} {t t' : TG} (h : PG X tg t) (k : ∀ v σ H Q, t' v σ H Q → t v σ H Q) : PG X tg t' := ⟨fun pins s σ H v u Q I r hq => h.run pins s σ H v u Q I r (k v σ H Q hq)⟩
theorem pg_name' {i : Nat} {nm : Str} (hN : X.N.Nodup) (hi : X.N[i]? = some nm) (hx : Loc X.env.scope nm) (hf : X.fn nm = true ∨ X.env.scope.names.lookup nm = some .local) (hr : ∀ σ v, ρ.rel σ (σ.set i (some v))) : PG X (.Name nm pos) (rdG c Wx ρ (asgN i)) :=
  pg_imp (pg_name hN hi hx hf) fun v σ H Q ⟨P0, s0, H0, P, s, r, R0, t, R, rv, h⟩ => by
    cases e : asgN i r s with
    | ok s' =>
      rw [e] at h
      obtain ⟨P', h1, h2⟩ := asg_ok t R rv e
      exact h _ P' H h1 h2 (hr σ v)
    | exc x =>
      exfalso
      unfold asgN at e
      simp only [nfW_eq] at e
      split at e
      · unfold chk at e; split at e <;> cases e
      · unfold chk at e; split at e <;> cases e
      · cases q : frz s (.bor _) with
        | none => rw [q] at e; cases e
        | some p => rw [q] at e; simp only [ofO_some, Res.bind_ok] at e; unfold chk at e; split at e <;> cases e
    | bad => rw [e] at h; exact h.elim
/-- several targets, one after another, of values that never change -/
def gsL : List GT → List W → S → Res S
  | [], [], s => .ok s
  | g :: gs, w :: ws, s => (g (.fro w) s).bind fun s1 => gsL gs ws s1
  | _, _, _ => .bad
def rdGs (c : Cst) (Wx : WX) (ρ : SR) (gs : List GT) : TGs := fun vs σ H Q => ∃ P s ws, Rel c P s σ H ∧ Reps c.T c.K P H ws vs ∧ OutG c Wx ρ σ P s H Q (gsL gs ws s)
theorem pgs_imp {ts : List Expr} {t t' : TGs} (h : PGs X ts t) (k : ∀ vs σ H Q, t' vs σ H Q → t vs σ H Q) : PGs X ts t' := ⟨fun pins s σ H vs us Q I r hq => h.run pins s σ H vs us Q I r (k vs σ H Q hq)⟩
theorem pgs_nil' : PGs X [] (rdGs c Wx ρ []) := pgs_imp pgs_nil fun vs σ H Q ⟨P, s, ws, R, r, h⟩ => by
  cases ws with
  | nil => unfold Reps at r; exact ⟨r, h σ P H Stp.refl R (ρ.refl σ)⟩
  | cons w ws => exact h.elim
theorem pgs_cons' {t : Expr} {ts : List Expr} {g : GT} {gs : List GT} (h1 : PG X t (rdG c Wx ρ g)) (h2 : PGs X ts (rdGs c Wx ρ gs)) (hs : (assignEach (t :: ts) X.env).map (·.2) = assign t X.env :: (assignEach ts X.env).map (·.2)) : PGs X (t :: ts) (rdGs c Wx ρ (g :: gs)) :=
  pgs_imp (pgs_cons h1 h2 hs) fun vs σ H Q ⟨P, s, ws, R, r, h⟩ => by
    cases ws with
    | nil => exact h.elim
    | cons w ws =>
      unfold Reps at r
      obtain ⟨v, vr, e, r1, r2⟩ := r
      refine ⟨v, vr, e, rdG_fro R r1 ?_⟩
      unfold gsL at h
      cases e2 : g (.fro w) s with
      | ok s1 =>
        rw [e2] at h
        exact fun σ1 P1 H1 t1 R1 hr => ⟨P1, s1, ws, R1, Reps.mono (Stp.kp R t1) _ _ r2, OutG.at_ h t1 hr⟩
      | exc x => rw [e2] at h; exact h
      | bad => rw [e2] at h; exact h.elim
/-- (a, b, ..) = a tuple -/
def gTupW (gs : List GT) : GT := fun r s => match val s r with
  | some (.tup ws) => chk (decide (ws.length = gs.length)) (gsL gs ws s)
  | _ => .bad
theorem pg_tup' {es : List Expr} {n : Nat} {gs : List GT} (hK : X.K = c.K) (hc : X.calm = true) (h : PGs X es (rdGs c Wx ρ gs)) (hn : (assignEach es X.env).length = gs.length) (hst : (assignEach es X.env).findIdx? (·.1) = none) :
    PG X (.Tuple es n pos) (rdG c Wx ρ (gTupW gs)) :=
  pg_imp (pg_tup hc h hn hst) fun v σ H Q ⟨P0, s0, H0, P, s, r, R0, t, R, rv, h⟩ => by
    unfold gTupW at h
    split at h
    · rename_i ws e
      unfold chk at h
      split at h
      · rename_i g
        obtain ⟨p, vs, rfl, qa, rr⟩ := (rv.view R e).tup
        exact ⟨p, vs, rfl, by rw [hK]; exact qa, by rw [← rr.length]; exact of_decide_eq_true g, P, s, ws, R, rr, OutG.at_ h t.toStp (ρ.refl σ)⟩
      · exact h.elim
    · exact h.elim
/-- target = value -/
def sAsg (f : SE) (g : GT) : SS := fun s => (f s).bind fun p => (g p.1 p.2).bind fun s' => .ok (.nx s')
theorem OutS.gt {res : Res S} (h : OutS c Wx σ P s H D (res.bind fun s' => .ok (.nx s'))) : OutG c Wx ρ σ P s H D.nx res := by
  cases res with
  | ok s' => exact fun σ' P' H' t R _ => h σ' P' H' t R
  | exc x => exact h
  | bad => exact h
theorem ps_asg' {tg : Expr} {g : GT} (he : PE X e (rd c Wx fa)) (hg : PG X tg (rdG c Wx sr0 g)) (hs : swapsWithSole [tg] e pos.line X.env = pure false) (hw : swappedStores [tg] e X.env = pure none) (h1 : (assignEach [tg] X.env).map (·.2) = [assign tg X.env]) :
    PS X (.Assign [tg] e pos) (rdS c Wx (sAsg fa g)) :=
  ps_imp (ps_asg he hg hs hw h1) fun D σ H ⟨P, s, R, h⟩ => ⟨P, s, R, h.exp fun r s1 v P1 H1 _ t1 R1 rv h2 => ⟨P, s, H, P1, s1, r, R, t1, R1, rv, OutS.gt h2⟩⟩
/-! ### a, b = x, y -/
/-- a borrowed value for good, others as they are -/
def frzB (s : S) : R → Option (R × S)
  | .bor i => (frz s (.bor i)).map fun p => (.fro p.1, p.2)
  | r => some (r, s)
def bindB : List SE → (List R → S → Res S) → S → Res S
  | [], k, s => k [] s
  | f :: fs, k, s => (f s).bind fun p => (ofO (frzB p.2 p.1)).bind fun q => bindB fs (fun rs => k (q.1 :: rs)) q.2
def isNew : R → Bool
  | .new _ => true
  | _ => false
def isBor : R → Bool
  | .bor _ => true
  | _ => false
/-- values by the side of one another -/
structure Side (c : Cst) (P : Addr → Prop) (s : S) (σ : L2.St) (H0 H : Hp) (rs : List R) (vs : List V) : Prop where
  rv : Paired (fun r v => RvR c P s σ H0 H r v) rs vs
  nb : ∀ r ∈ rs, isBor r = false
  ap : (rs.zip vs).Pairwise fun p q => isNew p.1 = true → isNew q.1 = true → p.2 ≠ q.2
theorem frzB_ok {r' : R} (t : StE P0 s0 σ H0 P s H) (R : Rel c P s σ H) (rv : RvR c P s σ H0 H r v) (e : frzB s r = some (r', s')) :
    ∃ P', StE P s σ H P' s' H ∧ Rel c P' s' σ H ∧ RvR c P' s' σ H0 H r' v ∧ isBor r' = false ∧ (isNew r' = true → r' = r) := by
  cases r with
  | fro w => cases e; exact ⟨P, StE.refl, R, rv, rfl, fun z => nomatch z⟩
  | new w => cases e; exact ⟨P, StE.refl, R, rv, rfl, fun _ => rfl⟩
  | bor i =>
    have e : (frz s (.bor i)).map _ = some (r', s') := e
    cases q : frz s (.bor i) with
    | none => rw [q] at e; cases e
    | some p =>
      obtain ⟨w, s2⟩ := p
      rw [q] at e; cases e
      obtain ⟨P', t', R', rw', _⟩ := frz_ok (P0 := P) (s0 := s) (H0 := H) StE.refl R (show RvR c P s σ H H (.bor i) v from rv) q
      exact ⟨P', t', R', rw', rfl, fun z => nomatch z⟩
theorem Side.over (R : Rel c P s σ H) (t : StE P s σ H P1 s1 H1) {rs : List Qs.R} {vs : List V} (h : Side c P s σ H0 H rs vs) : Side c P1 s1 σ H0 H1 rs vs := ⟨rvs_over R t h.rv, h.nb, h.ap⟩
theorem paired_zip {α β : Type} {F : α → β → Prop} {l₁ : List α} {l₂ : List β} (h : Paired F l₁ l₂) : ∀ p ∈ l₁.zip l₂, F p.1 p.2 := by
  induction h with
  | nil => intro p hp; cases hp
  | cons h t ih => intro p hp; rcases List.mem_cons.mp hp with rfl | hp; exact h; exact ih p hp
theorem paired_len {α β : Type} {F : α → β → Prop} {l₁ : List α} {l₂ : List β} (h : Paired F l₁ l₂) : l₁.length = l₂.length := Paired.length h
theorem side_aux {Q : L2.St → Hp → Prop} : ∀ (fs : List SE) (kk : List Qs.R → S → Res S) (Z : List V → Hp → Prop) (P : Addr → Prop) (s : S) (H : Hp) (racc : List Qs.R) (xacc : List V), Rel c P0 s0 σ H0 → StE P0 s0 σ H0 P s H → Rel c P s σ H →
    Side c P s σ H0 H racc xacc → OutG c Wx ρ σ P0 s0 H0 Q (bindB fs (fun rs => kk (racc ++ rs)) s) →
    (∀ P s rs xs H1, StE P0 s0 σ H0 P s H1 → Rel c P s σ H1 → Side c P s σ H0 H1 rs xs → OutG c Wx ρ σ P0 s0 H0 Q (kk rs s) → Z xs H1) →
    tArgs c Wx fs σ H (fun xs H1 => Z (xacc ++ xs) H1)
  | [], kk, Z, P, s, H, racc, xacc, R0, t, R, ra, h, hz => by
    have h : OutG c Wx ρ σ P0 s0 H0 Q (kk (racc ++ []) s) := h
    show Z (xacc ++ []) H
    rw [List.append_nil] at h ⊢
    exact hz P s racc xacc H t R ra h
  | f :: fs, kk, Z, P, s, H, racc, xacc, R0, t, R, ra, h, hz => by
    unfold bindB at h
    refine ⟨P, s, R, ?_⟩
    cases e : f s with
    | ok p =>
      obtain ⟨r, s1⟩ := p
      rw [e] at h
      intro v P1 H1 t1 R1 rv
      dsimp only [Res.bind_ok] at h
      cases e2 : frzB s1 r with
      | none => rw [e2] at h; exact h.elim
      | some q =>
        obtain ⟨r', s2⟩ := q
        rw [e2] at h
        obtain ⟨P2, t2, R2, rv2, nb, nw⟩ := frzB_ok (t.trans t1) R1 (rv.start t) e2
        have ra2 : Side c P2 s2 σ H0 H1 racc xacc := Side.over R1 t2 (Side.over R t1 ra)
        have q := side_aux fs kk Z P2 s2 H1 (racc ++ [r']) (xacc ++ [v]) R0 ((t.trans t1).trans t2) R2 ⟨ra2.rv.snoc rv2, fun z hz => ?_, ?_⟩ (by simpa using h) hz
        · simpa using q
        · rcases List.mem_append.mp hz with hz | hz
          · exact ra.nb z hz
          · rw [List.mem_singleton.mp hz]; exact nb
        · rw [List.zip_append (paired_len ra.rv)]
          refine List.pairwise_append.mpr ⟨ra.ap, by simp, fun p hp q hq n1 n2 e3 => ?_⟩
          have hq : q = (r', v) := by simpa using hq
          subst hq
          have er := nw n2
          dsimp only at er e3 n2
          rw [er] at n2
          obtain ⟨pr, pv⟩ := p
          have h1 := paired_zip ra.rv _ hp
          dsimp only at h1 e3 n1
          subst e3
          cases pr with
          | new w1 =>
            cases r with
            | new w2 =>
              obtain ⟨a1, e5, _, _, _, c1⟩ := h1
              obtain ⟨a2, e6, _, _, hn, _⟩ := rv
              rw [e5] at e6
              cases e6
              obtain ⟨o, eo, _⟩ := Cell.ex c1
              rw [hn] at eo; cases eo
            | _ => cases n2
          | _ => cases n1
    | exc x =>
      rw [e] at h
      exact fun cls d P' H' u xr => h σ cls d P' H' (Sxc.ofS t.toStp u) xr
    | bad => rw [e] at h; exact h.elim
/-- the values go to their places -/
def asgL : List Nat → List R → S → Res S
  | [], [], s => .ok s
  | i :: is, r :: rs, s => (asgN i r s).bind fun s1 => asgL is rs s1
  | _, _, _ => .bad
theorem asgL_ok {i : Nat} (t : Stp P0 s0 σ0 H0 P s σ H) (R : Rel c P s σ H) (rv : RvR c P s σ H0 H r v) (nb : isBor r = false) (e : asgN i r s = .ok s') :
    Stp P0 s0 σ0 H0 P s' (σ.set i (some v)) H ∧ Rel c P s' (σ.set i (some v)) H ∧ ∀ r2 v2, RvR c P s σ H0 H r2 v2 → isBor r2 = false → (isNew r = true → isNew r2 = true → v ≠ v2) → RvR c P s' (σ.set i (some v)) H0 H r2 v2 := by
  cases r with
  | fro w =>
    obtain ⟨hi, e⟩ := chk_ok ((nfW_eq w _).symm.trans e)
    cases e
    obtain ⟨h1, h2⟩ := set_fro R (of_decide_eq_true hi) rv
    refine ⟨t.trans h1, h2, fun r2 v2 rv2 nb2 _ => ?_⟩
    cases r2 with
    | fro w2 => exact rv2
    | new w2 =>
      obtain ⟨a, e, n, no, hn, q⟩ := rv2
      obtain ⟨o, eo, _⟩ := Cell.ex q
      refine ⟨a, e, n, fun z => ?_, hn, q⟩
      rcases h1.own a z with z | z
      · exact no z
      · rw [z] at eo; cases eo
    | bor _ => cases nb2
  | new w =>
    obtain ⟨hi, e⟩ := chk_ok ((nfW_eq w _).symm.trans e)
    cases e
    obtain ⟨a, rfl, n, no, hn, q⟩ := rv
    obtain ⟨h1, h2⟩ := set_new t R (of_decide_eq_true hi) n no hn q
    refine ⟨h1, h2, fun r2 v2 rv2 nb2 ap => ?_⟩
    cases r2 with
    | fro w2 => exact rv2
    | new w2 =>
      obtain ⟨b, e, n2, no2, hn2, q2⟩ := rv2
      refine ⟨b, e, n2, fun ⟨j, p, w', e1, e2⟩ => ?_, hn2, q2⟩
      by_cases h : i = j
      · subst h
        have hs : i < σ.length := by rw [← R.len]; exact of_decide_eq_true hi
        rw [List.getElem?_set_self hs] at e2
        cases e2
        exact ap rfl rfl e.symm
      · rw [List.getElem?_set_ne h] at e1 e2
        exact no2 ⟨j, p, w', e1, e2⟩
    | bor _ => cases nb2
  | bor j => cases nb
def sPar (is : List Nat) (fs : List SE) : SS := fun s => (bindB fs (asgL is) s).bind fun s' => .ok (.nx s')
/-- what the machine's slots become -/
def setsL : List Nat → List V → L2.St → L2.St
  | i :: is, v :: vs, σ => setsL is vs (σ.set i (some v))
  | _, _, σ => σ
theorem side_set {F G : Qs.R → V → Prop} {r : Qs.R} {v : V} (ov : ∀ r2 v2, F r2 v2 → isBor r2 = false → (isNew r = true → isNew r2 = true → v ≠ v2) → G r2 v2) {rs : List Qs.R} {vs : List V} (h : Paired F rs vs) :
    (∀ z ∈ rs, isBor z = false) → (∀ p ∈ rs.zip vs, isNew r = true → isNew p.1 = true → v ≠ p.2) → Paired G rs vs := by
  induction h with
  | nil => exact fun _ _ => .nil
  | cons h t ih => exact fun nb ap => .cons (ov _ _ h (nb _ List.mem_cons_self) (ap _ List.mem_cons_self)) (ih (fun z hz => nb z (List.mem_cons_of_mem _ hz)) fun p hp => ap p (List.mem_cons_of_mem _ hp))
theorem asgL_all {Q : L2.St → Hp → Prop} : ∀ (is : List Nat) (rs : List Qs.R) (xs : List V) (s : S) (σ : L2.St), Stp P0 s0 σ0 H0 P s σ H → Rel c P s σ H → Side c P s σ H0 H rs xs → OutG c Wx sr0 σ0 P0 s0 H0 Q (asgL is rs s) → xs.length = is.length ∧ Q (setsL is xs σ) H
  | [], [], xs, s, σ, t, R, sd, h => by
    have e : xs = [] := by cases sd.rv; rfl
    subst e
    exact ⟨rfl, h σ P H t R trivial⟩
  | [], _ :: _, _, _, _, _, _, _, h => h.elim
  | _ :: _, [], _, _, _, _, _, _, h => h.elim
  | i :: is, r :: rs, xs, s, σ, t, R, sd, h => by
    obtain ⟨rv, nb, ap⟩ := sd
    cases rv with
    | cons r1 r2 =>
      rename_i v vs
      unfold asgL at h
      rw [List.zip_cons_cons, List.pairwise_cons] at ap
      cases e : asgN i r s with
      | ok s1 =>
        rw [e] at h
        obtain ⟨t1, R1, ov⟩ := asgL_ok t R r1 (nb r List.mem_cons_self) e
        have q := asgL_all is rs vs s1 _ t1 R1 ⟨side_set ov r2 (fun z hz => nb z (List.mem_cons_of_mem _ hz)) ap.1, fun z hz => nb z (List.mem_cons_of_mem _ hz), ap.2⟩ h
        exact ⟨by simp [q.1], q.2⟩
      | exc x =>
        exfalso
        unfold asgN at e
        simp only [nfW_eq] at e
        split at e
        · unfold chk at e; split at e <;> cases e
        · unfold chk at e; split at e <;> cases e
        · cases q : frz s (.bor _) with
          | none => rw [q] at e; cases e
          | some p => rw [q] at e; simp only [ofO_some, Res.bind_ok] at e; unfold chk at e; split at e <;> cases e
      | bad => rw [e] at h; exact h.elim
theorem rd_mono {f : SE} {Z Z' : V → Hp → Prop} (k : ∀ v H1, Z v H1 → Z' v H1) (h : rd c Wx f σ H Z) : rd c Wx f σ H Z' := by
  obtain ⟨P, s, R, h⟩ := h
  exact ⟨P, s, R, h.imp k⟩
theorem OutS.gp {res : Res S} (h : OutS c Wx σ P s H D (res.bind fun s' => .ok (.nx s'))) : OutG c Wx ρ σ P s H D.nx res := OutS.gt h
theorem par_rd {is : List Nat} {fs : List SE} (h : rdS c Wx (sPar is fs) D σ H) : tArgs c Wx fs σ H fun xs H1 => xs.length = is.length ∧ D.nx (setsL is xs σ) H1 := by
  obtain ⟨P0, s0, R0, h⟩ := h
  have q := side_aux (ρ := sr0) (Q := D.nx) fs (asgL is) (fun xs H1 => xs.length = is.length ∧ D.nx (setsL is xs σ) H1) P0 s0 H [] [] R0 StE.refl R0 ⟨.nil, (fun _ z => nomatch z), List.Pairwise.nil⟩ (by simpa using OutS.gt h)
    (fun P s rs xs H1 t R sd h => asgL_all is rs xs s σ t.toStp R sd h)
  simpa using q
theorem star_no {e : Expr} {es : List Expr} {env : Env} (h : PySem.W.isStarred e = false) : starEach (e :: es) env = (false, eval e env) :: starEach es env := by
  cases e <;> first | rfl | (cases h; done)
theorem pa_cons' {e : Expr} {es : List Expr} {te : TE} {t : TA} (ha : PE X e te) (hr : PA X es t) (hs : PySem.W.isStarred e = false) : PA X (e :: es) (tCons te t) := pa_cons ha hr (star_no hs)
theorem ps_par' {i j : Nat} {nx ny : Str} {px py pt : Pos} {kt k2 pt2} (hc : X.calm = true) (hN : X.N.Nodup) (hi : X.N[i]? = some nx) (hj : X.N[j]? = some ny) (hij : i ≠ j)
    (hx : X.env.scope.names.lookup nx = some .local) (hy : X.env.scope.names.lookup ny = some .local) (ha : PE X a (rd c Wx fa)) (hb : PE X b (rd c Wx fb)) (na : PySem.W.isStarred a = false) (nb : PySem.W.isStarred b = false)
    (hw : swappedStores [.Tuple [.Name nx px, .Name ny py] kt pt] (.Tuple [a, b] k2 pt2) X.env = pure (some [nx, ny]))
    (hs : swapsWithSole [.Tuple [.Name nx px, .Name ny py] kt pt] (.Tuple [a, b] k2 pt2) pos.line X.env = pure false) :
    PS X (.Assign [.Tuple [.Name nx px, .Name ny py] kt pt] (.Tuple [a, b] k2 pt2) pos) (rdS c Wx (sPar [i, j] [fa, fb])) :=
  ps_imp (ps_par hc hN hi hj hij hx hy (pa_cons' ha (pa_cons' hb pa_nil nb) na) hw hs) fun D σ H h => by
    have q := par_rd h
    refine (?_ : ∀ (Z Z' : List V → Hp → Prop), (∀ xs H1, Z xs H1 → Z' xs H1) → tArgs c Wx [fa, fb] σ H Z → tArgs c Wx [fa, fb] σ H Z') _ _ ?_ q
    · exact fun Z Z' k h => rd_mono (fun x H1 h => rd_mono (fun y H2 h => k _ _ h) h) h
    · rintro xs H1 ⟨e, h⟩
      match xs, e with
      | [v, w], _ => exact ⟨v, w, rfl, h⟩
theorem ps_par3' {i j l : Nat} {nx ny nz : Str} {d : Expr} {fd : SE} {px py pz pt : Pos} {kt k2 pt2} (hc : X.calm = true) (hN : X.N.Nodup) (hi : X.N[i]? = some nx) (hj : X.N[j]? = some ny) (hl : X.N[l]? = some nz) (hij : i ≠ j) (hil : i ≠ l) (hjl : j ≠ l)
    (hx : X.env.scope.names.lookup nx = some .local) (hy : X.env.scope.names.lookup ny = some .local) (hz : X.env.scope.names.lookup nz = some .local) (ha : PE X a (rd c Wx fa)) (hb : PE X b (rd c Wx fb)) (hd : PE X d (rd c Wx fd)) (na : PySem.W.isStarred a = false) (nb : PySem.W.isStarred b = false) (nd : PySem.W.isStarred d = false)
    (hw : swappedStores [.Tuple [.Name nx px, .Name ny py, .Name nz pz] kt pt] (.Tuple [a, b, d] k2 pt2) X.env = pure (some [nx, ny, nz]))
    (hs : swapsWithSole [.Tuple [.Name nx px, .Name ny py, .Name nz pz] kt pt] (.Tuple [a, b, d] k2 pt2) pos.line X.env = pure false) :
    PS X (.Assign [.Tuple [.Name nx px, .Name ny py, .Name nz pz] kt pt] (.Tuple [a, b, d] k2 pt2) pos) (rdS c Wx (sPar [i, j, l] [fa, fb, fd])) :=
  ps_imp (ps_par3 hc hN hi hj hl hij hil hjl hx hy hz (pa_cons' ha (pa_cons' hb (pa_cons' hd pa_nil nd) nb) na) hw hs) fun D σ H h => by
    have q := par_rd h
    refine (?_ : ∀ (Z Z' : List V → Hp → Prop), (∀ xs H1, Z xs H1 → Z' xs H1) → tArgs c Wx [fa, fb, fd] σ H Z → tArgs c Wx [fa, fb, fd] σ H Z') _ _ ?_ q
    · exact fun Z Z' k h => rd_mono (fun x H1 h => rd_mono (fun y H2 h => rd_mono (fun z H3 h => k _ _ h) h) h) h
    · rintro xs H1 ⟨e, h⟩
      match xs, e with
      | [v, w, z], _ => exact ⟨v, w, z, rfl, h⟩
end
end Qs
/-! # Lists of the def's own, changed -/
namespace Qs
open PySem PySem.Spec PyProof.Rows L2
section
variable {c : Cst} {Wx : WX} {k : Nat} {X : Cx} {P P0 P1 P' : Addr → Prop} {s s' s0 s1 : S} {σ σ0 σ' : L2.St} {H H0 H1 H' : Hp} {Q : VK} {D D' : Ends} {u w : W} {r z : R} {x y v : V} {a b e : Expr} {fa fb : SE} {pos p2 apos : Pos}
/-- a list of the def's own gets another content -/
theorem upd_own {j : Nat} {p : Bool} {w : W} {ad : Addr} {ws' : List W} {vs' : List V} (R : Rel c P s σ H) (e : s[j]? = some (.own p w)) (e2 : σ[j]? = some (some (.ref ad))) (r : Reps c.T c.K P H ws' vs') :
    StE P s σ H P (s.set j (.own p (.lst ws'))) (upd H ad (.lst vs')) ∧ Rel c P (s.set j (.own p (.lst ws'))) σ (upd H ad (.lst vs')) := by
  have hj : j < s.length := (List.getElem?_eq_some_iff.mp e).1
  have ow : Own s σ ad := ⟨j, p, w, e, e2⟩
  obtain ⟨nP, w0, q0⟩ := R.ownP ow
  obtain ⟨o0, eo, ntb, nim⟩ := Cell.ex q0
  have kp : Kp P P H (upd H ad (.lst vs')) := ⟨fun _ h => h, fun b o e3 h => by
    have : b ≠ ad := fun z => by
      subst z
      rw [eo] at e3; cases e3
      rcases h with h | h
      · exact nim h
      · exact nP h.1
    rw [upd_ne this]; exact e3⟩
  have oth : ∀ (i : Nat) (p' : Bool) (w' : W), j ≠ i → (s.set j (.own p (.lst ws')))[i]? = some (.own p' w') → s[i]? = some (.own p' w') := fun i p' w' h e3 => by
    rw [List.getElem?_set_ne h] at e3; exact e3
  have own' : ∀ b, Own (s.set j (.own p (.lst ws'))) σ b → Own s σ b := fun b ⟨i, p', w', e3, e4⟩ => by
    by_cases h : j = i
    · subst h; rw [e2] at e4; cases e4; exact ow
    · exact ⟨i, p', w', oth i p' w' h e3, e4⟩
  refine ⟨⟨⟨fun b o e3 n _ => ?_, fun b h => ?_, fun b h => h, fun b h => .inl h, fun b h => .inl (own' b h), fun i w' e3 => ?_⟩, fun i => ?_⟩, ⟨by rw [List.length_set]; exact R.len, fun i w' e3 => ?_, fun i p' w' e3 => ?_, fun i l p1 p2 u1 u2 b e3 e4 e5 e6 => ?_, ?_, fun b h => ?_⟩⟩
  · rw [upd_ne (fun (z : b = ad) => n (by rw [z]; exact ow))]; exact e3
  · by_cases z : b = ad
    · subst z; rw [upd_same]; exact fun z => nomatch z
    · rw [upd_ne z]; exact h
  · by_cases h : j = i
    · subst h
      rw [List.getElem?_set_self hj] at e3
      cases e3
      exact ⟨⟨w, e⟩, rfl⟩
    · exact ⟨⟨w', oth i true w' h e3⟩, rfl⟩
  · by_cases h : j = i
    · subst h; exact .inr ⟨p, w, e, .lst ws', .inl (List.getElem?_set_self hj)⟩
    · exact .inl (List.getElem?_set_ne h)
  · by_cases h : j = i
    · subst h; rw [List.getElem?_set_self hj] at e3; cases e3
    · rw [List.getElem?_set_ne h] at e3
      obtain ⟨v', e4, r'⟩ := R.fro i w' e3
      exact ⟨v', e4, Rep.mono kp _ _ r'⟩
  · by_cases h : j = i
    · subst h
      rw [List.getElem?_set_self hj] at e3
      cases e3
      exact ⟨ad, e2, nP, vs', upd_same, Reps.mono kp _ _ r⟩
    · obtain ⟨b, e4, n, q⟩ := R.own i p' w' (oth i p' w' h e3)
      refine ⟨b, e4, n, Cell.mono kp q fun o q2 _ => ?_⟩
      rw [upd_ne (fun (z : b = ad) => h (R.inj j i p p' w w' ad e (oth i p' w' h e3) e2 (by rw [← z]; exact e4)))]; exact q2
  · have f : ∀ (i : Nat) (p' : Bool) (w' : W), (s.set j (.own p (.lst ws')))[i]? = some (.own p' w') → ∃ w'', s[i]? = some (.own p' w'') := fun i p' w' e3 => by
      by_cases h : j = i
      · subst h; rw [List.getElem?_set_self hj] at e3; cases e3; exact ⟨w, e⟩
      · exact ⟨w', oth i p' w' h e3⟩
    obtain ⟨_, f1⟩ := f i p1 u1 e3
    obtain ⟨_, f2⟩ := f l p2 u2 e4
    exact R.inj i l p1 p2 _ _ b f1 f2 e5 e6
  · have nt : ∀ b ps, H b = some (.tbl ps) → b ≠ ad := fun b ps e3 z => by subst z; rw [eo] at e3; cases e3; exact ntb trivial
    have ne : ∀ b φ, H b = some (.ext φ) → b ≠ ad := fun b φ e3 z => by
      subst z
      cases w0 with
      | lst _ => obtain ⟨_, q, _⟩ := q0; rw [q] at e3; cases e3
      | dic _ _ =>
        obtain ⟨_, q, _⟩ := q0
        rcases q with ⟨_, q, _⟩ | ⟨_, q, _⟩ <;> (rw [q] at e3; cases e3)
      | _ => exact q0.elim
    intro t ht
    obtain ⟨ps, h1, h2, h3⟩ := R.tbs t ht
    refine ⟨ps, by rw [upd_ne (nt _ _ h1)]; exact h1, h2, fun ps2 cv hc => ?_⟩
    obtain ⟨cc, e3, e4⟩ := h3 ps2 cv hc
    exact ⟨cc, e3, by rw [upd_ne (ne _ _ e4)]; exact e4⟩
  · by_cases z : b = ad
    · subst z; rw [upd_same]; exact fun z => nomatch z
    · rw [upd_ne z]; exact R.dom b h
/-- the content of the list at a place of the def's own -/
def ownL (s : S) : R → Option (Nat × Bool × List W)
  | .bor j => match s[j]? with
    | some (.own p (.lst ws)) => some (j, p, ws)
    | _ => none
  | _ => none
theorem ownL_ok {j : Nat} {p : Bool} {ws : List W} (R : Rel c P s σ H) (rv : RvR c P s σ H0 H r v) (e : ownL s r = some (j, p, ws)) :
    ∃ ad vs, v = .ref ad ∧ s[j]? = some (.own p (.lst ws)) ∧ σ[j]? = some (some (.ref ad)) ∧ H ad = some (.lst vs) ∧ Reps c.T c.K P H ws vs := by
  unfold ownL at e
  split at e
  · split at e
    · rename_i q
      cases e
      obtain ⟨e1, _⟩ := rv
      obtain ⟨ad, e2, n, vs, q2, rr⟩ := R.own _ _ _ q
      rw [e1] at e2; cases e2
      exact ⟨ad, vs, rfl, q, e1, q2, rr⟩
    · cases e
  · cases e
def isLst : Option W → Bool
  | some (.lst _) => true
  | _ => false
theorem isLst_ok {o : Option W} (h : isLst o = true) : ∃ ws, o = some (.lst ws) := by
  unfold isLst at h
  split at h
  · exact ⟨_, rfl⟩
  · cases h
/-- o.m() of a list of the def's own -/
def eMut0 (g : List W → Option (W × List W)) (fo : SE) : SE := fun s => (fo s).bind fun p => (ofO (ownL p.2 p.1)).bind fun q => (ofO (g q.2.2)).bind fun z => nfLs z.2 fun l => .ok (.fro z.1, p.2.set q.1 (.own q.2.1 (.lst l)))
/-- o.m(e), e for good -/
def eMut1 (g : List W → W → Option (W × List W)) (fo fe : SE) : SE := fun s => (fo s).bind fun p => chk (isLst (val p.2 p.1)) ((fe p.2).bind fun t => (ofO (frz t.2 t.1)).bind fun f => (ofO (ownL f.2 p.1)).bind fun q => nfW f.1 fun w => (ofO (g q.2.2 w)).bind fun z => nfLs z.2 fun l =>
  .ok (.fro z.1, f.2.set q.1 (.own q.2.1 (.lst l))))
theorem Out.ofO {α : Type} {o : Option α} {kk : α → Res (Qs.R × S)} (h : Out c Wx σ P s H Q ((Qs.ofO o).bind kk)) : ∃ x, o = some x ∧ Out c Wx σ P s H Q (kk x) := by
  cases o with
  | none => exact h.elim
  | some x => exact ⟨x, rfl, h⟩
theorem out_chk' {b : Bool} {res : Res (Qs.R × S)} (h : Out c Wx σ P s H Q (chk b res)) : b = true ∧ Out c Wx σ P s H Q res := out_chk h
def appW (ws : List W) (w : W) : Option (W × List W) := guard' (decide (ws.length < lim)) (.non, ws ++ [w])
def extW (ws : List W) : W → Option (W × List W)
  | .lst us => guard' (decide (ws.length + us.length ≤ lim)) (.non, ws ++ us)
  | _ => none
def popW (ws : List W) : Option (W × List W) := (ws[ws.length - 1]?).map fun w => (w, ws.dropLast)
variable {o : Expr} {fo fe : SE}
theorem pe_mut1 {id : String} {nm : Str} {g : List W → W → Option (W × List W)} {rr : V → List V → Hp → VK → Prop} (slot : Slot "list" nm id) (hty : typeOf (.builtin id) = pure (.type "method_descriptor")) (hm : MtR X id rr)
    (hg : ∀ {P : Addr → Prop} {H : Hp} {ws : List W} {w : W} {z : W} {ws' : List W} {ad : Addr} {vs : List V} {v : V} {Q : VK}, g ws w = some (z, ws') → H ad = some (.lst vs) → Reps c.T c.K P H ws vs → Rep c.T c.K P H w v →
      (∀ vs' zv, Reps c.T c.K P H ws' vs' → Rep c.T c.K P H z zv → Q zv (upd H ad (.lst vs'))) → rr (.ref ad) [v] H Q)
    (ho : PE X o (rd c Wx fo)) (he : PE X e (rd c Wx fe)) (hb : attributeBase o nm X.env (eval o X.env) = eval o X.env) (hn : PySem.W.isStarred e = false)
    (hline : (apos.endLine == pos.line) = true) : PE X (.Call (.Attribute o nm apos) [e] [] pos) (rd c Wx (eMut1 g fo fe)) := by
  refine pe_imp (pe_bm PySem.F.plainAttrs_list slot hty hm ho (pa_cons' he pa_nil hn) hb ?_ hline (star_no hn) rfl) fun σ H Q ⟨P, s, R, h⟩ => ?_
  · have : starEach [e] X.env = [(false, eval e X.env)] := star_no hn
    rw [this]; rfl
  · refine rd_sub R StE.refl R h fun P1 r s1 v H1 t1 _ R1 rv h1 => ?_
    obtain ⟨hl, h1⟩ := out_chk h1
    obtain ⟨ws0, e0⟩ := isLst_ok hl
    obtain ⟨ad, vs0, rfl, q0, _⟩ := (rv.view R1 e0).lst
    refine ⟨.inl ⟨rfl, vs0, .of q0⟩, ?_⟩
    refine rd_sub R t1 R1 h1 fun P2 r2 s2 v2 H2 t2 t2' R2 rv2 h2 => ?_
    obtain ⟨f, ef, h2⟩ := Out.ofO h2
    obtain ⟨w, s3⟩ := f
    obtain ⟨P3, t3, R3, rw3, kp3⟩ := frz_ok t2 R2 rv2 ef
    obtain ⟨q, eq, h2⟩ := Out.ofO h2
    obtain ⟨j, p, ws⟩ := q
    have rv3 : RvR c P3 s3 σ H H2 r (.ref ad) := by
      cases r with
      | bor i =>
        obtain ⟨e1, _⟩ := rv
        refine ⟨e1, ?_⟩
        have eq : (match s3[i]? with
          | some (.own p (.lst ws)) => some (i, p, ws)
          | _ => none) = some (j, p, ws) := eq
        split at eq
        · rename_i z; exact ⟨_, by rw [z]; rfl⟩
        · cases eq
      | fro _ => cases eq
      | new _ => cases eq
    obtain ⟨ad', vs, e1, e2, e3, q3, rr3⟩ := ownL_ok R3 rv3 eq
    cases e1
    simp only [nfW_eq, nfLs_eq] at h2
    obtain ⟨zz, ez, h2⟩ := Out.ofO h2
    obtain ⟨z, ws'⟩ := zz
    have h2 := Out.at_ h2 t3 R3
    refine hg ez q3 rr3 rw3 fun vs' zv r' rz => ?_
    obtain ⟨t4, R4⟩ := upd_own R3 e2 e3 r'
    exact h2 zv P3 _ t4 R4 (Rep.mono (Stp.kp R3 t4.toStp) _ _ rz)
theorem pe_append (ho : PE X o (rd c Wx fo)) (he : PE X e (rd c Wx fe)) (hb : attributeBase o "append" X.env (eval o X.env) = eval o X.env) (hn : PySem.W.isStarred e = false)
    (hline : (apos.endLine == pos.line) = true) : PE X (.Call (.Attribute o "append" apos) [e] [] pos) (rd c Wx (eMut1 appW fo fe)) :=
  pe_mut1 PySem.F.slot_list_append PySem.F.type_list_append mt_append (fun {P H ws w z ws' ad vs v Q} e1 q r rv k => by
    obtain ⟨g, e2⟩ := guard'_some e1
    cases e2
    refine ⟨ad, vs, v, rfl, rfl, q, ?_, k (vs ++ [v]) .non (r.app (Reps.cons rv Reps.nil)) (by unfold Rep; rfl)⟩
    rw [← r.length, lim_eq]; exact of_decide_eq_true g) ho he hb hn hline
theorem pe_extend (ho : PE X o (rd c Wx fo)) (he : PE X e (rd c Wx fe)) (hb : attributeBase o "extend" X.env (eval o X.env) = eval o X.env) (hn : PySem.W.isStarred e = false)
    (hline : (apos.endLine == pos.line) = true) : PE X (.Call (.Attribute o "extend" apos) [e] [] pos) (rd c Wx (eMut1 extW fo fe)) :=
  pe_mut1 PySem.F.slot_list_extend PySem.F.type_list_extend mt_extend (fun {P H ws w z ws' ad vs v Q} e1 q r rv k => by
    unfold extW at e1
    split at e1
    · obtain ⟨g, e2⟩ := guard'_some e1
      cases e2
      unfold Rep at rv
      obtain ⟨b, us, rfl, q2, r2⟩ := rv
      refine ⟨ad, b, vs, us, rfl, rfl, q, q2.2, ?_, k (vs ++ us) .non (r.app r2) (by unfold Rep; rfl)⟩
      rw [← r.length, ← r2.length, lim_eq]; exact of_decide_eq_true g
    · cases e1) ho he hb hn hline
/-- o.pop() -/
theorem pe_pop (ho : PE X o (rd c Wx fo)) (hb : attributeBase o "pop" X.env (eval o X.env) = eval o X.env) (hline : (apos.endLine == pos.line) = true) : PE X (.Call (.Attribute o "pop" apos) [] [] pos) (rd c Wx (eMut0 popW fo)) := by
  refine pe_imp (pe_bm0 PySem.F.plainAttrs_list PySem.F.slot_list_pop PySem.F.type_list_pop mt_pop ho hb hline) fun σ H Q ⟨P, s, R, h⟩ => ?_
  refine rd_sub R StE.refl R h fun P1 r s1 v H1 t1 _ R1 rv h1 => ?_
  obtain ⟨q, eq, h1⟩ := Out.ofO h1
  obtain ⟨j, p, ws⟩ := q
  obtain ⟨ad, vs, rfl, e2, e3, q3, rr3⟩ := ownL_ok R1 rv eq
  simp only [nfLs_eq] at h1
  obtain ⟨zz, ez, h1⟩ := Out.ofO h1
  have h1 := Out.at_ h1 t1 R1
  unfold popW at ez
  cases e4 : ws[ws.length - 1]? with
  | none => rw [e4] at ez; cases ez
  | some w =>
    rw [e4] at ez
    cases ez
    obtain ⟨v, e5, rv⟩ := rr3.get e4
    refine ⟨.inl ⟨rfl, vs, .of q3⟩, ad, vs, v, rfl, rfl, q3, by rw [← rr3.length]; exact e5, ?_⟩
    have r' : Reps c.T c.K P1 H1 ws.dropLast vs.dropLast := by
      rw [List.dropLast_eq_take, List.dropLast_eq_take, rr3.length]
      exact rr3.take _
    obtain ⟨t4, R4⟩ := upd_own R1 e2 e3 r'
    exact h1 v P1 _ t4 R4 (Rep.mono (Stp.kp R1 t4.toStp) _ _ rv)
/-- o.pop(i) -/
def popAtW (ws : List W) : W → Option (W × List W)
  | .int i => if decide (-9223372036854775808 ≤ i) && decide (i < 9223372036854775808) then (seqIndex? i ws.length).bind fun k => (ws[k]?).map fun w => (w, ws.eraseIdx k) else none
  | _ => none
theorem Reps.erase {T : Tab} {K : PySem.W.Frag} {P : Addr → Prop} {H : Hp} : ∀ {ws : List W} {vs : List V} (k : Nat), Reps T K P H ws vs → Reps T K P H (ws.eraseIdx k) (vs.eraseIdx k)
  | [], vs, k, h => by unfold Reps at h; subst h; exact Reps.nil
  | w :: ws, vs, k, h => by
    unfold Reps at h
    obtain ⟨v, r, rfl, h1, h2⟩ := h
    cases k with
    | zero => exact h2
    | succ k => exact Reps.cons h1 (Reps.erase k h2)
theorem pe_popAt (ho : PE X o (rd c Wx fo)) (he : PE X e (rd c Wx fe)) (hb : attributeBase o "pop" X.env (eval o X.env) = eval o X.env) (hn : PySem.W.isStarred e = false)
    (hline : (apos.endLine == pos.line) = true) : PE X (.Call (.Attribute o "pop" apos) [e] [] pos) (rd c Wx (eMut1 popAtW fo fe)) :=
  pe_mut1 PySem.F.slot_list_pop PySem.F.type_list_pop mt_popAt (fun {P H ws w z ws' ad vs v Q} e1 q r rv k => by
    unfold popAtW at e1
    split at e1
    · split at e1
      · rename_i g
        rw [Bool.and_eq_true, decide_eq_true_eq, decide_eq_true_eq] at g
        cases es : seqIndex? _ ws.length with
        | none => rw [es] at e1; cases e1
        | some j =>
          rw [es] at e1
          cases ew : ws[j]? with
          | none => simp [ew] at e1
          | some u =>
            simp only [Option.bind_some, ew, Option.map_some, Option.some.injEq, Prod.mk.injEq] at e1
            obtain ⟨rfl, rfl⟩ := e1
            obtain ⟨x, ex, rx⟩ := r.get ew
            unfold Rep at rv
            subst rv
            exact ⟨ad, vs, _, j, x, rfl, rfl, q, by omega, by omega, by rw [← r.length]; exact es, ex, k _ x (r.erase j) rx⟩
      · cases e1
    · cases e1) ho he hb hn hline
end
end Qs
/-! # x[i] = e, x[i] += e, x += e; for -/
namespace Qs
open PySem PySem.Spec PyProof.Rows L2
section
variable {c : Cst} {Wx : WX} {k : Nat} {X : Cx} {P P0 P1 P' : Addr → Prop} {s s' s0 s1 : S} {σ σ0 σ' : L2.St} {H H0 H1 H' : Hp} {Q : VK} {D D' : Ends} {u w z' : W} {r z : R} {x y v : V} {a b e o : Expr} {fa fb fo fi fe : SE} {pos p2 apos : Pos} {ρ : SR}
/-- from a store's start through an expression -/
theorem OutG.exp {Q : L2.St → Hp → Prop} {res : Res (Qs.R × S)} {kk : Qs.R × S → Res S} (t : StE P0 s0 σ H0 P s H) (R : Rel c P s σ H) (h : OutG c Wx ρ σ P0 s0 H0 Q (res.bind kk)) {Z : V → Hp → Prop}
    (hz : ∀ r s1 v P1 H1, StE P0 s0 σ H0 P1 s1 H1 → StE P s σ H P1 s1 H1 → Rel c P1 s1 σ H1 → RvR c P1 s1 σ H0 H1 r v → OutG c Wx ρ σ P0 s0 H0 Q (kk (r, s1)) → Z v H1) : Out c Wx σ P s H Z res := by
  cases res with
  | ok p =>
    obtain ⟨r, s1⟩ := p
    exact fun v P1 H1 t1 R1 rv => hz r s1 v P1 H1 (t.trans t1) t1 R1 (rv.start t) h
  | exc x => exact fun cls d P' H' u xr => h σ cls d P' H' (Sxc.ofS t.toStp u) xr
  | bad => exact h.elim
theorem OutG.ofO {Q : L2.St → Hp → Prop} {α : Type} {o : Option α} {kk : α → Res S} (h : OutG c Wx ρ σ P s H Q ((Qs.ofO o).bind kk)) : ∃ x, o = some x ∧ OutG c Wx ρ σ P s H Q (kk x) := by
  cases o with
  | none => exact h.elim
  | some x => exact ⟨x, rfl, h⟩
def idx (n : Nat) : W → Option Nat
  | .int i => ixN n i
  | _ => none
/-- x[i] = .. for a list of the def's own; the value for good first -/
def gIx (fo fi : SE) : GT := fun r s => (ofO (frz s r)).bind fun f => (fo f.2).bind fun p => (fi p.2).bind fun q => (ofO (ownL q.2 p.1)).bind fun l => (ofO ((val q.2 q.1).bind (idx l.2.2.length))).bind fun j =>
  nfW f.1 fun w => nfLs (l.2.2.set j w) fun y => .ok (q.2.set l.1 (.own l.2.1 (.lst y)))
theorem pg_ix (hK : X.K = c.K) (ho : PE X a (rd c Wx fo)) (hi : PE X b (rd c Wx fi)) (ha : ∀ v, assign (.Subscript a b pos) X.env v = (do
      let ov ← holding [v] (eval a X.env)
      let iv ← holding [v, ov] (eval b X.env)
      standAt pos
      holding [v, ov, iv] (setItem ov iv v)
      release [v, ov, iv] [])) : PG X (.Subscript a b pos) (rdG c Wx ρ (gIx fo fi)) :=
  pg_imp (L2.pg_sub ho hi set_list ha) fun v σ H Q ⟨P0, s0, H0, P, s, r, R0, t, R, rv, h⟩ => by
    obtain ⟨f, ef, h⟩ := OutG.ofO h
    obtain ⟨w, s1⟩ := f
    obtain ⟨P1, t1, R1, rw1, _⟩ := frz_ok t R rv ef
    refine ⟨P1, s1, R1, OutG.exp t1 R1 h fun r2 s2 v2 P2 H2 t2 t2' R2 rv2 h2 => ?_⟩
    refine ⟨P2, s2, R2, OutG.exp t2 R2 h2 fun r3 s3 v3 P3 H3 t3 t3' R3 rv3 h3 => ?_⟩
    obtain ⟨l, el, h3⟩ := OutG.ofO h3
    obtain ⟨j0, p, ws⟩ := l
    obtain ⟨ad, vs, e1, e2, e3, q3, rr3⟩ := ownL_ok R3 (rv2.over R2 t3') el
    obtain ⟨j, ej, h3⟩ := OutG.ofO h3
    cases ev : val s3 r3 with
    | none => rw [ev] at ej; cases ej
    | some iw =>
      rw [ev] at ej
      cases iw with
      | int i =>
        have hi := (rv3.view R3 ev).int
        refine ⟨ad, vs, i, j, e1, hi, q3, by rw [← rr3.length]; exact ej, ?_⟩
        have rw3 := Rep.mono (Stp.kp R2 t3'.toStp) _ _ (Rep.mono (Stp.kp R1 t2'.toStp) _ _ rw1)
        obtain ⟨t4, R4⟩ := upd_own R3 e2 e3 (rr3.set rw3 (i := j))
        simp only [nfW_eq, nfLs_eq] at h3
        exact h3 σ P3 _ (t3.toStp.trans t4.toStp) R4 (ρ.refl σ)
      | _ => cases ej
/-- x[i] op= e, x a list of the def's own, by ints -/
def sAugIx (op : Operator) (fo fi fe : SE) : SS := fun s => (fo s).bind fun p => (fi p.2).bind fun q => match val q.2 p.1, val q.2 q.1 with
  | some (.lst ws0), some (.int i) => match atI ws0 i with
    | some (.int old) => (fe q.2).bind fun t => match val t.2 t.1, ownL t.2 p.1 with
      | some (.int d), some l => match ixN l.2.2.length i, op with
        | some j, .Add => nfI (old + d) fun i => nfLs (l.2.2.set j (.int i)) fun y => .ok (.nx (t.2.set l.1 (.own l.2.1 (.lst y))))
        | some j, .Sub => nfI (old - d) fun i => nfLs (l.2.2.set j (.int i)) fun y => .ok (.nx (t.2.set l.1 (.own l.2.1 (.lst y))))
        | _, _ => .bad
      | _, _ => .bad
    | _ => .bad
  | _, _ => .bad
def rGetL : V → V → Hp → VK → Prop := fun o i H Q => ∃ p xs k v, o = .ref p ∧ i = .int k ∧ H p = some (.lst xs) ∧ atI xs k = some v ∧ Q v H
theorem get_list : PGet X rGetL := by
  intro pins s σ H o i ov iv Q I ro ri h
  obtain ⟨p, xs, k, v, rfl, rfl, hp, hj, q⟩ := h
  cases ro
  obtain ⟨t, rfl⟩ := ri
  obtain ⟨its, rv, pl, hz⟩ := I.list (SqL.of hp)
  have hl := rv.length
  unfold atI at hj
  cases e : ixN xs.length k with
  | none => rw [e] at hj; cases hj
  | some j =>
    rw [e] at hj
    obtain ⟨u, hu, ru⟩ := rv.get hj
    have hs : sizeLine = 16777216 := sizeLine_eq
    obtain ⟨e1, e2, e3, e4⟩ := ixN_seq e
    by_cases h0 : 0 ≤ k
    · have ek : k.toNat = j := by
        unfold ixN at e
        rw [if_pos h0, if_pos e4] at e
        exact Option.some.inj e
      exact wpAny_getItem_list pl.isList h0 (by omega) (x := u) (by rw [ek]; simpa using hu) ⟨v, H, I, ru, q⟩
    · have ek : (k + (xs.length : Int)).toNat = j := by
        unfold ixN at e
        rw [if_neg h0, if_pos e3] at e
        exact Option.some.inj e
      exact wpAny_getItem_list_neg pl.isList (by omega) (by simp; omega) (by omega) (x := u) (by rw [show its.toArray.size = xs.length by simp [hl], ek]; simpa using hu) ⟨v, H, I, ru, q⟩
theorem ps_augIx (op : Operator) (hop : op = .Add ∨ op = .Sub) (ho : PE X a (rd c Wx fo)) (hi : PE X b (rd c Wx fi)) (he : PE X e (rd c Wx fe)) {tpos : Pos}
    (ha : ∀ ov iv new, augStore b ov iv new = (do holding [new, ov, iv] (setItem ov iv new); release [new, ov, iv] []; pure .next)) : PS X (.AugAssign (.Subscript a b tpos) op e pos) (rdS c Wx (sAugIx op fo fi fe)) := by
  have go : ∀ (tip : TIp), PIp X op tip → (∀ (i j : Int) (H : Hp) (Q : VK), Q (.int (if op = .Add then i + j else i - j)) H → tip (.int i) (.int j) H Q) → PS X (.AugAssign (.Subscript a b tpos) op e pos) (rdS c Wx (sAugIx op fo fi fe)) := fun tip hip ht =>
    ps_imp (ps_augS ho hi get_list he hip set_list ha) fun D σ H ⟨P, s, R, h⟩ => ⟨P, s, R, h.exp fun r1 s1 v1 P1 H1 _ t1 R1 rv1 h1 => ⟨P1, s1, R1, (OutS.at_ h1 t1.toStp).exp fun r2 s2 v2 P2 H2 _ t2 R2 rv2 h2 => by
      dsimp only at h2
      split at h2
      · rename_i ws0 i ev1 ev2
        split at h2
        · rename_i old eo
          have v1w := rv1.over R1 t2
          obtain ⟨ad, vs, rfl, q2, rr2⟩ := (v1w.view R2 ev1).lst
          obtain ⟨vo, e5, rvo⟩ := reps_at rr2 eo
          refine ⟨ad, vs, i, vo, rfl, (rv2.view R2 ev2).int, q2, e5, ?_⟩
          unfold Rep at rvo
          subst rvo
          refine ⟨P2, s2, R2, (OutS.at_ h2 t2.toStp).exp fun r3 s3 v3 P3 H3 _ t3 R3 rv3 h3 => ?_⟩
          dsimp only at h3
          split at h3
          · rename_i d l ev3 el
            obtain ⟨j0, p, ws⟩ := l
            obtain ⟨ad', vs3, e6, e7, e8, q3, rr3⟩ := ownL_ok R3 (v1w.over R2 t3) el
            cases e6
            rw [(rv3.view R3 ev3).int]
            refine ht _ _ _ _ ?_
            have h3 := OutS.at_ h3 t3.toStp
            split at h3
            · rename_i j ej _ _
              refine ⟨ad, vs3, i, j, rfl, (rv2.view R2 ev2).int, q3, by rw [← rr3.length]; exact ej, ?_⟩
              obtain ⟨t4, R4⟩ := upd_own R3 e7 e8 (rr3.set (rep_int (c := c) (P := P3) (H := H3) (i := old + d)) (i := j))
              rw [if_pos rfl]
              rw [nfI_eq, nfLs_eq] at h3
              exact h3 σ P3 _ t4.toStp R4
            · rename_i j ej _ _
              refine ⟨ad, vs3, i, j, rfl, (rv2.view R2 ev2).int, q3, by rw [← rr3.length]; exact ej, ?_⟩
              obtain ⟨t4, R4⟩ := upd_own R3 e7 e8 (rr3.set (rep_int (c := c) (P := P3) (H := H3) (i := old - d)) (i := j))
              rw [if_neg (by decide)]
              rw [nfI_eq, nfLs_eq] at h3
              exact h3 σ P3 _ t4.toStp R4
            · exact h3.elim
          · exact h3.elim
        · exact h2.elim
      · exact h2.elim⟩⟩
  rcases hop with rfl | rfl
  · exact go _ ip_add fun i j H Q q => ⟨i, j, rfl, rfl, by rw [if_pos rfl] at q; exact q⟩
  · exact go _ ip_sub fun i j H Q q => ⟨i, j, rfl, rfl, by rw [if_neg (by decide)] at q; exact q⟩
/-- x op= e, a name's int or text -/
def augW : Operator → W → W → Option W
  | .Add, .int i, .int j => some (.int (i + j))
  | .Sub, .int i, .int j => some (.int (i - j))
  | .Add, .str a, .str b => guard' (decide (a.length + b.length ≤ lim)) (.str (a ++ b))
  | _, _, _ => none
theorem augW_add (e : augW .Add u w = some z') : (∃ i j, u = .int i ∧ w = .int j ∧ z' = .int (i + j)) ∨ ∃ a b, u = .str a ∧ w = .str b ∧ z' = .str (a ++ b) ∧ a.length + b.length ≤ lim := by
  cases u <;> cases w <;> first
    | (cases e; done)
    | exact .inl ⟨_, _, rfl, rfl, (Option.some.inj e).symm⟩
    | (obtain ⟨g, e2⟩ := guard'_some e; exact .inr ⟨_, _, rfl, rfl, e2.symm, of_decide_eq_true g⟩)
theorem augW_sub (e : augW .Sub u w = some z') : ∃ i j, u = .int i ∧ w = .int j ∧ z' = .int (i - j) := by
  cases u <;> cases w <;> first
    | (cases e; done)
    | exact ⟨_, _, rfl, rfl, (Option.some.inj e).symm⟩
def sAug (op : Operator) (i : Nat) (fe : SE) : SS := fun s => match s[i]? with
  | some (.fro u) => (fe s).bind fun p => match val p.2 p.1 with
    | some w => (ofO (augW op u w)).bind fun z => nfW z fun z => .ok (.nx (p.2.set i (.fro z)))
    | none => .bad
  | _ => .bad
theorem ps_aug' (op : Operator) (hop : op = .Add ∨ op = .Sub) {i : Nat} {nm : Str} {pos' : Pos} (hN : X.N.Nodup) (hi : X.N[i]? = some nm) (hx : Loc X.env.scope nm) (he : PE X e (rd c Wx fe)) (hf : X.fn nm = true ∨ X.env.scope.names.lookup nm = some .local) :
    PS X (.AugAssign (.Name nm pos') op e pos) (rdS c Wx (sAug op i fe)) := by
  have go : ∀ (tip : TIp), PIp X op tip → (∀ {P H u w z x y Q}, augW op u w = some z → View c P H u x → View c P H w y → (∀ v, Rep c.T c.K P H z v → Q v H) → tip x y H Q) → PS X (.AugAssign (.Name nm pos') op e pos) (rdS c Wx (sAug op i fe)) := fun tip hip ht =>
    ps_imp (ps_aug hN hi hx he hip hf) fun D σ H ⟨P, s, R, h⟩ => by
      unfold sAug at h
      split at h
      · rename_i u eu
        obtain ⟨v0, e0, r0⟩ := R.fro i u eu
        refine ⟨v0, e0, P, s, R, h.exp fun r1 s1 v1 P1 H1 _ t1 R1 rv1 h1 => ?_⟩
        dsimp only at h1
        split at h1
        · rename_i w ew
          cases ea : augW op u w with
          | none => rw [ea] at h1; exact h1.elim
          | some z =>
            rw [ea] at h1
            have r01 := Rep.mono (Stp.kp R t1.toStp) _ _ r0
            refine ht ea r01.view (rv1.view R1 ew) fun v rz => ?_
            have hi2 : i < s1.length := by
              rcases t1.sl i with q | ⟨_, _, q, _⟩
              · rw [eu] at q; exact (List.getElem?_eq_some_iff.mp q).1
              · rw [eu] at q; cases q
            obtain ⟨t2, R2⟩ := set_fro R1 hi2 rz
            simp only [ofO_some, Res.bind_ok, nfW_eq] at h1
            exact h1 _ P1 H1 (t1.toStp.trans t2) R2
        · exact h1.elim
      · exact h.elim
  rcases hop with rfl | rfl
  · refine go (fun x y H Q => ipI (fun i j => i + j) x y H Q ∨ rAddStr x y H Q) (fun pins s σ H x y v u Q I rx ry h => ?_) fun {P H u w z x y Q} e hx hy k => ?_
    · rcases h with h | h
      · exact ip_add pins s σ H x y v u Q I rx ry h
      · exact iop_add_str pins s σ H x y v u Q I rx ry h
    · rcases augW_add e with ⟨i, j, rfl, rfl, rfl⟩ | ⟨a, b, rfl, rfl, rfl, g⟩
      · rw [hx.int, hy.int]
        exact .inl ⟨_, _, rfl, rfl, k _ (rep_int (c := c) (P := P) (H := H))⟩
      · rw [hx.str, hy.str]
        refine .inr ⟨_, _, rfl, rfl, ?_, ?_⟩
        · rw [mkS_len, mkS_len, lim_eq]; exact g
        · rw [mkS_app]; exact k _ (rep_str (c := c) (P := P) (H := H))
  · refine go _ ip_sub fun {P H u w z x y Q} e hx hy k => ?_
    obtain ⟨i, j, rfl, rfl, rfl⟩ := augW_sub e
    rw [hx.int, hy.int]
    exact ⟨_, _, rfl, rfl, k _ (rep_int (c := c) (P := P) (H := H))⟩
end
end Qs
/-! # What is walked; for -/
namespace Qs
open PySem PySem.Spec PyProof.Rows L2
section
variable (c : Cst)
/-- an iterator that gives the trees ws, whatever comes while P and what it holds stand -/
structure Wk (J : It) (ws : List W) (P : Addr → Prop) (H : Hp) : Prop where
  go : ∀ (P2 : Addr → Prop) (H2 : Hp), Kp P P2 H H2 → ∀ (i : Nat) (w : W), ws[i]? = some w → J.go i H2 ∧ ∀ x H3, J.yld i H2 x H3 → (∀ b o, H2 b = some o → H3 b = some o) ∧ Rep c.T c.K P2 H3 w x
  stop : ∀ (P2 : Addr → Prop) (H2 : Hp), Kp P P2 H H2 → ∀ i : Nat, ws.length ≤ i → J.stop i H2
abbrev IE := S → Res (List W × S)
def OutI (Wx : WX) (σ : L2.St) (P : Addr → Prop) (s : S) (H : Hp) (R : It → Hp → Prop) : Res (List W × S) → Prop
  | .ok (ws, s') => ∀ J P' H', StE P s σ H P' s' H' → Rel c P' s' σ H' → Wk c J ws P' H' → R J H'
  | .exc x => PostX c Wx P s σ H x
  | .bad => False
def rdI (Wx : WX) (f : IE) : TI := fun σ H R => ∃ P s, Rel c P s σ H ∧ OutI c Wx σ P s H R (f s)
end
section
variable {c : Cst} {Wx : WX} {k : Nat} {X : Cx} {P P0 P1 P2 P' : Addr → Prop} {s s' s0 s1 : S} {σ σ0 σ' : L2.St} {H H0 H1 H2 H' : Hp} {Q : VK} {D D' : Ends} {u w z' : W} {ws : List W} {vs : List V} {r z : R} {x y v : V} {a b e o tg iter : Expr} {fa fb fo fi fe : SE} {pos p p2 apos : Pos} {ad : Addr}
theorem Kp.trans (k : Kp P P1 H H1) (k2 : Kp P1 P2 H1 H2) : Kp P P2 H H2 := ⟨fun a h => k2.pin a (k.pin a h), fun a o e h => k2.keep a o (k.keep a o e h) (by
  rcases h with h | h
  · exact .inl h
  · exact .inr ⟨k.pin a h.1, h.2⟩)⟩
theorem wk_list (p : P ad) (h : H ad = some (.lst vs)) (r : Reps c.T c.K P H ws vs) : Wk c (Itl c.K ad) ws P H where
  go := fun P2 H2 kp i w e => by
    have h2 : H2 ad = some (.lst vs) := kp.keep _ _ h (.inr ⟨p, fun z => z⟩)
    obtain ⟨v, e2, rv⟩ := (Reps.mono kp _ _ r).get e
    refine ⟨⟨vs, v, .of h2, e2⟩, fun x H3 hy => ?_⟩
    obtain ⟨rfl, hx⟩ := hy
    have := hx vs (.of h2)
    rw [e2] at this; cases this
    exact ⟨fun _ _ e => e, rv⟩
  stop := fun P2 H2 kp i hi => ⟨vs, .of (kp.keep _ _ h (.inr ⟨p, fun z => z⟩)), by rw [← r.length]; exact hi⟩
theorem wk_tup (h : SqT c.K H ad vs) (r : Reps c.T c.K P H ws vs) : Wk c (Itt c.K ad) ws P H where
  go := fun P2 H2 kp i w e => by
    have h2 : SqT c.K H2 ad vs := kp.sqt h
    obtain ⟨v, e2, rv⟩ := (Reps.mono kp _ _ r).get e
    refine ⟨⟨vs, v, h2, e2⟩, fun x H3 hy => ?_⟩
    obtain ⟨rfl, hx⟩ := hy
    have := hx vs h2
    rw [e2] at this; cases this
    exact ⟨fun _ _ e => e, rv⟩
  stop := fun P2 H2 kp i hi => ⟨vs, kp.sqt h, by rw [← r.length]; exact hi⟩
theorem wk_str {l : List Nat} : Wk c (Its (mkS l)) (l.map fun d => .str [d]) P H where
  go := fun P2 H2 kp i w e => by
    rw [List.getElem?_map] at e
    cases q : l[i]? with
    | none => rw [q] at e; cases e
    | some d =>
      rw [q] at e; cases e
      refine ⟨?_, fun x H3 hy => ?_⟩
      · show i < (mkS l).cps.size
        simpa using (List.getElem?_eq_some_iff.mp q).1
      obtain ⟨rfl, d', e2, rfl⟩ := hy
      have e3 : some d = some d' := by rw [← q, ← e2]; simp
      cases e3
      exact ⟨fun _ _ e => e, by unfold Rep; rfl⟩
  stop := fun P2 H2 kp i hi => by
    show (mkS l).cps.size ≤ i
    simpa using hi
/-- lo, lo + c, .. -/
def rngL (lo c : Int) (n : Nat) : List W := (List.range n).map fun i => .int (lo + (i : Nat) * c)
theorem wk_rng {lo d : Int} {n : Nat} {J : It} (hg : ∀ i H, i < n → J.go i H) (hy : ∀ i H x H', J.yld i H x H' → H' = H ∧ x = .int (lo + (i : Nat) * d)) (hs : ∀ i H, n ≤ i → J.stop i H) : Wk c J (rngL lo d n) P H where
  go := fun P2 H2 kp i w e => by
    unfold rngL at e
    rw [List.getElem?_map] at e
    have hi : i < n := by
      cases q : (List.range n)[i]? with
      | none => rw [q] at e; cases e
      | some d => simpa using (List.getElem?_eq_some_iff.mp q).1
    rw [List.getElem?_range hi] at e
    cases e
    refine ⟨hg i H2 hi, fun x H3 h => ?_⟩
    obtain ⟨rfl, rfl⟩ := hy _ _ _ _ h
    exact ⟨fun _ _ e => e, by unfold Rep; rfl⟩
  stop := fun P2 H2 kp i hi => hs i H2 (by simpa [rngL] using hi)
/-- pairs -/
def zipL (us ws : List W) : List W := (us.zip ws).map fun p => .tup [p.1, p.2]
theorem wk_pair {J : It} {us : List W} {xs ys : List V} (hx : Reps c.T c.K P H us xs) (hy : Reps c.T c.K P H ws ys)
    (hg : ∀ P2 H2, Kp P P2 H H2 → ∀ (i : Nat) (x y : V), xs[i]? = some x → ys[i]? = some y → J.go i H2 ∧ ∀ v H3, J.yld i H2 v H3 → ∃ t, v = .ref t ∧ H2 t = none ∧ H3 = upd H2 t (.tup [x, y]))
    (hs : ∀ P2 H2, Kp P P2 H H2 → ∀ i : Nat, xs.length ≤ i ∨ ys.length ≤ i → J.stop i H2) : Wk c J (zipL us ws) P H where
  go := fun P2 H2 kp i w e => by
    unfold zipL at e
    rw [List.getElem?_map] at e
    cases q : (us.zip ws)[i]? with
    | none => rw [q] at e; cases e
    | some pr =>
      rw [q] at e; cases e
      obtain ⟨q1, q2⟩ := List.getElem?_zip_eq_some.mp q
      obtain ⟨x, e1, rx⟩ := (Reps.mono kp _ _ hx).get q1
      obtain ⟨y, e2, ry⟩ := (Reps.mono kp _ _ hy).get q2
      obtain ⟨g1, g2⟩ := hg P2 H2 kp i x y e1 e2
      refine ⟨g1, fun v H3 h => ?_⟩
      obtain ⟨t, rfl, ht, rfl⟩ := g2 v H3 h
      refine ⟨keep_upd ht, rep_tup (.of upd_same) (Reps.cons ?_ (Reps.cons ?_ Reps.nil))⟩
      · exact Rep.mono ⟨fun _ h => h, fun a o q _ => keep_upd ht a o q⟩ _ _ rx
      · exact Rep.mono ⟨fun _ h => h, fun a o q _ => keep_upd ht a o q⟩ _ _ ry
  stop := fun P2 H2 kp i hi => hs P2 H2 kp i (by
    have e : (zipL us ws).length = min us.length ws.length := by simp [zipL]
    rw [e, hx.length, hy.length] at hi
    omega)
/-! ### sources -/
theorem pi_imp {t t' : TI} (h : PI X tg iter t) (k : ∀ σ H R, t' σ H R → t σ H R) : PI X tg iter t' := ⟨fun pins s σ H R I hq => h.run pins s σ H R I (k σ H R hq)⟩
theorem PI.or {t t' : TI} (h : PI X tg iter t) (h' : PI X tg iter t') : PI X tg iter (fun σ H R => t σ H R ∨ t' σ H R) := ⟨fun pins s σ H R I hq => by
  rcases hq with hq | hq
  · exact h.run pins s σ H R I hq
  · exact h'.run pins s σ H R I hq⟩
/-- an expression's items -/
def iterV : W → Option (List W)
  | .lst ws => some ws
  | .tup ws => some ws
  | .str l => some (l.map fun d => .str [d])
  | _ => none
def iVal (f : SE) : IE := fun s => (f s).bind fun p => (ofO (frz p.2 p.1)).bind fun q => (ofO (iterV q.1)).bind fun ws => .ok (ws, q.2)
theorem OutI.at_ {R : It → Hp → Prop} {res : Res (List W × S)} (h : OutI c Wx σ P0 s0 H0 R res) (t : StE P0 s0 σ H0 P s H) (Rl : Rel c P s σ H) : OutI c Wx σ P s H R res := by
  cases res with
  | ok p => obtain ⟨ws, s'⟩ := p; exact fun J P' H' t' R' wk => h J P' H' (t.trans t') R' wk
  | exc x => exact Sxc.of t.toStp Rl h
  | bad => exact h
theorem OutI.ofO {R : It → Hp → Prop} {α : Type} {o : Option α} {kk : α → Res (List W × S)} (h : OutI c Wx σ P s H R ((Qs.ofO o).bind kk)) : ∃ x, o = some x ∧ OutI c Wx σ P s H R (kk x) := by
  cases o with
  | none => exact h.elim
  | some x => exact ⟨x, rfl, h⟩
theorem pi_val (hK : X.K = c.K) (he : PE X e (rd c Wx fa)) : PI X tg e (rdI c Wx (iVal fa)) :=
  pi_imp (PI.or (PI.or (pi_list he) (pi_tup he)) (pi_str he)) fun σ H R ⟨P, s, Rl, h⟩ => by
    unfold iVal at h
    cases e1 : fa s with
    | exc x =>
      rw [e1] at h
      refine .inl (.inl ⟨P, s, Rl, ?_⟩)
      rw [e1]; exact h
    | bad => rw [e1] at h; exact h.elim
    | ok p =>
      obtain ⟨r, s1⟩ := p
      rw [e1] at h
      obtain ⟨f, ef, h⟩ := OutI.ofO h
      obtain ⟨w, s2⟩ := f
      obtain ⟨ws, ew, h⟩ := OutI.ofO h
      cases w with
      | lst us =>
        cases ew
        refine .inl (.inl ⟨P, s, Rl, ?_⟩)
        rw [e1]
        intro v P1 H1 t1 R1 rv
        obtain ⟨P2, t2, R2, rw2, kp⟩ := frz_ok t1 R1 rv ef
        unfold Rep at rw2
        obtain ⟨ad, vs, rfl, q, rr⟩ := rw2
        exact ⟨ad, rfl, ⟨vs, .of q.2⟩, h _ P2 H1 t2 R2 (by rw [hK]; exact wk_list q.1 q.2 rr)⟩
      | tup us =>
        cases ew
        refine .inl (.inr ⟨P, s, Rl, ?_⟩)
        rw [e1]
        intro v P1 H1 t1 R1 rv
        obtain ⟨P2, t2, R2, rw2, kp⟩ := frz_ok t1 R1 rv ef
        unfold Rep at rw2
        obtain ⟨ad, vs, rfl, q, rr⟩ := rw2
        exact ⟨ad, rfl, ⟨vs, by rw [hK]; exact q⟩, h _ P2 H1 t2 R2 (by rw [hK]; exact wk_tup q rr)⟩
      | str l =>
        cases ew
        refine .inr ⟨P, s, Rl, ?_⟩
        rw [e1]
        intro v P1 H1 t1 R1 rv
        obtain ⟨P2, t2, R2, rw2, kp⟩ := frz_ok t1 R1 rv ef
        unfold Rep at rw2
        exact ⟨mkS l, rw2, h _ P2 H1 t2 R2 wk_str⟩
      | _ => cases ew
/-- by the values of the arguments -/
def iArgs (g : List W → Option (List W)) (fs : List SE) : IE := bindI (fs.map fun f => (false, f)) fun us s => (ofO (g us)).bind fun ws => .ok (ws, s)
theorem Tail.outI {R : It → Hp → Prop} : Tail c Wx σ P0 s0 H0 (OutI c Wx σ P0 s0 H0 R) := ⟨fun _ h => h, fun h => h⟩
theorem tItems_args : ∀ (fs : List SE) (σ : L2.St) (H : Hp) (Z : List V → Hp → Prop), tItems c Wx (fs.map fun f => (false, f)) σ H Z = tArgs c Wx fs σ H Z
  | [], _, _, _ => rfl
  | f :: fs, σ, H, Z => by
    show tCons (rd c Wx f) (tItems c Wx (fs.map fun f => (false, f))) σ H Z = tCons (rd c Wx f) (tArgs c Wx fs) σ H Z
    unfold tCons
    congr 1
    funext x H1
    exact tItems_args fs σ H1 _
theorem rd_iargs {g : List W → Option (List W)} {fs : List SE} {R : It → Hp → Prop} {Z : List V → Hp → Prop} (h : rdI c Wx (iArgs g fs) σ H R)
    (hz : ∀ P us ws xs H1, Reps c.T c.K P H1 us xs → g us = some ws → (∀ J, Wk c J ws P H1 → R J H1) → Z xs H1) : tArgs c Wx fs σ H Z := by
  obtain ⟨P0, s0, R0, h⟩ := h
  rw [← tItems_args]
  have q := items_auxT (Tail.outI (R := R)) (fs.map fun f => (false, f)) (fun us s => (ofO (g us)).bind fun ws => .ok (ws, s)) Z P0 s0 H [] [] R0 StE.refl R0 Reps.nil (by simpa [iArgs] using h)
    (fun P s us xs H1 t R1 ra h1 => by
      obtain ⟨ws, eg, h1⟩ := OutI.ofO h1
      exact hz P us ws xs H1 ra eg fun J wk => h1 J P H1 t R1 wk)
  simpa using q
theorem star_all : ∀ {es : List Expr} {env : Env}, es.all (fun e => !PySem.W.isStarred e) = true → starEach es env = es.map fun e => (false, eval e env)
  | [], _, _ => rfl
  | e :: es, env, h => by
    rw [List.all_cons, Bool.and_eq_true, Bool.not_eq_true'] at h
    rw [star_no h.1, star_all h.2]; rfl
theorem star_any {es : List Expr} {env : Env} {pos : Pos} (h : es.all (fun e => !PySem.W.isStarred e) = true) : (backTo pos (starEach es env)).any (·.1) = false := by
  rw [star_all h]
  unfold backTo
  rw [List.map_map]
  simp
theorem paired_reps {us : List W} {xs : List V} (r : Reps c.T c.K P H us xs) : us.length = xs.length := r.length
theorem reps1 {w : W} {xs : List V} (r : Reps c.T c.K P H [w] xs) : ∃ x, xs = [x] ∧ Rep c.T c.K P H w x := by
  unfold Reps at r
  obtain ⟨x, r', e, h1, h2⟩ := r
  unfold Reps at h2
  subst h2
  exact ⟨x, e, h1⟩
theorem reps2 {w w2 : W} {xs : List V} (r : Reps c.T c.K P H [w, w2] xs) : ∃ x y, xs = [x, y] ∧ Rep c.T c.K P H w x ∧ Rep c.T c.K P H w2 y := by
  unfold Reps at r
  obtain ⟨x, r', e, h1, h2⟩ := r
  obtain ⟨y, e2, h3⟩ := reps1 h2
  subst e2
  exact ⟨x, y, e, h1, h3⟩
theorem reps3 {w w2 w3 : W} {xs : List V} (r : Reps c.T c.K P H [w, w2, w3] xs) : ∃ x y z, xs = [x, y, z] ∧ Rep c.T c.K P H w x ∧ Rep c.T c.K P H w2 y ∧ Rep c.T c.K P H w3 z := by
  unfold Reps at r
  obtain ⟨x, r', e, h1, h2⟩ := r
  obtain ⟨y, z, e2, h3, h4⟩ := reps2 h2
  subst e2
  exact ⟨x, y, z, e, h1, h3, h4⟩
theorem Rep.int {i : Int} (h : Rep c.T c.K P H (.int i) x) : x = .int i := by unfold Rep at h; exact h
def inR (i : Int) : Bool := decide (-4611686018427387904 ≤ i) && decide (i < 4611686018427387904)
theorem inR_ok {i : Int} (h : inR i = true) : -(2 ^ 62) ≤ i ∧ i < 2 ^ 62 := by
  unfold inR at h
  simp only [Bool.and_eq_true, decide_eq_true_eq] at h
  exact ⟨by omega, by omega⟩
def rng1 : List W → Option (List W)
  | [.int j] => guard' (inR j) (rngL 0 1 j.toNat)
  | _ => none
def rng2 : List W → Option (List W)
  | [.int i, .int j] => guard' (inR i && inR j) (rngL i 1 (j - i).toNat)
  | _ => none
/-- downward by ones -/
def rng3 : List W → Option (List W)
  | [.int i, .int j, .int d] => guard' (inR i && inR j && decide (d = -1)) (rngL i (-1) (i - j).toNat)
  | _ => none
theorem pi_rng1 (na : PySem.W.isStarred a = false) (hg : Gl X "range") (hm : X.mg "range" = none) (ha : PA X [a] (tArgs c Wx [fa])) : PI X tg (.Call (.Name "range" p) [a] [] pos) (rdI c Wx (iArgs rng1 [fa])) :=
  pi_imp (pi_range1 hg hm ha (star_no na)) fun σ H R h => rd_iargs h fun P us ws xs H1 ra eg k => by
    unfold rng1 at eg
    split at eg
    · rename_i j
      obtain ⟨g, rfl⟩ := guard'_some eg
      obtain ⟨x, rfl, rx⟩ := reps1 ra
      obtain ⟨g1, g2⟩ := inR_ok g
      refine ⟨j, by rw [rx.int], g1, g2, k _ (wk_rng (fun i H h => h) (fun i H x H' h => ?_) (fun i H h => h))⟩
      obtain ⟨rfl, rfl⟩ := h
      exact ⟨rfl, by simp⟩
    · cases eg
theorem pi_rng2 (na : PySem.W.isStarred a = false) (nb : PySem.W.isStarred b = false) (hg : Gl X "range") (hm : X.mg "range" = none) (ha : PA X [a, b] (tArgs c Wx [fa, fb])) : PI X tg (.Call (.Name "range" p) [a, b] [] pos) (rdI c Wx (iArgs rng2 [fa, fb])) :=
  pi_imp (pi_range2 hg hm ha (by rw [star_no na, star_no nb]; rfl) (star_no nb)) fun σ H R h => rd_iargs h fun P us ws xs H1 ra eg k => by
    unfold rng2 at eg
    split at eg
    · rename_i i j
      obtain ⟨g, rfl⟩ := guard'_some eg
      rw [Bool.and_eq_true] at g
      obtain ⟨x, y, rfl, rx, ry⟩ := reps2 ra
      obtain ⟨g1, g2⟩ := inR_ok g.1
      obtain ⟨g3, g4⟩ := inR_ok g.2
      refine ⟨i, j, by rw [rx.int, ry.int], ⟨g1, g2, g3, g4⟩, k _ (wk_rng (fun i H h => h) (fun i H x H' h => ?_) (fun i H h => h))⟩
      obtain ⟨rfl, rfl⟩ := h
      exact ⟨rfl, by simp⟩
    · cases eg
theorem pi_rng3 (na : PySem.W.isStarred a = false) (nb : PySem.W.isStarred b = false) (ne : PySem.W.isStarred e = false) (hg : Gl X "range") (hm : X.mg "range" = none) (ha : PA X [a, b, e] (tArgs c Wx [fa, fb, fe])) : PI X tg (.Call (.Name "range" p) [a, b, e] [] pos) (rdI c Wx (iArgs rng3 [fa, fb, fe])) :=
  pi_imp (pi_range3 hg hm ha (star_no na) (star_any (by simp [nb, ne]))) fun σ H R h => rd_iargs h fun P us ws xs H1 ra eg k => by
    unfold rng3 at eg
    split at eg
    · rename_i i j d
      obtain ⟨g, rfl⟩ := guard'_some eg
      simp only [Bool.and_eq_true, decide_eq_true_eq] at g
      obtain ⟨⟨g0, g5⟩, rfl⟩ := g
      obtain ⟨x, y, z, rfl, rx, ry, rz⟩ := reps3 ra
      obtain ⟨g1, g2⟩ := inR_ok g0
      obtain ⟨g3, g4⟩ := inR_ok g5
      exact ⟨i, j, -1, (i - j).toNat, by rw [rx.int, ry.int, rz.int], RgC.neg g1 g2 g3 g4, k _ (wk_rng (fun i H h => h) (fun i H x H' h => h) (fun i H h => h))⟩
    · cases eg
/-- zip of two lists, of two tuples -/
def zipW : List W → Option (List W)
  | [.lst us, .lst ws] => some (zipL us ws)
  | [.tup us, .tup ws] => some (zipL us ws)
  | _ => none
theorem pi_zip' {elts : List Expr} {kk : Nat} {tpos : Pos} (na : PySem.W.isStarred a = false) (nb : PySem.W.isStarred b = false) (hK : X.K = c.K) (hg : Gl X "zip") (hm : X.mg "zip" = none) (ha : PA X [a, b] (tArgs c Wx [fa, fb])) :
    PI X (.Tuple elts kk tpos) (.Call (.Name "zip" p) [a, b] [] pos) (rdI c Wx (iArgs zipW [fa, fb])) :=
  pi_imp (RZ.pi_zipA hg hm ha (star_no na) (star_any (by simp [nb]))) fun σ H R h => rd_iargs h fun P us ws xs H1 ra eg k => by
    unfold zipW at eg
    split at eg
    · cases eg
      obtain ⟨x, y, rfl, rx, ry⟩ := reps2 ra
      unfold Rep at rx ry
      obtain ⟨ax, vx, rfl, qx, rx⟩ := rx
      obtain ⟨ay, vy, rfl, qy, ry⟩ := ry
      rw [hK]
      refine ⟨ax, ay, vx, vy, rfl, .inl ⟨.of qx.2, .of qy.2, k _ (wk_pair rx ry (fun P2 H2 kp i x y e1 e2 => ?_) fun P2 H2 kp i hi => ?_)⟩⟩
      · have h1 : H2 ax = some (.lst vx) := kp.keep _ _ qx.2 (.inr ⟨qx.1, fun z => z⟩)
        have h2 : H2 ay = some (.lst vy) := kp.keep _ _ qy.2 (.inr ⟨qy.1, fun z => z⟩)
        refine ⟨⟨vx, vy, x, y, .of h1, .of h2, e1, e2⟩, fun v H3 hy => ?_⟩
        obtain ⟨t, x', y', rfl, ht, rfl, k1, k2⟩ := hy
        have := k1 vx (.of h1)
        rw [e1] at this; cases this
        have := k2 vy (.of h2)
        rw [e2] at this; cases this
        exact ⟨t, rfl, ht, rfl⟩
      · exact ⟨vx, vy, .of (kp.keep _ _ qx.2 (.inr ⟨qx.1, fun z => z⟩)), .of (kp.keep _ _ qy.2 (.inr ⟨qy.1, fun z => z⟩)), hi⟩
    · cases eg
      obtain ⟨x, y, rfl, rx, ry⟩ := reps2 ra
      unfold Rep at rx ry
      obtain ⟨ax, vx, rfl, qx, rx⟩ := rx
      obtain ⟨ay, vy, rfl, qy, ry⟩ := ry
      rw [hK]
      refine ⟨ax, ay, vx, vy, rfl, .inr ⟨qx, qy, k _ (wk_pair rx ry (fun P2 H2 kp i x y e1 e2 => ?_) fun P2 H2 kp i hi => ?_)⟩⟩
      · have h1 : SqT c.K H2 ax vx := kp.sqt qx
        have h2 : SqT c.K H2 ay vy := kp.sqt qy
        refine ⟨⟨vx, vy, x, y, h1, h2, e1, e2⟩, fun v H3 hy => ?_⟩
        obtain ⟨t, x', y', rfl, ht, rfl, k1, k2⟩ := hy
        have := k1 vx h1
        rw [e1] at this; cases this
        have := k2 vy h2
        rw [e2] at this; cases this
        exact ⟨t, rfl, ht, rfl⟩
      · exact ⟨vx, vy, kp.sqt qx, kp.sqt qy, hi⟩
    · cases eg
/-- enumerate of a list -/
def numL (ws : List W) : List W := zipL (rngL 0 1 ws.length) ws
def enumW : List W → Option (List W)
  | [.lst ws] => some (numL ws)
  | _ => none
theorem reps_rng {n : Nat} : Reps c.T c.K P H (rngL 0 1 n) ((List.range n).map fun i => V.int ((i : Nat) : Int)) := by
  unfold rngL
  induction (List.range n) with
  | nil => exact Reps.nil
  | cons i r ih =>
    rw [List.map_cons, List.map_cons]
    exact Reps.cons (by unfold Rep; simp) ih
theorem pi_enum' {elts : List Expr} {kk : Nat} {tpos : Pos} (na : PySem.W.isStarred a = false) (hK : X.K = c.K) (hg : Gl X "enumerate") (hm : X.mg "enumerate" = none) (ha : PA X [a] (tArgs c Wx [fa])) :
    PI X (.Tuple elts kk tpos) (.Call (.Name "enumerate" p) [a] [] pos) (rdI c Wx (iArgs enumW [fa])) :=
  pi_imp (pi_enum hg hm ha (star_no na)) fun σ H R h => rd_iargs h fun P us ws xs H1 ra eg k => by
    unfold enumW at eg
    split at eg
    · rename_i us'
      cases eg
      obtain ⟨x, rfl, rx⟩ := reps1 ra
      unfold Rep at rx
      obtain ⟨ax, vx, rfl, qx, rx⟩ := rx
      rw [hK]
      refine ⟨ax, vx, rfl, .of qx.2, k _ (wk_pair reps_rng rx (fun P2 H2 kp i x y e1 e2 => ?_) fun P2 H2 kp i hi => ?_)⟩
      · have h1 : H2 ax = some (.lst vx) := kp.keep _ _ qx.2 (.inr ⟨qx.1, fun z => z⟩)
        refine ⟨⟨vx, y, .of h1, e2⟩, fun v H3 hy => ?_⟩
        obtain ⟨t, x', rfl, ht, rfl, k1⟩ := hy
        have := k1 vx (.of h1)
        rw [e2] at this; cases this
        have hx : x = V.int ((i : Nat) : Int) := by
          have hi : i < us'.length := by rw [rx.length]; exact (List.getElem?_eq_some_iff.mp e2).1
          rw [List.getElem?_map, List.getElem?_range hi] at e1
          exact (Option.some.inj e1).symm
        subst hx
        exact ⟨t, rfl, ht, rfl⟩
      · refine ⟨vx, .of (kp.keep _ _ qx.2 (.inr ⟨qx.1, fun z => z⟩)), ?_⟩
        rcases hi with hi | hi
        · have hi : us'.length ≤ i := by simpa using hi
          rw [← rx.length]; exact hi
        · exact hi
    · cases eg
/-! ### for -/
def forL (g : GT) (fb : SS) : List W → SS
  | [], s => .ok (.nx s)
  | w :: ws, s => (g (.fro w) s).bind fun s1 => (fb s1).bind fun
    | .nx s2 => forL g fb ws s2
    | .ct s2 => forL g fb ws s2
    | .bk s2 => .ok (.nx s2)
    | .rt r s2 => .ok (.rt r s2)
def sFor (fi : IE) (g : GT) (fb : SS) : SS := fun s => (fi s).bind fun p => forL g fb p.1 p.2
theorem ps_for' {body : List Stmt} {g : GT} {fb : SS} {fi : IE} (hp : PassesOwn (model X.prog X.w) X.A X.env X.xe) (hc : X.calm = true) (hi : PI X tg iter (rdI c Wx fi)) (hg : PG X tg (rdG c Wx sr0 g)) (hb : PSs X body (rdS c Wx fb))
    (hs : ∀ x, foldedSetIterable iter X.env x = pure x) : PS X (.For tg iter body [] pos) (rdS c Wx (sFor fi g fb)) :=
  ps_imp (ps_for hp hc hi hg hb hs) fun D σ H ⟨P, s, R, h⟩ => by
    refine ⟨P, s, R, ?_⟩
    unfold sFor at h
    cases e : fi s with
    | exc x => rw [e] at h; exact fun cls d P' H' u xr => h σ cls d P' H' u xr
    | bad => rw [e] at h; exact h.elim
    | ok pr =>
      obtain ⟨ws0, s1⟩ := pr
      rw [e] at h
      intro J P1 H1 t1 R1 wk
      have h1 := OutS.at_ h t1.toStp
      refine ⟨fun i m σ2 H2 => ∃ P2 s2, m = (ws0.drop i).length ∧ Kp P1 P2 H1 H2 ∧ Rel c P2 s2 σ2 H2 ∧ OutS c Wx σ2 P2 s2 H2 D (forL g fb (ws0.drop i) s2), ⟨_, P1, s1, rfl, Kp.refl, R1, h1⟩, ?_⟩
      rintro i m σ2 H2 ⟨P2, s2, rfl, kp, R2, h2⟩
      cases q : ws0.drop i with
      | nil =>
        rw [q] at h2
        refine .inl ⟨wk.stop P2 H2 kp i (List.drop_eq_nil_iff.mp q), h2 σ2 P2 H2 Stp.refl R2⟩
      | cons w ws =>
        rw [q] at h2
        have ew : ws0[i]? = some w := by
          have := List.getElem?_drop (xs := ws0) (i := i) (j := 0)
          rw [q] at this
          simpa using this.symm
        have ed : ws0.drop (i + 1) = ws := by rw [← List.drop_drop, q]; rfl
        obtain ⟨g1, g2⟩ := wk.go P2 H2 kp i w ew
        refine .inr ⟨g1, fun σ' H' => ∃ P3 s3, Kp P1 P3 H1 H' ∧ Rel c P3 s3 σ' H' ∧ OutS c Wx σ' P3 s3 H' D (forL g fb ws s3), fun σ' H' ⟨P3, s3, k3, R3, h3⟩ => ⟨ws.length, by simp, P3, s3, by rw [ed], k3, R3, by rw [ed]; exact h3⟩, fun x H' hy => ?_⟩
        obtain ⟨ke, rx⟩ := g2 x H' hy
        have R2' := R2.more ke
        have t2' : Stp P2 s2 σ2 H2 P2 s2 σ2 H' := (Stp.more ke).toStp
        refine rdG_fro R2' rx ?_
        unfold forL at h2
        have h2 := OutS.at_ h2 t2'
        have kp' : Kp P1 P2 H1 H' := kp.trans ⟨fun _ h => h, fun a o e _ => ke a o e⟩
        cases eg : g (.fro w) s2 with
        | ok s3 =>
          rw [eg] at h2
          intro σ3 P3 H3 t3 R3 _
          refine ⟨P3, s3, R3, ?_⟩
          have h3 := OutS.at_ h2 t3
          have k3 : Kp P1 P3 H1 H3 := kp'.trans (Stp.kp R2' t3)
          dsimp only [Res.bind_ok] at h3
          cases ef : fb s3 with
          | ok fl =>
            rw [ef] at h3
            cases fl with
            | nx s4 => exact fun σ4 P4 H4 t4 R4 => ⟨P4, s4, k3.trans (Stp.kp R3 t4), R4, OutS.at_ h3 t4⟩
            | ct s4 => exact fun σ4 P4 H4 t4 R4 => ⟨P4, s4, k3.trans (Stp.kp R3 t4), R4, OutS.at_ h3 t4⟩
            | bk s4 => exact h3
            | rt r s4 => exact h3
          | exc x => rw [ef] at h3; exact h3
          | bad => rw [ef] at h3; exact h3.elim
        | exc x => rw [eg] at h2; exact h2
        | bad => rw [eg] at h2; exact h2.elim
end
end Qs
/-! # List comprehensions -/
namespace Qs
open PySem PySem.Spec PyProof.Rows L2
section
variable {c : Cst} {Wx Wb : WX} {k : Nat} {X : Cx} {P P0 P1 P2 PB P' : Addr → Prop} {s s' s0 s1 sF sN : S} {σ σ0 σ' : L2.St} {H H0 H1 H2 H' : Hp} {Q : VK} {u w : W} {ws wsF : List W} {vs : List Nat} {r z : R} {x y v : V} {a b e tg iter : Expr} {ft fe : SE} {fi : IE} {g : GT} {pos p p2 : Pos} {D : Addr}
/-! ### the block's own names -/
def wipeS (s : S) (vs : List Nat) : S := go 0 s
where go : Nat → S → S
  | _, [] => []
  | i, x :: xs => (if vs.contains i then .un else x) :: go (i + 1) xs
theorem wipeS_go : ∀ (s : S) (k i : Nat), (wipeS.go vs k s)[i]? = (s[i]?).map fun x => if vs.contains (k + i) then .un else x
  | [], _, _ => by simp [wipeS.go]
  | x :: xs, k, 0 => by simp [wipeS.go]
  | x :: xs, k, i + 1 => by
    have := wipeS_go xs (k + 1) i
    simp only [wipeS.go, List.getElem?_cons_succ, this]
    rw [show k + 1 + i = k + (i + 1) by omega]
theorem wipeS_get {i : Nat} : (wipeS s vs)[i]? = (s[i]?).map fun x => if vs.contains i then .un else x := by
  unfold wipeS
  rw [wipeS_go]; simp
theorem wipeS_go_len : ∀ (s : S) (k : Nat), (wipeS.go vs k s).length = s.length
  | [], _ => rfl
  | x :: xs, k => by simp [wipeS.go, wipeS_go_len xs]
theorem wipeS_len : (wipeS s vs).length = s.length := wipeS_go_len s 0
theorem wipeS_some {i : Nat} {x : Sl} (h : (wipeS s vs)[i]? = some x) (hx : x ≠ .un) : s[i]? = some x ∧ i ∉ vs := by
  rw [wipeS_get] at h
  cases e : s[i]? with
  | none => rw [e] at h; cases h
  | some y =>
    rw [e] at h
    simp only [Option.map_some, Option.some.injEq] at h
    split at h
    · exact absurd h.symm hx
    · rename_i q
      subst h
      exact ⟨rfl, fun m => q (by simpa using m)⟩
theorem wipe_in {i : Nat} {o : Option V} : ∀ {vs : List Nat}, (wipe σ vs)[i]? = some o → i ∈ vs → o = none
  | [], _, m => by cases m
  | v :: vs, h, m => by
    unfold wipe at h
    by_cases e : v = i
    · subst e
      have hl : v < (wipe σ vs).length := by
        have := (List.getElem?_eq_some_iff.mp h).1
        rwa [List.length_set] at this
      rw [List.getElem?_set_self hl] at h
      exact (Option.some.inj h).symm
    · rw [List.getElem?_set_ne e] at h
      rcases List.mem_cons.mp m with m | m
      · exact absurd m.symm e
      · exact wipe_in h m
theorem wipe_wipe : wipe (wipe σ vs) vs = wipe σ vs := by
  apply List.ext_getElem?
  intro i
  by_cases hm : i ∈ vs
  · by_cases hl : i < σ.length
    · have h1 : i < (wipe (wipe σ vs) vs).length := by rw [wipe_length, wipe_length]; exact hl
      have h2 : i < (wipe σ vs).length := by rw [wipe_length]; exact hl
      have e1 := wipe_in (List.getElem?_eq_getElem h1) hm
      have e2 := wipe_in (List.getElem?_eq_getElem h2) hm
      rw [List.getElem?_eq_getElem h1, List.getElem?_eq_getElem h2, e1, e2]
    · rw [List.getElem?_eq_none (by rw [wipe_length, wipe_length]; omega), List.getElem?_eq_none (by rw [wipe_length]; omega)]
  · rw [wipe_out hm]
theorem wipe_set {i : Nat} (hi : i ∈ vs) (o : Option V) : wipe (σ.set i o) vs = wipe σ vs := by
  apply List.ext_getElem?
  intro j
  by_cases hm : j ∈ vs
  · by_cases hl : j < σ.length
    · have h1 : j < (wipe (σ.set i o) vs).length := by rw [wipe_length, List.length_set]; exact hl
      have h2 : j < (wipe σ vs).length := by rw [wipe_length]; exact hl
      have e1 := wipe_in (List.getElem?_eq_getElem h1) hm
      have e2 := wipe_in (List.getElem?_eq_getElem h2) hm
      rw [List.getElem?_eq_getElem h1, List.getElem?_eq_getElem h2, e1, e2]
    · rw [List.getElem?_eq_none (by rw [wipe_length, List.length_set]; omega), List.getElem?_eq_none (by rw [wipe_length]; omega)]
  · rw [wipe_out hm, wipe_out hm, List.getElem?_set_ne (fun (e : i = j) => hm (by subst e; exact hi))]
/-- what is told of a store into the block's names -/
def srW (vs : List Nat) : SR := ⟨fun σ σ' => wipe σ' vs = wipe σ vs, fun _ => rfl, fun h h' => h'.trans h⟩
theorem Own.wiped (h : Own (wipeS s vs) (wipe σ vs) D) : ∃ (i : Nat) (p : Bool) (w : W), i ∉ vs ∧ s[i]? = some (Sl.own p w) ∧ σ[i]? = some (some (V.ref D)) := by
  obtain ⟨i, p, w, e, e2⟩ := h
  obtain ⟨e3, n⟩ := wipeS_some e (fun z => nomatch z)
  rw [wipe_out n] at e2
  exact ⟨i, p, w, n, e3, e2⟩
theorem Own.ofW (h : Own (wipeS s vs) (wipe σ vs) D) : Own s σ D := by
  obtain ⟨i, p, w, _, e, e2⟩ := h.wiped
  exact ⟨i, p, w, e, e2⟩
theorem rel_wipe (R : Rel c P s σ H) : Stp P s σ H P (wipeS s vs) (wipe σ vs) H ∧ Rel c P (wipeS s vs) (wipe σ vs) H := by
  refine ⟨⟨fun _ _ e _ _ => e, fun _ e => e, fun _ e => e, fun _ e => .inl e, fun a h => .inl h.ofW, fun i w e => ?_⟩, ⟨by rw [wipeS_len, wipe_length]; exact R.len, fun i w e => ?_, fun i p w e => ?_, fun i j p q u w a e1 e2 e3 e4 => ?_, R.tbs, R.dom⟩⟩
  · obtain ⟨e1, n⟩ := wipeS_some e (fun z => nomatch z)
    exact ⟨⟨w, e1⟩, wipe_out n⟩
  · obtain ⟨e1, n⟩ := wipeS_some e (fun z => nomatch z)
    rw [wipe_out n]
    exact R.fro i w e1
  · obtain ⟨e1, n⟩ := wipeS_some e (fun z => nomatch z)
    rw [wipe_out n]
    exact R.own i p w e1
  · obtain ⟨e1, n1⟩ := wipeS_some e1 (fun z => nomatch z)
    obtain ⟨e2, n2⟩ := wipeS_some e2 (fun z => nomatch z)
    rw [wipe_out n1] at e3
    rw [wipe_out n2] at e4
    exact R.inj i j p q u w a e1 e2 e3 e4
/-- a slot behind a block -/
def backSl : Sl → Sl → Option Sl
  | .own true _, .own true w => some (.own true w)
  | .own false _, .own false w => some (.own false w)
  | .own _ _, .fro w => some (.fro w)
  | .own _ _, _ => none
  | x, _ => some x
def backS (vs : List Nat) : Nat → S → S → Option S
  | _, [], [] => some []
  | k, x :: xs, y :: ys => (if vs.contains k then some x else backSl x y).bind fun z => (backS vs (k + 1) xs ys).map (z :: ·)
  | _, _, _ => none
theorem backS_get : ∀ {s sF sN : S} {k i : Nat} {z : Sl}, backS vs k s sF = some sN → sN[i]? = some z → ∃ x y, s[i]? = some x ∧ sF[i]? = some y ∧ ((k + i ∈ vs ∧ z = x) ∨ (k + i ∉ vs ∧ backSl x y = some z))
  | [], [], sN, k, i, z, h, e => by cases h; cases e
  | [], _ :: _, sN, k, i, z, h, e => by cases h
  | _ :: _, [], sN, k, i, z, h, e => by cases h
  | x :: xs, y :: ys, sN, k, i, z, h, e => by
    unfold backS at h
    cases q : (if vs.contains k then some x else backSl x y) with
    | none => rw [q] at h; cases h
    | some z0 =>
      rw [q] at h
      cases q2 : backS vs (k + 1) xs ys with
      | none => simp [q2] at h
      | some r =>
        simp only [q2, Option.bind_some, Option.map_some, Option.some.injEq] at h
        subst h
        cases i with
        | zero =>
          cases e
          refine ⟨x, y, rfl, rfl, ?_⟩
          split at q
          · rename_i hm
            cases q
            exact .inl ⟨by simpa using hm, rfl⟩
          · rename_i hm
            exact .inr ⟨fun m => hm (by simpa using m), q⟩
        | succ i =>
          obtain ⟨x', y', e1, e2, e3⟩ := backS_get (i := i) q2 (by simpa using e)
          refine ⟨x', y', by simpa using e1, by simpa using e2, ?_⟩
          rw [show k + 1 + i = k + (i + 1) by omega] at e3
          exact e3
theorem backS_len : ∀ {s sF sN : S} {k : Nat}, backS vs k s sF = some sN → sN.length = s.length
  | [], [], sN, k, h => by cases h; rfl
  | [], _ :: _, sN, k, h => by cases h
  | _ :: _, [], sN, k, h => by cases h
  | x :: xs, y :: ys, sN, k, h => by
    unfold backS at h
    cases q : (if vs.contains k then some x else backSl x y) with
    | none => rw [q] at h; cases h
    | some z0 =>
      rw [q] at h
      cases q2 : backS vs (k + 1) xs ys with
      | none => simp [q2] at h
      | some r =>
        simp only [q2, Option.bind_some, Option.map_some, Option.some.injEq] at h
        subst h
        simp [backS_len q2]
theorem backSl_own {p : Bool} {w : W} {x y : Sl} (h : backSl x y = some (.own p w)) : ∃ w0, x = .own p w0 ∧ y = .own p w := by
  unfold backSl at h
  split at h <;> first | (cases h; exact ⟨_, rfl, rfl⟩) | (cases h; done) | (cases h; rename_i n _ _ _; exact (n _ _ rfl).elim)
theorem backSl_fro {w : W} {x y : Sl} (h : backSl x y = some (.fro w)) : x = .fro w ∨ ((∃ p w0, x = .own p w0) ∧ y = .fro w) := by
  unfold backSl at h
  split at h <;> first | cases h; exact .inl rfl | (cases h; exact .inr ⟨⟨_, _, rfl⟩, rfl⟩) | cases h
theorem backSl_un {x y : Sl} (h : backSl x y = some .un) : x = .un := by
  unfold backSl at h
  split at h <;> first | cases h; rfl | cases h
theorem back_own {i : Nat} {p : Bool} {w : W} (h : backS vs 0 s sF = some sN) (e : sN[i]? = some (.own p w)) : ∃ w0, s[i]? = some (.own p w0) ∧ ((i ∈ vs ∧ w0 = w) ∨ (i ∉ vs ∧ sF[i]? = some (.own p w))) := by
  obtain ⟨x, y, e1, e2, e3⟩ := backS_get h e
  rw [Nat.zero_add] at e3
  rcases e3 with ⟨m, e3⟩ | ⟨m, e3⟩
  · subst e3; exact ⟨w, e1, .inl ⟨m, rfl⟩⟩
  · obtain ⟨w0, rfl, rfl⟩ := backSl_own e3
    exact ⟨w0, e1, .inr ⟨m, e2⟩⟩
/-- behind the block -/
theorem back_ok (R : Rel c P s σ H) (t : Stp P (wipeS s vs) (wipe σ vs) H P' sF (wipe σ vs) H') (RF : Rel c P' sF (wipe σ vs) H') (e : backS vs 0 s sF = some sN) :
    StE P s σ H P' sN H' ∧ Rel c P' sN σ H' ∧ ∀ a, Own sN σ a → Own s σ a := by
  have kp := Stp.kp (rel_wipe (vs := vs) R).2 t
  have ho : ∀ a, Own sN σ a → Own s σ a := fun a ⟨i, p, w, e1, e2⟩ => by
    obtain ⟨w0, e3, _⟩ := back_own e e1
    exact ⟨i, p, w0, e3, e2⟩
  refine ⟨⟨⟨fun a o e n nt => t.keep a o e (fun z => n z.ofW) nt, t.there, t.pin, fun a h => ?_, fun a h => .inl (ho a h), fun i w e1 => ?_⟩, fun i => ?_⟩, ⟨by rw [backS_len e]; exact R.len, fun i w e1 => ?_, fun i p w e1 => ?_, fun i j p q u w a e1 e2 e3 e4 => ?_, RF.tbs, RF.dom⟩, ho⟩
  · rcases t.new a h with z | z | z
    · exact .inl z
    · exact .inr (.inl z)
    · exact .inr (.inr z.ofW)
  · obtain ⟨w0, e3, _⟩ := back_own e e1
    exact ⟨⟨w0, e3⟩, rfl⟩
  · cases q : sN[i]? with
    | none =>
      refine .inl ?_
      have := List.getElem?_eq_none_iff.mp q
      rw [backS_len e] at this
      rw [List.getElem?_eq_none this]
    | some z =>
      obtain ⟨x, y, e1, e2, e3⟩ := backS_get e q
      rcases e3 with ⟨_, rfl⟩ | ⟨_, e3⟩
      · exact .inl e1.symm
      · cases z with
        | un =>
          have := backSl_un e3
          subst this
          exact .inl e1.symm
        | fro w =>
          rcases backSl_fro e3 with rfl | ⟨⟨p, w0, rfl⟩, rfl⟩
          · exact .inl e1.symm
          · exact .inr ⟨p, w0, e1, w, .inr rfl⟩
        | own p w =>
          obtain ⟨w0, rfl, rfl⟩ := backSl_own e3
          exact .inr ⟨p, w0, e1, w, .inl rfl⟩
  · obtain ⟨x, y, e2, e3, e4⟩ := backS_get e e1
    rw [Nat.zero_add] at e4
    rcases e4 with ⟨_, rfl⟩ | ⟨n, e4⟩
    · obtain ⟨v, e5, r⟩ := R.fro i w e2
      exact ⟨v, e5, Rep.mono kp _ _ r⟩
    · rcases backSl_fro e4 with rfl | ⟨_, rfl⟩
      · obtain ⟨v, e5, r⟩ := R.fro i w e2
        exact ⟨v, e5, Rep.mono kp _ _ r⟩
      · obtain ⟨v, e5, r⟩ := RF.fro i w e3
        exact ⟨v, (wipe_some e5).1, r⟩
  · obtain ⟨w0, e2, e3⟩ := back_own e e1
    rcases e3 with ⟨m, rfl⟩ | ⟨n, e3⟩
    · obtain ⟨a, e4, n, q⟩ := R.own i p w0 e2
      have nw : ¬ Own (wipeS s vs) (wipe σ vs) a := fun z => by
        obtain ⟨j, p', w', nj, e5, e6⟩ := z.wiped
        have := R.inj i j p p' w0 w' a e2 e5 e4 e6
        subst this
        exact nj m
      obtain ⟨o, eo, _⟩ := Cell.ex q
      refine ⟨a, e4, fun z => ?_, Cell.mono kp q fun o e5 nt => t.keep a o e5 nw nt⟩
      rcases t.new a z with z | z | z
      · exact n z
      · rw [eo] at z; cases z
      · exact nw z
    · obtain ⟨a, e4, n2, q⟩ := RF.own i p w e3
      exact ⟨a, (wipe_some e4).1, n2, q⟩
  · obtain ⟨w1, f1, _⟩ := back_own e e1
    obtain ⟨w2, f2, _⟩ := back_own e e2
    exact R.inj i j p q w1 w2 a f1 f2 e3 e4
/-! ### a list that nobody else knows is changed -/
theorem tbs_upd {o o' : HO} {tb : List (Addr × Str)} (h : LamX.Tabs tb H) (hD : H D = some o) (n1 : ∀ ps, o ≠ .tbl ps) (n2 : ∀ φ, o ≠ .ext φ) : LamX.Tabs tb (upd H D o') := by
  have nt : ∀ b ps, H b = some (.tbl ps) → b ≠ D := fun b ps e3 z => by subst z; rw [hD] at e3; cases e3; exact n1 _ rfl
  have ne : ∀ b φ, H b = some (.ext φ) → b ≠ D := fun b φ e3 z => by subst z; rw [hD] at e3; cases e3; exact n2 _ rfl
  intro t ht
  obtain ⟨ps, h1, h2, h3⟩ := h t ht
  refine ⟨ps, by rw [upd_ne (nt _ _ h1)]; exact h1, h2, fun ps2 cv hc => ?_⟩
  obtain ⟨cc, e3, e4⟩ := h3 ps2 cv hc
  exact ⟨cc, e3, by rw [upd_ne (ne _ _ e4)]; exact e4⟩
theorem kp_loose {l l' : List V} (hD : H D = some (.lst l)) (n : ¬ P D) : Kp P P H (upd H D (.lst l')) := ⟨fun _ h => h, fun a o e h => by
  have : a ≠ D := fun z => by
    subst z
    rw [hD] at e; cases e
    rcases h with h | h
    · exact h
    · exact n h.1
  rw [upd_ne this]; exact e⟩
theorem rel_loose {l l' : List V} (R : Rel c P s σ H) (hD : H D = some (.lst l)) (n : ¬ P D) (no : ¬ Own s σ D) : Rel c P s σ (upd H D (.lst l')) where
  len := R.len
  fro := fun i w e => by
    obtain ⟨v, e2, r⟩ := R.fro i w e
    exact ⟨v, e2, Rep.mono (kp_loose hD n) _ _ r⟩
  own := fun i p w e => by
    obtain ⟨a, e2, na, r⟩ := R.own i p w e
    refine ⟨a, e2, na, Cell.mono (kp_loose hD n) r fun o q _ => ?_⟩
    rw [upd_ne (fun (z : a = D) => no (by subst z; exact ⟨i, p, w, e, e2⟩))]; exact q
  inj := R.inj
  tbs := tbs_upd R.tbs hD (fun _ z => nomatch z) (fun _ z => nomatch z)
  dom := fun a h => by rw [upd_ne (fun (z : a = D) => n (by subst z; exact h))]; exact R.dom a h
theorem stp_loose {o : HO} (t : Stp P0 s0 σ0 H0 P s σ H) (hD : H0 D = none) : Stp P0 s0 σ0 H0 P s σ (upd H D o) := ⟨fun a o e n nt => by
  rw [upd_ne (fun z => by rw [z, hD] at e; cases e)]
  exact t.keep a o e n nt, fun a h => by
    by_cases z : a = D
    · subst z; rw [upd_same]; exact fun z => nomatch z
    · rw [upd_ne z]; exact t.there a h, t.pin, t.new, t.own, t.par⟩
/-! ### the block -/
def compL (g : GT) (ft fe : SE) (vs : List Nat) : List W → S → Res (List W × S)
  | [], s => .ok ([], s)
  | w :: ws, s => (g (.fro w) s).bind fun s1 => (ft s1).bind fun p => match val p.2 p.1 with
    | some (.bl true) => (fe p.2).bind fun q => (ofO (frz q.2 q.1)).bind fun u => (compL g ft fe vs ws (wipeS u.2 vs)).bind fun z => .ok (u.1 :: z.1, z.2)
    | some (.bl false) => compL g ft fe vs ws (wipeS p.2 vs)
    | _ => .bad
/-- no exception leaves it -/
def noX {α : Type} : Res α → Res α
  | .exc _ => .bad
  | r => r
theorem noX_ok {α : Type} {r : Res α} {x : α} (h : noX r = .ok x) : r = .ok x := by
  cases r with
  | ok y => exact h
  | exc y => cases h
  | bad => cases h
/-- the longest list -/
def lenMost : Nat := 4096
def eLc (fi : IE) (g : GT) (ft fe : SE) (vs : List Nat) : SE := fun s => (fi s).bind fun p => chk (decide (p.1.length ≤ lenMost)) <| (noX (compL g ft fe vs p.1 (wipeS p.2 vs))).bind fun q => (ofO (backS vs 0 p.2 q.2)).bind fun s' => .ok (.new (.lst q.1), s')
theorem compL_len : ∀ {ws : List W} {s : S} {l : List W} {s' : S}, compL g ft fe vs ws s = .ok (l, s') → l.length ≤ ws.length
  | [], s, l, s', h => by cases h; exact Nat.le_refl _
  | w :: ws, s, l, s', h => by
    unfold compL at h
    cases e1 : g (.fro w) s with
    | exc x => rw [e1] at h; cases h
    | bad => rw [e1] at h; cases h
    | ok s1 =>
      simp only [e1, Res.bind_ok] at h
      cases e2 : ft s1 with
      | exc x => rw [e2] at h; cases h
      | bad => rw [e2] at h; cases h
      | ok p =>
        simp only [e2, Res.bind_ok] at h
        split at h
        · cases e3 : fe p.2 with
          | exc x => rw [e3] at h; cases h
          | bad => rw [e3] at h; cases h
          | ok q =>
            simp only [e3, Res.bind_ok] at h
            cases e4 : frz q.2 q.1 with
            | none => rw [e4] at h; cases h
            | some u =>
              simp only [e4, ofO_some, Res.bind_ok] at h
              cases e5 : compL g ft fe vs ws (wipeS u.2 vs) with
              | exc x => rw [e5] at h; cases h
              | bad => rw [e5] at h; cases h
              | ok z =>
                simp only [e5, Res.bind_ok] at h
                cases h
                have := compL_len e5
                simp only [List.length_cons]; omega
        · have := compL_len h
          simp only [List.length_cons]; omega
        · cases h
theorem lc_rd : rd c Wx (eLc fi g ft fe vs) σ H Q → tLc (rdI c Wx fi) (rdG c Wb (srW vs) g) (rdT c Wb ft) (rd c Wb fe) vs σ H Q := fun ⟨P, s, R, h⟩ => by
  show rdI c Wx fi σ H _
  refine ⟨P, s, R, ?_⟩
  unfold eLc at h
  cases e : fi s with
  | exc x => rw [e] at h; exact h
  | bad => rw [e] at h; exact h.elim
  | ok pr =>
    obtain ⟨ws0, s1⟩ := pr
    simp only [e, Res.bind_ok] at h
    unfold chk at h
    split at h
    case isFalse => exact h.elim
    rename_i hlen
    have hlen := of_decide_eq_true hlen
    cases eC : noX (compL g ft fe vs ws0 (wipeS s1 vs)) with
    | exc x => exfalso; cases q : compL g ft fe vs ws0 (wipeS s1 vs) <;> rw [q] at eC <;> cases eC
    | bad => rw [eC] at h; exact h.elim
    | ok q =>
      obtain ⟨wsF, sF⟩ := q
      simp only [eC, Res.bind_ok] at h
      have eC := noX_ok eC
      cases eB : backS vs 0 s1 sF with
      | none => rw [eB] at h; exact h.elim
      | some sN =>
        simp only [eB, ofO_some, Res.bind_ok] at h
        intro J P1 H1 t1 R1 wk D hD
        have RD := R1.more (keep_upd (o := .lst []) hD)
        obtain ⟨tW, RW⟩ := rel_wipe (vs := vs) RD
        have tW : Stp P1 (wipeS s1 vs) (wipe σ vs) H1 P1 (wipeS s1 vs) (wipe σ vs) (upd H1 D (.lst [])) := (Stp.more (keep_upd hD)).toStp
        have nPD : ¬ P1 D := fun z => R1.dom D z hD
        have nOD : ¬ Own s1 σ D := fun z => by
          obtain ⟨_, w, q⟩ := R1.ownP z
          obtain ⟨o, eo, _⟩ := Cell.ex q
          rw [hD] at eo; cases eo
        refine ⟨fun i m H' => ∃ PB sB accW acc l, m = (ws0.drop i).length ∧ Stp P1 (wipeS s1 vs) (wipe σ vs) H1 PB sB (wipe σ vs) H' ∧ Rel c PB sB (wipe σ vs) H' ∧ H' D = some (.lst acc) ∧ Reps c.T c.K PB H' accW acc ∧ ¬ PB D ∧ ¬ Own sB (wipe σ vs) D ∧
          compL g ft fe vs (ws0.drop i) sB = .ok (l, sF) ∧ accW ++ l = wsF ∧ accW.length ≤ i, ⟨_, P1, _, [], [], wsF, rfl, tW, RW, upd_same, Reps.nil, nPD, fun z => nOD z.ofW, eC, rfl, Nat.zero_le _⟩, ?_⟩
        rintro i m H2 ⟨PB, sB, accW, acc, l, rfl, tB, RB, hB, rB, nB, oB, eL, eA, lA⟩
        have kB : Kp P1 PB H1 H2 := Stp.kp (rel_wipe (vs := vs) R1).2 tB
        cases q : ws0.drop i with
        | nil =>
          rw [q] at eL
          cases eL
          rw [List.append_nil] at eA
          subst eA
          refine .inl ⟨wk.stop PB H2 kB i (List.drop_eq_nil_iff.mp q), ?_⟩
          obtain ⟨t2, R2, o2⟩ := back_ok R1 tB RB eB
          exact h _ PB H2 (t1.trans t2) R2 ⟨D, rfl, nB, fun z => nOD (o2 _ z), t1.there' hD, acc, hB, rB⟩
        | cons w ws =>
          rw [q] at eL
          have ew : ws0[i]? = some w := by
            have := List.getElem?_drop (xs := ws0) (i := i) (j := 0)
            rw [q] at this
            simpa using this.symm
          have hi : i < ws0.length := (List.getElem?_eq_some_iff.mp ew).1
          have ed : ws0.drop (i + 1) = ws := by rw [← List.drop_drop, q]; rfl
          obtain ⟨g1, g2⟩ := wk.go PB H2 kB i w ew
          refine .inr ⟨g1, fun H' => ∃ PB sB accW acc l, ws.length = (ws0.drop (i + 1)).length ∧ Stp P1 (wipeS s1 vs) (wipe σ vs) H1 PB sB (wipe σ vs) H' ∧ Rel c PB sB (wipe σ vs) H' ∧ H' D = some (.lst acc) ∧ Reps c.T c.K PB H' accW acc ∧ ¬ PB D ∧ ¬ Own sB (wipe σ vs) D ∧
            compL g ft fe vs (ws0.drop (i + 1)) sB = .ok (l, sF) ∧ accW ++ l = wsF ∧ accW.length ≤ i + 1, fun H' nx => ⟨ws.length, by simp, nx⟩, fun x H3 hy => ?_⟩
          obtain ⟨ke, rx⟩ := g2 x H3 hy
          have R3 := RB.more ke
          have t3 : Stp PB sB (wipe σ vs) H2 PB sB (wipe σ vs) H3 := (Stp.more ke).toStp
          refine rdG_fro R3 rx ?_
          unfold compL at eL
          cases e1 : g (.fro w) sB with
          | exc x => rw [e1] at eL; cases eL
          | bad => rw [e1] at eL; cases eL
          | ok s2 =>
            simp only [e1, Res.bind_ok] at eL
            intro σ4 P4 H4 t4 R4 hr
            have hr : wipe σ4 vs = wipe (wipe σ vs) vs := hr
            rw [wipe_wipe] at hr
            refine ⟨hr, P4, s2, R4, ?_⟩
            cases e2 : ft s2 with
            | exc x => rw [e2] at eL; cases eL
            | bad => rw [e2] at eL; cases eL
            | ok p =>
              obtain ⟨r5, s5⟩ := p
              simp only [e2, Res.bind_ok] at eL
              intro v5 P5 H5 t5 R5 rv5
              have T5 := (t3.trans t4).trans t5.toStp
              have fin : ∀ {P6 : Addr → Prop} {s6 : S} {H6 : Hp}, Stp PB sB (wipe σ vs) H2 P6 s6 σ4 H6 → Rel c P6 s6 σ4 H6 → H6 D = some (.lst acc) ∧ ¬ P6 D ∧ ¬ Own s6 σ4 D ∧ Reps c.T c.K P6 H6 accW acc := fun {P6 s6 H6} T R => by
                refine ⟨T.keep _ _ hB oB (fun z => z), fun z => ?_, fun z => ?_, Reps.mono (Stp.kp RB T) _ _ rB⟩
                · rcases T.new D z with z | z | z
                  · exact nB z
                  · rw [hB] at z; cases z
                  · exact oB z
                · rcases T.own D z with z | z
                  · exact oB z
                  · rw [hB] at z; cases z
              split at eL
              · rename_i ev
                refine ⟨true, (rv5.view R5 ev).bl, ?_⟩
                refine (if_pos rfl).mpr ?_
                refine ⟨P5, s5, R5, ?_⟩
                cases e3 : fe s5 with
                | exc x => rw [e3] at eL; cases eL
                | bad => rw [e3] at eL; cases eL
                | ok p6 =>
                  obtain ⟨r6, s6⟩ := p6
                  simp only [e3, Res.bind_ok] at eL
                  intro y P6 H6 t6 R6 ry
                  cases e4 : frz s6 r6 with
                  | none => rw [e4] at eL; cases eL
                  | some u7 =>
                    obtain ⟨u, s7⟩ := u7
                    simp only [e4, ofO_some, Res.bind_ok] at eL
                    obtain ⟨P7, t7, R7, ru, _⟩ := frz_ok t6 R6 ry e4
                    have T7 := T5.trans t7.toStp
                    obtain ⟨f1, f2, f3, f4⟩ := fin T7 R7
                    have hz : acc.length < sizeLine := by
                      rw [← rB.length]
                      have : sizeLine = 16777216 := rfl
                      have : lenMost = 4096 := rfl
                      omega
                    refine ⟨acc, f1, hz, ?_⟩
                    cases e5 : compL g ft fe vs ws (wipeS s7 vs) with
                    | exc x => rw [e5] at eL; cases eL
                    | bad => rw [e5] at eL; cases eL
                    | ok z =>
                      obtain ⟨l', s'⟩ := z
                      simp only [e5, Res.bind_ok] at eL
                      cases eL
                      have kl := kp_loose (l' := acc ++ [y]) f1 f2
                      obtain ⟨t8, R8⟩ := rel_wipe (vs := vs) (rel_loose (l' := acc ++ [y]) R7 f1 f2 f3)
                      have T8 : Stp P1 (wipeS s1 vs) (wipe σ vs) H1 P7 s7 σ4 (upd H6 D (.lst (acc ++ [y]))) := stp_loose (tB.trans T7) hD
                      have T9 := T8.trans t8
                      rw [hr] at T9 R8
                      refine ⟨P7, wipeS s7 vs, accW ++ [u], acc ++ [y], l', by rw [ed], T9, R8, upd_same, Reps.app (Reps.mono kl _ _ f4) (Reps.cons (Rep.mono kl _ _ ru) Reps.nil), f2, fun z => f3 ?_, by rw [ed]; exact e5, by rw [← eA]; simp, by simp; omega⟩
                      rw [← hr] at z
                      exact z.ofW
              · rename_i ev
                refine ⟨false, (rv5.view R5 ev).bl, ?_⟩
                refine (if_neg (by decide)).mpr ?_
                obtain ⟨f1, f2, f3, f4⟩ := fin T5 R5
                obtain ⟨t8, R8⟩ := rel_wipe (vs := vs) R5
                have T9 := (tB.trans T5).trans t8
                rw [hr] at T9 R8
                refine ⟨P5, wipeS s5 vs, accW, acc, l, by rw [ed], T9, R8, f1, f4, f2, fun z => f3 ?_, by rw [ed]; exact eL, eA, by omega⟩
                rw [← hr] at z
                exact z.ofW
              · cases eL
theorem pts_nil' {X : Cx} : PTs X [] (rdT c Wb (blE true)) := ⟨fun pins s σ H Q I h => by
  obtain ⟨P, s', R, h⟩ := h
  obtain ⟨b, e, q⟩ := outB R h
  cases e
  exact pts_nil.run pins s σ H Q I q⟩
end
end Qs
/-! # Defs: what they promise, calls, bodies -/
namespace Qs
open PySem PySem.Spec PyProof.Rows L2
section
variable {c : Cst} {Wx Wb : WX} {k : Nat} {X : Cx} {P P0 P1 P2 PB P' : Addr → Prop} {s s' s0 s1 sF sN : S} {σ σ0 σ' : L2.St} {H H0 H1 H2 H' : Hp} {Q : VK} {u w : W} {ws wsF : List W} {vs xs : List V} {r z : R} {x y v : V} {a b e tg iter : Expr} {ft fe f : SE} {pos p p2 : Pos} {rs : List R} {as as' : S}
/-- a def's promise: m tells it by the slots of its arguments -/
def spM (c : Cst) (n : Nat) (m : SE) : Sp := fun vs H Q E => vs.length = n ∧ ∃ P as, Rel c P as (vs.map some) H ∧ Out c (fun cls d _ H' => E cls d H') (vs.map some) P as H Q (m as)
/-- a new list never changes from now on -/
def eFz (f : SE) : SE := fun s => (f s).bind fun p => match p.1 with
  | .new w => .ok (.fro w, p.2)
  | r => .ok (r, p.2)
theorem rd_fz (h : rd c Wx (eFz f) σ H Q) : rd c Wx f σ H Q := by
  obtain ⟨P, s, R, h⟩ := h
  refine ⟨P, s, R, ?_⟩
  unfold eFz at h
  cases e : f s with
  | exc x => rw [e] at h; exact h
  | bad => rw [e] at h; exact h
  | ok p =>
    obtain ⟨r, s1⟩ := p
    rw [e] at h
    cases r with
    | fro w => exact h
    | bor i => exact h
    | new w =>
      intro v P' H' t R' rv
      obtain ⟨P2, t2, R2, rw2, _⟩ := frz_ok t R' rv rfl
      exact h v P2 H' t2 R2 rw2
theorem pe_fz (h : PE X e (rd c Wx f)) : PE X e (rd c Wx (eFz f)) := pe_imp h fun _ _ _ => rd_fz
/-- an argument as a slot -/
def argS (s : S) : R → Option Sl
  | .fro w => some (.fro w)
  | .bor i => match s[i]? with
    | some (.fro w) => some (.fro w)
    | some (.own _ w) => some (.own false w)
    | _ => none
  | .new _ => none
theorem argS_bor {s : S} {i : Nat} : argS s (.bor i) = match s[i]? with
    | some (.fro w) => some (.fro w)
    | some (.own _ w) => some (.own false w)
    | _ => none := rfl
def argsS (s : S) : List R → Option S
  | [] => some []
  | r :: rs => (argS s r).bind fun a => (argsS s rs).map (a :: ·)
def ownI (s : S) : R → Option Nat
  | .bor i => match s[i]? with
    | some (.own _ _) => some i
    | _ => none
  | _ => none
def ownIx (s : S) : List R → List Nat
  | [] => []
  | r :: rs => match ownI s r with
    | some i => i :: ownIx s rs
    | none => ownIx s rs
def backA : List R → S → S → Option S
  | [], [], s => some s
  | .bor i :: rs, a :: as, s => match s[i]?, a with
    | some (.own p _), .own _ w => backA rs as (s.set i (.own p w))
    | some (.own _ _), .fro w => backA rs as (s.set i (.fro w))
    | some (.fro _), _ => backA rs as s
    | _, _ => none
  | .fro _ :: rs, _ :: as, s => backA rs as s
  | _, _, _ => none
def eCall (m : SE) (fs : List SE) : SE := bindL (fs.map eFz) fun rs s => (ofO (argsS s rs)).bind fun as => chk (decide (ownIx s rs).Nodup) <| (m as).bind fun p => (ofO (backA rs p.2 s)).bind fun s' => match p.1 with
  | .bor _ => .bad
  | r => .ok (r, s')
theorem argsS_get : ∀ {rs : List R} {as : S} {j : Nat} {sl : Sl}, argsS s rs = some as → as[j]? = some sl → ∃ r, rs[j]? = some r ∧ argS s r = some sl
  | [], as, j, sl, h, e => by cases h; cases e
  | r :: rs, as, j, sl, h, e => by
    unfold argsS at h
    cases q : argS s r with
    | none => rw [q] at h; cases h
    | some a =>
      cases q2 : argsS s rs with
      | none => rw [q, q2] at h; cases h
      | some bs =>
        rw [q, q2] at h
        cases h
        cases j with
        | zero => cases e; exact ⟨r, rfl, q⟩
        | succ j =>
          obtain ⟨r', e1, e2⟩ := argsS_get (j := j) q2 (by simpa using e)
          exact ⟨r', by simpa using e1, e2⟩
theorem argsS_len : ∀ {rs : List R} {as : S}, argsS s rs = some as → as.length = rs.length
  | [], as, h => by cases h; rfl
  | r :: rs, as, h => by
    unfold argsS at h
    cases q : argS s r with
    | none => rw [q] at h; cases h
    | some a =>
      cases q2 : argsS s rs with
      | none => rw [q, q2] at h; cases h
      | some bs =>
        rw [q, q2] at h
        cases h
        simp [argsS_len q2]
theorem paired_get {α β : Type} {F : α → β → Prop} {l₁ : List α} {l₂ : List β} (h : Paired F l₁ l₂) : ∀ {j : Nat} {a : α}, l₁[j]? = some a → ∃ b, l₂[j]? = some b ∧ F a b := by
  induction h with
  | nil => intro j a e; cases e
  | cons h _ ih =>
    intro j a e
    cases j with
    | zero => cases e; exact ⟨_, rfl, h⟩
    | succ j => obtain ⟨b, e1, e2⟩ := ih (j := j) (by simpa using e); exact ⟨b, by simpa using e1, e2⟩
theorem ownI_of {i : Nat} {p : Bool} {w : W} (e : s[i]? = some (Sl.own p w)) : ownI s (R.bor i) = some i := by
  show (match s[i]? with
    | some (.own _ _) => some i
    | _ => none) = some i
  rw [e]
theorem ownIx_of : ∀ {rs : List R} {i j : Nat} {p : Bool} {w : W}, rs[j]? = some (R.bor i) → s[i]? = some (Sl.own p w) → i ∈ ownIx s rs
  | r :: rs, i, 0, p, w, h, e => by
    cases h
    unfold ownIx
    rw [ownI_of e]
    exact List.mem_cons_self
  | r :: rs, i, j + 1, p, w, h, e => by
    have := ownIx_of (rs := rs) (j := j) (by simpa using h) e
    unfold ownIx
    split
    · exact List.mem_cons_of_mem _ this
    · exact this
theorem ownIx_tl {rs : List R} (n : (ownIx s (r :: rs)).Nodup) : (ownIx s rs).Nodup := by
  unfold ownIx at n
  split at n
  · exact (List.nodup_cons.mp n).2
  · exact n
theorem ownIx_hd {i : Nat} {p : Bool} {w : W} {rs : List R} (n : (ownIx s (R.bor i :: rs)).Nodup) (e : s[i]? = some (.own p w)) : i ∉ ownIx s rs := by
  unfold ownIx at n
  rw [ownI_of e] at n
  exact (List.nodup_cons.mp n).1
theorem ownIx_inj : ∀ {rs : List R} {i j l : Nat} {p : Bool} {w : W}, (ownIx s rs).Nodup → s[i]? = some (Sl.own p w) → rs[j]? = some (R.bor i) → rs[l]? = some (R.bor i) → j = l
  | r :: rs, i, 0, 0, p, w, _, _, _, _ => rfl
  | r :: rs, i, 0, l + 1, p, w, n, e, e1, e2 => by
    cases e1
    exact absurd (ownIx_of (rs := rs) (j := l) (by simpa using e2) e) (ownIx_hd n e)
  | r :: rs, i, j + 1, 0, p, w, n, e, e1, e2 => by
    cases e2
    exact absurd (ownIx_of (rs := rs) (j := j) (by simpa using e1) e) (ownIx_hd n e)
  | r :: rs, i, j + 1, l + 1, p, w, n, e, e1, e2 => by
    have := ownIx_inj (j := j) (l := l) (ownIx_tl n) e (by simpa using e1) (by simpa using e2)
    omega
/-- the arguments by themselves -/
theorem rel_args (R : Rel c P s σ H) (ra : Paired (fun r v => RvR c P s σ H0 H r v) rs xs) (e : argsS s rs = some as) (n : (ownIx s rs).Nodup) : Rel c P as (xs.map some) H ∧
    ∀ (j : Nat) (p : Bool) (w : W) (a : Addr), as[j]? = some (Sl.own p w) → (xs.map some)[j]? = some (some (V.ref a)) → ∃ (i : Nat) (q : Bool) (w : W), rs[j]? = some (Qs.R.bor i) ∧ s[i]? = some (Sl.own q w) ∧ σ[i]? = some (some (V.ref a)) := by
  have fo : ∀ (j : Nat) (p : Bool) (w : W), as[j]? = some (Sl.own p w) → ∃ (i : Nat) (q : Bool) (v : V), rs[j]? = some (Qs.R.bor i) ∧ s[i]? = some (Sl.own q w) ∧ σ[i]? = some (some v) ∧ xs[j]? = some v := fun j p w h => by
    obtain ⟨r, e1, e2⟩ := argsS_get e h
    obtain ⟨v, e3, rv⟩ := paired_get ra e1
    cases r with
    | fro w => cases e2
    | new w => cases e2
    | bor i =>
      rw [argS_bor] at e2
      cases q : s[i]? with
      | none => rw [q] at e2; cases e2
      | some sl =>
        rw [q] at e2
        cases sl with
        | un => cases e2
        | fro w => cases e2
        | own p' w' => cases e2; exact ⟨i, p', v, e1, q, rv.1, e3⟩
  refine ⟨⟨by rw [List.length_map, argsS_len e, paired_len ra], fun j w h => ?_, fun j p w h => ?_, fun j l p q u w a e1 e2 e3 e4 => ?_, R.tbs, R.dom⟩, fun j p w a h h2 => ?_⟩
  · obtain ⟨r, e1, e2⟩ := argsS_get e h
    obtain ⟨v, e3, rv⟩ := paired_get ra e1
    refine ⟨v, by rw [List.getElem?_map, e3]; rfl, ?_⟩
    cases r with
    | fro w => cases e2; exact rv
    | new w => cases e2
    | bor i =>
      rw [argS_bor] at e2
      cases q : s[i]? with
      | none => rw [q] at e2; cases e2
      | some sl =>
        rw [q] at e2
        cases sl with
        | un => cases e2
        | own _ _ => cases e2
        | fro w' =>
          cases e2
          obtain ⟨v', e4, rr⟩ := R.fro i _ q
          rw [rv.1] at e4
          cases e4
          exact rr
  · obtain ⟨i, q, v, e1, e2, e3, e4⟩ := fo j p w h
    obtain ⟨a, e5, na, cl⟩ := R.own i q w e2
    rw [e3] at e5; cases e5
    exact ⟨a, by rw [List.getElem?_map, e4]; rfl, na, cl⟩
  · obtain ⟨i1, q1, v1, f1, f2, f3, f4⟩ := fo j p u e1
    obtain ⟨i2, q2, v2, g1, g2, g3, g4⟩ := fo l q w e2
    rw [List.getElem?_map, f4] at e3
    rw [List.getElem?_map, g4] at e4
    cases e3
    cases e4
    have := R.inj i1 i2 q1 q2 u w a f2 g2 f3 g3
    subst this
    exact ownIx_inj n f2 f1 g1
  · obtain ⟨i, q, v, e1, e2, e3, e4⟩ := fo j p w h
    rw [List.getElem?_map, e4] at h2
    cases h2
    exact ⟨i, q, w, e1, e2, e3⟩
/-- what a call does to the slots -/
theorem backA_ok : ∀ {rs : List R} {as s s' : S}, backA rs as s = some s' → s'.length = s.length ∧ as.length = rs.length ∧ ∀ i : Nat, (s'[i]? = s[i]? ∧ ∀ p w, s[i]? = some (Sl.own p w) → ∀ j : Nat, rs[j]? ≠ some (R.bor i)) ∨
    ∃ (j : Nat) (p : Bool) (w0 : W), rs[j]? = some (Qs.R.bor i) ∧ s[i]? = some (Sl.own p w0) ∧ ((∃ q w', as[j]? = some (Sl.own q w') ∧ s'[i]? = some (Sl.own p w')) ∨ ∃ w', as[j]? = some (Sl.fro w') ∧ s'[i]? = some (Sl.fro w'))
  | [], [], s, s', h => by
    cases h
    exact ⟨rfl, rfl, fun i => .inl ⟨rfl, fun _ _ _ j e => by cases e⟩⟩
  | .bor i0 :: rs, [], s, s', h => by cases h
  | .fro _ :: rs, [], s, s', h => by cases h
  | .new _ :: rs, _, s, s', h => by cases h
  | [], _ :: _, s, s', h => by cases h
  | .fro w0 :: rs, a :: as, s, s', h => by
    obtain ⟨h1, h2, h3⟩ := backA_ok (rs := rs) (as := as) h
    refine ⟨h1, by simp [h2], fun i => ?_⟩
    rcases h3 i with ⟨e, n⟩ | ⟨j, p, w0, e1, e2, e3⟩
    · refine .inl ⟨e, fun p w e j z => ?_⟩
      cases j with
      | zero => cases z
      | succ j => exact n p w e j (by simpa using z)
    · exact .inr ⟨j + 1, p, w0, by simpa using e1, e2, by simpa using e3⟩
  | .bor i0 :: rs, a :: as, s, s', h => by
    unfold backA at h
    have put : ∀ (sl : Sl) (p : Bool) (w0 : W), s[i0]? = some (.own p w0) → backA rs as (s.set i0 sl) = some s' → ((∃ q w', a = .own q w' ∧ sl = .own p w') ∨ ∃ w', a = .fro w' ∧ sl = .fro w') → s'.length = s.length ∧ (a :: as).length = (Qs.R.bor i0 :: rs).length ∧ ∀ i : Nat, (s'[i]? = s[i]? ∧ ∀ p w, s[i]? = some (Sl.own p w) → ∀ j : Nat, (Qs.R.bor i0 :: rs)[j]? ≠ some (Qs.R.bor i)) ∨
        ∃ (j : Nat) (p : Bool) (w0 : W), (Qs.R.bor i0 :: rs)[j]? = some (Qs.R.bor i) ∧ s[i]? = some (Sl.own p w0) ∧ ((∃ q w', (a :: as)[j]? = some (Sl.own q w') ∧ s'[i]? = some (Sl.own p w')) ∨ ∃ w', (a :: as)[j]? = some (Sl.fro w') ∧ s'[i]? = some (Sl.fro w')) := fun sl p w0 e h ha => by
      obtain ⟨h1, h2, h3⟩ := backA_ok h
      have hl : i0 < s.length := (List.getElem?_eq_some_iff.mp e).1
      refine ⟨by rw [h1, List.length_set], by simp [h2], fun i => ?_⟩
      by_cases hi : i0 = i
      · subst hi
        rcases h3 i0 with ⟨e1, n⟩ | ⟨j, p', w', e1, e2, e3⟩
        · rw [List.getElem?_set_self hl] at e1
          refine .inr ⟨0, p, w0, rfl, e, ?_⟩
          rcases ha with ⟨q, w', rfl, rfl⟩ | ⟨w', rfl, rfl⟩
          · exact .inl ⟨q, w', rfl, e1⟩
          · exact .inr ⟨w', rfl, e1⟩
        · rw [List.getElem?_set_self hl] at e2
          cases e2
          rcases ha with ⟨q, w'', rfl, z⟩ | ⟨w'', rfl, z⟩
          · cases z
            exact .inr ⟨j + 1, p, w0, by simpa using e1, e, by simpa using e3⟩
          · cases z
      · rcases h3 i with ⟨e1, n⟩ | ⟨j, p', w', e1, e2, e3⟩
        · rw [List.getElem?_set_ne hi] at e1
          refine .inl ⟨e1, fun p w e j z => ?_⟩
          cases j with
          | zero => cases z; exact hi rfl
          | succ j => exact n p w (by rw [List.getElem?_set_ne hi]; exact e) j (by simpa using z)
        · rw [List.getElem?_set_ne hi] at e2
          exact .inr ⟨j + 1, p', w', by simpa using e1, e2, by simpa using e3⟩
    split at h
    · rename_i p _ _ _ e
      exact put _ p _ e h (.inl ⟨_, _, rfl, rfl⟩)
    · rename_i p _ _ e
      exact put _ p _ e h (.inr ⟨_, rfl, rfl⟩)
    · rename_i e
      obtain ⟨h1, h2, h3⟩ := backA_ok h
      refine ⟨h1, by simp [h2], fun i => ?_⟩
      rcases h3 i with ⟨e1, n⟩ | ⟨j, p, w0, e1, e2, e3⟩
      · refine .inl ⟨e1, fun p w e2 j z => ?_⟩
        cases j with
        | zero => cases z; rw [e] at e2; cases e2
        | succ j => exact n p w e2 j (by simpa using z)
      · exact .inr ⟨j + 1, p, w0, by simpa using e1, e2, by simpa using e3⟩
    · cases h
/-- a call seen from its caller -/
theorem call_out {m : SE} (R : Rel c P s σ H) (ra : Paired (fun r v => RvR c P s σ H0 H r v) rs xs)
    (h : Out c Wx σ P s H Q ((ofO (argsS s rs)).bind fun as => chk (decide (ownIx s rs).Nodup) <| (m as).bind fun p => (ofO (backA rs p.2 s)).bind fun s' => match p.1 with
      | .bor _ => .bad
      | r => .ok (r, s'))) : ∃ P as, Rel c P as (xs.map some) H ∧ Out c (fun cls d _ H' => Wx cls d σ H') (xs.map some) P as H Q (m as) := by
  cases eA : argsS s rs with
  | none => rw [eA] at h; exact h.elim
  | some as =>
    simp only [eA, ofO_some, Res.bind_ok] at h
    unfold chk at h
    split at h
    case isFalse => exact h.elim
    rename_i nd
    have nd := of_decide_eq_true nd
    obtain ⟨RA, oA⟩ := rel_args R ra eA nd
    have ow : ∀ a, Own as (xs.map some) a → Own s σ a := fun a ⟨j, p, w, e1, e2⟩ => by
      obtain ⟨i, q, w', _, e3, e4⟩ := oA j p w a e1 e2
      exact ⟨i, q, w', e3, e4⟩
    refine ⟨P, as, RA, ?_⟩
    cases em : m as with
    | bad => rw [em] at h; exact h.elim
    | exc x =>
      rw [em] at h
      intro cls d P' H' u xr
      refine h cls d P' H' ⟨fun a o e n nt => u.keep a o e (fun z => n (ow a z)) nt, u.pin, fun a z => ?_, u.tbs⟩ xr
      rcases u.new a z with z | z | z
      · exact .inl z
      · exact .inr (.inl z)
      · exact .inr (.inr (ow a z))
    | ok pr =>
      obtain ⟨r, as'⟩ := pr
      simp only [em, Res.bind_ok] at h
      cases eB : backA rs as' s with
      | none => rw [eB] at h; exact h.elim
      | some s' =>
        simp only [eB, ofO_some, Res.bind_ok] at h
        obtain ⟨l1, l2, bk⟩ := backA_ok eB
        intro v P' H' t RA' rv
        have kp := Stp.kp RA t.toStp
        have os : ∀ (i : Nat) (p : Bool) (w : W), s'[i]? = some (Sl.own p w) → ∃ w0, s[i]? = some (Sl.own p w0) := fun i p w e => by
          rcases bk i with ⟨e1, _⟩ | ⟨j, p', w0, _, e2, ⟨q, w', _, e4⟩ | ⟨w', _, e4⟩⟩
          · rw [e1] at e; exact ⟨w, e⟩
          · rw [e] at e4; cases e4; exact ⟨w0, e2⟩
          · rw [e] at e4; cases e4
        have os' : ∀ a, Own s' σ a → Own s σ a := fun a ⟨i, p, w, e1, e2⟩ => by
          obtain ⟨w0, e3⟩ := os i p w e1
          exact ⟨i, p, w0, e3, e2⟩
        have lx : as.length = xs.length := by rw [argsS_len eA, paired_len ra]
        have hx : ∀ (j i : Nat), rs[j]? = some (Qs.R.bor i) → ∃ v, xs[j]? = some v ∧ σ[i]? = some (some v) := fun j i e => by
          obtain ⟨v, e3, rv⟩ := paired_get ra e
          exact ⟨v, e3, rv.1⟩
        have t' : StE P s σ H P' s' H' := ⟨⟨fun a o e n nt => t.keep a o e (fun z => n (ow a z)) nt, t.there, t.pin, fun a z => by
          rcases t.new a z with z | z | z
          · exact .inl z
          · exact .inr (.inl z)
          · exact .inr (.inr (ow a z)), fun a z => .inl (os' a z), fun i w e => ⟨os i true w e, rfl⟩⟩, fun i => by
          rcases bk i with ⟨e1, _⟩ | ⟨j, p', w0, _, e2, ⟨q, w', _, e4⟩ | ⟨w', _, e4⟩⟩
          · exact .inl e1
          · exact .inr ⟨p', w0, e2, w', .inl e4⟩
          · exact .inr ⟨p', w0, e2, w', .inr e4⟩⟩
        have R' : Rel c P' s' σ H' := by
          refine ⟨by rw [l1]; exact R.len, fun i w e => ?_, fun i p w e => ?_, fun i l p q u w a e1 e2 e3 e4 => ?_, RA'.tbs, RA'.dom⟩
          · rcases bk i with ⟨e1, _⟩ | ⟨j, p', w0, e0, e2, ⟨q, w', _, e4⟩ | ⟨w', e3, e4⟩⟩
            · rw [e1] at e
              obtain ⟨v, e5, rr⟩ := R.fro i w e
              exact ⟨v, e5, Rep.mono kp _ _ rr⟩
            · rw [e] at e4; cases e4
            · rw [e] at e4; cases e4
              obtain ⟨v, e5, rr⟩ := RA'.fro j w e3
              obtain ⟨v', e6, e7⟩ := hx j i e0
              rw [List.getElem?_map, e6] at e5
              cases e5
              exact ⟨_, e7, rr⟩
          · rcases bk i with ⟨e1, nb⟩ | ⟨j, p', w0, e0, e2, ⟨q, w', e3, e4⟩ | ⟨w', e3, e4⟩⟩
            · rw [e1] at e
              obtain ⟨a, e5, na, cl⟩ := R.own i p w e
              have no : ¬ Own as (xs.map some) a := fun ⟨j, p', w', f1, f2⟩ => by
                obtain ⟨i', q, w'', f3, f4, f5⟩ := oA j p' w' a f1 f2
                have := R.inj i i' p q w w'' a e f4 e5 f5
                subst this
                exact nb p w e j f3
              obtain ⟨o, eo, _⟩ := Cell.ex cl
              refine ⟨a, e5, fun z => ?_, Cell.mono kp cl fun o e nt => t.keep a o e no nt⟩
              rcases t.new a z with z | z | z
              · exact na z
              · rw [eo] at z; cases z
              · exact no z
            · rw [e] at e4; cases e4
              obtain ⟨a, e5, na, cl⟩ := RA'.own j q w e3
              obtain ⟨v', e6, e7⟩ := hx j i e0
              rw [List.getElem?_map, e6] at e5
              cases e5
              exact ⟨a, e7, na, cl⟩
            · rw [e] at e4; cases e4
          · obtain ⟨w1, f1⟩ := os i p u e1
            obtain ⟨w2, f2⟩ := os l q w e2
            exact R.inj i l p q w1 w2 a f1 f2 e3 e4
        cases r with
        | bor i => exact h.elim
        | fro w => exact h v P' H' t' R' rv
        | new w =>
          obtain ⟨a, rfl, na, _, hn, cl⟩ := rv
          refine h _ P' H' t' R' ⟨a, rfl, na, fun z => ?_, hn, cl⟩
          obtain ⟨_, w', cl'⟩ := R.ownP (os' a z)
          obtain ⟨o, eo, _⟩ := Cell.ex cl'
          rw [hn] at eo; cases eo
theorem rd_call {m : SE} {fs : List SE} {n : Nat} (hl : fs.length = n) (h : rd c Wx (eCall m fs) σ H Q) : tCallS (spM c n m) (WE Wx) (tArgs c Wx (fs.map eFz)) σ H Q := by
  have len : ∀ {fs : List SE} {σ : L2.St} {H : Hp} {Z : List V → Hp → Prop}, tArgs c Wx fs σ H Z → tArgs c Wx fs σ H fun xs H1 => xs.length = fs.length ∧ Z xs H1 := by
    intro fs
    induction fs with
    | nil => intro σ H Z h; exact ⟨rfl, h⟩
    | cons f fs ih =>
      intro σ H Z h
      obtain ⟨P, s, R, h⟩ := h
      refine ⟨P, s, R, h.imp fun v H' h => ?_⟩
      have := ih h
      refine Eq.mp ?_ this
      congr 1
      funext xs H1
      simp
  refine (?_ : tArgs c Wx (fs.map eFz) σ H fun vs H1 => spM c n m vs H1 Q (WE Wx σ))
  have h2 : tArgs c Wx (fs.map eFz) σ H fun xs H1 => ∃ P as, Rel c P as (xs.map some) H1 ∧ Out c (fun cls d _ H' => Wx cls d σ H') (xs.map some) P as H1 Q (m as) := rd_args h fun P0 s0 P s rs xs H1 R0 t R ra h => call_out R ra (Out.at_ h t R)
  refine Eq.mp ?_ (len h2)
  congr 1
  funext xs H1
  unfold spM
  simp [hl]
end
end Qs
/-! # A def's body -/
namespace Qs
open PySem PySem.Spec PyProof.Rows L2
section
variable {c : Cst} {Wx Wb : WX} {k n : Nat} {X : Cx} {P P0 P1 P2 PB P' : Addr → Prop} {s s' s0 s1 sF sN : S} {σ σ0 σ' : L2.St} {H H0 H1 H2 H' : Hp} {Q : VK} {E : XK} {u w : W} {ws wsF : List W} {vs xs : List V} {r z : R} {x y v : V} {pos p p2 : Pos} {rs : List R} {as as' : S} {N ps : List Str} {f : SS}
def toP : Sl → Sl
  | .own _ w => .own true w
  | x => x
def startS (n : Nat) (as : S) : S := as.map toP ++ List.replicate (n - as.length) .un
/-- the arguments' slots at the end -/
def endA : S → S → Option S
  | [], _ => some []
  | .fro w :: as, _ :: s => (endA as s).map (.fro w :: ·)
  | .own p _ :: as, .own true w :: s => (endA as s).map (.own p w :: ·)
  | _, _ => none
def retR (s : S) : R → Option R
  | .fro w => some (.fro w)
  | .new w => some (.new w)
  | .bor i => match s[i]? with
    | some (.fro w) => some (.fro w)
    | some (.own false w) => some (.new w)
    | _ => none
/-- a def by its body's statements; n: how many names it has -/
def callM (n : Nat) (f : SS) : SE := fun as => (nfLs (startS n as) f).bind fun
  | .nx s' => (ofO (endA as s')).bind fun as' => .ok (.fro .non, as')
  | .rt r s' => (ofO (retR s' r)).bind fun r' => (ofO (endA as s')).bind fun as' => .ok (r', as')
  | _ => .bad
theorem endA_get : ∀ {as s as' : S} {j : Nat} {sl : Sl}, endA as s = some as' → as'[j]? = some sl → (∃ w, as[j]? = some (Sl.fro w) ∧ sl = .fro w) ∨ ∃ p w0 w, as[j]? = some (Sl.own p w0) ∧ s[j]? = some (Sl.own true w) ∧ sl = .own p w
  | [], s, as', j, sl, h, e => by cases h; cases e
  | .fro w :: as, x :: s, as', j, sl, h, e => by
    unfold endA at h
    cases q : endA as s with
    | none => rw [q] at h; cases h
    | some bs =>
      rw [q] at h; cases h
      cases j with
      | zero => cases e; exact .inl ⟨w, rfl, rfl⟩
      | succ j => simpa using endA_get (j := j) q (by simpa using e)
  | .own p w0 :: as, .own true w :: s, as', j, sl, h, e => by
    unfold endA at h
    cases q : endA as s with
    | none => rw [q] at h; cases h
    | some bs =>
      rw [q] at h; cases h
      cases j with
      | zero => cases e; exact .inr ⟨p, w0, w, rfl, rfl, rfl⟩
      | succ j => simpa using endA_get (j := j) q (by simpa using e)
  | .un :: as, s, as', j, sl, h, e => by cases s <;> cases h
  | .fro _ :: as, [], as', j, sl, h, e => by cases h
  | .own _ _ :: as, [], as', j, sl, h, e => by cases h
  | .own _ _ :: as, .un :: _, as', j, sl, h, e => by cases h
  | .own _ _ :: as, .fro _ :: _, as', j, sl, h, e => by cases h
  | .own _ _ :: as, .own false _ :: _, as', j, sl, h, e => by cases h
theorem endA_len : ∀ {as s as' : S}, endA as s = some as' → as'.length = as.length
  | [], s, as', h => by cases h; rfl
  | .fro w :: as, x :: s, as', h => by
    unfold endA at h
    cases q : endA as s with
    | none => rw [q] at h; cases h
    | some bs => rw [q] at h; cases h; simp [endA_len q]
  | .own p w0 :: as, .own true w :: s, as', h => by
    unfold endA at h
    cases q : endA as s with
    | none => rw [q] at h; cases h
    | some bs => rw [q] at h; cases h; simp [endA_len q]
  | .un :: as, s, as', h => by cases s <;> cases h
  | .fro _ :: as, [], as', h => by cases h
  | .own _ _ :: as, [], as', h => by cases h
  | .own _ _ :: as, .un :: _, as', h => by cases h
  | .own _ _ :: as, .fro _ :: _, as', h => by cases h
  | .own _ _ :: as, .own false _ :: _, as', h => by cases h
theorem startS_get {i : Nat} {sl : Sl} (e : (startS n as)[i]? = some sl) (hs : sl ≠ .un) : ∃ sl0, as[i]? = some sl0 ∧ sl = toP sl0 ∧ i < as.length := by
  unfold startS at e
  by_cases h : i < (as.map toP).length
  · rw [List.getElem?_append_left h, List.getElem?_map] at e
    cases q : as[i]? with
    | none => rw [q] at e; cases e
    | some sl0 => rw [q] at e; cases e; exact ⟨sl0, rfl, rfl, (List.getElem?_eq_some_iff.mp q).1⟩
  · rw [List.getElem?_append_right (Nat.le_of_not_lt h)] at e
    have := List.mem_of_getElem? e
    exact absurd (List.eq_of_mem_replicate this) hs
theorem start_get {i : Nat} (h : i < vs.length) : (L2.start N vs)[i]? = (vs.map some)[i]? := by
  unfold L2.start
  rw [List.getElem?_append_left (by simpa using h)]
theorem toP_own {sl : Sl} {p : Bool} {w : W} (e : Sl.own p w = toP sl) : p = true ∧ ∃ q, sl = .own q w := by
  cases sl with
  | un => cases e
  | fro _ => cases e
  | own q _ => cases e; exact ⟨rfl, q, rfl⟩
theorem toP_fro {sl : Sl} {w : W} (e : Sl.fro w = toP sl) : sl = .fro w := by
  cases sl with
  | un => cases e
  | fro _ => cases e; rfl
  | own q _ => cases e
theorem start_own {i : Nat} {p : Bool} {w : W} (hl : as.length = vs.length) (e : (startS n as)[i]? = some (.own p w)) : p = true ∧ (∃ q, as[i]? = some (.own q w)) ∧ (L2.start N vs)[i]? = (vs.map some)[i]? := by
  obtain ⟨sl0, e1, e2, e3⟩ := startS_get e (fun z => nomatch z)
  obtain ⟨rfl, q, rfl⟩ := toP_own e2
  exact ⟨rfl, ⟨q, e1⟩, start_get (by omega)⟩
theorem start_ofOwn {i : Nat} {p : Bool} {w : W} (hl : as.length = vs.length) (e : as[i]? = some (.own p w)) : (startS n as)[i]? = some (.own true w) ∧ (L2.start N vs)[i]? = (vs.map some)[i]? := by
  have h : i < as.length := (List.getElem?_eq_some_iff.mp e).1
  refine ⟨?_, start_get (by omega)⟩
  unfold startS
  rw [List.getElem?_append_left (by simpa using h), List.getElem?_map, e]
  rfl
theorem own_start {a : Addr} (hl : as.length = vs.length) (h : Own (startS n as) (L2.start N vs) a) : Own as (vs.map some) a := by
  obtain ⟨i, p, w, e1, e2⟩ := h
  obtain ⟨rfl, ⟨q, e3⟩, e4⟩ := start_own (N := N) hl e1
  exact ⟨i, q, w, e3, by rw [← e4]; exact e2⟩
theorem start_own' {a : Addr} (hl : as.length = vs.length) (h : Own as (vs.map some) a) : Own (startS n as) (L2.start N vs) a := by
  obtain ⟨i, p, w, e1, e2⟩ := h
  obtain ⟨e3, e4⟩ := start_ofOwn (N := N) (n := n) hl e1
  exact ⟨i, true, w, e3, by rw [e4]; exact e2⟩
theorem rel_start (R : Rel c P as (vs.map some) H) : Rel c P (startS N.length as) (L2.start N vs) H := by
  have hl : as.length = vs.length := by have := R.len; simpa using this
  refine ⟨by unfold startS L2.start; simp [hl], fun i w e => ?_, fun i p w e => ?_, fun i j p q u w a e1 e2 e3 e4 => ?_, R.tbs, R.dom⟩
  · obtain ⟨sl0, e1, e2, e3⟩ := startS_get e (fun z => nomatch z)
    cases toP_fro e2
    rw [start_get (by omega)]
    exact R.fro i w e1
  · obtain ⟨rfl, ⟨q, e3⟩, e4⟩ := start_own (N := N) hl e
    rw [e4]
    exact R.own i q w e3
  · obtain ⟨_, ⟨q1, f1⟩, f2⟩ := start_own (N := N) hl e1
    obtain ⟨_, ⟨q2, g1⟩, g2⟩ := start_own (N := N) hl e2
    rw [f2] at e3
    rw [g2] at e4
    exact R.inj i j q1 q2 u w a f1 g1 e3 e4
theorem end_ok (RA : Rel c P as (vs.map some) H) (t : Stp P (startS N.length as) (L2.start N vs) H P' s' σ' H') (R' : Rel c P' s' σ' H') (e : endA as s' = some as') :
    StE P as (vs.map some) H P' as' H' ∧ Rel c P' as' (vs.map some) H' ∧ (∀ (j : Nat) (p : Bool) (w : W), as[j]? = some (Sl.own p w) → ∃ w', s'[j]? = some (Sl.own true w') ∧ σ'[j]? = (vs.map some)[j]?) ∧ (∀ a, Own as' (vs.map some) a → Own as (vs.map some) a) := by
  have hl : as.length = vs.length := by have := RA.len; simpa using this
  have ll := endA_len e
  have kp := Stp.kp (rel_start RA) t
  have par : ∀ (j : Nat) (w : W) (p : Bool) (w0 : W), s'[j]? = some (Sl.own true w) → as[j]? = some (Sl.own p w0) → σ'[j]? = (vs.map some)[j]? := fun j w p w0 e1 e2 => by
    rw [(t.par j w e1).2]
    exact (start_ofOwn (N := N) (n := N.length) hl e2).2
  have ow : ∀ (j : Nat) (p : Bool) (w : W), as'[j]? = some (Sl.own p w) → ∃ w0, as[j]? = some (Sl.own p w0) ∧ s'[j]? = some (Sl.own true w) ∧ σ'[j]? = (vs.map some)[j]? := fun j p w h => by
    rcases endA_get e h with ⟨_, _, z⟩ | ⟨p', w0, w', e1, e2, z⟩
    · cases z
    · cases z; exact ⟨w0, e1, e2, par j _ _ _ e2 e1⟩
  have oo : ∀ a, Own as' (vs.map some) a → Own as (vs.map some) a := fun a ⟨j, p, w, e1, e2⟩ => by
    obtain ⟨w0, e3, _⟩ := ow j p w e1
    exact ⟨j, p, w0, e3, e2⟩
  refine ⟨⟨⟨fun a o e n nt => t.keep a o e (fun z => n (own_start hl z)) nt, t.there, t.pin, fun a h => ?_, fun a h => .inl (oo a h), fun i w h => ?_⟩, fun i => ?_⟩, ⟨by rw [ll]; exact RA.len, fun i w h => ?_, fun i p w h => ?_, fun i j p q u w a e1 e2 e3 e4 => ?_, R'.tbs, R'.dom⟩, fun j p w h => ?_, oo⟩
  · rcases t.new a h with z | z | z
    · exact .inl z
    · exact .inr (.inl z)
    · exact .inr (.inr (own_start hl z))
  · obtain ⟨w0, e1, _⟩ := ow i true w h
    exact ⟨⟨w0, e1⟩, rfl⟩
  · cases q : as'[i]? with
    | none =>
      have : as.length ≤ i := by rw [← ll]; exact List.getElem?_eq_none_iff.mp q
      exact .inl (List.getElem?_eq_none this).symm
    | some sl =>
      rcases endA_get e q with ⟨w, e1, rfl⟩ | ⟨p, w0, w, e1, e2, rfl⟩
      · exact .inl e1.symm
      · exact .inr ⟨p, w0, e1, w, .inl rfl⟩
  · rcases endA_get e h with ⟨w', e1, z⟩ | ⟨p, w0, w', _, _, z⟩
    · cases z
      obtain ⟨v, e2, r⟩ := RA.fro i _ e1
      exact ⟨v, e2, Rep.mono kp _ _ r⟩
    · cases z
  · obtain ⟨w0, e1, e2, e3⟩ := ow i p w h
    obtain ⟨a, e4, n, cl⟩ := R'.own i true w e2
    exact ⟨a, by rw [← e3]; exact e4, n, cl⟩
  · obtain ⟨w1, _, f2, f3⟩ := ow i p u e1
    obtain ⟨w2, _, g2, g3⟩ := ow j q w e2
    exact R'.inj i j true true u w a f2 g2 (by rw [f3]; exact e3) (by rw [g3]; exact e4)
  · have hj : j < as'.length := by rw [ll]; exact (List.getElem?_eq_some_iff.mp h).1
    rcases endA_get e (List.getElem?_eq_getElem hj) with ⟨w', e1, z⟩ | ⟨p', w0, w', e1, e2, z⟩
    · rw [h] at e1; cases e1
    · exact ⟨w', e2, par j _ _ _ e2 h⟩
theorem body_rd (h : spM c n (callM N.length f) vs H Q E) : rdS c (fun cls d _ H' => E cls d H') f { nx := fun _ H' => Q .non H', rt := Q } (L2.start N vs) H := by
  obtain ⟨_, P, as, RA, h⟩ := h
  have hl : as.length = vs.length := by have := RA.len; simpa using this
  refine ⟨P, startS N.length as, rel_start RA, ?_⟩
  unfold callM at h
  rw [nfLs_eq] at h
  cases e : f (startS N.length as) with
  | bad => rw [e] at h; exact h.elim
  | exc x =>
    rw [e] at h
    intro σ' cls d P' H' u xr
    refine h cls d P' H' ⟨fun a o e n nt => u.keep a o e (fun z => n (own_start hl z)) nt, u.pin, fun a z => ?_, u.tbs⟩ xr
    rcases u.new a z with z | z | z
    · exact .inl z
    · exact .inr (.inl z)
    · exact .inr (.inr (own_start hl z))
  | ok fl =>
    rw [e] at h
    cases fl with
    | bk s' => exact h.elim
    | ct s' => exact h.elim
    | nx s' =>
      intro σ' P' H' t R'
      have h : Out c _ (vs.map some) P as H Q ((ofO (endA as s')).bind fun as' => .ok (.fro .non, as')) := h
      cases eE : endA as s' with
      | none => rw [eE] at h; exact h.elim
      | some as' =>
        rw [eE] at h
        obtain ⟨h1, h2, _, _⟩ := end_ok RA t R' eE
        exact h .non P' H' h1 h2 (by show Rep c.T c.K P' H' .non .non; unfold Rep; rfl)
    | rt r s' =>
      intro σ' v P' H' t R' rv
      have h : Out c _ (vs.map some) P as H Q ((ofO (retR s' r)).bind fun r' => (ofO (endA as s')).bind fun as' => .ok (r', as')) := h
      cases eR : retR s' r with
      | none => rw [eR] at h; exact h.elim
      | some r' =>
        simp only [eR, ofO_some, Res.bind_ok] at h
        cases eE : endA as s' with
        | none => rw [eE] at h; exact h.elim
        | some as' =>
          simp only [eE, ofO_some, Res.bind_ok] at h
          obtain ⟨h1, h2, h3, h4⟩ := end_ok RA t R' eE
          refine h v P' H' h1 h2 ?_
          cases r with
          | fro w => cases eR; exact rv
          | new w =>
            cases eR
            obtain ⟨a, rfl, n, no, hn, cl⟩ := rv
            refine ⟨a, rfl, n, fun z => no ?_, hn, cl⟩
            obtain ⟨j, p, w', e1, e2⟩ := h4 a z
            obtain ⟨w2, e3, e4⟩ := h3 j p w' e1
            exact ⟨j, true, w2, e3, by rw [e4]; exact e2⟩
          | bor i =>
            have eR : (match s'[i]? with
              | some (.fro w) => some (R.fro w)
              | some (.own false w) => some (.new w)
              | _ => none) = some r' := eR
            cases q : s'[i]? with
            | none => rw [q] at eR; cases eR
            | some sl =>
              rw [q] at eR
              cases sl with
              | un => cases eR
              | fro w =>
                cases eR
                obtain ⟨v', e1, rr⟩ := R'.fro i w q
                rw [rv.1] at e1; cases e1
                exact rr
              | own p w =>
                cases p with
                | true => cases eR
                | false =>
                  cases eR
                  obtain ⟨a, e1, n, cl⟩ := R'.own i false w q
                  rw [rv.1] at e1; cases e1
                  have nA : ¬ Own as (vs.map some) a := fun ⟨j, p, w', f1, f2⟩ => by
                    obtain ⟨w2, e3, e4⟩ := h3 j p w' f1
                    have := R'.inj i j false true w w2 a q e3 rv.1 (by rw [e4]; exact f2)
                    subst this
                    rw [q] at e3; cases e3
                  refine ⟨a, rfl, n, fun z => nA (h4 a z), ?_, cl⟩
                  rcases t.own a ⟨i, false, w, q, rv.1⟩ with z | z
                  · exact absurd (own_start hl z) nA
                  · exact z
end
end Qs
/-! # Further pieces -/
namespace Qs
open PySem PySem.Spec PyProof.Rows L2
section
variable {c : Cst} {Wx Wb : WX} {k n : Nat} {X : Cx} {P P0 P1 P2 PB P' : Addr → Prop} {s s' s0 s1 sF sN : S} {σ σ0 σ' : L2.St} {H H0 H1 H2 H' : Hp} {Q : VK} {E : XK} {u w : W} {ws wsF : List W} {vs xs : List V} {r z : R} {x y v : V} {pos p p2 p3 : Pos} {rs : List R} {as as' : S} {N ps : List Str} {f : SS} {a b e : Expr} {fa fb : SE}
/-! ### built-in types as values -/
theorem pe_tyN {x : Str} {T : String} (hg : Gl X x) (hm : X.mg x = none) (hv : bootBuiltins x = some (.type T)) (hn : x ≠ "__name__") (hdb : (x == ("__debug__" : Str)) = false) : PE X (.Name x pos) (tC (.ty T)) :=
  ⟨fun pins s σ H Q I h => ld_blt I hg hm hv ⟨.ty T, H, I, rfl, h⟩ hn hdb⟩
def tyW : W → Option String
  | .non => some "NoneType"
  | .bl _ => some "bool"
  | .int _ => some "int"
  | .str _ => some "str"
  | .tup _ => some "tuple"
  | .lst _ => some "list"
  | _ => none
def isiN (t n : String) : Option Bool :=
  if t = n then some true else if t = "bool" ∧ n = "int" then some true else if n = "int" ∨ n = "bool" ∨ n = "str" ∨ n = "tuple" ∨ n = "list" ∨ n = "dict" then some false else none
def isiW : List W → Option R
  | [w, .ty n] => (tyW w).bind fun t => (isiN t n).map fun b => .fro (.bl b)
  | _ => none
theorem kit_isi {K : PySem.W.Frag} {t n : String} {b : Bool} (ht : t = "NoneType" ∨ t = "bool" ∨ t = "int" ∨ t = "str" ∨ t = "tuple" ∨ t = "list" ∨ t = "dict") (h : isiN t n = some b) : PySem.W.kitOne K (.type t) (.type n) = some b := by
  unfold isiN at h
  split at h
  · rename_i e; subst e; cases h
    rcases ht with rfl | rfl | rfl | rfl | rfl | rfl | rfl <;> kernel_rfl
  · split at h
    · rename_i e; obtain ⟨rfl, rfl⟩ := e; cases h; kernel_rfl
    · split at h
      · rename_i n1 n2 e
        cases h
        rcases ht with rfl | rfl | rfl | rfl | rfl | rfl | rfl <;> rcases e with rfl | rfl | rfl | rfl | rfl | rfl <;> first | (exact absurd rfl n1) | (exact absurd ⟨rfl, rfl⟩ n2) | kernel_rfl
      · cases h
theorem tyx_sqt {K : PySem.W.Frag} {a : Addr} {xs : List V} (h : SqT K H a xs) : TyX K H (.ref a) (.type "tuple") := by
  rcases h with h | h
  · rcases h with h | ⟨o, h⟩
    · exact .base (.tup h)
    · exact .fTuple h
  · obtain ⟨o, its, n, h1, h2, _⟩ := h
    exact .kTuple h1 h2
theorem fn_isi : FnOkW c Wx isiW (rIsi c.K) := fun {P s σ H Q ws z xs} R e hx h => by
  unfold isiW at e
  split at e
  · rename_i w n
    obtain ⟨x, y, rfl, h1, hy⟩ := two_of hx
    clear hx
    have ey : y = .ty n := by unfold View Rep at hy; exact hy
    subst ey
    cases q : tyW w with
    | none => rw [q] at e; cases e
    | some t =>
      rw [q] at e
      cases q2 : isiN t n with
      | none => simp [q2] at e
      | some b =>
        simp only [Option.bind_some, q2, Option.map_some, Option.some.injEq] at e
        subst e
        have key : (t = "NoneType" ∨ t = "bool" ∨ t = "int" ∨ t = "str" ∨ t = "tuple" ∨ t = "list" ∨ t = "dict") ∧ TyX c.K H x (.type t) := by
          unfold tyW at q
          split at q <;> cases q
          · exact ⟨.inl rfl, by rw [h1.non]; exact .base .non⟩
          · exact ⟨.inr (.inl rfl), by rw [h1.bl]; exact .base (.bl _)⟩
          · exact ⟨.inr (.inr (.inl rfl)), by rw [h1.int]; exact .base (.int _)⟩
          · exact ⟨.inr (.inr (.inr (.inl rfl))), by rw [h1.str]; exact .base (.str _)⟩
          · obtain ⟨a, vs, rfl, qa, _⟩ := h1.tup
            exact ⟨.inr (.inr (.inr (.inr (.inl rfl)))), tyx_sqt qa⟩
          · obtain ⟨a, vs, rfl, qa, _⟩ := h1.lst
            exact ⟨.inr (.inr (.inr (.inr (.inr (.inl rfl))))), .base (.lst qa)⟩
        exact ⟨x, .ty n, .type t, .type n, b, rfl, .ty n, key.2, kit_isi key.1 q2, outB R h⟩
  · cases e
/-! ### sorted: integers -/
def insI (x : Int) : List Int → List Int
  | [] => [x]
  | y :: ys => if x ≤ y then x :: y :: ys else y :: insI x ys
def sortI : List Int → List Int
  | [] => []
  | x :: xs => insI x (sortI xs)
theorem insI_perm (x : Int) : ∀ l : List Int, (insI x l).Perm (x :: l)
  | [] => .refl _
  | y :: ys => by
    unfold insI
    split
    · exact .refl _
    · exact ((insI_perm x ys).cons y).trans (.swap x y ys)
theorem sortI_perm : ∀ l : List Int, (sortI l).Perm l
  | [] => .refl _
  | x :: xs => (insI_perm x _).trans ((sortI_perm xs).cons x)
theorem insI_pw (x : Int) : ∀ l : List Int, l.Pairwise (· ≤ ·) → (insI x l).Pairwise (· ≤ ·)
  | [], _ => by simp [insI]
  | y :: ys, h => by
    obtain ⟨h1, h2⟩ := List.pairwise_cons.mp h
    unfold insI
    split
    · rename_i hx
      refine List.pairwise_cons.mpr ⟨fun z hz => ?_, h⟩
      rcases List.mem_cons.mp hz with hz | hz
      · rw [hz]; exact hx
      · exact Int.le_trans hx (h1 z hz)
    · rename_i hx
      refine List.pairwise_cons.mpr ⟨fun z hz => ?_, insI_pw x ys h2⟩
      rcases List.mem_cons.mp ((insI_perm x ys).mem_iff.mp hz) with hz | hz
      · rw [hz]; omega
      · exact h1 z hz
theorem sortI_pw : ∀ l : List Int, (sortI l).Pairwise (· ≤ ·)
  | [] => .nil
  | x :: xs => insI_pw x _ (sortI_pw xs)
theorem sortI_eq {l l' : List Int} (p : l'.Perm l) (h : l'.Pairwise (· ≤ ·)) : l' = sortI l :=
  List.Perm.eq_of_pairwise (le := (· ≤ ·)) (fun a b _ _ h1 h2 => Int.le_antisymm h1 h2) h (sortI_pw l) (p.trans (sortI_perm l).symm)
def sortW : List W → Option R
  | [.lst ws] => (intsOf ws).map fun ns => .new (.lst ((sortI ns).map W.int))
  | _ => none
theorem reps_intmap {T : Tab} {K : PySem.W.Frag} : ∀ {ns : List Int}, Reps T K P H (ns.map W.int) (ns.map V.int)
  | [] => Reps.nil
  | n :: ns => Reps.cons (by unfold Rep; rfl) reps_intmap
theorem fn_sort : FnOkW c Wx sortW (rSortedI c.K) := fun {P s σ H Q ws z xs} R e hx h => by
  unfold sortW at e
  split at e
  · rename_i us
    obtain ⟨x, rfl, h1⟩ := one_of hx
    obtain ⟨a, vs, rfl, qa, rr⟩ := h1.lst
    cases q : intsOf us with
    | none => rw [q] at e; cases e
    | some ns =>
      rw [q] at e
      cases e
      cases reps_ints rr q
      refine ⟨a, ns, rfl, .of qa, fun ns' p hp hs hn => ?_⟩
      rw [sortI_eq hp hs]
      exact Out.lst R h reps_intmap p hn
  · cases e
/-! ### xs[::-1] -/
def revW : W → Option R
  | .lst ws => some (.new (.lst ws.reverse))
  | _ => none
theorem pe_rev {kk : Nat} (hK : X.K = c.K) (ha : PE X a (rd c Wx fa)) : PE X (.Subscript a (.Slice none none (some (.UnaryOp .USub (.Constant (.int 1) kk p) p2)) p3) pos) (rd c Wx (eOne revW fa)) :=
  pe_imp (pe_revL ha) fun σ H Q h => rd_one h fun P s r x H1 R rx h2 => by
    obtain ⟨u, z, e, hx, h3⟩ := Out.onW R rx h2
    unfold revW at e
    split at e
    · cases e
      obtain ⟨ad, vs, rfl, qa, rr⟩ := hx.lst
      exact ⟨ad, vs, rfl, .of qa, Out.lst R h3 rr.rev⟩
    · cases e
end
end Qs
/-! # enumerate of a tuple -/
namespace Qs
open PySem PySem.Spec PyProof.Rows L2
open PySem.Sem (wp)
theorem new_enum {v : Value} {o : Obj} {Z : Heap → Prop} (B : Begins v o Z) :
    Meets (Builtin.«enumerate.__new__» ⟨[.type "enumerate", v], []⟩) (fun _ R s => Z s.heap ∧
      R (.ok (.ret (.ref (s.heap.push o).objs.size))) { s with heap := (s.heap.push o).push { cls := .type "enumerate", data := .fields #[.none, .bool false, .ref s.heap.objs.size, rawInt 0, .none, .none] } }) :=
  .of_wp fun prog w A R s h => by
    obtain ⟨hz, h⟩ := h
    obtain ⟨hp, g, d, tk, os⟩ := s
    have sub := sub_enumerate
    have it : ∀ (A : Around) (E : Value → Shared → Prop) (Q : Value → Shared → Prop), Q (.ref hp.objs.size) ⟨hp.push o, g, d, tk, os⟩ → wpAny (model prog w) A (pyIter v) Q E ⟨hp, g, d, tk, os⟩ := fun A E Q q => B.iter prog w A E ⟨hp, g, d, tk, os⟩ Q hz q
    wp_walk
    refine wpAny_stack_any fun st => (wpAny_pure ?_)
    split
    · rename_i c _ _ _ _ _
      cases (c == Value.type "enumerate") <;> (wp_walk using it; exact ⟨_, rfl, h⟩)
    · wp_walk using it
      exact ⟨_, rfl, h⟩
end Qs
namespace Qs
open PySem PySem.Spec PyProof.Rows L2
/-- the tuple at a, each item in a new pair with its place -/
def IteT (K : PySem.W.Frag) (a : Addr) : It where
  go := fun i H => ∃ (xs : List V) (x : V), SqT K H a xs ∧ xs[i]? = some x
  yld := fun i H v H' => ∃ T x, v = .ref T ∧ H T = none ∧ H' = upd H T (.tup [.int (i : Nat), x]) ∧ ∀ xs, SqT K H a xs → xs[i]? = some x
  stop := fun i H => ∃ xs : List V, SqT K H a xs ∧ xs.length ≤ i
theorem turn_enumT {P : Program} {w : World} {K : PySem.W.Frag} {elts : List Expr} {kk : Nat} {tpos : Pos} (a e it : Addr) :
    Turn P w K (.Tuple elts kk tpos) (IteT K a) [e, it] e (fun i h => (∃ old, IsEnum h e it ((i : Nat) : Int) old) ∧ h.IsTupleIter it a i ∧ e ≠ it ∧ a ≠ e ∧ a ≠ it) where
  mem := List.mem_cons_self
  obj := fun i h st b hb => by
    obtain ⟨⟨old, he⟩, ⟨o, ho, hc, hd⟩, _⟩ := st
    rcases List.mem_cons.mp hb with rfl | hb
    · exact ⟨_, he, fun v q => nomatch q⟩
    · cases List.mem_singleton.mp hb
      exact ⟨o, ho, fun v q => by (rw [hd] at q; cases q)⟩
  keep := fun i h h' st k => by
    obtain ⟨⟨old, he⟩, hi, r⟩ := st
    exact ⟨⟨old, k e List.mem_cons_self _ he⟩, hi.at (fun o q => k it (by simp) o q), r⟩
  item := by
    rintro X rfl rfl rfl hc i pins s σ H E I hf ⟨⟨old, he⟩, hit, hne, hae, hai⟩ ⟨xs, x, hq, hx⟩
    obtain ⟨its, rv, p, _⟩ := I.tuple hq
    obtain ⟨u, hu, ru⟩ := rv.get hx
    have el : e < s.heap.objs.size := Heap.lt_size he
    have il : it < s.heap.objs.size := by obtain ⟨_, q, _⟩ := hit; exact Heap.lt_size q
    have D := Draws.tuple (prog := X.prog) (w := X.w) (A := X.A.in1) (I.ok.hd hc) it a hai its.toArray
    have hlt : i < its.toArray.size := by simpa using (List.getElem?_eq_some_iff.mp hu).1
    refine wpAny_pyNext_enum_itemD D he ⟨hit, p⟩ hlt hne (by simp [hne, Ne.symm hae]) fun y h' tk hy ho hst hT hsz hk => ?_
    have ey : y = u := by
      have : its.toArray[i]? = some u := by simpa using hu
      rw [this] at hy; exact (Option.some.inj hy).symm
    subst ey
    refine ⟨_, rfl, wpAny_letOwnedTupleGo_enum (s := { s with heap := h', toks := tk + 1 }) ho fun h2 he2 sb => ?_⟩
    have hT2 : h2.get? s.heap.objs.size = some { cls := .type "tuple", data := .seq #[.int i tk, y] } := (sb.2 _ (Nat.ne_of_gt el)).trans hT
    have nw : ObjOk X.prog X.w (upd H s.heap.objs.size (.tup [.int (i : Nat), x])) h2 s.heap.objs.size (.tup [.int (i : Nat), x]) :=
      ⟨(by decide : 2 ≤ sizeLine), [.int i tk, y], .cons ⟨_, rfl⟩ (.cons ru .nil), ⟨_, hT2, rfl, _, rfl⟩⟩
    have I1 : Inv X pins σ (upd H s.heap.objs.size (.tup [.int (i : Nat), x])) { s with heap := h2, toks := tk + 1 } :=
      I.turnedNew (ch := [e, it]) (fun b ob hb q => (sb.2 b fun z => hb (by simp [z])).trans (hk b ob (fun z => hb (by simp [z])) (fun z => hb (by simp [z])) q)) hf (Nat.le_refl _) nw
    refine ⟨.ref s.heap.objs.size, _, I1, rfl, ⟨_, x, rfl, I.hok.fresh (Nat.le_refl _), rfl, fun ys hy => by (rw [I.tuple_inj hy hq]; exact hx)⟩, ⟨⟨y, ?_⟩, hst.1.at (fun o q => (sb.2 it (Ne.symm hne)).trans q), hne, hae, hai⟩, fun b hb => ?_⟩
    · have e1 : (((i + 1) : Nat) : Int) = (i : Int) + 1 := Int.natCast_succ i
      rw [e1]
      exact he2
    · have hb2 : b < s.heap.objs.size := by
        rcases List.mem_cons.mp hb with rfl | hb
        · exact el
        · cases List.mem_singleton.mp hb; exact il
      rw [upd_ne (Nat.ne_of_lt hb2)]
      exact (hf b hb).1
  done := by
    rintro X rfl rfl rfl hc i pins s σ H E I hf ⟨⟨old, he⟩, hit, hne, hae, hai⟩ ⟨xs, hq, hx⟩
    obtain ⟨its, rv, p, _⟩ := I.tuple hq
    obtain ⟨f0, f1, f2, f3, f4, f5⟩ := hf it (by simp)
    have hl := rv.length
    have D : Draws X.prog X.w X.A.in1 it [it, a] 0 (fun _ _ => False) (fun _ h => h.IsTupleIter it a i ∧ h.IsTuple a its.toArray) := {
      live := fun _ _ st => let ⟨o, ho, _⟩ := st.1; ⟨o, ho⟩
      frame := fun _ _ _ st hk => ⟨st.1.at (fun o z => hk it (by simp) o z), st.2.at (fun o z => hk a (by simp) o z)⟩
      item := fun j _ _ _ hj => absurd hj (Nat.not_lt_zero j)
      done := fun s2 Q2 E2 st hE => wpAny_nextOf_tuple_end (I.ok.hd hc) st.1 st.2 (by simp; omega) hE }
    exact wpAny_pyNext_enum_endD D he ⟨hit, p⟩ fun h' eb => ⟨rfl, I.turned (t' := s.toks) (fun b o hb q => eb b o hb q) f0 f1 f3 f4 f5⟩
  self := fun A i s Q E st h => by
    obtain ⟨⟨_, he⟩, _⟩ := st
    exact wpAny_pyIter_enum he h
def iEnumA (K : PySem.W.Frag) (ta : TA) : TI := fun σ H R => ta σ H fun vs H1 => ∃ a xs, vs = [.ref a] ∧ ((SqL K H1 a xs ∧ R (Ite K a) H1) ∨ (SqT K H1 a xs ∧ R (IteT K a) H1))
theorem call_enumT {prog : Program} {w : World} {A : Around} {E : Value → Shared → Prop} {s : Shared} {v : Value} {o : Obj} {Z : Heap → Prop} {Q : Value → Shared → Prop} (B : Begins v o Z) (hz : Z s.heap)
    (h : ∀ h', IsEnum h' (s.heap.objs.size + 1) s.heap.objs.size 0 .none → h'.get? s.heap.objs.size = some o → (∀ b u, s.heap.get? b = some u → h'.get? b = some u) → Q (.ref (s.heap.objs.size + 1)) { s with heap := h' }) :
    wpAny (model prog w) A (call (.type "enumerate") [v]) Q E s := by
  refine callType_new F.called_enumerate (by decide) (F.typeCall_enumerate_1 _) (F.newCall_enumerate_1 _) (fun ob => F.args_object_init_2 ob _) F.entry_enumerate_new (new_enum B) ⟨hz, ?_⟩
  have sz : (s.heap.push o).objs.size = s.heap.objs.size + 1 := Heap.size_push ..
  show _ ∧ _
  rw [sz]
  have he : IsEnum ((s.heap.push o).push { cls := .type "enumerate", data := .fields #[.none, .bool false, .ref s.heap.objs.size, rawInt 0, .none, .none] }) (s.heap.objs.size + 1) s.heap.objs.size 0 .none := by
    have q := Heap.get?_push_size (s.heap.push o) (o := { cls := .type "enumerate", data := .fields #[.none, .bool false, .ref s.heap.objs.size, rawInt 0, .none, .none] }) rfl
    rw [sz] at q
    exact q
  exact ⟨⟨_, he, rfl⟩, h _ he (Heap.get?_push_of_some _ (Heap.get?_push_size _ B.free)) fun b u x => Heap.get?_push_of_some _ (Heap.get?_push_of_some _ x)⟩
theorem pi_enumB {X : Cx} {e : Expr} {ta : TA} {p pos tpos : Pos} {elts : List Expr} {kk : Nat} (hg : Gl X "enumerate") (hm : X.mg "enumerate" = none) (ha : PA X [e] ta) (hs : starEach [e] X.env = [(false, eval e X.env)]) :
    PI X (.Tuple elts kk tpos) (.Call (.Name "enumerate" p) [e] [] pos) (iEnumA X.K ta) := by
  refine ⟨fun pins s σ H R I h => Call_ (ld_blt I hg hm boot_enumerate (PyProof.Rows.callWith_type1 (thn (ha.run pos pins s σ H _ I h) fun us s1 ⟨vs, H1, I1, r1, q1⟩ => ?_) hs rfl))⟩
  obtain ⟨a, xs, rfl, q⟩ := q1
  cases r1 with
  | cons r rr =>
    cases rr
    cases r
    have fp : ∀ b ∈ [s1.heap.objs.size + 1, s1.heap.objs.size], FpOk X pins H1 b := fun b hb => by
      have hle : s1.heap.objs.size ≤ b := by
        rcases List.mem_cons.mp hb with rfl | hb
        · exact Nat.le_succ _
        · cases List.mem_singleton.mp hb; exact Nat.le_refl _
      exact I1.fpOk hle (I1.hok.fresh hle)
    rcases q with ⟨hq, q⟩ | ⟨hq, q⟩
    · obtain ⟨its, rv, pl, _⟩ := I1.list hq
      refine call_enumerate_list pl.isList fun h' he hit _ hk => (wpAny_pyIter_enum he ?_)
      have I2 : Inv X pins σ H1 { s1 with heap := h' } := I1.kept (t' := s1.toks) hk
      exact ⟨s1.heap.objs.size + 1, [s1.heap.objs.size + 1, s1.heap.objs.size], _, _, H1, rfl, I2, turn_enum a _ _, ⟨⟨.none, he⟩, hit, Nat.succ_ne_self _⟩, fp, q⟩
    · obtain ⟨its, rv, pl, _⟩ := I1.tuple hq
      refine call_enumT (begins_tuple a its.toArray) pl fun h' he ho hk => (wpAny_pyIter_enum he ?_)
      have I2 : Inv X pins σ H1 { s1 with heap := h' } := I1.kept (t' := s1.toks) hk
      have al : a < s1.heap.objs.size := by obtain ⟨_, z, _⟩ := pl; exact Heap.lt_size z
      exact ⟨s1.heap.objs.size + 1, [s1.heap.objs.size + 1, s1.heap.objs.size], _, _, H1, rfl, I2, turn_enumT a _ _, ⟨⟨.none, he⟩, ⟨_, ho, rfl, rfl⟩, Nat.succ_ne_self _, Nat.ne_of_lt (Nat.lt_succ_of_lt al), Nat.ne_of_lt al⟩, fp, q⟩
section
variable {c : Cst} {Wx : WX} {X : Cx} {a : Expr} {fa : SE} {p pos tpos : Pos}
def enumA : List W → Option (List W)
  | [.lst ws] => some (numL ws)
  | [.tup ws] => some (numL ws)
  | _ => none
theorem pi_enumA {elts : List Expr} {kk : Nat} (na : PySem.W.isStarred a = false) (hK : X.K = c.K) (hg : Gl X "enumerate") (hm : X.mg "enumerate" = none) (ha : PA X [a] (tArgs c Wx [fa])) :
    PI X (.Tuple elts kk tpos) (.Call (.Name "enumerate" p) [a] [] pos) (rdI c Wx (iArgs enumA [fa])) :=
  pi_imp (pi_enumB hg hm ha (star_no na)) fun σ H R h => rd_iargs h fun P us ws xs H1 ra eg k => by
    have key : ∀ (us' : List W) (vx : List V) (J : It), Reps c.T c.K P H1 us' vx → ws = numL us' →
        (∀ P2 H2, Kp P P2 H1 H2 → ∀ (i : Nat) (y : V), vx[i]? = some y → J.go i H2 ∧ ∀ v H3, J.yld i H2 v H3 → ∃ t, v = .ref t ∧ H2 t = none ∧ H3 = upd H2 t (.tup [.int (i : Nat), y])) →
        (∀ P2 H2, Kp P P2 H1 H2 → ∀ i : Nat, vx.length ≤ i → J.stop i H2) → Wk c J ws P H1 := fun us' vx J rx e hgo hst => by
      subst e
      refine wk_pair reps_rng rx (fun P2 H2 kp i x y e1 e2 => ?_) fun P2 H2 kp i hi => hst P2 H2 kp i ?_
      · have hx : x = V.int ((i : Nat) : Int) := by
          have hi : i < us'.length := by rw [rx.length]; exact (List.getElem?_eq_some_iff.mp e2).1
          rw [List.getElem?_map, List.getElem?_range hi] at e1
          exact (Option.some.inj e1).symm
        subst hx
        exact hgo P2 H2 kp i y e2
      · rcases hi with hi | hi
        · have hi : us'.length ≤ i := by simpa using hi
          rw [← rx.length]; exact hi
        · exact hi
    unfold enumA at eg
    split at eg
    · cases eg
      obtain ⟨x, rfl, rx⟩ := reps1 ra
      unfold Rep at rx
      obtain ⟨ax, vx, rfl, qx, rx⟩ := rx
      rw [hK]
      refine ⟨ax, vx, rfl, .inl ⟨.of qx.2, k _ (key _ _ _ rx rfl (fun P2 H2 kp i y e2 => ?_) fun P2 H2 kp i hi => ?_)⟩⟩
      · have h1 : H2 ax = some (.lst vx) := kp.keep _ _ qx.2 (.inr ⟨qx.1, fun z => z⟩)
        refine ⟨⟨vx, y, .of h1, e2⟩, fun v H3 hy => ?_⟩
        obtain ⟨t, x', rfl, ht, rfl, k1⟩ := hy
        have := k1 vx (.of h1)
        rw [e2] at this; cases this
        exact ⟨t, rfl, ht, rfl⟩
      · exact ⟨vx, .of (kp.keep _ _ qx.2 (.inr ⟨qx.1, fun z => z⟩)), hi⟩
    · cases eg
      obtain ⟨x, rfl, rx⟩ := reps1 ra
      unfold Rep at rx
      obtain ⟨ax, vx, rfl, qx, rx⟩ := rx
      rw [hK]
      refine ⟨ax, vx, rfl, .inr ⟨qx, k _ (key _ _ _ rx rfl (fun P2 H2 kp i y e2 => ?_) fun P2 H2 kp i hi => ?_)⟩⟩
      · have h1 : SqT c.K H2 ax vx := kp.sqt qx
        refine ⟨⟨vx, y, h1, e2⟩, fun v H3 hy => ?_⟩
        obtain ⟨t, x', rfl, ht, rfl, k1⟩ := hy
        have := k1 vx h1
        rw [e2] at this; cases this
        exact ⟨t, rfl, ht, rfl⟩
      · exact ⟨vx, kp.sqt qx, hi⟩
    · cases eg
end
end Qs
/-! # Checks of the text -/
namespace Qs
open PySem PySem.Spec PyProof.Rows L2
section
variable {c : Cst} {Wx Wb : WX} {k n : Nat} {X : Cx} {pos p p2 p3 : Pos} {a b e : Expr} {es : List Expr}
/-- no star -/
def noSt : Expr → Bool
  | .Starred _ _ => false
  | _ => true
theorem noSt_ok (h : noSt e = true) : PySem.W.isStarred e = false := by cases e <;> first | rfl | cases h
theorem star_each (h : es.all noSt = true) (env : Env) : starEach es env = es.map fun e => (false, eval e env) :=
  star_all (by
    rw [List.all_eq_true] at h ⊢
    intro x hx
    rw [noSt_ok (h x hx)]; rfl)
theorem asg_each : ∀ {es : List Expr} (env : Env), es.all noSt = true → assignEach es env = es.map fun e => (false, assign e env)
  | [], _, _ => by simp only [assignEach]; rfl
  | e :: es, env, h => by
    rw [List.all_cons, Bool.and_eq_true] at h
    rw [List.map_cons, ← asg_each env h.2]
    cases e <;> first | (cases h.1; done) | simp only [assignEach]
/-- a subscript by a value -/
def plIx : Expr → Bool
  | .Slice _ _ _ _ => false
  | _ => true
theorem plIx_ok (h : plIx b = true) : PlainIx b := by
  intro o i
  cases b <;> first | rfl | cases h
theorem plIx_aug (h : plIx b = true) : ∀ ov iv new, augStore b ov iv new = (do holding [new, ov, iv] (setItem ov iv new); release [new, ov, iv] []; pure .next) := by
  intro ov iv new
  cases b <;> first | rfl | cases h
theorem plIx_asg (h : plIx b = true) (env : Env) : ∀ v, assign (.Subscript a b pos) env v = (do
      let ov ← holding [v] (eval a env)
      let iv ← holding [v, ov] (eval b env)
      standAt pos
      holding [v, ov, iv] (setItem ov iv v)
      release [v, ov, iv] []) := by
  intro v
  cases b <;> first | (unfold assign; rfl) | cases h
/-- no comprehension, no set display -/
def plE : Expr → Bool
  | .ListComp _ _ _ _ => false
  | .SetComp _ _ _ _ => false
  | .DictComp _ _ _ _ _ => false
  | .Set _ _ _ => false
  | _ => true
theorem plE_sw (h : plE e = true) {t : Option Expr} {l : Nat} {env : Env} : swapsWith e t l env = pure false := by
  cases e <;> first | rfl | cases h
theorem plE_set (h : plE e = true) {env : Env} : ∀ x, foldedSetIterable e env x = pure x := by
  intro x
  cases e <;> first | rfl | cases h
def noSet : Expr → Bool
  | .Set _ _ _ => false
  | _ => true
theorem noSet_set (h : noSet e = true) {env : Env} : ∀ x, foldedSetIterable e env x = pure x := by
  intro x
  cases e <;> first | rfl | cases h
theorem noSet_marks {op : CmpOp} (h : noSet e = true) : behindInMarks op e = false := by
  cases e <;> first | rfl | cases h
/-- a test by its value -/
def plT : Expr → Bool
  | .UnaryOp .Not _ _ => false
  | .BoolOp _ _ _ => false
  | .IfExp _ _ _ _ => false
  | .Compare _ _ _ _ => false
  | _ => true
theorem plT_ok (h : plT e = true) {env : Env} : ∀ whole, isTrue e env whole = (do let v ← whole; standAt e.pos; holding [v] (truthy v)) := by
  intro whole
  cases e with
  | UnaryOp op a p => cases op <;> first | (cases h; done) | simp only [PySem.isTrue]
  | _ => first | (cases h; done) | simp only [PySem.isTrue]
/-- an object by whose attribute nothing more is done -/
def plO : Expr → Bool
  | .Call _ _ _ _ => false
  | _ => true
theorem plO_ok (h : plO e = true) {m : Str} {env : Env} {w : Sem Value} : attributeBase e m env w = w := by
  cases e <;> first | rfl | cases h
def swNames (look : Str → Option NameKind) (ts : List Expr) : List Str := ts.filterMap fun
    | .Name id pos => if look id == some .local && pos.line == (ts.head?.map (·.pos.line)).getD 0 then some id else none
    | _ => none
/-- a tuple's stores: none as they stand, some as the names -/
def swD (k : ScopeKind) (look : Str → Option NameKind) (ts vs : List Expr) : Option (Option (List Str)) :=
  if !(ts.length == 2 || ts.length == 3) || vs.length != ts.length || k != .function then some none else
  if vs.any (fun | .Starred .. => true | _ => false) then some none else
  if (swNames look ts).length != ts.length || (swNames look ts).eraseDups.length != (swNames look ts).length then some none else
  if vs.all (foldedForSure 8) then some none else
  if vs.all (constantsAlone 8) then none else some (some (swNames look ts))
theorem swD_ok {env : Env} {ts vs : List Expr} {n m : Nat} {o : Option (List Str)} (hk : env.scope.kind = .function) (h : swD .function (fun x => env.scope.names.lookup x) ts vs = some o) : swappedStores [.Tuple ts n p] (.Tuple vs m p2) env = pure o := by
  have hb : env.blockKind = .function := by unfold Env.blockKind; rw [hk]; rfl
  unfold swD at h
  unfold swappedStores
  simp only [hb]
  split at h
  · rename_i q
    cases h
    exact if_pos q
  · rename_i q
    refine (if_neg q).trans ?_
    split at h
    · rename_i q2
      cases h
      exact if_pos q2
    · rename_i q2
      refine (if_neg q2).trans ?_
      split at h
      · rename_i q3
        cases h
        exact if_pos q3
      · rename_i q3
        refine (if_neg q3).trans ?_
        split at h
        · rename_i q4
          cases h
          exact if_pos q4
        · rename_i q4
          refine (if_neg q4).trans ?_
          split at h
          · cases h
          · rename_i q5
            cases h
            exact if_neg q5
end
end Qs
/-! # What a text tells -/
namespace Qs
open PySem PySem.Spec PyProof.Rows L2
/-- what a name of the top stands for -/
inductive GK where
  | blt
  | con (w : W)
  | fn (n : Nat) (m : SE)
/-- the static part: the names with slots, the scope, the block's own slots, the top -/
structure De where
  N : List Str
  sc : Scope
  blk : Option (List Nat)
  tab : List (Str × GK)
  bsc : List (Str × NameKind) := []
def De.ρ (D : De) : SR := match D.blk with
  | none => sr0
  | some vs => srW vs
def badE : SE := fun _ => .bad
def badI : IE := fun _ => .bad
def badG : GT := fun _ _ => .bad
def badS : SS := fun _ => .bad
structure Dn where
  E : De → Expr → SE
  T : De → Expr → SE
  I : De → Expr → Expr → IE
  G : De → Expr → GT
  S : De → Stmt → SS
def dn0 : Dn := ⟨fun _ _ => badE, fun _ _ => badE, fun _ _ _ => badI, fun _ _ => badG, fun _ _ => badS⟩
/-! ### names -/
def own2 (x : Str) : Bool := x == ("__debug__" : Str) || x == ("__classdict__" : Str) || x == ("__name__" : Str)
def tyOf (x : Str) : Option String :=
  if x = "int" then some "int" else if x = "bool" then some "bool" else if x = "str" then some "str" else if x = "tuple" then some "tuple" else if x = "list" then some "list" else if x = "dict" then some "dict" else none
def locD (D : De) (x : Str) : Bool := D.sc.names.lookup x == some .local || D.sc.names.lookup x == some .cell
def visD (D : De) (x : Str) : Bool := locD D x || D.sc.names.lookup x == some .free
def gloD (D : De) (x : Str) : Option GK := if D.sc.names.lookup x == some .globalImplicit && !own2 x then D.tab.lookup x else none
def ixD (D : De) (x : Str) : Nat := D.N.idxOf x
def okN (D : De) (x : Str) : Bool := D.N[ixD D x]? == some x
def nameE (D : De) (x : Str) : SE :=
  if visD D x && okN D x && !own2 x then eVar (ixD D x) else
  match gloD D x with
  | some (.con w) => eCst w
  | some .blt => match tyOf x with
    | some T => eCst (.ty T)
    | none => badE
  | _ => badE
def constE : Const → SE
  | .none => eCst .non
  | .bool b => eCst (.bl b)
  | .int i => eCst (.int i)
  | .str x => eCst (.str x.cps.toList)
  | _ => badE
/-! ### expressions -/
def itemD (d : Dn) (D : De) : Expr → Bool × SE
  | .Starred v _ => (true, d.E D v)
  | e => (false, d.E D e)
def boolL (op : BoolOp) : List SE → SE
  | [] => badE
  | [f] => f
  | f :: fs => match op with
    | .And => eAnd f (boolL op fs)
    | .Or => eOr f (boolL op fs)
def cmpD (d : Dn) (D : De) (a : Expr) : List CmpOp → List Expr → SE
  | [op], [b] => if noSet b then eCmp op (d.E D a) (d.E D b) else badE
  | [op, op'], [b, e] => if noSet e then eCmp2 op op' (d.E D a) (d.E D b) (d.E D e) else badE
  | _, _ => badE
/-- -1 as written -/
def isM1 : Expr → Bool
  | .UnaryOp .USub (.Constant (.int i) _ _) _ => decide (i = 1)
  | _ => false
def subD (d : Dn) (D : De) (a b : Expr) : SE := match b with
  | .Slice lo hi none _ => eSl (d.E D a) (lo.map (d.E D)) (hi.map (d.E D))
  | .Slice none none (some st) _ => if isM1 st then eOne revW (d.E D a) else badE
  | .Slice _ _ _ _ => badE
  | b => eIx (d.E D a) (d.E D b)
def bltW (f : Str) : Option (List W → Option R) :=
  if f = "len" then some lenW else if f = "abs" then some absW else if f = "max" then some max2W else if f = "min" then some min2W else if f = "int" then some intW else if f = "tuple" then some tupW else
  if f = "list" then some listW else if f = "sum" then some sumW else if f = "all" then some allW else if f = "any" then some anyW else if f = "sorted" then some sortW else if f = "isinstance" then some isiW else none
def callD (d : Dn) (D : De) (f : Str) (args : List Expr) : SE :=
  if args.isEmpty || !args.all noSt then badE else
  match gloD D f with
  | some (.fn n m) => if args.length = n then eCall m (args.map (d.E D)) else badE
  | some .blt => match bltW f with
    | some g => eFn g (args.map (d.E D))
    | none => badE
  | _ => badE
def methD (d : Dn) (D : De) (o : Expr) (m : Str) (ap : Pos) (args : List Expr) (pos : Pos) : SE :=
  if plO o && (ap.endLine == pos.line) then match args with
    | [] => if m = "pop" then eMut0 popW (d.E D o) else badE
    | [e] => if noSt e then (if m = "append" then eMut1 appW (d.E D o) (d.E D e) else if m = "extend" then eMut1 extW (d.E D o) (d.E D e) else if m = "pop" then eMut1 popAtW (d.E D o) (d.E D e) else badE) else badE
    | _ => badE
  else badE
/-- the block's own names -/
def ownN (N : List Str) (sc : Scope) : List (Str × Nat) := sc.names.filterMap fun p => if (p.2 == .local || p.2 == .cell) && N.contains p.1 then some (p.1, N.idxOf p.1) else none
def blkD (D : De) (scope : Scope) : De := { D with sc := relS scope D.sc, blk := some ((ownN D.N scope).map (·.2)), bsc := scope.names }
def ifsD (d : Dn) (D : De) : List Expr → SE
  | [] => blE true
  | [t] => d.T D t
  | _ => badE
def lcD (d : Dn) (D : De) (elt : Expr) (gs : List Comprehension) (scope : Scope) : SE := match gs with
  | [⟨tg, iter, ifs, 0⟩] => if blkC D.N D.sc scope (ownN D.N scope) && noSet iter && decide (ifs.length ≤ 1) then eLc (d.I D tg iter) (d.G (blkD D scope) tg) (ifsD d (blkD D scope) ifs) (d.E (blkD D scope) elt) ((ownN D.N scope).map (·.2)) else badE
  | _ => badE
def stepE (d : Dn) (D : De) : Expr → SE
  | .Name x _ => nameE D x
  | .Constant v _ _ => constE v
  | .Tuple es _ _ => eTup (es.map (itemD d D))
  | .List es _ => eLst (es.map (itemD d D))
  | .BinOp a op b _ => eBin op (d.E D a) (d.E D b)
  | .UnaryOp .USub a _ => eNeg (d.E D a)
  | .UnaryOp .Not a _ => eNot (d.E D a)
  | .BoolOp op es _ => boolL op (es.map (d.E D))
  | .IfExp t a b _ => eIf (d.T D t) (d.E D a) (d.E D b)
  | .Compare a ops bs _ => cmpD d D a ops bs
  | .Subscript a b _ => subD d D a b
  | .Call (.Name f _) args [] _ => callD d D f args
  | .Call (.Attribute o m ap) args [] pos => methD d D o m ap args pos
  | .ListComp elt gs scope _ => lcD d D elt gs scope
  | _ => badE
def stepT (d : Dn) (D : De) : Expr → SE
  | .UnaryOp .Not a _ => eNot (d.T D a)
  | .BoolOp op es _ => boolL op (es.map (d.T D))
  | .Compare a ops bs _ => cmpD d D a ops bs
  | .IfExp _ _ _ _ => badE
  | e => d.E D e
/-! ### what is walked, targets -/
def iterD (d : Dn) (D : De) (tg : Expr) (f : Str) (args : List Expr) : Option IE :=
  if !args.all noSt then none else
  match gloD D f with
  | some .blt =>
    if f = "range" then (match args with
      | [a] => some (iArgs rng1 [d.E D a])
      | [a, b] => some (iArgs rng2 [d.E D a, d.E D b])
      | [a, b, e] => some (iArgs rng3 [d.E D a, d.E D b, d.E D e])
      | _ => none)
    else if f = "zip" then (match tg, args with
      | .Tuple _ _ _, [a, b] => some (iArgs zipW [d.E D a, d.E D b])
      | _, _ => none)
    else if f = "enumerate" then (match tg, args with
      | .Tuple _ _ _, [a] => some (iArgs enumA [d.E D a])
      | _, _ => none)
    else none
  | _ => none
def stepI (d : Dn) (D : De) (tg : Expr) : Expr → IE
  | .Call (.Name f p) args [] pos => match iterD d D tg f args with
    | some g => g
    | none => iVal (d.E D (.Call (.Name f p) args [] pos))
  | e => iVal (d.E D e)
def tgN (D : De) (x : Str) : Bool := okN D x && (match D.blk with
  | none => locD D x
  | some vs => (D.sc.names.lookup x == some .local || (D.sc.names.lookup x == some .cell && D.bsc.lookup x == some .cell)) && vs.contains (ixD D x))
def stepG (d : Dn) (D : De) : Expr → GT
  | .Name x _ => if tgN D x then asgN (ixD D x) else badG
  | .Tuple es _ _ => if es.all noSt then gTupW (es.map (d.G D)) else badG
  | .Subscript a b _ => if plIx b then gIx (d.E D a) (d.E D b) else badG
  | _ => badG
/-! ### statements -/
def wFuel : Nat := 1000000
def blockD (d : Dn) (D : De) : List Stmt → SS
  | [] => sNil
  | st :: r => sSeq (d.S D st) (blockD d D r)
/-- the fresh list is swapped with the name's -/
def swB (D : De) (x : Str) (p : Pos) (scope : Scope) (lp : Pos) : Bool := D.sc.names.lookup x == some .local && (p.line == lp.line) && !(scope.names.any fun (n, k) => n == x && (k == .local || k == .cell))
def asgD (d : Dn) (D : De) (tg e : Expr) : SS := match tg, e with
  | .Tuple ts n p, .Tuple vs m p2 => match swD .function (fun x => D.sc.names.lookup x) ts vs with
    | some none => sAsg (d.E D (.Tuple vs m p2)) (d.G D (.Tuple ts n p))
    | some (some names) => (match ts, vs with
      | [.Name x _, .Name y _], [a, b] => if names = [x, y] && noSt a && noSt b && D.N[ixD D x]? == some x && D.N[ixD D y]? == some y && decide (ixD D x ≠ ixD D y) && D.sc.names.lookup x == some .local && D.sc.names.lookup y == some .local then
          sPar [ixD D x, ixD D y] [d.E D a, d.E D b] else badS
      | [.Name x _, .Name y _, .Name z _], [a, b, e] => if names = [x, y, z] && noSt a && noSt b && noSt e && D.N[ixD D x]? == some x && D.N[ixD D y]? == some y && D.N[ixD D z]? == some z && decide (ixD D x ≠ ixD D y) && decide (ixD D x ≠ ixD D z) && decide (ixD D y ≠ ixD D z) &&
          D.sc.names.lookup x == some .local && D.sc.names.lookup y == some .local && D.sc.names.lookup z == some .local then
          sPar [ixD D x, ixD D y, ixD D z] [d.E D a, d.E D b, d.E D e] else badS
      | _, _ => badS)
    | none => badS
  | .Tuple ts n p, e => if plE e then sAsg (d.E D e) (d.G D (.Tuple ts n p)) else badS
  | .Name x p, .ListComp elt gs scope lp => if swB D x p scope lp then (if okN D x then sAsg (lcD d D elt gs scope) (asgN (ixD D x)) else badS) else sAsg (lcD d D elt gs scope) (d.G D (.Name x p))
  | .Name x p, e => if plE e then sAsg (d.E D e) (d.G D (.Name x p)) else badS
  | .Subscript a b p, e => if plE e then sAsg (d.E D e) (d.G D (.Subscript a b p)) else badS
  | _, _ => badS
def okA : Operator → Bool
  | .Add => true
  | .Sub => true
  | _ => false
def stepS (d : Dn) (D : De) : Stmt → SS
  | .Expr (.Constant (.str _) _ _) _ => sNil
  | .Expr e _ => if plE e then sExpr (d.E D e) else badS
  | .Assign [tg] e _ => asgD d D tg e
  | .AugAssign (.Name x _) op e _ => if okA op && okN D x && locD D x then sAug op (ixD D x) (d.E D e) else badS
  | .AugAssign (.Subscript a b _) op e _ => if okA op && plIx b then sAugIx op (d.E D a) (d.E D b) (d.E D e) else badS
  | .If t as bs _ => sIf (d.T D t) (blockD d D as) (blockD d D bs)
  | .While t b [] _ => whileN (d.T D t) (blockD d D b) wFuel
  | .For tg iter b [] _ => if noSet iter then sFor (d.I D tg iter) (d.G D tg) (blockD d D b) else badS
  | .Return none _ => sRet (eCst .non)
  | .Return (some e) _ => sRet (d.E D e)
  | .Break _ => sBreak
  | .Continue _ => sCont
  | .Pass _ => sNil
  | _ => badS
def step (d : Dn) : Dn := ⟨stepE d, stepT d, stepI d, stepG d, stepS d⟩
def den : Nat → Dn
  | 0 => dn0
  | n + 1 => step (den n)
end Qs
/-! # What a text tells is so -/
namespace Qs
open PySem PySem.Spec PyProof.Rows L2
/-- what a name of the top is -/
def GOk (c : Cst) (k : Nat) (P : Program) (w : World) (K : PySem.W.Frag) (mg : Str → Option Value) (base : Heap) (x : Str) : GK → Prop
  | .blt => mg x = none
  | .con u => ∃ (v : V) (z : Value), mg x = some z ∧ RelV v z ∧ ∀ P H, Rep c.T c.K P H u v
  | .fn n m => ∃ (f : Addr) (fd : FuncData) (ps : List Str), ps.length = n ∧ FnOk P w K mg base (L2.CX P w) k f fd ps (spM c n m) ∧ mg x = some (.ref f) ∧ PySem.W.keepIn K (.ref f) = true ∧ Binds K fd ps []
structure Good (c : Cst) (k : Nat) (X : Cx) (Wx : WX) (D : De) : Prop where
  K : X.K = c.K
  N : X.N = D.N
  nd : X.N.Nodup
  sc : X.env.scope = D.sc
  kind : D.sc.kind = .function
  calm : X.calm = true
  room : Room k X.A
  tk : Takes X Wx
  po : D.blk = none → PassesOwn (model X.prog X.w) X.A X.env X.xe
  fn : D.blk = none → ∀ x, X.fn x = true
  fnb : ∀ x, D.bsc.lookup x = some .cell → X.fn x = true
  tab : ∀ x g, D.tab.lookup x = some g → GOk c k X.prog X.w X.K X.mg X.base x g
def DnOk (c : Cst) (d : Dn) : Prop := ∀ (k : Nat) (X : Cx) (Wx : WX) (D : De), Good c k X Wx D →
  (∀ e, PE X e (rd c Wx (d.E D e))) ∧ (∀ e, PT X e (rdT c Wx (d.T D e))) ∧ (∀ tg it, PI X tg it (rdI c Wx (d.I D tg it))) ∧ (∀ tg, PG X tg (rdG c Wx D.ρ (d.G D tg))) ∧ (D.blk = none → ∀ st, PS X st (rdS c Wx (d.S D st)))
section
variable {c : Cst} {k n : Nat} {X : Cx} {Wx : WX} {D : De} {d : Dn} {e a b : Expr} {es : List Expr} {pos p p2 : Pos} {f : Str} {fa fb : SE}
theorem pe_bad : PE X e (rd c Wx badE) := ⟨fun _ _ _ _ _ _ h => by obtain ⟨_, _, _, h⟩ := h; exact h.elim⟩
theorem pt_bad : PT X e (rdT c Wx badE) := ⟨fun _ _ _ _ _ _ h => by obtain ⟨_, _, _, h⟩ := h; exact h.elim⟩
theorem pw_bad : PW X e (rdT c Wx badE) := ⟨fun _ _ _ _ _ _ _ h => by obtain ⟨_, _, _, h⟩ := h; exact h.elim⟩
theorem pi_bad {tg : Expr} : PI X tg e (rdI c Wx badI) := ⟨fun _ _ _ _ _ _ h => by obtain ⟨_, _, _, h⟩ := h; exact h.elim⟩
theorem pg_bad {ρ : SR} : PG X e (rdG c Wx ρ badG) := ⟨fun _ _ _ _ _ _ _ _ _ h => by obtain ⟨_, _, _, _, _, _, _, _, _, _, h⟩ := h; exact h.elim⟩
theorem ps_bad {st : Stmt} : PS X st (rdS c Wx badS) := ⟨fun _ _ _ _ _ _ h => by obtain ⟨_, _, _, h⟩ := h; exact h.elim⟩
theorem dn0_ok : DnOk c dn0 := fun _ _ _ _ _ => ⟨fun _ => pe_bad, fun _ => pt_bad, fun _ _ => pi_bad, fun _ => pg_bad, fun _ _ => ps_bad⟩
/-! ### names -/
theorem own2_ok {x : Str} (h : own2 x = false) : (x == ("__debug__" : Str)) = false ∧ (x == ("__classdict__" : Str)) = false ∧ x ≠ "__name__" := by
  unfold own2 at h
  simp only [Bool.or_eq_false_iff] at h
  exact ⟨h.1.1, h.1.2, fun z => by rw [z] at h; simp at h⟩
theorem loc_ok (G : Good c k X Wx D) {x : Str} (h : locD D x = true) : Loc X.env.scope x := by
  unfold locD at h
  rw [Bool.or_eq_true] at h
  rw [G.sc]
  rcases h with h | h
  · exact .inl (eq_of_beq h)
  · exact .inr (eq_of_beq h)
theorem vis_ok (G : Good c k X Wx D) {x : Str} (h : visD D x = true) : Vis X.env.scope x := by
  unfold visD at h
  rw [Bool.or_eq_true] at h
  rcases h with h | h
  · rcases loc_ok G h with h | h
    · exact .inl h
    · exact .inr (.inl h)
  · rw [G.sc]; exact .inr (.inr (eq_of_beq h))
theorem okN_ok (G : Good c k X Wx D) {x : Str} (h : okN D x = true) : X.N[ixD D x]? = some x := by
  rw [G.N]; exact eq_of_beq h
theorem glo_ok' (G : Good c k X Wx D) {x : Str} {g : GK} (h : gloD D x = some g) : Gl X x ∧ own2 x = false ∧ GOk c k X.prog X.w X.K X.mg X.base x g := by
  unfold gloD at h
  split at h
  · rename_i q
    rw [Bool.and_eq_true, Bool.not_eq_true'] at q
    refine ⟨?_, q.2, G.tab x g h⟩
    show X.env.scope.names.lookup x = _
    rw [G.sc]; exact eq_of_beq q.1
  · cases h
theorem tyOf_ok {x : Str} {T : String} (h : tyOf x = some T) : bootBuiltins x = some (.type T) := by
  unfold tyOf at h
  split at h
  · rename_i q; subst q; cases h; decide +kernel
  split at h
  · rename_i q; subst q; cases h; decide +kernel
  split at h
  · rename_i q; subst q; cases h; decide +kernel
  split at h
  · rename_i q; subst q; cases h; decide +kernel
  split at h
  · rename_i q; subst q; cases h; decide +kernel
  split at h
  · rename_i q; subst q; cases h; decide +kernel
  cases h
theorem nameE_ok (G : Good c k X Wx D) {x : Str} : PE X (.Name x pos) (rd c Wx (nameE D x)) := by
  unfold nameE
  split
  · rename_i h
    simp only [Bool.and_eq_true, Bool.not_eq_true'] at h
    obtain ⟨o1, o2, _⟩ := own2_ok h.2
    exact pe_slot (okN_ok G h.1.2) (vis_ok G h.1.1) o1 o2
  · split
    · rename_i w h
      obtain ⟨hg, ho, v, z, hm, rv, rw'⟩ := glo_ok' G h
      exact pe_cst (pe_glob hg hm rv (own2_ok ho).1) rw'
    · rename_i h
      obtain ⟨hg, ho, hm⟩ := glo_ok' G h
      split
      · rename_i T hT
        exact pe_cst (pe_tyN hg hm (tyOf_ok hT) (own2_ok ho).2.2 (own2_ok ho).1) fun P H => by unfold Rep; rfl
      · exact pe_bad
    · exact pe_bad
theorem constE_ok {v : Const} {j : Nat} : PE X (.Constant v j pos) (rd c Wx (constE v)) := by
  cases v with
  | none => exact pe_cst pe_non fun P H => rep_non
  | bool b => exact pe_cst pe_bl fun P H => rep_bl
  | int i => exact pe_cst pe_int fun P H => rep_int
  | str x =>
    refine pe_cst pe_str fun P H => ?_
    have h1 := rep_str (c := c) (P := P) (H := H) (i := x.cps.toList)
    have e : mkS x.cps.toList = x := by unfold mkS; simp
    rw [e] at h1; exact h1
  | _ => exact pe_bad
/-! ### lists of expressions -/
theorem args_ok (he : ∀ e, PE X e (rd c Wx (d.E D e))) : ∀ {es : List Expr}, es.all noSt = true → PA X es (tArgs c Wx (es.map (d.E D)))
  | [], _ => pa_nil
  | e :: es, h => by
    rw [List.all_cons, Bool.and_eq_true] at h
    exact pa_cons' (he e) (args_ok he h.2) (noSt_ok h.1)
theorem argsF_ok (he : ∀ e, PE X e (rd c Wx (d.E D e))) : ∀ {es : List Expr}, es.all noSt = true → PA X es (tArgs c Wx ((es.map (d.E D)).map eFz))
  | [], _ => pa_nil
  | e :: es, h => by
    rw [List.all_cons, Bool.and_eq_true] at h
    exact pa_cons' (pe_fz (he e)) (argsF_ok he h.2) (noSt_ok h.1)
theorem item_no (h : noSt e = true) : itemD d D e = (false, d.E D e) := by cases e <;> first | rfl | cases h
theorem items_ok (hK : X.K = c.K) (he : ∀ e, PE X e (rd c Wx (d.E D e))) : ∀ (es : List Expr), PA X es (tItems c Wx (es.map (itemD d D)))
  | [] => pa_nil
  | e :: es => by
    have ih := items_ok hK he es
    by_cases h : noSt e = true
    · rw [List.map_cons, item_no h]
      exact pa_cons' (he e) ih (noSt_ok h)
    · cases e with
      | Starred v p =>
        show PA X _ (StX.tStar c.K (rd c Wx (d.E D v)) (tItems c Wx (es.map (itemD d D))))
        rw [← hK]
        exact StX.pa_star (he v) ih (by simp only [starEach])
      | _ => exact absurd rfl h
theorem bool_ok {op : BoolOp} : ∀ {es : List Expr} {fs : List SE}, Paired (fun e f => PE X e (rd c Wx f)) es fs → PE X (.BoolOp op es pos) (rd c Wx (boolL op fs))
  | _, _, .nil => pe_bad
  | _, _, .cons h .nil => pe_one h
  | _, _, .cons h (.cons h2 t) => by
    have ih := bool_ok (op := op) (.cons h2 t)
    cases op with
    | And => exact pe_and' h ih
    | Or => exact pe_or' h ih
theorem boolT_ok {op : BoolOp} : ∀ {es : List Expr} {fs : List SE}, Paired (fun e f => PT X e (rdT c Wx f)) es fs → PW X (.BoolOp op es pos) (rdT c Wx (boolL op fs))
  | _, _, .nil => pw_bad
  | _, _, .cons h .nil => pw_one h
  | _, _, .cons h (.cons h2 t) => by
    have ih := boolT_ok (op := op) (.cons h2 t)
    cases op with
    | And => exact pw_and' h ih
    | Or => exact pw_or' h ih
theorem paired_map {α β : Type} {F : α → β → Prop} {g : α → β} (h : ∀ a, F a (g a)) : ∀ l : List α, Paired F l (l.map g)
  | [] => .nil
  | a :: l => .cons (h a) (paired_map h l)
theorem units_of (G : Good c k X Wx D) : X.A.units + 64 < cLine := G.room.units
theorem cmpE_ok (G : Good c k X Wx D) (he : ∀ e, PE X e (rd c Wx (d.E D e))) {ops : List CmpOp} {bs : List Expr} : PE X (.Compare a ops bs pos) (rd c Wx (cmpD d D a ops bs)) := by
  unfold cmpD
  split
  · split
    · rename_i h
      exact pe_cmp' G.K (units_of G) (noSet_marks h) (he _) (he _)
    · exact pe_bad
  · split
    · rename_i h
      refine pe_cmp2 G.K (units_of G) ?_ (he _) (he _) (he _)
      simp only [lastMarks]
      exact noSet_marks h
    · exact pe_bad
  · exact pe_bad
theorem cmpT_ok (G : Good c k X Wx D) (he : ∀ e, PE X e (rd c Wx (d.E D e))) {ops : List CmpOp} {bs : List Expr} : PT X (.Compare a ops bs pos) (rdT c Wx (cmpD d D a ops bs)) := by
  unfold cmpD
  split
  · split
    · rename_i h
      exact pt_cmp' G.K (units_of G) (noSet_marks h) (he _) (he _)
    · exact pt_bad
  · split
    · rename_i h
      refine pt_cmp2 G.K (units_of G) ?_ (he _) (he _) (he _)
      simp only [lastMarks]
      exact noSet_marks h
    · exact pt_bad
  · exact pt_bad
theorem po_ok (he : ∀ e, PE X e (rd c Wx (d.E D e))) (o : Option Expr) : PO X o (tP c Wx (o.map (d.E D))) := by
  cases o with
  | none => exact po_none
  | some e => exact po_some (he e)
theorem m1_ok {st : Expr} (h : isM1 st = true) : ∃ j q q2, st = .UnaryOp .USub (.Constant (.int 1) j q) q2 := by
  unfold isM1 at h
  split at h
  · rw [of_decide_eq_true h]; exact ⟨_, _, _, rfl⟩
  · cases h
theorem sub_ok (G : Good c k X Wx D) (he : ∀ e, PE X e (rd c Wx (d.E D e))) : PE X (.Subscript a b pos) (rd c Wx (subD d D a b)) := by
  unfold subD
  split
  · exact pe_sl G.K (he _) (po_ok he _) (po_ok he _)
  · split
    · rename_i h
      obtain ⟨j, q, q2, rfl⟩ := m1_ok h
      exact pe_rev G.K (he _)
    · exact pe_bad
  · exact pe_bad
  · rename_i h1 h2 h3
    refine pe_sub G.K (plIx_ok ?_) (he _) (he _)
    cases b <;> first | rfl | exact (h3 _ _ _ _ rfl).elim
/-! ### built-ins -/
theorem blt_ok {g : List W → Option R} {t : TA} (h : bltW f = some g) (hK : X.K = c.K) (hc : X.calm = true) (hg : Gl X f) (hm : X.mg f = none) (ha : PA X (e :: es) t)
    (he : starEach (e :: es) X.env = (false, eval e X.env) :: starEach es X.env) (hpl : (backTo pos (starEach es X.env)).any (·.1) = false) : ∃ r, FnOkW c Wx g r ∧ PE X (.Call (.Name f p) (e :: es) [] pos) (tCB r t) := by
  unfold bltW at h
  split at h
  · rename_i q; subst q; cases h
    exact ⟨_, fn_len, hK ▸ pe_callB call_len hg hm (by decide +kernel) ha (by decide) (by decide) he hpl⟩
  split at h
  · rename_i q; subst q; cases h
    exact ⟨_, fn_abs, pe_callB call_abs hg hm (by decide +kernel) ha (by decide) (by decide) he hpl⟩
  split at h
  · rename_i q; subst q; cases h
    exact ⟨_, fn_max2, pe_callB (call_max2 hc) hg hm (by decide +kernel) ha (by decide) (by decide) he hpl⟩
  split at h
  · rename_i q; subst q; cases h
    exact ⟨_, fn_min2, pe_callB (call_min2 hc) hg hm (by decide +kernel) ha (by decide) (by decide) he hpl⟩
  split at h
  · rename_i q; subst q; cases h
    exact ⟨_, fn_int, pe_callTy call_int1 hg hm (by decide +kernel) ha (by decide) (by decide) he hpl⟩
  split at h
  · rename_i q; subst q; cases h
    exact ⟨_, fn_tup, hK ▸ pe_callTy call_tuple_of hg hm (by decide +kernel) ha (by decide) (by decide) he hpl⟩
  split at h
  · rename_i q; subst q; cases h
    exact ⟨_, fn_list, hK ▸ pe_callTy call_list_of hg hm (by decide +kernel) ha (by decide) (by decide) he hpl⟩
  split at h
  · rename_i q; subst q; cases h
    exact ⟨_, fn_sum, hK ▸ pe_callB (cr_sumA hc) hg hm (by decide +kernel) ha (by decide) (by decide) he hpl⟩
  split at h
  · rename_i q; subst q; cases h
    exact ⟨_, fn_all, hK ▸ pe_callB (cr_all hc) hg hm (by decide +kernel) ha (by decide) (by decide) he hpl⟩
  split at h
  · rename_i q; subst q; cases h
    exact ⟨_, fn_any, hK ▸ pe_callB (cr_any hc) hg hm (by decide +kernel) ha (by decide) (by decide) he hpl⟩
  split at h
  · rename_i q; subst q; cases h
    exact ⟨_, fn_sort, hK ▸ pe_callB cr_sortedI hg hm (by decide +kernel) ha (by decide) (by decide) he hpl⟩
  split at h
  · rename_i q; subst q; cases h
    exact ⟨_, fn_isi, hK ▸ pe_callB call_isi hg hm (by decide +kernel) ha (by decide) (by decide) he hpl⟩
  cases h
theorem call_ok (G : Good c k X Wx D) (he : ∀ e, PE X e (rd c Wx (d.E D e))) : PE X (.Call (.Name f p) es [] pos) (rd c Wx (callD d D f es)) := by
  unfold callD
  split
  · exact pe_bad
  · rename_i h
    simp only [Bool.or_eq_true, Bool.not_eq_true', not_or] at h
    have hst : es.all noSt = true := by simpa using h.2
    cases es with
    | nil => exact absurd rfl h.1
    | cons e es =>
      have hs := hst
      rw [List.all_cons, Bool.and_eq_true] at hs
      have h1 : starEach (e :: es) X.env = (false, eval e X.env) :: starEach es X.env := star_no (noSt_ok hs.1)
      have h2 : (backTo pos (starEach es X.env)).any (·.1) = false := star_any (by
        have := hs.2
        rw [List.all_eq_true] at this ⊢
        intro x hx
        rw [noSt_ok (this x hx)]; rfl)
      split
      · rename_i n m hgl
        split
        · rename_i hn
          obtain ⟨hg, ho, fa, fd, ps, hp, F, hm, hk, hb⟩ := glo_ok' G hgl
          exact pe_imp (pe_callS F G.room hg hm hk hb (passAt G.tk) (argsF_ok he hst) (own2_ok ho).1 h1 h2) fun σ H Q h => rd_call (by simpa using hn) h
        · exact pe_bad
      · rename_i hgl
        obtain ⟨hg, ho, hm⟩ := glo_ok' G hgl
        split
        · rename_i g hb
          obtain ⟨r, hr, hp⟩ := blt_ok (c := c) (Wx := Wx) (p := p) hb G.K G.calm hg hm (args_ok he hst) h1 h2
          exact pe_fn_of (f := fun _ => True) hr hp
        · exact pe_bad
      · exact pe_bad
theorem meth_ok (G : Good c k X Wx D) (he : ∀ e, PE X e (rd c Wx (d.E D e))) {o : Expr} {m : Str} : PE X (.Call (.Attribute o m p) es [] pos) (rd c Wx (methD d D o m p es pos)) := by
  unfold methD
  split
  · rename_i h
    rw [Bool.and_eq_true] at h
    split
    · split
      · rename_i q; subst q
        exact pe_pop (he o) (plO_ok h.1) h.2
      · exact pe_bad
    · split
      · rename_i hs
        split
        · rename_i q; subst q
          exact pe_append (he o) (he _) (plO_ok h.1) (noSt_ok hs) h.2
        · split
          · rename_i q; subst q
            exact pe_extend (he o) (he _) (plO_ok h.1) (noSt_ok hs) h.2
          · split
            · rename_i q; subst q
              exact pe_popAt (he o) (he _) (plO_ok h.1) (noSt_ok hs) h.2
            · exact pe_bad
      · exact pe_bad
    · exact pe_bad
  · exact pe_bad
end
end Qs
/-! # What a text tells is so: blocks, targets, statements -/
namespace Qs
open PySem PySem.Spec PyProof.Rows L2
section
variable {c : Cst} {k n : Nat} {X : Cx} {Wx : WX} {D : De} {d : Dn} {e a b tg iter : Expr} {es : List Expr} {pos p p2 : Pos} {f : Str} {fa fb : SE}
abbrev noW : WX := fun _ _ _ _ => False
theorem blk_good (G : Good c k X Wx D) {scope : Scope} (hb : blkC D.N D.sc scope (ownN D.N scope) = true) (s : Shared) (H : Hp) (C : Addr) (cl : List (Str × Addr)) (fp : List Addr) : Good c k (X.blk s H scope (compEnvC scope cl C X.env) fp) noW (blkD D scope) where
  K := G.K
  N := G.N
  nd := G.nd
  sc := by
    show relabel scope X.env = relS scope D.sc
    unfold relabel relS Env.kindOf
    rw [G.sc]
  kind := (blkOk_by hb).kind
  calm := G.calm
  room := G.room
  tk := takes0
  po := fun z => nomatch z
  fn := fun z => nomatch z
  fnb := fun x h => by show (scope.names.lookup x == some .cell) = true; exact beq_iff_eq.mpr h
  tab := G.tab
theorem blk_ok (G : Good c k X Wx D) {scope : Scope} (hb : blkC D.N D.sc scope (ownN D.N scope) = true) : BlkOk X.N X.env.scope scope (ownN D.N scope) := by
  rw [G.N, G.sc]; exact blkOk_by hb
/-- a comprehension's parts -/
theorem lc_parts (dk : DnOk c d) (G : Good c k X Wx D) {scope : Scope} {ifs : List Expr} (hb : blkC D.N D.sc scope (ownN D.N scope) = true) (h2 : ifs.length ≤ 1) :
    (∀ (s : Shared) (H : Hp) (C : Addr) (cl : List (Str × Addr)) (fp : List Addr), PG (X.blk s H scope (compEnvC scope cl C X.env) fp) tg (rdG c noW (srW ((ownN D.N scope).map (·.2))) (d.G (blkD D scope) tg))) ∧
    (∀ (s : Shared) (H : Hp) (C : Addr) (cl : List (Str × Addr)) (fp : List Addr), PTs (X.blk s H scope (compEnvC scope cl C X.env) fp) ifs (rdT c noW (ifsD d (blkD D scope) ifs))) ∧
    (∀ (s : Shared) (H : Hp) (C : Addr) (cl : List (Str × Addr)) (fp : List Addr), PE (X.blk s H scope (compEnvC scope cl C X.env) fp) e (rd c noW (d.E (blkD D scope) e))) := by
  refine ⟨fun s H C cl fp => (dk k _ noW _ (blk_good G hb s H C cl fp)).2.2.2.1 tg, fun s H C cl fp => ?_, fun s H C cl fp => (dk k _ noW _ (blk_good G hb s H C cl fp)).1 e⟩
  match ifs, h2 with
  | [], _ => exact pts_nil'
  | [t], _ => exact pts_one ((dk k _ noW _ (blk_good G hb s H C cl fp)).2.1 t)
theorem lc_ok (dk : DnOk c d) (G : Good c k X Wx D) {gs : List Comprehension} {scope : Scope} : PE X (.ListComp e gs scope pos) (rd c Wx (lcD d D e gs scope)) := by
  unfold lcD
  split
  · rename_i tg iter ifs
    split
    · rename_i h
      rw [Bool.and_eq_true, Bool.and_eq_true] at h
      obtain ⟨h3, h4, h5⟩ := lc_parts (tg := tg) (e := e) dk G h.1.1 (of_decide_eq_true h.2)
      exact pe_imp (pe_lc G.calm G.nd ((dk k X Wx D G).2.2.1 tg iter) (blk_ok G h.1.1) h3 h4 h5 (noSet_set h.1.2)) fun σ H Q h => lc_rd h
    · exact pe_bad
  · exact pe_bad
theorem name_rd {i : Nat} {v : V} {σ : L2.St} {H : Hp} {Q : L2.St → Hp → Prop} (h : rdG c Wx sr0 (asgN i) v σ H Q) : gName i v σ H Q := by
  obtain ⟨P0, s0, H0, P, s, r, R0, t, R, rv, h⟩ := h
  cases e : asgN i r s with
  | ok s' =>
    rw [e] at h
    obtain ⟨P', h1, h2⟩ := asg_ok t R rv e
    exact h _ P' H h1 h2 trivial
  | exc x =>
    exfalso
    unfold asgN at e
    simp only [nfW_eq] at e
    split at e
    · unfold chk at e; split at e <;> cases e
    · unfold chk at e; split at e <;> cases e
    · cases q : frz s (.bor _) with
      | none => rw [q] at e; cases e
      | some p => rw [q] at e; simp only [ofO_some, Res.bind_ok] at e; unfold chk at e; split at e <;> cases e
  | bad => rw [e] at h; exact h.elim
theorem setLc_ok (dk : DnOk c d) (G : Good c k X Wx D) {x : Str} {gs : List Comprehension} {scope : Scope} (hl : D.sc.names.lookup x = some .local) (hN : okN D x = true) (hp : (p.line == p2.line) = true)
    (hs : (scope.names.any fun (n, k) => n == x && (k == .local || k == .cell)) = false) : PS X (.Assign [.Name x p] (.ListComp e gs scope p2) pos) (rdS c Wx (sAsg (lcD d D e gs scope) (asgN (ixD D x)))) := by
  unfold lcD
  split
  · rename_i tg iter ifs
    split
    · rename_i h
      rw [Bool.and_eq_true, Bool.and_eq_true] at h
      obtain ⟨h3, h4, h5⟩ := lc_parts (tg := tg) (e := e) dk G h.1.1 (of_decide_eq_true h.2)
      have hl' : X.env.scope.names.lookup x = some .local := by rw [G.sc]; exact hl
      refine ps_imp (ps_setLc G.calm G.nd (okN_ok G hN) hl' (sw_true (by rw [G.sc]; exact G.kind) hl' hp hs) ((dk k X Wx D G).2.2.1 tg iter) (blk_ok G h.1.1) h3 h4 h5 (noSet_set h.1.2)) fun Dd σ H ⟨P, s, R, h⟩ => ?_
      refine lc_rd ⟨P, s, R, h.exp fun r s1 v P1 H1 _ t1 R1 rv h2 => name_rd ⟨P, s, H, P1, s1, r, R, t1, R1, rv, OutS.gt h2⟩⟩
    · exact ps_imp (ps_bad (c := c) (Wx := Wx)) fun Dd σ H ⟨P, s, R, h⟩ => (h : False).elim
  · exact ps_imp (ps_bad (c := c) (Wx := Wx)) fun Dd σ H ⟨P, s, R, h⟩ => (h : False).elim
/-! ### what is walked -/
theorem iter_ok (G : Good c k X Wx D) (he : ∀ e, PE X e (rd c Wx (d.E D e))) {args : List Expr} {g : IE} (h : iterD d D tg f args = some g) : PI X tg (.Call (.Name f p) args [] pos) (rdI c Wx g) := by
  unfold iterD at h
  split at h
  · cases h
  · rename_i hst
    have hst : args.all noSt = true := by simpa using hst
    split at h
    · rename_i hgl
      obtain ⟨hg, ho, hm⟩ := glo_ok' G hgl
      have ha := args_ok he hst
      split at h
      · rename_i q; subst q
        split at h
        · rename_i a
          cases h
          simp only [List.all_cons, Bool.and_eq_true] at hst
          exact pi_rng1 (noSt_ok hst.1) hg hm ha
        · rename_i a b
          cases h
          simp only [List.all_cons, Bool.and_eq_true] at hst
          exact pi_rng2 (noSt_ok hst.1) (noSt_ok hst.2.1) hg hm ha
        · rename_i a b e
          cases h
          simp only [List.all_cons, Bool.and_eq_true] at hst
          exact pi_rng3 (noSt_ok hst.1) (noSt_ok hst.2.1) (noSt_ok hst.2.2.1) hg hm ha
        · cases h
      split at h
      · rename_i q; subst q
        split at h
        · cases h
          simp only [List.all_cons, Bool.and_eq_true] at hst
          exact pi_zip' (noSt_ok hst.1) (noSt_ok hst.2.1) G.K hg hm ha
        · cases h
      split at h
      · rename_i q; subst q
        split at h
        · cases h
          simp only [List.all_cons, Bool.and_eq_true] at hst
          exact pi_enumA (noSt_ok hst.1) G.K hg hm ha
        · cases h
      cases h
    · cases h
theorem stepI_ok (G : Good c k X Wx D) (he : ∀ e, PE X e (rd c Wx (d.E D e))) : PI X tg e (rdI c Wx (stepI d D tg e)) := by
  unfold stepI
  split
  · split
    · rename_i g h
      exact iter_ok G he h
    · exact pi_val G.K (he _)
  · exact pi_val G.K (he _)
/-! ### targets -/
theorem pgs_all {ρ : SR} (hg : ∀ tg, PG X tg (rdG c Wx ρ (d.G D tg))) : ∀ {es : List Expr}, es.all noSt = true → PGs X es (rdGs c Wx ρ (es.map (d.G D)))
  | [], _ => pgs_nil'
  | e :: es, h => by
    rw [List.all_cons, Bool.and_eq_true] at h
    refine pgs_cons' (hg e) (pgs_all hg h.2) ?_
    rw [asg_each X.env (es := e :: es) (by rw [List.all_cons, Bool.and_eq_true]; exact h), asg_each X.env h.2]
    rfl
theorem rho_top (h : D.blk = none) : D.ρ = sr0 := by unfold De.ρ; rw [h]
theorem stepG_ok (G : Good c k X Wx D) (he : ∀ e, PE X e (rd c Wx (d.E D e))) (hg : ∀ tg, PG X tg (rdG c Wx D.ρ (d.G D tg))) : PG X e (rdG c Wx D.ρ (stepG d D e)) := by
  unfold stepG
  split
  · rename_i x q
    split
    · rename_i h
      unfold tgN at h
      rw [Bool.and_eq_true] at h
      obtain ⟨h1, h2⟩ := h
      split at h2
      · rename_i hb
        rw [rho_top hb]
        exact pg_name' G.nd (okN_ok G h1) (loc_ok G h2) (.inl (G.fn hb x)) fun _ _ => trivial
      · rename_i vs hb
        rw [Bool.and_eq_true, Bool.or_eq_true, Bool.and_eq_true] at h2
        have e : D.ρ = srW vs := by unfold De.ρ; rw [hb]
        rw [e]
        obtain ⟨h2, h3⟩ := h2
        rcases h2 with h2 | h2
        · have hl : X.env.scope.names.lookup x = some .local := by rw [G.sc]; exact eq_of_beq h2
          exact pg_name' G.nd (okN_ok G h1) (.inl hl) (.inr hl) fun σ v => wipe_set (by simpa using h3) _
        · have hl : X.env.scope.names.lookup x = some .cell := by rw [G.sc]; exact eq_of_beq h2.1
          exact pg_name' G.nd (okN_ok G h1) (.inr hl) (.inl (G.fnb x (eq_of_beq h2.2))) fun σ v => wipe_set (by simpa using h3) _
    · exact pg_bad
  · rename_i es n q
    split
    · rename_i h
      refine pg_tup' G.K G.calm (pgs_all hg h) ?_ ?_
      · rw [asg_each X.env h]; simp
      · rw [asg_each X.env h]
        rw [List.findIdx?_map]
        rw [List.findIdx?_eq_none_iff]
        intro x hx
        rfl
    · exact pg_bad
  · split
    · rename_i h
      exact pg_ix G.K (he _) (he _) (plIx_asg h X.env)
    · exact pg_bad
  · exact pg_bad
/-! ### expressions -/
theorem stepE_ok (dk : DnOk c d) (G : Good c k X Wx D) : PE X e (rd c Wx (stepE d D e)) := by
  obtain ⟨he, ht, hi, hg, hs⟩ := dk k X Wx D G
  unfold stepE
  split
  · exact nameE_ok G
  · exact constE_ok
  · exact pe_tuple (items_ok G.K he _)
  · exact pe_list (items_ok G.K he _)
  · exact pe_bin G.K (he _) (he _)
  · exact pe_neg (he _)
  · exact pe_not' (he _)
  · exact bool_ok (paired_map (F := fun e f => PE X e (rd c Wx f)) (g := d.E D) he _)
  · exact pe_if (ht _) (he _) (he _)
  · exact cmpE_ok G he
  · exact sub_ok G he
  · exact call_ok G he
  · exact meth_ok G he
  · exact lc_ok dk G
  · exact pe_bad
theorem stepT_ok (dk : DnOk c d) (G : Good c k X Wx D) : PT X e (rdT c Wx (stepT d D e)) := by
  obtain ⟨he, ht, hi, hg, hs⟩ := dk k X Wx D G
  unfold stepT
  split
  · exact pt_not' (ht _)
  · exact (boolT_ok (paired_map (F := fun e f => PT X e (rdT c Wx f)) (g := d.T D) ht _)).pt
  · exact cmpT_ok G he
  · exact pt_bad
  · rename_i h1 h2 h3 h4
    refine pt_value (he _) (plT_ok ?_)
    cases e with
    | UnaryOp op a p => cases op <;> first | rfl | exact (h1 _ _ rfl).elim
    | BoolOp op es p => exact (h2 _ _ _ rfl).elim
    | IfExp a b t p => exact (h4 _ _ _ _ rfl).elim
    | Compare a o bs p => exact (h3 _ _ _ _ rfl).elim
    | _ => rfl
/-! ### statements -/
theorem block_ok (hs : ∀ st, PS X st (rdS c Wx (d.S D st))) : ∀ (b : List Stmt), PSs X b (rdS c Wx (blockD d D b))
  | [] => pss_nil'
  | st :: r => pss_cons' (hs st) (block_ok hs r)
theorem asg_gen (G : Good c k X Wx D) (hb : D.blk = none) (he : ∀ e, PE X e (rd c Wx (d.E D e))) (hg : ∀ tg, PG X tg (rdG c Wx D.ρ (d.G D tg))) (h : plE e = true) (ht : noSt tg = true) (hw : swappedStores [tg] e X.env = pure none) :
    PS X (.Assign [tg] e pos) (rdS c Wx (sAsg (d.E D e) (d.G D tg))) := by
  refine ps_asg' (he e) (by rw [← rho_top hb]; exact hg tg) ?_ hw ?_
  · unfold swapsWithSole; exact plE_sw h
  · rw [asg_each X.env (es := [tg]) (by simp [ht])]; rfl
theorem asgD_ok (dk : DnOk c d) (G : Good c k X Wx D) (hb : D.blk = none) : PS X (.Assign [tg] e pos) (rdS c Wx (asgD d D tg e)) := by
  obtain ⟨he, ht, hi, hg, hs⟩ := dk k X Wx D G
  unfold asgD
  have hk : X.env.scope.kind = .function := by rw [G.sc]; exact G.kind
  split
  · rename_i ts n p1 vs m p2
    split
    · rename_i h
      exact asg_gen G hb he hg rfl rfl (swD_ok hk (by rw [G.sc]; exact h))
    · rename_i names h
      have hw := swD_ok (env := X.env) (p := p1) (p2 := p2) (n := n) (m := m) hk (by rw [G.sc]; exact h)
      split
      · split
        · rename_i q
          simp only [Bool.and_eq_true, decide_eq_true_eq] at q
          obtain ⟨⟨⟨⟨⟨⟨⟨rfl, q1⟩, q2⟩, q3⟩, q4⟩, q5⟩, q6⟩, q7⟩ := q
          exact ps_par' G.calm G.nd (by rw [G.N]; exact eq_of_beq q3) (by rw [G.N]; exact eq_of_beq q4) q5 (by rw [G.sc]; exact eq_of_beq q6) (by rw [G.sc]; exact eq_of_beq q7) (he _) (he _) (noSt_ok q1) (noSt_ok q2) hw rfl
        · exact ps_bad
      · split
        · rename_i q
          simp only [Bool.and_eq_true, decide_eq_true_eq] at q
          obtain ⟨⟨⟨⟨⟨⟨⟨⟨⟨⟨⟨⟨rfl, q1⟩, q2⟩, q3⟩, q4⟩, q5⟩, q6⟩, q7⟩, q8⟩, q9⟩, q10⟩, q11⟩, q12⟩ := q
          exact ps_par3' G.calm G.nd (by rw [G.N]; exact eq_of_beq q4) (by rw [G.N]; exact eq_of_beq q5) (by rw [G.N]; exact eq_of_beq q6) q7 q8 q9 (by rw [G.sc]; exact eq_of_beq q10) (by rw [G.sc]; exact eq_of_beq q11) (by rw [G.sc]; exact eq_of_beq q12) (he _) (he _) (he _) (noSt_ok q1) (noSt_ok q2) (noSt_ok q3) hw rfl
        · exact ps_bad
      · exact ps_bad
    · exact ps_bad
  · rename_i ts n p1 hn
    split
    · rename_i h
      refine asg_gen G hb he hg h rfl ?_
      unfold swappedStores
      cases e <;> first | rfl | exact (hn _ _ _ rfl).elim
    · exact ps_bad
  · split
    · rename_i q
      unfold swB at q
      simp only [Bool.and_eq_true, Bool.not_eq_true'] at q
      obtain ⟨⟨q1, q3⟩, q4⟩ := q
      split
      · rename_i q2
        exact setLc_ok dk G (eq_of_beq q1) q2 q3 q4
      · exact ps_bad
    · rename_i x p elt gs scope lp q
      have hbk : X.env.blockKind = .function := by unfold Env.blockKind; rw [hk]; rfl
      refine ps_asg' (lc_ok dk G) (by rw [← rho_top hb]; exact hg _) ?_ rfl rfl
      unfold swapsWithSole swapsWith
      unfold swB at q
      rw [← G.sc] at q
      have q : (X.env.kindOf x == some .local && (p.line == lp.line) && !(scope.names.any fun (n, k) => n == x && (k == .local || k == .cell))) = false := Bool.eq_false_iff.mpr q
      simp only [hbk]
      show pure (true && X.env.kindOf x == some .local && p.line == lp.line && !(scope.names.any fun (n, k) => n == x && (k == .local || k == .cell))) = pure false
      rw [Bool.true_and, q]
  · split
    · rename_i h
      exact asg_gen G hb he hg h rfl rfl
    · exact ps_bad
  · split
    · rename_i h
      exact asg_gen G hb he hg h rfl rfl
    · exact ps_bad
  · exact ps_bad
theorem okA_ok {op : Operator} (h : okA op = true) : op = .Add ∨ op = .Sub := by
  cases op <;> first | exact .inl rfl | exact .inr rfl | cases h
theorem stepS_ok (dk : DnOk c d) (G : Good c k X Wx D) (hb : D.blk = none) {st : Stmt} : PS X st (rdS c Wx (stepS d D st)) := by
  obtain ⟨he, ht, hi, hg, hs⟩ := dk k X Wx D G
  have bk := block_ok (hs hb)
  unfold stepS
  split
  · exact ps_doc'
  · split
    · rename_i h
      exact ps_expr' (he _) (plE_sw h)
    · exact ps_bad
  · exact asgD_ok dk G hb
  · split
    · rename_i h
      simp only [Bool.and_eq_true] at h
      exact ps_aug' _ (okA_ok h.1.1) G.nd (okN_ok G h.1.2) (loc_ok G h.2) (he _) (.inl (G.fn hb _))
    · exact ps_bad
  · split
    · rename_i h
      simp only [Bool.and_eq_true] at h
      exact ps_augIx _ (okA_ok h.1) (he _) (he _) (he _) (plIx_aug h.2)
    · exact ps_bad
  · exact ps_if' (ht _) (bk _) (bk _)
  · exact ps_while' (G.po hb) (ht _) (bk _)
  · split
    · rename_i h
      exact ps_for' (G.po hb) G.calm (hi _ _) (by rw [← rho_top hb]; exact hg _) (bk _) (noSet_set h)
    · exact ps_bad
  · exact ps_retN'
  · exact ps_ret' (he _)
  · exact ps_break'
  · exact ps_cont'
  · exact ps_pass'
  · exact ps_bad
theorem step_ok (dk : DnOk c d) : DnOk c (step d) := fun k X Wx D G =>
  have h := dk k X Wx D G
  ⟨fun e => stepE_ok dk G, fun e => stepT_ok dk G, fun tg it => stepI_ok G h.1, fun tg => stepG_ok G h.1 h.2.2.2.1, fun hb st => stepS_ok dk G hb⟩
theorem den_ok : ∀ n : Nat, DnOk c (den n)
  | 0 => dn0_ok
  | n + 1 => step_ok (den_ok n)
end
end Qs
/-! # Defs of the text; the law -/
namespace Qs
open PySem PySem.Spec PyProof.Rows L2
section
variable {c : Cst} {k n : Nat} {P : Program} {w : World} {K : PySem.W.Frag} {mg : Str → Option Value} {base : Heap} {f : Addr} {fd : FuncData} {ps : List Str} {D : De} {nm qual : Str} {params : Arguments} {body : List Stmt} {scope : Scope}
def TabOk (c : Cst) (k : Nat) (P : Program) (w : World) (K : PySem.W.Frag) (mg : Str → Option Value) (base : Heap) (tab : List (Str × GK)) : Prop := ∀ x g, tab.lookup x = some g → GOk c k P w K mg base x g
theorem def_ok {fuel : Nat} (hK : K = c.K) (ht : TabOk c k P w K mg base D.tab) (F : FunD K nm qual params body D.sc [] [] f fd) (S : FnScope D.N ps D.sc) (hb : D.blk = none) (hq : D.bsc = []) :
    FnOk P w K mg base (L2.CX P w) (k + 1) f fd ps (spM c ps.length (callM D.N.length (blockD (den fuel) D body))) :=
  F.ok S (fun vs H Q E h => h.1) fun cdv A outer s H vs Q E hr h =>
    have G : Good c k (cxOf (L2.CX P w) P w K mg base D.N qual D.sc f cdv A outer s H E) (fun cls d _ H' => E cls d H') D := {
      K := hK
      N := rfl
      nd := S.nd
      sc := rfl
      kind := S.kind
      calm := rfl
      room := hr
      tk := takes_of rfl rfl rfl rfl
      po := fun _ => passes_of rfl
      fn := fun _ _ => rfl
      fnb := fun x h => by rw [hq] at h; cases h
      tab := ht }
    ⟨_, block_ok (fun st => ((den_ok fuel k _ _ D G).2.2.2.2 hb st)) body, body_rd h⟩
theorem tab_nil : TabOk c k P w K mg base [] := fun _ _ h => by cases h
theorem gok_mono {j : Nat} (h : k ≤ j) {x : Str} {g : GK} (o : GOk c k P w K mg base x g) : GOk c j P w K mg base x g := by
  cases g with
  | blt => exact o
  | con u => exact o
  | fn n m =>
    obtain ⟨f, fd, ps, h1, h2, h3⟩ := o
    exact ⟨f, fd, ps, h1, h2.mono h, h3⟩
theorem tab_mono {j : Nat} {tab : List (Str × GK)} (h : k ≤ j) (t : TabOk c k P w K mg base tab) : TabOk c j P w K mg base tab := fun x g e => gok_mono h (t x g e)
theorem tab_cons {tab : List (Str × GK)} {x : Str} {g : GK} (o : GOk c k P w K mg base x g) (t : TabOk c k P w K mg base tab) : TabOk c k P w K mg base ((x, g) :: tab) := fun y g' e => by
  rw [List.lookup_cons] at e
  split at e
  · rename_i h
    cases e
    rw [eq_of_beq h]; exact o
  · exact t y g' e
theorem gok_int {x : Str} {i : Int} {z : Value} (h : mg x = some z) (r : RelV (.int i) z) : GOk c k P w K mg base x (.con (.int i)) := ⟨_, z, h, r, fun _ _ => rep_int⟩
theorem gok_str {x : Str} {i : List Nat} {z : Value} (h : mg x = some z) (r : RelV (.str (mkS i)) z) : GOk c k P w K mg base x (.con (.str i)) := ⟨_, z, h, r, fun _ _ => rep_str⟩
/-- one more def -/
theorem tab_def {fuel : Nat} {x : Str} (hK : K = c.K) (ht : TabOk c k P w K mg base D.tab) (F : FunD K nm qual params body D.sc [] [] f fd) (S : FnScope D.N ps D.sc) (hb : D.blk = none) (hq : D.bsc = []) (hm : mg x = some (.ref f)) (hbi : Binds K fd ps []) {m : SE} (e : callM D.N.length (blockD (den fuel) D body) = m) :
    GOk c (k + 1) P w K mg base x (.fn ps.length m) := by
  subst e
  exact ⟨f, fd, ps, rfl, def_ok hK ht F S hb hq, hm, F.kp, hbi⟩
/-- the script as it is handed in -/
theorem law_end {m : SE} {ns : List Int} {H : Hp} {a : Addr} (hc : c.tbs = []) (hS : SqL c.K H a (ns.map V.int)) (h : ∃ as', m [.fro (.scr (ns.map W.int))] = .ok (.fro (.bl true), as')) : spM c 1 m [.ref a] H (fun v _ => v = .bl true) fun _ _ _ => False := by
  obtain ⟨as', h⟩ := h
  refine ⟨rfl, fun b => b = a ∧ H b ≠ none, [.fro (.scr (ns.map W.int))], ⟨rfl, fun i w e => ?_, fun i p w e => ?_, fun i j p q u w a e1 e2 e3 e4 => ?_, ?_, fun b h => h.2⟩, ?_⟩
  · cases i with
    | zero =>
      cases e
      refine ⟨.ref a, rfl, ?_⟩
      unfold Rep
      refine ⟨a, ns.map V.int, rfl, ?_, reps_intmap⟩
      rcases hS with h | h
      · refine .inl ⟨⟨rfl, ?_⟩, h⟩
        rcases h with h | ⟨o, h⟩ <;> (rw [h]; exact fun z => nomatch z)
      · exact .inr (.inr h)
    | succ i => cases e
  · cases i with
    | zero => cases e
    | succ i => cases e
  · cases i with
    | zero => cases e1
    | succ i => cases e1
  · rw [hc]; intro t ht; cases ht
  · rw [h]
    intro v P' H' t R' rv
    unfold RvR Rep at rv
    exact rv
theorem fn_calm {sp : Sp} (F : FnOk P w K mg base (L2.CX P w) k f fd ps sp) : FnOk P w K mg base CX0 k f fd ps (fun vs H Q _ => sp vs H Q fun _ _ _ => False) :=
  ⟨fun vs H Q E h => F.len _ _ _ _ h, fun A outer s H args us vs Q E hr he hb hv hs => codeAny_mono (F.run A outer s H args us vs Q _ hr he hb hv hs) fun r s' h => by
    cases r with
    | error e =>
      obtain ⟨_, _, _, _, _, _, _, _, _, _, _, _, z⟩ := h
      exact z
    | ok fl => cases fl <;> exact h⟩
end
end Qs
/-! # Mirrors worked out: rules for simp -/
namespace Qs
section
variable {s : S} {u w z : W} {r ra rb : R} {i j : Int} {n m : Nat} {fa fb fd ft : SE} {f g : SS} {ws us : List W} {b : Bool} {vs : List Nat}
@[simp] theorem val_fro : val s (.fro w) = some w := Eq.trans rfl rfl
@[simp] theorem val_new : val s (.new w) = some w := Eq.trans rfl rfl
@[simp] theorem val_bor : val s (.bor n) = s[n]?.bind slW := Eq.trans rfl rfl
@[simp] theorem slW_fro : slW (.fro w) = some w := Eq.trans rfl rfl
@[simp] theorem slW_own {p : Bool} : slW (.own p w) = some w := Eq.trans rfl rfl
@[simp] theorem frz_fro : frz s (.fro w) = some (w, s) := Eq.trans rfl rfl
@[simp] theorem frz_new : frz s (.new w) = some (w, s) := Eq.trans rfl rfl
@[simp] theorem ev_var : eVar n s = match s[n]? with
  | some (.fro w) => .ok (.fro w, s)
  | some (.own _ _) => .ok (.bor n, s)
  | _ => .bad := Eq.trans rfl rfl
@[simp] theorem ev_cst : eCst w s = .ok (.fro w, s) := Eq.trans rfl rfl
@[simp] theorem ev_blE : blE b s = .ok (.fro (.bl b), s) := Eq.trans rfl rfl
@[simp] theorem ev_bind1 {k : R → SE} : bind1 fa k s = (fa s).bind fun p => k p.1 p.2 := Eq.trans rfl rfl
@[simp] theorem ev_bind2 {k : R → R → SE} : bind2 fa fb k s = (fa s).bind fun p => (fb p.2).bind fun q => k p.1 q.1 q.2 := Eq.trans rfl rfl
@[simp] theorem ev_bin {op : PySem.Operator} : eBin op fa fb s = (fa s).bind fun p => (fb p.2).bind fun q => onW2 (binW op) p.1 q.1 q.2 := Eq.trans rfl rfl
@[simp] theorem ev_cmp {op : PySem.CmpOp} : eCmp op fa fb s = (fa s).bind fun p => (fb p.2).bind fun q => onW2 (cmpW op) p.1 q.1 q.2 := Eq.trans rfl rfl
@[simp] theorem ev_cmp2 {op op' : PySem.CmpOp} : eCmp2 op op' fa fb fd s = (fa s).bind fun p => (fb p.2).bind fun q => (onW2 (cmpW op) p.1 q.1 q.2).bind fun t => ifB t.1 t.2 (fun s => (fd s).bind fun d => onW2 (cmpW op') q.1 d.1 d.2) (blE false) := Eq.trans rfl rfl
@[simp] theorem ev_ix : eIx fa fb s = (fa s).bind fun p => (fb p.2).bind fun q => onW2 ixW p.1 q.1 q.2 := Eq.trans rfl rfl
@[simp] theorem ev_one {k : W → Option R} : eOne k fa s = (fa s).bind fun p => onW k p.1 p.2 := Eq.trans rfl rfl
@[simp] theorem ev_neg : eNeg fa s = (fa s).bind fun p => onW negW p.1 p.2 := Eq.trans rfl rfl
@[simp] theorem ev_not : eNot fa s = (fa s).bind fun p => onW notW p.1 p.2 := Eq.trans rfl rfl
@[simp] theorem ev_onW {k : W → Option R} : onW k r s = match val s r with
  | some w => (ofO (k w)).bind fun z => .ok (z, s)
  | none => .bad := Eq.trans rfl rfl
@[simp] theorem ev_onW2 {k : W → W → Option R} : onW2 k ra rb s = match val s ra, val s rb with
  | some u, some w => (ofO (k u w)).bind fun z => .ok (z, s)
  | _, _ => .bad := Eq.trans rfl rfl
@[simp] theorem ev_onWs {k : List W → Option R} {rs : List R} : onWs k rs s = match vals s rs with
  | some ws => (ofO (k ws)).bind fun z => .ok (z, s)
  | none => .bad := Eq.trans rfl rfl
@[simp] theorem vals_nil : vals s [] = some [] := Eq.trans rfl rfl
@[simp] theorem vals_cons {rs : List R} : vals s (r :: rs) = (val s r).bind fun w => (vals s rs).map (w :: ·) := Eq.trans rfl rfl
@[simp] theorem ev_and : eAnd fa fb s = (fa s).bind fun p => ifB p.1 p.2 fb (blE false) := Eq.trans rfl rfl
@[simp] theorem ev_or : eOr fa fb s = (fa s).bind fun p => ifB p.1 p.2 (blE true) fb := Eq.trans rfl rfl
@[simp] theorem ev_if : eIf ft fa fb s = (ft s).bind fun p => ifB p.1 p.2 fa fb := Eq.trans rfl rfl
@[simp] theorem ifB_bl {ft fe : S → Res (R × S)} : ifB (.fro (.bl b)) s ft fe = if b = true then ft s else fe s := by cases b <;> rfl
@[simp] theorem bool_one {op : PySem.BoolOp} : boolL op [fa] = fa := Eq.trans rfl rfl
@[simp] theorem bool_and {fs : List SE} : boolL .And (fa :: fb :: fs) = eAnd fa (boolL .And (fb :: fs)) := Eq.trans rfl rfl
@[simp] theorem bool_or {fs : List SE} : boolL .Or (fa :: fb :: fs) = eOr fa (boolL .Or (fb :: fs)) := Eq.trans rfl rfl
@[simp] theorem bindL_nil {k : List R → SE} : bindL [] k = k [] := Eq.trans rfl rfl
@[simp] theorem bindL_cons {k : List R → SE} {fs : List SE} : bindL (fa :: fs) k s = (fa s).bind fun p => bindL fs (fun rs => k (p.1 :: rs)) p.2 := Eq.trans rfl rfl
@[simp] theorem ev_fn {k : List W → Option R} {fs : List SE} : eFn k fs s = bindL fs (onWs k) s := Eq.trans rfl rfl
@[simp] theorem bindI_nil {β : Type} {k : List W → S → Res β} : bindI [] k = k [] := Eq.trans rfl rfl
@[simp] theorem bindI_f {β : Type} {k : List W → S → Res β} {fs : List (Bool × SE)} : bindI ((false, fa) :: fs) k s = (fa s).bind fun p => (ofO (frz p.2 p.1)).bind fun q => bindI fs (fun ws => k (q.1 :: ws)) q.2 := Eq.trans rfl rfl
@[simp] theorem bindI_t {β : Type} {k : List W → S → Res β} {fs : List (Bool × SE)} : bindI ((true, fa) :: fs) k s = (fa s).bind fun p => (ofO ((val p.2 p.1).bind itemsOf)).bind fun us => bindI fs (fun ws => k (us ++ ws)) p.2 := Eq.trans rfl rfl
@[simp] theorem items_lst : itemsOf (.lst ws) = some ws := Eq.trans rfl rfl
@[simp] theorem items_tup : itemsOf (.tup ws) = some ws := Eq.trans rfl rfl
@[simp] theorem ev_tup {fs : List (Bool × SE)} : eTup fs s = bindI fs tupE s := Eq.trans rfl rfl
@[simp] theorem ev_lst {fs : List (Bool × SE)} : eLst fs s = bindI fs lstE s := Eq.trans rfl rfl
@[simp] theorem ev_tupE : tupE ws s = chk (decide (ws.length ≤ lim)) (.ok (.fro (.tup ws), s)) := Eq.trans rfl rfl
@[simp] theorem ev_lstE : lstE ws s = chk (decide (ws.length ≤ lim)) (.ok (.new (.lst ws), s)) := Eq.trans rfl rfl
@[simp] theorem chk_true {α : Type} {x : Res α} : chk true x = x := Eq.trans rfl rfl
/-! values -/
@[simp] theorem bin_add : binW .Add = addW := Eq.trans rfl rfl
@[simp] theorem bin_sub : binW .Sub = subW := Eq.trans rfl rfl
@[simp] theorem bin_mul : binW .Mult = mulW := Eq.trans rfl rfl
@[simp] theorem bin_div : binW .FloorDiv = fdivW := Eq.trans rfl rfl
@[simp] theorem bin_mod : binW .Mod = modW := Eq.trans rfl rfl
@[simp] theorem bin_pow : binW .Pow = powW := Eq.trans rfl rfl
@[simp] theorem add_int : addW (.int i) (.int j) = some (.fro (.int (i + j))) := Eq.trans rfl rfl
@[simp] theorem add_lst : addW (.lst us) (.lst ws) = guard' (decide (us.length + ws.length ≤ lim)) (.new (.lst (us ++ ws))) := Eq.trans rfl rfl
@[simp] theorem add_tup : addW (.tup us) (.tup ws) = guard' (decide (us.length + ws.length ≤ lim)) (.fro (.tup (us ++ ws))) := Eq.trans rfl rfl
@[simp] theorem add_str {x y : List Nat} : addW (.str x) (.str y) = guard' (decide (x.length + y.length ≤ lim)) (.fro (.str (x ++ y))) := Eq.trans rfl rfl
@[simp] theorem sub_int : subW (.int i) (.int j) = some (.fro (.int (i - j))) := Eq.trans rfl rfl
@[simp] theorem mul_int : mulW (.int i) (.int j) = guard' (mulOk i j) (.fro (.int (i * j))) := Eq.trans rfl rfl
@[simp] theorem mul_lst : mulW (.lst us) (.int j) = guard' (repOk us.length j) (.new (.lst (List.replicate j.toNat us).flatten)) := Eq.trans rfl rfl
@[simp] theorem mul_tup : mulW (.tup us) (.int j) = guard' (!us.isEmpty && decide (2 ≤ j) && decide (j ≤ 1000) && decide (us.length ≤ 1000)) (.fro (.tup (List.replicate j.toNat us).flatten)) := Eq.trans rfl rfl
@[simp] theorem div_int : fdivW (.int i) (.int j) = guard' (divOk j) (.fro (.int (i / j))) := Eq.trans rfl rfl
@[simp] theorem mod_int : modW (.int i) (.int j) = guard' (decide (0 < j)) (.fro (.int (i % j))) := Eq.trans rfl rfl
@[simp] theorem pow_int : powW (.int i) (.int j) = guard' (powOk i j) (.fro (.int (i ^ j.toNat))) := Eq.trans rfl rfl
@[simp] theorem neg_int : negW (.int i) = some (.fro (.int (-i))) := Eq.trans rfl rfl
@[simp] theorem not_bl : notW (.bl b) = some (.fro (.bl (!b))) := Eq.trans rfl rfl
@[simp] theorem cmpW_eq : cmpW .Eq u w = (eqO u w).map fun b => .fro (.bl b) := Eq.trans rfl rfl
@[simp] theorem cmpW_ne : cmpW .NotEq u w = (eqO u w).map fun b => .fro (.bl (!b)) := by
  show ((eqO u w).map (!·)).map _ = _
  cases eqO u w <;> rfl
@[simp] theorem cmpW_lt : cmpW .Lt (.int i) (.int j) = some (.fro (.bl (decide (i < j)))) := Eq.trans rfl rfl
@[simp] theorem cmpW_le : cmpW .LtE (.int i) (.int j) = some (.fro (.bl (decide (i ≤ j)))) := Eq.trans rfl rfl
@[simp] theorem cmpW_gt : cmpW .Gt (.int i) (.int j) = some (.fro (.bl (decide (j < i)))) := Eq.trans rfl rfl
@[simp] theorem cmpW_ge : cmpW .GtE (.int i) (.int j) = some (.fro (.bl (decide (j ≤ i)))) := Eq.trans rfl rfl
@[simp] theorem cmpW_is : cmpW .Is u .non = some (.fro (.bl (isNon u))) := by cases u <;> rfl
@[simp] theorem cmpW_isn : cmpW .IsNot u .non = some (.fro (.bl (!isNon u))) := by cases u <;> rfl
@[simp] theorem ix_tup : ixW (.tup ws) (.int i) = (L2.atI ws i).map .fro := Eq.trans rfl rfl
@[simp] theorem ix_lst : ixW (.lst ws) (.int i) = (L2.atI ws i).map .fro := Eq.trans rfl rfl
@[simp] theorem ix_scr : ixW (.scr ws) (.int i) = (L2.atI ws i).map .fro := Eq.trans rfl rfl
@[simp] theorem len_tup : lenW [.tup ws] = some (.fro (.int ws.length)) := Eq.trans rfl rfl
@[simp] theorem len_lst : lenW [.lst ws] = some (.fro (.int ws.length)) := Eq.trans rfl rfl
@[simp] theorem len_scr : lenW [.scr ws] = some (.fro (.int ws.length)) := Eq.trans rfl rfl
@[simp] theorem tup_tup : tupW [.tup ws] = some (.fro (.tup ws)) := Eq.trans rfl rfl
@[simp] theorem isi_ty {w : W} {t : String} : isiW [w, .ty t] = (tyW w).bind fun q => (isiN q t).map fun b => .fro (.bl b) := Eq.trans rfl rfl
@[simp] theorem ty_int : tyW (.int i) = some "int" := Eq.trans rfl rfl
@[simp] theorem ty_bl : tyW (.bl b) = some "bool" := Eq.trans rfl rfl
@[simp] theorem ty_tup : tyW (.tup ws) = some "tuple" := Eq.trans rfl rfl
@[simp] theorem ty_lst : tyW (.lst ws) = some "list" := Eq.trans rfl rfl
@[simp] theorem ty_non : tyW .non = some "NoneType" := Eq.trans rfl rfl
@[simp] theorem ty_str {x : List Nat} : tyW (.str x) = some "str" := Eq.trans rfl rfl
@[simp] theorem isi_int_int : isiN "int" "int" = some true := by decide
@[simp] theorem isi_int_bool : isiN "int" "bool" = some false := by decide
@[simp] theorem isi_int_str : isiN "int" "str" = some false := by decide
@[simp] theorem isi_int_tuple : isiN "int" "tuple" = some false := by decide
@[simp] theorem isi_int_list : isiN "int" "list" = some false := by decide
@[simp] theorem isi_int_dict : isiN "int" "dict" = some false := by decide
@[simp] theorem isi_bool_int : isiN "bool" "int" = some true := by decide
@[simp] theorem isi_bool_bool : isiN "bool" "bool" = some true := by decide
@[simp] theorem isi_bool_str : isiN "bool" "str" = some false := by decide
@[simp] theorem isi_bool_tuple : isiN "bool" "tuple" = some false := by decide
@[simp] theorem isi_bool_list : isiN "bool" "list" = some false := by decide
@[simp] theorem isi_bool_dict : isiN "bool" "dict" = some false := by decide
@[simp] theorem isi_str_int : isiN "str" "int" = some false := by decide
@[simp] theorem isi_str_bool : isiN "str" "bool" = some false := by decide
@[simp] theorem isi_str_str : isiN "str" "str" = some true := by decide
@[simp] theorem isi_str_tuple : isiN "str" "tuple" = some false := by decide
@[simp] theorem isi_str_list : isiN "str" "list" = some false := by decide
@[simp] theorem isi_str_dict : isiN "str" "dict" = some false := by decide
@[simp] theorem isi_tuple_int : isiN "tuple" "int" = some false := by decide
@[simp] theorem isi_tuple_bool : isiN "tuple" "bool" = some false := by decide
@[simp] theorem isi_tuple_str : isiN "tuple" "str" = some false := by decide
@[simp] theorem isi_tuple_tuple : isiN "tuple" "tuple" = some true := by decide
@[simp] theorem isi_tuple_list : isiN "tuple" "list" = some false := by decide
@[simp] theorem isi_tuple_dict : isiN "tuple" "dict" = some false := by decide
@[simp] theorem isi_list_int : isiN "list" "int" = some false := by decide
@[simp] theorem isi_list_bool : isiN "list" "bool" = some false := by decide
@[simp] theorem isi_list_str : isiN "list" "str" = some false := by decide
@[simp] theorem isi_list_tuple : isiN "list" "tuple" = some false := by decide
@[simp] theorem isi_list_list : isiN "list" "list" = some true := by decide
@[simp] theorem isi_list_dict : isiN "list" "dict" = some false := by decide
@[simp] theorem isi_NoneType_int : isiN "NoneType" "int" = some false := by decide
@[simp] theorem isi_NoneType_bool : isiN "NoneType" "bool" = some false := by decide
@[simp] theorem isi_NoneType_str : isiN "NoneType" "str" = some false := by decide
@[simp] theorem isi_NoneType_tuple : isiN "NoneType" "tuple" = some false := by decide
@[simp] theorem isi_NoneType_list : isiN "NoneType" "list" = some false := by decide
@[simp] theorem isi_NoneType_dict : isiN "NoneType" "dict" = some false := by decide
/-! a def's end -/
def endF (as : S) : Fl → Res (R × S)
  | .nx s' => (ofO (endA as s')).bind fun as' => .ok (.fro .non, as')
  | .rt r s' => (ofO (retR s' r)).bind fun r' => (ofO (endA as s')).bind fun as' => .ok (r', as')
  | _ => .bad
theorem ev_callM {as : S} : callM n f as = (f (startS n as)).bind (endF as) := by
  unfold callM
  rw [nfLs_eq]
  rfl
@[simp] theorem endF_nx {as : S} : endF as (.nx s) = (ofO (endA as s)).bind fun as' => .ok (.fro .non, as') := Eq.trans rfl rfl
@[simp] theorem endF_rt {as : S} : endF as (.rt r s) = (ofO (retR s r)).bind fun r' => (ofO (endA as s)).bind fun as' => .ok (r', as') := Eq.trans rfl rfl
@[simp] theorem retR_fro : retR s (.fro w) = some (.fro w) := Eq.trans rfl rfl
@[simp] theorem retR_new : retR s (.new w) = some (.new w) := Eq.trans rfl rfl
@[simp] theorem retR_bor : retR s (.bor n) = match s[n]? with
  | some (.fro w) => some (.fro w)
  | some (.own false w) => some (.new w)
  | _ => none := Eq.trans rfl rfl
@[simp] theorem endA_nil : endA [] s = some [] := Eq.trans rfl rfl
@[simp] theorem endA_fro {as : S} {x : Sl} : endA (.fro w :: as) (x :: s) = (endA as s).map (.fro w :: ·) := Eq.trans rfl rfl
@[simp] theorem endA_own {as : S} {p : Bool} : endA (.own p w :: as) (.own true z :: s) = (endA as s).map (.own p z :: ·) := Eq.trans rfl rfl
@[simp] theorem toP_f : toP (.fro w) = .fro w := Eq.trans rfl rfl
@[simp] theorem toP_o {p : Bool} : toP (.own p w) = .own true w := Eq.trans rfl rfl
/-! calls -/
def callK (m : SE) (rs : List R) : SE := fun s => (ofO (argsS s rs)).bind fun as => chk (decide (ownIx s rs).Nodup) <| (m as).bind fun p => (ofO (backA rs p.2 s)).bind fun s' => match p.1 with
  | .bor _ => .bad
  | r => .ok (r, s')
@[simp] theorem ev_call {m : SE} {fs : List SE} : eCall m fs s = bindL (fs.map eFz) (callK m) s := Eq.trans rfl rfl
@[simp] theorem ev_callK {m : SE} {rs : List R} : callK m rs s = (ofO (argsS s rs)).bind fun as => chk (decide (ownIx s rs).Nodup) <| (m as).bind fun p => (ofO (backA rs p.2 s)).bind fun s' => match p.1 with
  | .bor _ => .bad
  | r => .ok (r, s') := Eq.trans rfl rfl
@[simp] theorem argsS_nil : argsS s [] = some [] := Eq.trans rfl rfl
@[simp] theorem argsS_cons {rs : List R} : argsS s (r :: rs) = (argS s r).bind fun a => (argsS s rs).map (a :: ·) := Eq.trans rfl rfl
@[simp] theorem argS_f : argS s (.fro w) = some (.fro w) := Eq.trans rfl rfl
@[simp] theorem argS_b : argS s (.bor n) = match s[n]? with
    | some (.fro w) => some (.fro w)
    | some (.own _ w) => some (.own false w)
    | _ => none := Eq.trans rfl rfl
@[simp] theorem ownI_f : ownI s (.fro w) = none := Eq.trans rfl rfl
@[simp] theorem ownI_b : ownI s (.bor n) = match s[n]? with
    | some (.own _ _) => some n
    | _ => none := Eq.trans rfl rfl
@[simp] theorem ownIx_nil : ownIx s [] = [] := Eq.trans rfl rfl
@[simp] theorem ownIx_cons {rs : List R} : ownIx s (r :: rs) = match ownI s r with
    | some i => i :: ownIx s rs
    | none => ownIx s rs := Eq.trans rfl rfl
@[simp] theorem backA_nil : backA [] [] s = some s := Eq.trans rfl rfl
@[simp] theorem backA_f {rs : List R} {as : S} {a : Sl} : backA (.fro w :: rs) (a :: as) s = backA rs as s := Eq.trans rfl rfl
@[simp] theorem backA_b {rs : List R} {as : S} {a : Sl} : backA (.bor n :: rs) (a :: as) s = match s[n]?, a with
    | some (.own p _), .own _ w => backA rs as (s.set n (.own p w))
    | some (.own _ _), .fro w => backA rs as (s.set n (.fro w))
    | some (.fro _), _ => backA rs as s
    | _, _ => none := Eq.trans rfl rfl
/-! equality -/
@[simp] theorem eqO_int : eqO (.int i) (.int j) = some (decide (i = j)) := by
  show guard' _ _ = _
  simp only [datW, Bool.and_self, guard'_true]
  show some (i == j) = _
  rfl
theorem dat_ints {l : List Int} {n : Nat} : (l.map W.int).all (datW n) = true := by
  rw [List.all_map, List.all_eq_true]
  intro x hx
  cases n <;> rfl
theorem eqs_ints : ∀ {l l' : List Int}, eqWs (l.map W.int) (l'.map W.int) = decide (l = l')
  | [], [] => by simp [eqWs]
  | [], _ :: _ => by simp [eqWs]
  | _ :: _, [] => by simp [eqWs]
  | x :: xs, y :: ys => by
    simp only [List.map_cons, eqWs, eqs_ints, eqW, List.cons.injEq, Bool.decide_and]
    rfl
@[simp] theorem eqO_tints {l l' : List Int} : eqO (.tup (l.map W.int)) (.tup (l'.map W.int)) = some (decide (l = l')) := by
  show guard' _ _ = _
  simp only [datW, dat_ints, Bool.and_self, guard'_true, eqW, eqs_ints]
@[simp] theorem eqO_lints {l l' : List Int} : eqO (.lst (l.map W.int)) (.lst (l'.map W.int)) = some (decide (l = l')) := by
  show guard' _ _ = _
  simp only [datW, dat_ints, Bool.and_self, guard'_true, eqW, eqs_ints]
@[simp] theorem eqO_tnil {l : List Int} : eqO (.tup (l.map W.int)) (.tup []) = some (decide (l = [])) := eqO_tints (l' := [])
@[simp] theorem eqO_lnil {l : List Int} : eqO (.lst (l.map W.int)) (.lst []) = some (decide (l = [])) := eqO_lints (l' := [])
/-! statements -/
@[simp] theorem ev_nil : sNil s = .ok (.nx s) := Eq.trans rfl rfl
@[simp] theorem ev_seq : sSeq f g s = (f s).bind (thenS g) := Eq.trans rfl rfl
@[simp] theorem then_nx : thenS g (.nx s) = g s := thenS_nx
@[simp] theorem then_rt : thenS g (.rt r s) = .ok (.rt r s) := Eq.trans rfl rfl
@[simp] theorem then_bk : thenS g (.bk s) = .ok (.bk s) := Eq.trans rfl rfl
@[simp] theorem then_ct : thenS g (.ct s) = .ok (.ct s) := Eq.trans rfl rfl
@[simp] theorem ev_brk : sBreak s = .ok (.bk s) := Eq.trans rfl rfl
@[simp] theorem ev_ct : sCont s = .ok (.ct s) := Eq.trans rfl rfl
@[simp] theorem ev_exp : sExpr fa s = (fa s).bind fun p => .ok (.nx p.2) := Eq.trans rfl rfl
@[simp] theorem ev_ret : sRet fa s = (fa s).bind fun p => .ok (.rt p.1 p.2) := Eq.trans rfl rfl
/-- by a truth -/
def ifSt (o : Option W) (x y : Res Fl) : Res Fl := match o with
  | some (.bl true) => x
  | some (.bl false) => y
  | _ => .bad
@[simp] theorem ifSt_bl {x y : Res Fl} : ifSt (some (.bl b)) x y = if b = true then x else y := by cases b <;> rfl
@[simp] theorem ev_sif : sIf ft f g s = (ft s).bind fun p => ifSt (val p.2 p.1) (f p.2) (g p.2) := Eq.trans rfl rfl
@[simp] theorem ev_asg {t : GT} : sAsg fa t s = (fa s).bind fun p => (t p.1 p.2).bind fun s' => .ok (.nx s') := Eq.trans rfl rfl
@[simp] theorem asg_fro : asgN n (.fro w) s = chk (decide (n < s.length)) (.ok (s.set n (.fro w))) := nfW_eq _ _
@[simp] theorem asg_new : asgN n (.new w) s = chk (decide (n < s.length)) (.ok (s.set n (.own false w))) := nfW_eq _ _
@[simp] theorem gtup_f {gs : List GT} : gTupW gs (.fro (.tup ws)) s = chk (decide (ws.length = gs.length)) (gsL gs ws s) := Eq.trans rfl rfl
@[simp] theorem gsL_nil : gsL [] [] s = .ok s := Eq.trans rfl rfl
@[simp] theorem gsL_cons {t : GT} {gs : List GT} : gsL (t :: gs) (w :: ws) s = (t (.fro w) s).bind fun s1 => gsL gs ws s1 := Eq.trans rfl rfl
@[simp] theorem ev_fz : eFz fa s = (fa s).bind fun p => match p.1 with
  | .new w => .ok (.fro w, p.2)
  | r => .ok (r, p.2) := Eq.trans rfl rfl
end
/-! ### loops -/
theorem forL_inv {g : GT} {fb : SS} (I : List W → S → Prop) (step : ∀ w ws s, I (w :: ws) s → ∃ s1 s2, g (.fro w) s = .ok s1 ∧ (fb s1 = .ok (.nx s2) ∨ fb s1 = .ok (.ct s2)) ∧ I ws s2) : ∀ ws s, I ws s → ∃ s', forL g fb ws s = .ok (.nx s') ∧ I [] s'
  | [], s, h => ⟨s, rfl, h⟩
  | w :: ws, s, h => by
    obtain ⟨s1, s2, e1, e2, h2⟩ := step w ws s h
    obtain ⟨s', e3, h3⟩ := forL_inv I step ws s2 h2
    refine ⟨s', ?_, h3⟩
    unfold forL
    rw [e1]
    rcases e2 with e2 | e2 <;> (simp only [Res.bind_ok, e2]; exact e3)
theorem while_inv {ft : SE} {fb : SS} (I : Nat → S → Prop) (J : S → Prop) (step : ∀ n s, I n s → (∃ r s1 s2 n', ft s = .ok (r, s1) ∧ val s1 r = some (.bl true) ∧ (fb s1 = .ok (.nx s2) ∨ fb s1 = .ok (.ct s2)) ∧ n' < n ∧ I n' s2) ∨
    ∃ r s1, ft s = .ok (r, s1) ∧ val s1 r = some (.bl false) ∧ J s1) : ∀ (n m : Nat) (s : S), n < m → I n s → ∃ s', whileN ft fb m s = .ok (.nx s') ∧ J s'
  | n, 0, s, hn, h => absurd hn (Nat.not_lt_zero _)
  | n, m + 1, s, hn, h => by
    unfold whileN
    rcases step n s h with ⟨r, s1, s2, n', e1, e2, e3, hl, h2⟩ | ⟨r, s1, e1, e2, h2⟩
    · obtain ⟨s', e4, h4⟩ := while_inv I J step n' m s2 (by omega) h2
      refine ⟨s', ?_, h4⟩
      rw [e1]
      rcases e3 with e3 | e3 <;> (simp only [Res.bind_ok, e2, e3]; exact e4)
    · refine ⟨s1, ?_, h2⟩
      rw [e1]
      simp only [Res.bind_ok, e2]
/-- a block whose turns leave all as it is -/
theorem compL_pure {g : GT} {ft fe : SE} {vs : List Nat} {s : S} (p : W → Bool) (F : W → W) : ∀ ws : List W, (∀ w ∈ ws, ∃ s1 r s2, g (.fro w) s = .ok s1 ∧ ft s1 = .ok (r, s2) ∧ val s2 r = some (.bl (p w)) ∧
    (p w = true → ∃ r' s3 s4, fe s2 = .ok (r', s3) ∧ frz s3 r' = some (F w, s4) ∧ wipeS s4 vs = s) ∧ (p w = false → wipeS s2 vs = s)) → compL g ft fe vs ws s = .ok ((ws.filter p).map F, s)
  | [], _ => rfl
  | w :: ws, h => by
    obtain ⟨s1, r, s2, e1, e2, e3, h4, h5⟩ := h w List.mem_cons_self
    have ih := compL_pure p F ws fun w' hw => h w' (List.mem_cons_of_mem _ hw)
    unfold compL
    cases q : p w with
    | true =>
      obtain ⟨r', s3, s4, e5, e6, e7⟩ := h4 q
      rw [q] at e3
      simp only [e1, Res.bind_ok, e2, e3, e5, e6, ofO_some, e7, ih, List.filter_cons, q, if_true, List.map_cons]
    | false =>
      rw [q] at e3
      simp only [e1, Res.bind_ok, e2, e3, h5 q, ih, List.filter_cons, q, if_false]
      rfl
theorem lc_pure {fi : IE} {g : GT} {ft fe : SE} {vs : List Nat} {s s1 : S} {ws : List W} (p : W → Bool) (F : W → W) (ei : fi s = .ok (ws, s1)) (hl : ws.length ≤ lenMost) (hb : backS vs 0 s1 (wipeS s1 vs) = some s1)
    (h : ∀ w ∈ ws, ∃ s2 r s3, g (.fro w) (wipeS s1 vs) = .ok s2 ∧ ft s2 = .ok (r, s3) ∧ val s3 r = some (.bl (p w)) ∧
    (p w = true → ∃ r' s4 s5, fe s3 = .ok (r', s4) ∧ frz s4 r' = some (F w, s5) ∧ wipeS s5 vs = wipeS s1 vs) ∧ (p w = false → wipeS s3 vs = wipeS s1 vs)) : eLc fi g ft fe vs s = .ok (.new (.lst ((ws.filter p).map F)), s1) := by
  unfold eLc
  rw [ei]
  simp only [Res.bind_ok]
  rw [compL_pure p F ws h, decide_eq_true hl]
  simp only [chk_true, noX, Res.bind_ok, hb, ofO_some]
end Qs
/-! # Mirrors worked out: blocks over lists of things, places, cuts -/
namespace Qs
section
variable {α : Type} {g : GT} {ft fe : SE} {fi : IE} {vs : List Nat} {s s1 : S}
/-- one turn of a block -/
def turnT (g : GT) (ft fe : SE) (vs : List Nat) (w : W) (s : S) : Res (Option W × S) := (g (.fro w) s).bind fun s1 => (ft s1).bind fun p => match val p.2 p.1 with
  | some (.bl true) => (fe p.2).bind fun q => (ofO (frz q.2 q.1)).bind fun u => .ok (some u.1, wipeS u.2 vs)
  | some (.bl false) => .ok (none, wipeS p.2 vs)
  | _ => .bad
theorem turn_bl {b : Bool} {k : Res (Option W × S)} {s' : S} : (match (some (W.bl b) : Option W) with
  | some (.bl true) => k
  | some (.bl false) => .ok (none, s')
  | _ => .bad) = if b = true then k else .ok (none, s') := by cases b <;> rfl
theorem compL_eq {w : W} {ws : List W} : compL g ft fe vs (w :: ws) s = (g (.fro w) s).bind fun s1 => (ft s1).bind fun p => match val p.2 p.1 with
    | some (.bl true) => (fe p.2).bind fun q => (ofO (frz q.2 q.1)).bind fun u => (compL g ft fe vs ws (wipeS u.2 vs)).bind fun z => .ok (u.1 :: z.1, z.2)
    | some (.bl false) => compL g ft fe vs ws (wipeS p.2 vs)
    | _ => .bad := by
  conv => lhs; unfold compL
  all_goals rfl
theorem compL_cons {w : W} {ws : List W} {o : Option W} {s2 : S} (e : turnT g ft fe vs w s = .ok (o, s2)) : compL g ft fe vs (w :: ws) s = (compL g ft fe vs ws s2).bind fun z => .ok (o.toList ++ z.1, z.2) := by
  unfold turnT at e
  rw [compL_eq]
  cases e1 : g (.fro w) s with
  | exc x => rw [e1] at e; cases e
  | bad => rw [e1] at e; cases e
  | ok s3 =>
    simp only [e1, Res.bind_ok] at e ⊢
    cases e2 : ft s3 with
    | exc x => rw [e2] at e; cases e
    | bad => rw [e2] at e; cases e
    | ok p =>
      simp only [e2, Res.bind_ok] at e ⊢
      split at e
      · cases e3 : fe p.2 with
        | exc x => rw [e3] at e; cases e
        | bad => rw [e3] at e; cases e
        | ok q =>
          simp only [e3, Res.bind_ok] at e ⊢
          cases e4 : frz q.2 q.1 with
          | none => rw [e4] at e; cases e
          | some u =>
            simp only [e4, ofO_some, Res.bind_ok] at e ⊢
            cases e
            rfl
      · cases e
        cases compL g ft fe vs ws (wipeS p.2 vs) <;> rfl
      · cases e
theorem compL_map (xs : List α) (e : α → W) (F : α → Option W) (h : ∀ x ∈ xs, turnT g ft fe vs (e x) s = .ok (F x, s)) : compL g ft fe vs (xs.map e) s = .ok (xs.filterMap F, s) := by
  induction xs with
  | nil => rfl
  | cons x xs ih =>
    rw [List.map_cons, compL_cons (h x List.mem_cons_self), ih fun y hy => h y (List.mem_cons_of_mem _ hy), List.filterMap_cons]
    cases F x <;> rfl
/-- a block with a state: J tells the state at the items that are left -/
theorem compL_inv {β : Type} (J : List α → List W → S → Prop) (e : α → W) (h : ∀ x xs acc s, J (x :: xs) acc s → ∃ o s2, turnT g ft fe vs (e x) s = .ok (o, s2) ∧ J xs (acc ++ o.toList) s2) :
    ∀ (xs : List α) (acc : List W) (s : S), J xs acc s → ∃ l s', compL g ft fe vs (xs.map e) s = .ok (l, s') ∧ J [] (acc ++ l) s'
  | [], acc, s, h0 => ⟨[], s, rfl, by simpa using h0⟩
  | x :: xs, acc, s, h0 => by
    obtain ⟨o, s2, e1, h1⟩ := h x xs acc s h0
    obtain ⟨l, s', e2, h2⟩ := compL_inv (β := β) J e h xs _ s2 h1
    refine ⟨o.toList ++ l, s', ?_, by simpa using h2⟩
    rw [List.map_cons, compL_cons e1, e2]; rfl
theorem lc_of {ws l : List W} {s2 s3 : S} (ei : fi s = .ok (ws, s1)) (hl : ws.length ≤ 4096) (ec : compL g ft fe vs ws (wipeS s1 vs) = .ok (l, s2)) (hb : backS vs 0 s1 s2 = some s3) : eLc fi g ft fe vs s = .ok (.new (.lst l), s3) := by
  unfold eLc
  rw [ei]
  simp only [Res.bind_ok]
  rw [ec, decide_eq_true (show ws.length ≤ lenMost from hl)]
  simp only [chk_true, noX, Res.bind_ok, hb, ofO_some]
/-- [.. for x in xs if ..], nothing outside changes -/
theorem lc_map (xs : List α) (e : α → W) (F : α → Option W) (ei : fi s = .ok (xs.map e, s1)) (hl : xs.length ≤ 4096) (hb : backS vs 0 s1 (wipeS s1 vs) = some s1)
    (h : ∀ x ∈ xs, turnT g ft fe vs (e x) (wipeS s1 vs) = .ok (F x, wipeS s1 vs)) : eLc fi g ft fe vs s = .ok (.new (.lst (xs.filterMap F)), s1) :=
  lc_of ei (by rw [List.length_map]; exact hl) (compL_map xs e F h) hb
/-- .. all of them -/
theorem lc_all (xs : List α) (e : α → W) (F : α → W) (ei : fi s = .ok (xs.map e, s1)) (hl : xs.length ≤ 4096) (hb : backS vs 0 s1 (wipeS s1 vs) = some s1)
    (h : ∀ x ∈ xs, turnT g ft fe vs (e x) (wipeS s1 vs) = .ok (some (F x), wipeS s1 vs)) : eLc fi g ft fe vs s = .ok (.new (.lst (xs.map F)), s1) := by
  rw [lc_map xs e (fun x => some (F x)) ei hl hb h, List.filterMap_eq_map']
end
/-! ### iterables -/
section
variable {s s1 s2 : S} {fa fb : SE} {w : W} {ws us : List W} {i j : Int} {n : Nat} {vs : List Nat}
theorem iv_of {r : R} (e : fa s = .ok (r, s1)) (e2 : frz s1 r = some (w, s2)) (e3 : iterV w = some ws) : iVal fa s = .ok (ws, s2) := by
  unfold iVal
  rw [e]
  simp only [Res.bind_ok, e2, ofO_some, e3]
@[simp] theorem iargs1 {g : List W → Option (List W)} : iArgs g [fa] s = (fa s).bind fun p => (ofO (frz p.2 p.1)).bind fun q => (ofO (g [q.1])).bind fun ws => .ok (ws, q.2) := Eq.trans rfl rfl
@[simp] theorem iargs2 {g : List W → Option (List W)} : iArgs g [fa, fb] s = (fa s).bind fun p => (ofO (frz p.2 p.1)).bind fun q => (fb q.2).bind fun p2 => (ofO (frz p2.2 p2.1)).bind fun q2 => (ofO (g [q.1, q2.1])).bind fun ws => .ok (ws, q2.2) := Eq.trans rfl rfl
@[simp] theorem zip_tup : zipW [.tup us, .tup ws] = some (zipL us ws) := Eq.trans rfl rfl
@[simp] theorem zip_lst : zipW [.lst us, .lst ws] = some (zipL us ws) := Eq.trans rfl rfl
@[simp] theorem enum_tup : enumA [.tup ws] = some (numL ws) := Eq.trans rfl rfl
@[simp] theorem enum_lst : enumA [.lst ws] = some (numL ws) := Eq.trans rfl rfl
@[simp] theorem iter_tup : iterV (.tup ws) = some ws := Eq.trans rfl rfl
@[simp] theorem iter_lst : iterV (.lst ws) = some ws := Eq.trans rfl rfl
theorem rng1_of (h : 0 ≤ j) (h2 : j ≤ 4000000000) : rng1 [.int j] = some (rngL 0 1 j.toNat) := by
  show guard' _ _ = _
  have : inR j = true := by unfold inR; simp; omega
  rw [this]; rfl
theorem rng2_of (h1 : -4000000000 ≤ i) (h3 : i ≤ 4000000000) (h : -4000000000 ≤ j) (h2 : j ≤ 4000000000) : rng2 [.int i, .int j] = some (rngL i 1 (j - i).toNat) := by
  show guard' _ _ = _
  have a : inR j = true := by unfold inR; simp; omega
  have b : inR i = true := by unfold inR; simp; omega
  rw [a, b]; rfl
/-! ### places, cuts -/
theorem at_nat {α : Type} {xs : List α} : L2.atI xs ((n : Nat) : Int) = xs[n]? := by
  unfold L2.atI L2.ixN
  rw [if_pos (Int.natCast_nonneg n)]
  by_cases h : n < xs.length
  · rw [if_pos (by omega)]; simp
  · rw [if_neg (by omega), List.getElem?_eq_none (by omega)]; rfl
theorem at_pos {α : Type} {xs : List α} (h : 0 ≤ i) : L2.atI xs i = xs[i.toNat]? := by
  obtain ⟨n, rfl⟩ := Int.eq_ofNat_of_zero_le h
  rw [at_nat]; simp
theorem cut_from {α : Type} {xs : List α} : cutG xs (some ((n : Nat) : Int)) none = xs.drop n := by
  unfold cutG
  rw [HT.sIx_nat, HT.sIx_none]
  by_cases h : n ≤ xs.length
  · rw [Nat.min_eq_left h, List.take_of_length_le (by rw [List.length_drop]; exact Nat.le_refl _)]
  · rw [Nat.min_eq_right (by omega), List.drop_eq_nil_of_le (by omega), List.drop_eq_nil_of_le (by omega)]; simp
theorem cut_to {α : Type} {xs : List α} : cutG xs none (some ((n : Nat) : Int)) = xs.take n := by
  unfold cutG
  rw [HT.sIx_nat, HT.sIx_none, List.drop_zero, Nat.sub_zero]
  by_cases h : n ≤ xs.length
  · rw [Nat.min_eq_left h]
  · rw [Nat.min_eq_right (by omega), List.take_of_length_le (by omega), List.take_of_length_le (by omega)]
@[simp] theorem sl_from {lo : Int} : eSl fa (some (eCst (.int lo))) none s = (fa s).bind fun p => onW (sliceW (some lo) none) p.1 p.2 := Eq.trans rfl rfl
@[simp] theorem sl_to {lo : Int} : eSl fa none (some (eCst (.int lo))) s = (fa s).bind fun p => onW (sliceW none (some lo)) p.1 p.2 := Eq.trans rfl rfl
@[simp] theorem slice_tup {a b : Option Int} : sliceW a b (.tup ws) = some (.fro (.tup (cutG ws a b))) := Eq.trans rfl rfl
@[simp] theorem slice_lst {a b : Option Int} : sliceW a b (.lst ws) = some (.new (.lst (cutG ws a b))) := Eq.trans rfl rfl
@[simp] theorem wipeS_of : wipeS s vs = wipeS.go vs 0 s := Eq.trans rfl rfl
@[simp] theorem wgo_nil {k : Nat} : wipeS.go vs k [] = [] := Eq.trans rfl rfl
@[simp] theorem wgo_cons {k : Nat} {x : Sl} : wipeS.go vs k (x :: s) = (if vs.contains k then .un else x) :: wipeS.go vs (k + 1) s := Eq.trans rfl rfl
@[simp] theorem backS_nil {k : Nat} : backS vs k [] [] = some [] := Eq.trans rfl rfl
@[simp] theorem backS_cons {k : Nat} {x y : Sl} : backS vs k (x :: s) (y :: s1) = (if vs.contains k then some x else backSl x y).bind fun z => (backS vs (k + 1) s s1).map (z :: ·) := Eq.trans rfl rfl
@[simp] theorem backSl_f {x : Sl} : backSl (.fro w) x = some (.fro w) := by cases x <;> rfl
@[simp] theorem backSl_u {x : Sl} : backSl .un x = some .un := by cases x <;> rfl
@[simp] theorem backSl_oo {b : Bool} {u : W} : backSl (.own b w) (.own b u) = some (.own b u) := by cases b <;> rfl
@[simp] theorem ev_par {is : List Nat} {fs : List SE} : sPar is fs s = (bindB fs (asgL is) s).bind fun s' => .ok (.nx s') := Eq.trans rfl rfl
@[simp] theorem bindB_nil {k : List R → S → Res S} : bindB [] k s = k [] s := Eq.trans rfl rfl
@[simp] theorem bindB_cons {k : List R → S → Res S} {fs : List SE} : bindB (fa :: fs) k s = (fa s).bind fun p => (ofO (frzB p.2 p.1)).bind fun q => bindB fs (fun rs => k (q.1 :: rs)) q.2 := Eq.trans rfl rfl
@[simp] theorem frzB_f : frzB s (.fro w) = some (.fro w, s) := Eq.trans rfl rfl
@[simp] theorem frzB_n : frzB s (.new w) = some (.new w, s) := Eq.trans rfl rfl
@[simp] theorem asgL_nil : asgL [] [] s = .ok s := Eq.trans rfl rfl
@[simp] theorem asgL_cons {r : R} {is : List Nat} {rs : List R} : asgL (n :: is) (r :: rs) s = (asgN n r s).bind fun s1 => asgL is rs s1 := Eq.trans rfl rfl
@[simp] theorem ev_mut1 {g : List W → W → Option (W × List W)} : eMut1 g fa fb s = (fa s).bind fun p => chk (isLst (val p.2 p.1)) ((fb p.2).bind fun t => (ofO (frz t.2 t.1)).bind fun f => (ofO (ownL f.2 p.1)).bind fun q => (ofO (g q.2.2 f.1)).bind fun z => .ok (.fro z.1, f.2.set q.1 (.own q.2.1 (.lst z.2)))) := by
  unfold eMut1
  simp only [nfW_eq, nfLs_eq]
@[simp] theorem ev_mut0 {g : List W → Option (W × List W)} : eMut0 g fa s = (fa s).bind fun p => (ofO (ownL p.2 p.1)).bind fun q => (ofO (g q.2.2)).bind fun z => .ok (.fro z.1, p.2.set q.1 (.own q.2.1 (.lst z.2))) := by
  unfold eMut0
  simp only [nfLs_eq]
@[simp] theorem isLst_lst : isLst (some (.lst ws)) = true := Eq.trans rfl rfl
@[simp] theorem ownL_bor : ownL s (.bor n) = match s[n]? with
  | some (.own p (.lst ws)) => some (n, p, ws)
  | _ => none := Eq.trans rfl rfl
@[simp] theorem app_of : appW ws w = guard' (decide (ws.length < lim)) (.non, ws ++ [w]) := Eq.trans rfl rfl
@[simp] theorem ext_of : extW ws (.lst us) = guard' (decide (ws.length + us.length ≤ lim)) (.non, ws ++ us) := Eq.trans rfl rfl
@[simp] theorem ev_aug {op : PySem.Operator} : sAug op n fa s = match s[n]? with
  | some (.fro u) => (fa s).bind fun p => match val p.2 p.1 with
    | some w => (ofO (augW op u w)).bind fun z => .ok (.nx (p.2.set n (.fro z)))
    | none => .bad
  | _ => .bad := by
  unfold sAug
  simp only [nfW_eq]
  all_goals rfl
@[simp] theorem aug_add : augW .Add (.int i) (.int j) = some (.int (i + j)) := Eq.trans rfl rfl
@[simp] theorem aug_sub : augW .Sub (.int i) (.int j) = some (.int (i - j)) := Eq.trans rfl rfl
@[simp] theorem ev_for {fi : IE} {g : GT} {fb : SS} : sFor fi g fb s = (fi s).bind fun p => forL g fb p.1 p.2 := Eq.trans rfl rfl
@[simp] theorem max2_of : max2W [.int i, .int j] = some (.fro (.int (if j > i then j else i))) := Eq.trans rfl rfl
@[simp] theorem min2_of : min2W [.int i, .int j] = some (.fro (.int (if j < i then j else i))) := Eq.trans rfl rfl
@[simp] theorem tup_lst : tupW [.lst ws] = some (.fro (.tup ws)) := Eq.trans rfl rfl
end
end Qs
/-! # Falling rows: plain facts -/
namespace Rw
def Fal (r : List Nat) : Prop := r.Pairwise (· ≥ ·)
/-- how many parts are above a -/
def cnt (a : Nat) (r : List Nat) : Nat := r.countP (fun x => decide (a < x))
def tr (r : List Nat) : List Nat := (List.range (r.headD 0)).map (cnt · r)
theorem cnt_cons {a x : Nat} {r : List Nat} : cnt a (x :: r) = cnt a r + if a < x then 1 else 0 := by
  unfold cnt
  rw [List.countP_cons]
  simp
theorem cnt_le {a : Nat} {r : List Nat} : cnt a r ≤ r.length := List.countP_le_length
theorem key : ∀ {r : List Nat} {i a : Nat} (h : Fal r) (hi : i < r.length), a < r[i] ↔ i < cnt a r
  | [], i, a, _, hi => absurd hi (Nat.not_lt_zero i)
  | x :: r, i, a, h, hi => by
    obtain ⟨h1, h2⟩ := List.pairwise_cons.mp h
    rw [cnt_cons]
    by_cases hx : a < x
    · rw [if_pos hx]
      cases i with
      | zero => simp [hx]
      | succ i =>
        have := key (a := a) (i := i) h2 (by simpa using hi)
        simp only [List.getElem_cons_succ]
        omega
    · rw [if_neg hx]
      have z : cnt a r = 0 := by
        unfold cnt
        rw [List.countP_eq_zero]
        intro y hy
        have := h1 y hy
        simp only [decide_eq_true_eq]
        omega
      rw [z]
      have : (x :: r)[i] ≤ x := by
        cases i with
        | zero => exact Nat.le_refl _
        | succ i =>
          simp only [List.getElem_cons_succ]
          exact h1 _ (List.getElem_mem _)
      omega
theorem tr_len {r : List Nat} : (tr r).length = r.headD 0 := by simp [tr]
theorem tr_get {r : List Nat} {a : Nat} (h : a < (tr r).length) : (tr r)[a] = cnt a r := by simp [tr]
theorem cnt_anti {a b : Nat} (h : a ≤ b) (r : List Nat) : cnt b r ≤ cnt a r := by
  unfold cnt
  apply List.countP_mono_left
  intro x _ hx
  simp only [decide_eq_true_eq] at hx ⊢
  omega
theorem tr_fal {r : List Nat} : Fal (tr r) := by
  unfold Fal tr
  rw [List.pairwise_map]
  refine List.Pairwise.imp ?_ (List.pairwise_lt_range)
  intro a b h
  exact cnt_anti (Nat.le_of_lt h) r
theorem cnt_pos {a : Nat} {r : List Nat} (h : a < r.headD 0) : 0 < cnt a r := by
  cases r with
  | nil => exact absurd h (Nat.not_lt_zero a)
  | cons x r =>
    rw [cnt_cons, if_pos (by simpa using h)]
    omega
theorem tr_pos {r : List Nat} : ∀ x ∈ tr r, 0 < x := by
  intro x hx
  unfold tr at hx
  obtain ⟨a, ha, rfl⟩ := List.mem_map.mp hx
  exact cnt_pos (List.mem_range.mp ha)
theorem countP_range (m : Nat) : ∀ n : Nat, (List.range n).countP (fun a => decide (a < m)) = min m n
  | 0 => by simp
  | n + 1 => by
    rw [List.range_succ, List.countP_append, countP_range m n]
    simp only [List.countP_cons, List.countP_nil]
    by_cases h : n < m
    · simp [h]; omega
    · simp [h]; omega
theorem head_le {r : List Nat} (h : Fal r) {i : Nat} (hi : i < r.length) : r[i] ≤ r.headD 0 := by
  cases r with
  | nil => exact absurd hi (Nat.not_lt_zero i)
  | cons x r =>
    cases i with
    | zero => exact Nat.le_refl _
    | succ i => exact (List.pairwise_cons.mp h).1 _ (List.getElem_mem _)
theorem cnt_tr {r : List Nat} (h : Fal r) {b : Nat} (hb : b < r.length) : cnt b (tr r) = r[b] := by
  have e : cnt b (tr r) = (List.range (r.headD 0)).countP (fun a => decide (a < r[b])) := by
    unfold cnt tr
    rw [List.countP_map]
    congr 1
    funext a
    simp only [Function.comp_apply, decide_eq_decide]
    exact (key h hb).symm
  rw [e, countP_range]
  have := head_le h hb
  omega
theorem cnt_zero {r : List Nat} (hp : ∀ x ∈ r, 0 < x) : cnt 0 r = r.length := by
  unfold cnt
  rw [List.countP_eq_length]
  intro x hx
  simpa using hp x hx
theorem head_tr {r : List Nat} (hp : ∀ x ∈ r, 0 < x) : (tr r).headD 0 = r.length := by
  cases r with
  | nil => rfl
  | cons x r =>
    have hx : 0 < x := hp x List.mem_cons_self
    have : (tr (x :: r)).headD 0 = cnt 0 (x :: r) := by
      unfold tr
      obtain ⟨y, rfl⟩ : ∃ y, x = y + 1 := ⟨x - 1, by omega⟩
      simp [List.range_succ_eq_map]
    rw [this, cnt_zero hp]
theorem tr_tr {r : List Nat} (h : Fal r) (hp : ∀ x ∈ r, 0 < x) : tr (tr r) = r := by
  apply List.ext_getElem
  · rw [tr_len, head_tr hp]
  · intro b h1 h2
    rw [tr_get, cnt_tr h h2]
theorem sum_cnt : ∀ (r : List Nat) (n : Nat), (∀ x ∈ r, x ≤ n) → ((List.range n).map (cnt · r)).sum = r.sum
  | [], n, _ => by
    have : (List.range n).map (cnt · []) = List.replicate n 0 := by
      rw [List.eq_replicate_iff]
      simp [cnt]
    rw [this]; simp
  | x :: r, n, h => by
    have e : (List.range n).map (cnt · (x :: r)) = (List.range n).map fun a => cnt a r + if a < x then 1 else 0 := by
      apply List.map_congr_left
      intro a _
      exact cnt_cons
    have e2 : ∀ l : List Nat, (l.map fun a => cnt a r + if a < x then 1 else 0).sum = (l.map (cnt · r)).sum + l.countP (fun a => decide (a < x)) := by
      intro l
      induction l with
      | nil => rfl
      | cons a l ih =>
        simp only [List.map_cons, List.sum_cons, ih, List.countP_cons, decide_eq_true_eq]
        omega
    rw [e, e2, sum_cnt r n fun y hy => h y (List.mem_cons_of_mem _ hy), countP_range]
    have := h x List.mem_cons_self
    simp only [List.sum_cons]
    omega
theorem sum_tr {r : List Nat} (h : Fal r) : (tr r).sum = r.sum := by
  unfold tr
  refine sum_cnt r _ fun x hx => ?_
  obtain ⟨i, hi, rfl⟩ := List.getElem_of_mem hx
  exact head_le h hi
theorem fal_get {r : List Nat} (h : Fal r) {a b : Nat} (hab : a ≤ b) : r.getD b 0 ≤ r.getD a 0 := by
  rw [List.getD_eq_getElem?_getD, List.getD_eq_getElem?_getD]
  by_cases hb : b < r.length
  · rw [List.getElem?_eq_getElem hb, List.getElem?_eq_getElem (by omega)]
    rcases Nat.lt_or_ge a b with z | z
    · exact List.pairwise_iff_getElem.mp h a b (by omega) hb z
    · have : a = b := by omega
      subst this; exact Nat.le_refl _
  · rw [List.getElem?_eq_none (by omega)]; exact Nat.zero_le _
theorem filter_more {p : Nat → Bool} {m n : Nat} (h : m ≤ n) (hp : ∀ x, m ≤ x → x < n → p x = false) : (List.range n).filter p = (List.range m).filter p := by
  obtain ⟨k, rfl⟩ : ∃ k, n = m + k := ⟨n - m, by omega⟩
  rw [List.range_add, List.filter_append]
  have : (List.filter p ((List.range k).map (m + ·))) = [] := by
    rw [List.filter_eq_nil_iff]
    intro x hx
    obtain ⟨y, hy, rfl⟩ := List.mem_map.mp hx
    have := List.mem_range.mp hy
    rw [hp (m + y) (by omega) (by omega)]
    exact Bool.false_ne_true
  rw [this, List.append_nil]
theorem filter_same {p : Nat → Bool} {m n : Nat} (hp : ∀ x, m ≤ x ∨ n ≤ x → (x < n ∨ x < m) → p x = false) : (List.range n).filter p = (List.range m).filter p := by
  rcases Nat.le_total m n with h | h
  · exact filter_more h fun x h1 h2 => hp x (.inl h1) (.inl h2)
  · exact (filter_more h fun x h1 h2 => hp x (.inr h1) (.inr h2)).symm
/-- the rows (from 0) of the squares on a diagonal -/
def onD (r : List Nat) (d : Int) (a : Nat) : Bool := decide (d ≤ (a : Int)) && decide ((a : Int) - d < ((r.getD a 0 : Nat) : Int))
def sqs (r : List Nat) (d : Int) : List Nat := (List.range r.length).filter (onD r d)
theorem onD_out {r : List Nat} {d : Int} {a : Nat} (h : r.length ≤ a) : onD r d a = false := by
  unfold onD
  rw [List.getD_eq_getElem?_getD, List.getElem?_eq_none h]
  by_cases z : d ≤ (a : Int)
  · have : ¬ ((a : Int) - d < ((0 : Nat) : Int)) := by omega
    simp [this]
  · simp [z]
theorem onD_down {r : List Nat} {d : Int} {a b : Nat} (h : Fal r) (hab : a ≤ b) (hd : d ≤ (a : Int)) (hn : onD r d a = false) : onD r d b = false := by
  unfold onD at hn ⊢
  have := fal_get h hab
  rw [decide_eq_true hd, Bool.true_and, decide_eq_false_iff_not] at hn
  have : ¬ ((b : Int) - d < ((r.getD b 0 : Nat) : Int)) := by omega
  rw [decide_eq_false this, Bool.and_false]
end Rw
/-! # Squares of a row along diagonals: plain facts -/
namespace Rw
/-- the squares of a row, from 0 -/
def sqAll (r : List Nat) (n : Nat) : List (Nat × Nat) := (List.range n).flatMap fun a => (List.range (r.getD a 0)).map fun b => (a, b)
theorem filter_range_eq {m k : Nat} : (List.range m).filter (fun b => decide (b = k)) = if k < m then [k] else [] := by
  induction m with
  | zero => simp
  | succ m ih =>
    rw [List.range_succ, List.filter_append, ih]
    by_cases h : k < m
    · have : m ≠ k := by omega
      simp [h, this]; omega
    · by_cases h2 : k = m
      · subst h2; simp
      · have h3 : ¬ k < m + 1 := by omega
        have : ¬ m = k := by omega
        simp [h, h3, this]
theorem sq_diag {r : List Nat} {d : Int} (n : Nat) : (sqAll r n).filter (fun p => decide ((p.1 : Int) - (p.2 : Int) = d)) = ((List.range n).filter (onD r d)).map fun a : Nat => (a, ((a : Int) - d).toNat) := by
  induction n with
  | zero => rfl
  | succ n ih =>
    unfold sqAll at ih ⊢
    rw [List.range_succ, List.flatMap_append, List.filter_append, ih, List.filter_append, List.map_append]
    congr 1
    simp only [List.flatMap_cons, List.flatMap_nil, List.append_nil, List.filter_map]
    have e : ((fun p : Nat × Nat => decide ((p.1 : Int) - (p.2 : Int) = d)) ∘ fun b => (n, b)) = fun b : Nat => decide ((n : Int) - (b : Int) = d) := rfl
    rw [e]
    by_cases h : d ≤ (n : Int)
    · have e2 : (fun b : Nat => decide ((n : Int) - (b : Int) = d)) = fun b : Nat => decide (b = ((n : Int) - d).toNat) := by
        funext b
        rw [decide_eq_decide]
        omega
      rw [e2, filter_range_eq]
      by_cases h2 : ((n : Int) - d).toNat < r.getD n 0
      · have : onD r d n = true := by
          unfold onD
          rw [decide_eq_true h, decide_eq_true (by omega)]; rfl
        rw [if_pos h2]
        simp [this]
      · have : onD r d n = false := by
          unfold onD
          rw [decide_eq_true h, decide_eq_false (by omega)]; rfl
        rw [if_neg h2]
        simp [this]
    · have : onD r d n = false := by
        unfold onD
        rw [decide_eq_false h]; rfl
      have e2 : (List.range (r.getD n 0)).filter (fun b : Nat => decide ((n : Int) - (b : Int) = d)) = [] := by
        rw [List.filter_eq_nil_iff]
        intro b _
        rw [decide_eq_true_eq]
        omega
      rw [e2]
      simp [this]
theorem sqAll_len (r : List Nat) : ∀ n : Nat, n ≤ r.length → (sqAll r n).length = (r.take n).sum
  | 0, _ => by simp [sqAll]
  | n + 1, h => by
    have ih := sqAll_len r n (by omega)
    unfold sqAll at ih ⊢
    rw [List.range_succ, List.flatMap_append, List.length_append, ih, List.take_succ]
    rw [List.sum_append, List.getElem?_eq_getElem (by omega)]
    simp only [List.flatMap_cons, List.flatMap_nil, List.append_nil, List.length_map, List.length_range, Option.toList_some, List.sum_cons, List.sum_nil, Nat.add_zero]
    rw [List.getD_eq_getElem?_getD, List.getElem?_eq_getElem (by omega)]
    rfl
theorem sqAll_len' (r : List Nat) : (sqAll r r.length).length = r.sum := by
  rw [sqAll_len r r.length (Nat.le_refl _), List.take_length]
theorem sqAll_mem {r : List Nat} {n : Nat} {p : Nat × Nat} (h : p ∈ sqAll r n) : p.1 < n ∧ p.2 < r.getD p.1 0 := by
  unfold sqAll at h
  obtain ⟨a, ha, hp⟩ := List.mem_flatMap.mp h
  obtain ⟨b, hb, rfl⟩ := List.mem_map.mp hp
  exact ⟨List.mem_range.mp ha, List.mem_range.mp hb⟩
theorem getD_lt {r : List Nat} {a : Nat} (h : a < r.length) : r.getD a 0 = r[a] := by
  rw [List.getD_eq_getElem?_getD, List.getElem?_eq_getElem h]; rfl
theorem getD_ge {r : List Nat} {a : Nat} (h : ¬ a < r.length) : r.getD a 0 = 0 := by
  rw [List.getD_eq_getElem?_getD, List.getElem?_eq_none (by omega)]; rfl
/-- row and column of a square in the turned row -/
theorem turn_sq {r : List Nat} (h : Fal r) {a b : Nat} : b < r.getD a 0 ↔ a < (tr r).getD b 0 := by
  by_cases ha : a < r.length
  · rw [getD_lt ha]
    rw [key h ha]
    by_cases hb : b < (tr r).length
    · rw [getD_lt hb, tr_get]
    · rw [getD_ge hb]
      have hb' : r.headD 0 ≤ b := by rw [tr_len] at hb; omega
      have : cnt b r = 0 := by
        unfold cnt
        rw [List.countP_eq_zero]
        intro x hx
        obtain ⟨i, hi, rfl⟩ := List.getElem_of_mem hx
        have := head_le h hi
        simp only [decide_eq_true_eq]
        omega
      omega
  · rw [getD_ge ha]
    by_cases hb : b < (tr r).length
    · rw [getD_lt hb, tr_get]
      have := cnt_le (a := b) (r := r)
      omega
    · rw [getD_ge hb]; omega
theorem filter_pw {p : Nat → Bool} : ∀ n : Nat, ((List.range n).filter p).Pairwise (· < ·) := fun n => List.Pairwise.filter p List.pairwise_lt_range
theorem sorted_ext : ∀ {l q : List Nat}, l.Pairwise (· < ·) → q.Pairwise (· < ·) → (∀ x, x ∈ l ↔ x ∈ q) → l = q
  | [], [], _, _, _ => rfl
  | [], y :: q, _, _, h => absurd ((h y).mpr List.mem_cons_self) (by simp)
  | x :: l, [], _, _, h => absurd ((h x).mp List.mem_cons_self) (by simp)
  | x :: l, y :: q, h1, h2, h => by
    obtain ⟨a1, a2⟩ := List.pairwise_cons.mp h1
    obtain ⟨b1, b2⟩ := List.pairwise_cons.mp h2
    have e : x = y := by
      rcases List.mem_cons.mp ((h x).mp List.mem_cons_self) with z | z
      · exact z
      · rcases List.mem_cons.mp ((h y).mpr List.mem_cons_self) with w | w
        · exact w.symm
        · have := b1 x z; have := a1 y w; omega
    subst e
    rw [sorted_ext a2 b2 fun z => ?_]
    constructor
    · intro hz
      rcases List.mem_cons.mp ((h z).mp (List.mem_cons_of_mem _ hz)) with w | w
      · subst w; exact absurd (a1 z hz) (by omega)
      · exact w
    · intro hz
      rcases List.mem_cons.mp ((h z).mpr (List.mem_cons_of_mem _ hz)) with w | w
      · subst w; exact absurd (b1 z hz) (by omega)
      · exact w
theorem onD_lt {r : List Nat} {d : Int} {a : Nat} (h : onD r d a = true) : a < r.length := by
  rcases Nat.lt_or_ge a r.length with z | z
  · exact z
  · rw [onD_out z] at h; cases h
theorem sqs_mem {r : List Nat} {d : Int} {a : Nat} : a ∈ sqs r d ↔ d ≤ (a : Int) ∧ ((a : Int) - d).toNat < r.getD a 0 := by
  unfold sqs
  rw [List.mem_filter, List.mem_range]
  constructor
  · rintro ⟨_, h⟩
    unfold onD at h
    rw [Bool.and_eq_true, decide_eq_true_eq, decide_eq_true_eq] at h
    omega
  · intro h
    have e : onD r d a = true := by
      unfold onD
      rw [Bool.and_eq_true, decide_eq_true_eq, decide_eq_true_eq]
      omega
    exact ⟨onD_lt e, e⟩
theorem sqs_pw {r : List Nat} {d : Int} : (sqs r d).Pairwise (· < ·) := filter_pw _
/-- the turned row's squares on the turned diagonal -/
theorem sqs_tr {r : List Nat} (h : Fal r) {d : Int} : sqs (tr r) (0 - d) = (sqs r d).map fun a : Nat => ((a : Int) - d).toNat := by
  refine sorted_ext sqs_pw ?_ fun x => ?_
  · rw [List.pairwise_map]
    refine List.Pairwise.imp_of_mem ?_ sqs_pw
    intro a b ha hb hab
    have := (sqs_mem.mp ha).1
    omega
  · rw [sqs_mem, List.mem_map]
    constructor
    · rintro ⟨h1, h2⟩
      have h3 := (turn_sq h).mpr h2
      refine ⟨((x : Int) - (0 - d)).toNat, sqs_mem.mpr ⟨by omega, ?_⟩, by omega⟩
      rwa [show ((((x : Int) - (0 - d)).toNat : Nat) : Int) - d = (x : Int) by omega, Int.toNat_natCast]
    · rintro ⟨a, ha, rfl⟩
      obtain ⟨h1, h2⟩ := sqs_mem.mp ha
      refine ⟨by omega, ?_⟩
      have h3 := (turn_sq h).mp h2
      rwa [show ((((a : Int) - d).toNat : Nat) : Int) - (0 - d) = (a : Int) by omega, Int.toNat_natCast]
end Rw
/-! # k07: the text's mirrors (printed by gen.py) -/
namespace Zk07
open PySem PySem.Spec PyProof.Rows L2 Qs
def top (i : Nat) : Stmt := PySem.Challenge.pw_hookstrips_k07_whole_turned_rows_and_dif.main.body.getD i (.Pass ⟨0, 0, 0, 0⟩)
def tab_0 : List (Str × GK) := [("abs", .blt), ("all", .blt), ("bool", .blt), ("enumerate", .blt), ("int", .blt), ("isinstance", .blt), ("len", .blt), ("list", .blt), ("max", .blt), ("min", .blt), ("range", .blt), ("sorted", .blt), ("sum", .blt), ("tuple", .blt), ("zip", .blt), ("LONGEST", .con (.int 1000000000000000000000000000000000000000000000000000000000000)), ("MAX_PARTS", .con (.int 60)), ("MAX_PART", .con (.int 200))]
def b_is_integer : SS := (sSeq (sRet (boolL .And [(eFn isiW [(eVar 0), (eCst (.ty "int"))]), (eNot (eFn isiW [(eVar 0), (eCst (.ty "bool"))])), (eCmp2 .Lt .Lt (eNeg (eCst (.int 1000000000000000000000000000000000000000000000000000000000000))) (eVar 0) (eCst (.int 1000000000000000000000000000000000000000000000000000000000000)))])) sNil)
def m_is_integer : SE := callM 1 b_is_integer
def D_is_integer : De := ⟨["value"], defScope (top 7), none, tab_0, []⟩
theorem e_is_integer : callM D_is_integer.N.length (blockD (den 60) D_is_integer (defBody (top 7))) = m_is_integer := by kernel_rfl
theorem s_is_integer : FnScope D_is_integer.N ["value"] D_is_integer.sc := ⟨by kernel_rfl, by kernel_rfl, by kernel_rfl, by decide +kernel, by kernel_rfl, by decide +kernel, by decide +kernel⟩
def tab_1 : List (Str × GK) := ("is_integer", .fn 1 m_is_integer) :: tab_0
def d_is_integer : He.DefD := ⟨("is_integer", none), "is_integer", "is_integer", defArgs (top 7), defBody (top 7), defScope (top 7), [], []⟩
def b_is_within : SS := (sSeq (sRet (boolL .And [(eCall m_is_integer [(eVar 0)]), (eCmp2 .LtE .LtE (eVar 1) (eVar 0) (eVar 2))])) sNil)
def m_is_within : SE := callM 3 b_is_within
def D_is_within : De := ⟨["value", "least", "most"], defScope (top 8), none, tab_1, []⟩
theorem e_is_within : callM D_is_within.N.length (blockD (den 60) D_is_within (defBody (top 8))) = m_is_within := by kernel_rfl
theorem s_is_within : FnScope D_is_within.N ["value", "least", "most"] D_is_within.sc := ⟨by kernel_rfl, by kernel_rfl, by kernel_rfl, by decide +kernel, by kernel_rfl, by decide +kernel, by decide +kernel⟩
def tab_2 : List (Str × GK) := ("is_within", .fn 3 m_is_within) :: tab_1
def d_is_within : He.DefD := ⟨("is_within", none), "is_within", "is_within", defArgs (top 8), defBody (top 8), defScope (top 8), [], []⟩
def b_require_within : SS := (sSeq (sIf (eNot (eCall m_is_within [(eVar 0), (eVar 1), (eVar 2)])) (sSeq badS sNil) sNil) sNil)
def m_require_within : SE := callM 3 b_require_within
def D_require_within : De := ⟨["value", "least", "most"], defScope (top 9), none, tab_2, []⟩
theorem e_require_within : callM D_require_within.N.length (blockD (den 60) D_require_within (defBody (top 9))) = m_require_within := by kernel_rfl
theorem s_require_within : FnScope D_require_within.N ["value", "least", "most"] D_require_within.sc := ⟨by kernel_rfl, by kernel_rfl, by kernel_rfl, by decide +kernel, by kernel_rfl, by decide +kernel, by decide +kernel⟩
def tab_3 : List (Str × GK) := ("require_within", .fn 3 m_require_within) :: tab_2
def d_require_within : He.DefD := ⟨("require_within", none), "require_within", "require_within", defArgs (top 9), defBody (top 9), defScope (top 9), [], []⟩
def c_are_falling_1_e : SE := (eCmp .GtE (eVar 1) (eVar 2))
def c_are_falling_1 : SE := eLc (iArgs zipW [(eVar 0), (eSl (eVar 0) (some (eCst (.int 1))) none)]) (gTupW [(asgN 1), (asgN 2)]) (blE true) c_are_falling_1_e [1, 2]
def b_are_falling : SS := (sSeq (sRet (eFn allW [c_are_falling_1])) sNil)
def m_are_falling : SE := callM 3 b_are_falling
def D_are_falling : De := ⟨["values", "one", "other"], defScope (top 13), none, tab_3, []⟩
theorem e_are_falling : callM D_are_falling.N.length (blockD (den 60) D_are_falling (defBody (top 13))) = m_are_falling := by kernel_rfl
theorem s_are_falling : FnScope D_are_falling.N ["values"] D_are_falling.sc := ⟨by kernel_rfl, by kernel_rfl, by kernel_rfl, by decide +kernel, by kernel_rfl, by decide +kernel, by decide +kernel⟩
def tab_4 : List (Str × GK) := ("are_falling", .fn 1 m_are_falling) :: tab_3
def d_are_falling : He.DefD := ⟨("are_falling", none), "are_falling", "are_falling", defArgs (top 13), defBody (top 13), defScope (top 13), [], []⟩
def c_is_row_in_1_e : SE := (eCall m_is_within [(eVar 1), (eCst (.int 1)), (eCst (.int 200))])
def c_is_row_in_1 : SE := eLc (iVal (eVar 0)) (asgN 1) (blE true) c_is_row_in_1_e [1]
def b_is_row_in : SS := (sSeq (sIf (boolL .Or [(eNot (eFn isiW [(eVar 0), (eCst (.ty "tuple"))])), (eCmp .Gt (eFn lenW [(eVar 0)]) (eCst (.int 60)))]) (sSeq (sRet (eCst (.bl false))) sNil) sNil) (sSeq (sRet (boolL .And [(eFn allW [c_is_row_in_1]), (eCall m_are_falling [(eVar 0)])])) sNil))
def m_is_row_in : SE := callM 2 b_is_row_in
def D_is_row_in : De := ⟨["value", "part"], defScope (top 14), none, tab_4, []⟩
theorem e_is_row_in : callM D_is_row_in.N.length (blockD (den 60) D_is_row_in (defBody (top 14))) = m_is_row_in := by kernel_rfl
theorem s_is_row_in : FnScope D_is_row_in.N ["value"] D_is_row_in.sc := ⟨by kernel_rfl, by kernel_rfl, by kernel_rfl, by decide +kernel, by kernel_rfl, by decide +kernel, by decide +kernel⟩
def tab_5 : List (Str × GK) := ("is_row_in", .fn 1 m_is_row_in) :: tab_4
def d_is_row_in : He.DefD := ⟨("is_row_in", none), "is_row_in", "is_row_in", defArgs (top 14), defBody (top 14), defScope (top 14), [], []⟩
def b_require_row : SS := (sSeq (sIf (eNot (eCall m_is_row_in [(eVar 0)])) (sSeq badS sNil) sNil) sNil)
def m_require_row : SE := callM 1 b_require_row
def D_require_row : De := ⟨["value"], defScope (top 15), none, tab_5, []⟩
theorem e_require_row : callM D_require_row.N.length (blockD (den 60) D_require_row (defBody (top 15))) = m_require_row := by kernel_rfl
theorem s_require_row : FnScope D_require_row.N ["value"] D_require_row.sc := ⟨by kernel_rfl, by kernel_rfl, by kernel_rfl, by decide +kernel, by kernel_rfl, by decide +kernel, by decide +kernel⟩
def tab_6 : List (Str × GK) := ("require_row", .fn 1 m_require_row) :: tab_5
def d_require_row : He.DefD := ⟨("require_row", none), "require_row", "require_row", defArgs (top 15), defBody (top 15), defScope (top 15), [], []⟩
def w_turned_in_2 : SS := (sSeq (sAug .Sub 2 (eCst (.int 1))) sNil)
def f_turned_in_1 : SS := (sSeq (whileN (eCmp .Lt (eIx (eVar 0) (eBin .Sub (eVar 2) (eCst (.int 1)))) (eVar 3)) w_turned_in_2 wFuel) (sSeq (sExpr (eMut1 appW (eVar 1) (eVar 2))) sNil))
def b_turned_in : SS := (sSeq (sPar [1, 2] [(eLst []), (eFn lenW [(eVar 0)])]) (sSeq (sFor (iArgs rng2 [(eCst (.int 1)), (eIf (eCmp .NotEq (eVar 0) (eTup [])) (eBin .Add (eIx (eVar 0) (eCst (.int 0))) (eCst (.int 1))) (eCst (.int 1)))]) (asgN 3) f_turned_in_1) (sSeq (sRet (eFn tupW [(eVar 1)])) sNil)))
def m_turned_in : SE := callM 4 b_turned_in
def D_turned_in : De := ⟨["row", "found", "place", "column"], defScope (top 16), none, tab_6, []⟩
theorem e_turned_in : callM D_turned_in.N.length (blockD (den 60) D_turned_in (defBody (top 16))) = m_turned_in := by kernel_rfl
theorem s_turned_in : FnScope D_turned_in.N ["row"] D_turned_in.sc := ⟨by kernel_rfl, by kernel_rfl, by kernel_rfl, by decide +kernel, by kernel_rfl, by decide +kernel, by decide +kernel⟩
def tab_7 : List (Str × GK) := ("turned_in", .fn 1 m_turned_in) :: tab_6
def d_turned_in : He.DefD := ⟨("turned_in", none), "turned_in", "turned_in", defArgs (top 16), defBody (top 16), defScope (top 16), [], []⟩
def b_has_square_in : SS := (sSeq (sRet (boolL .And [(eCmp2 .LtE .LtE (eCst (.int 1)) (eVar 1) (eFn lenW [(eVar 0)])), (eCmp2 .LtE .LtE (eCst (.int 1)) (eVar 2) (eIx (eVar 0) (eBin .Sub (eVar 1) (eCst (.int 1)))))])) sNil)
def m_has_square_in : SE := callM 3 b_has_square_in
def D_has_square_in : De := ⟨["row", "r", "c"], defScope (top 17), none, tab_7, []⟩
theorem e_has_square_in : callM D_has_square_in.N.length (blockD (den 60) D_has_square_in (defBody (top 17))) = m_has_square_in := by kernel_rfl
theorem s_has_square_in : FnScope D_has_square_in.N ["row", "r", "c"] D_has_square_in.sc := ⟨by kernel_rfl, by kernel_rfl, by kernel_rfl, by decide +kernel, by kernel_rfl, by decide +kernel, by decide +kernel⟩
def tab_8 : List (Str × GK) := ("has_square_in", .fn 3 m_has_square_in) :: tab_7
def d_has_square_in : He.DefD := ⟨("has_square_in", none), "has_square_in", "has_square_in", defArgs (top 17), defBody (top 17), defScope (top 17), [], []⟩
def w_squares_in_1 : SS := (sSeq (sExpr (eMut1 appW (eVar 2) (eTup [(false, (eVar 3)), (false, (eBin .Sub (eVar 3) (eVar 1)))]))) (sSeq (sAug .Add 3 (eCst (.int 1))) sNil))
def b_squares_in : SS := (sSeq (sPar [2, 3] [(eLst []), (eFn max2W [(eCst (.int 1)), (eBin .Add (eCst (.int 1)) (eVar 1))])]) (sSeq (whileN (eCall m_has_square_in [(eVar 0), (eVar 3), (eBin .Sub (eVar 3) (eVar 1))]) w_squares_in_1 wFuel) (sSeq (sRet (eVar 2)) sNil)))
def m_squares_in : SE := callM 4 b_squares_in
def D_squares_in : De := ⟨["row", "diagonal", "found", "r"], defScope (top 18), none, tab_8, []⟩
theorem e_squares_in : callM D_squares_in.N.length (blockD (den 60) D_squares_in (defBody (top 18))) = m_squares_in := by kernel_rfl
theorem s_squares_in : FnScope D_squares_in.N ["row", "diagonal"] D_squares_in.sc := ⟨by kernel_rfl, by kernel_rfl, by kernel_rfl, by decide +kernel, by kernel_rfl, by decide +kernel, by decide +kernel⟩
def tab_9 : List (Str × GK) := ("squares_in", .fn 2 m_squares_in) :: tab_8
def d_squares_in : He.DefD := ⟨("squares_in", none), "squares_in", "squares_in", defArgs (top 18), defBody (top 18), defScope (top 18), [], []⟩
def c_differences_in_1_e : SE := (eBin .Sub (eIx (eVar 0) (eBin .Sub (eVar 3) (eCst (.int 1)))) (eIx (eVar 2) (eBin .Sub (eVar 4) (eCst (.int 1)))))
def c_differences_in_1 : SE := eLc (iVal (eCall m_squares_in [(eVar 0), (eVar 1)])) (gTupW [(asgN 3), (asgN 4)]) (blE true) c_differences_in_1_e [3, 4]
def b_differences_in : SS := (sSeq (sAsg (eCall m_turned_in [(eVar 0)]) (asgN 2)) (sSeq (sRet c_differences_in_1) sNil))
def m_differences_in : SE := callM 5 b_differences_in
def D_differences_in : De := ⟨["row", "diagonal", "over", "r", "c"], defScope (top 19), none, tab_9, []⟩
theorem e_differences_in : callM D_differences_in.N.length (blockD (den 60) D_differences_in (defBody (top 19))) = m_differences_in := by kernel_rfl
theorem s_differences_in : FnScope D_differences_in.N ["row", "diagonal"] D_differences_in.sc := ⟨by kernel_rfl, by kernel_rfl, by kernel_rfl, by decide +kernel, by kernel_rfl, by decide +kernel, by decide +kernel⟩
def tab_10 : List (Str × GK) := ("differences_in", .fn 2 m_differences_in) :: tab_9
def d_differences_in : He.DefD := ⟨("differences_in", none), "differences_in", "differences_in", defArgs (top 19), defBody (top 19), defScope (top 19), [], []⟩
def b_size_of : SS := (sSeq (sExpr (eCall m_require_row [(eVar 0)])) (sSeq (sRet (eFn sumW [(eVar 0)])) sNil))
def m_size_of : SE := callM 1 b_size_of
def D_size_of : De := ⟨["row"], defScope (top 20), none, tab_10, []⟩
theorem e_size_of : callM D_size_of.N.length (blockD (den 60) D_size_of (defBody (top 20))) = m_size_of := by kernel_rfl
theorem s_size_of : FnScope D_size_of.N ["row"] D_size_of.sc := ⟨by kernel_rfl, by kernel_rfl, by kernel_rfl, by decide +kernel, by kernel_rfl, by decide +kernel, by decide +kernel⟩
def tab_11 : List (Str × GK) := ("size_of", .fn 1 m_size_of) :: tab_10
def d_size_of : He.DefD := ⟨("size_of", none), "size_of", "size_of", defArgs (top 20), defBody (top 20), defScope (top 20), [], []⟩
def b_turned : SS := (sSeq (sExpr (eCall m_require_row [(eVar 0)])) (sSeq (sRet (eCall m_turned_in [(eVar 0)])) sNil))
def m_turned : SE := callM 1 b_turned
def D_turned : De := ⟨["row"], defScope (top 21), none, tab_11, []⟩
theorem e_turned : callM D_turned.N.length (blockD (den 60) D_turned (defBody (top 21))) = m_turned := by kernel_rfl
theorem s_turned : FnScope D_turned.N ["row"] D_turned.sc := ⟨by kernel_rfl, by kernel_rfl, by kernel_rfl, by decide +kernel, by kernel_rfl, by decide +kernel, by decide +kernel⟩
def tab_12 : List (Str × GK) := ("turned", .fn 1 m_turned) :: tab_11
def d_turned : He.DefD := ⟨("turned", none), "turned", "turned", defArgs (top 21), defBody (top 21), defScope (top 21), [], []⟩
def b_hook_difference : SS := (sSeq (sExpr (eCall m_require_row [(eVar 0)])) (sSeq (sExpr (eCall m_require_within [(eVar 1), (eCst (.int 1)), (eCst (.int 200))])) (sSeq (sExpr (eCall m_require_within [(eVar 2), (eCst (.int 1)), (eCst (.int 200))])) (sSeq (sIf (eNot (eCall m_has_square_in [(eVar 0), (eVar 1), (eVar 2)])) (sSeq badS sNil) sNil) (sSeq (sRet (eBin .Sub (eIx (eVar 0) (eBin .Sub (eVar 1) (eCst (.int 1)))) (eIx (eCall m_turned_in [(eVar 0)]) (eBin .Sub (eVar 2) (eCst (.int 1)))))) sNil)))))
def m_hook_difference : SE := callM 3 b_hook_difference
def D_hook_difference : De := ⟨["row", "r", "c"], defScope (top 22), none, tab_12, []⟩
theorem e_hook_difference : callM D_hook_difference.N.length (blockD (den 60) D_hook_difference (defBody (top 22))) = m_hook_difference := by kernel_rfl
theorem s_hook_difference : FnScope D_hook_difference.N ["row", "r", "c"] D_hook_difference.sc := ⟨by kernel_rfl, by kernel_rfl, by kernel_rfl, by decide +kernel, by kernel_rfl, by decide +kernel, by decide +kernel⟩
def tab_13 : List (Str × GK) := ("hook_difference", .fn 3 m_hook_difference) :: tab_12
def d_hook_difference : He.DefD := ⟨("hook_difference", none), "hook_difference", "hook_difference", defArgs (top 22), defBody (top 22), defScope (top 22), [], []⟩
def b_require_row_and_diagonal : SS := (sSeq (sExpr (eCall m_require_row [(eVar 0)])) (sSeq (sIf (eNot (eCall m_is_within [(eVar 1), (eNeg (eCst (.int 200))), (eCst (.int 200))])) (sSeq badS sNil) sNil) sNil))
def m_require_row_and_diagonal : SE := callM 2 b_require_row_and_diagonal
def D_require_row_and_diagonal : De := ⟨["row", "diagonal"], defScope (top 23), none, tab_13, []⟩
theorem e_require_row_and_diagonal : callM D_require_row_and_diagonal.N.length (blockD (den 60) D_require_row_and_diagonal (defBody (top 23))) = m_require_row_and_diagonal := by kernel_rfl
theorem s_require_row_and_diagonal : FnScope D_require_row_and_diagonal.N ["row", "diagonal"] D_require_row_and_diagonal.sc := ⟨by kernel_rfl, by kernel_rfl, by kernel_rfl, by decide +kernel, by kernel_rfl, by decide +kernel, by decide +kernel⟩
def tab_14 : List (Str × GK) := ("require_row_and_diagonal", .fn 2 m_require_row_and_diagonal) :: tab_13
def d_require_row_and_diagonal : He.DefD := ⟨("require_row_and_diagonal", none), "require_row_and_diagonal", "require_row_and_diagonal", defArgs (top 23), defBody (top 23), defScope (top 23), [], []⟩
def b_squares_on : SS := (sSeq (sExpr (eCall m_require_row_and_diagonal [(eVar 0), (eVar 1)])) (sSeq (sRet (eFn tupW [(eCall m_squares_in [(eVar 0), (eVar 1)])])) sNil))
def m_squares_on : SE := callM 2 b_squares_on
def D_squares_on : De := ⟨["row", "diagonal"], defScope (top 24), none, tab_14, []⟩
theorem e_squares_on : callM D_squares_on.N.length (blockD (den 60) D_squares_on (defBody (top 24))) = m_squares_on := by kernel_rfl
theorem s_squares_on : FnScope D_squares_on.N ["row", "diagonal"] D_squares_on.sc := ⟨by kernel_rfl, by kernel_rfl, by kernel_rfl, by decide +kernel, by kernel_rfl, by decide +kernel, by decide +kernel⟩
def tab_15 : List (Str × GK) := ("squares_on", .fn 2 m_squares_on) :: tab_14
def d_squares_on : He.DefD := ⟨("squares_on", none), "squares_on", "squares_on", defArgs (top 24), defBody (top 24), defScope (top 24), [], []⟩
def b_hook_differences : SS := (sSeq (sExpr (eCall m_require_row_and_diagonal [(eVar 0), (eVar 1)])) (sSeq (sRet (eFn tupW [(eCall m_differences_in [(eVar 0), (eVar 1)])])) sNil))
def m_hook_differences : SE := callM 2 b_hook_differences
def D_hook_differences : De := ⟨["row", "diagonal"], defScope (top 25), none, tab_15, []⟩
theorem e_hook_differences : callM D_hook_differences.N.length (blockD (den 60) D_hook_differences (defBody (top 25))) = m_hook_differences := by kernel_rfl
theorem s_hook_differences : FnScope D_hook_differences.N ["row", "diagonal"] D_hook_differences.sc := ⟨by kernel_rfl, by kernel_rfl, by kernel_rfl, by decide +kernel, by kernel_rfl, by decide +kernel, by decide +kernel⟩
def tab_16 : List (Str × GK) := ("hook_differences", .fn 2 m_hook_differences) :: tab_15
def d_hook_differences : He.DefD := ⟨("hook_differences", none), "hook_differences", "hook_differences", defArgs (top 25), defBody (top 25), defScope (top 25), [], []⟩
def b_ranks : SS := (sSeq (sExpr (eCall m_require_row [(eVar 0)])) (sSeq (sRet (eFn tupW [(eCall m_differences_in [(eVar 0), (eCst (.int 0))])])) sNil))
def m_ranks : SE := callM 1 b_ranks
def D_ranks : De := ⟨["row"], defScope (top 26), none, tab_16, []⟩
theorem e_ranks : callM D_ranks.N.length (blockD (den 60) D_ranks (defBody (top 26))) = m_ranks := by kernel_rfl
theorem s_ranks : FnScope D_ranks.N ["row"] D_ranks.sc := ⟨by kernel_rfl, by kernel_rfl, by kernel_rfl, by decide +kernel, by kernel_rfl, by decide +kernel, by decide +kernel⟩
def tab_17 : List (Str × GK) := ("ranks", .fn 1 m_ranks) :: tab_16
def d_ranks : He.DefD := ⟨("ranks", none), "ranks", "ranks", defArgs (top 26), defBody (top 26), defScope (top 26), [], []⟩
def b__law_dice : SS := (sSeq (sAsg (eIf (eCmp .Lt (eVar 1) (eFn lenW [(eVar 0)])) (eFn intW [(eIx (eVar 0) (eVar 1))]) (eBin .Add (eBin .Mult (eCst (.int 97)) (eVar 1)) (eCst (.int 61)))) (asgN 2)) (sSeq (sAsg (eBin .Mod (eFn max2W [(eCst (.int 0)), (eBin .Sub (eFn absW [(eVar 2)]) (eBin .Pow (eCst (.int 10)) (eCst (.int 16))))]) (eBin .Mult (eBin .Pow (eCst (.int 10)) (eCst (.int 56))) (eBin .Pow (eCst (.int 10)) (eCst (.int 60))))) (asgN 3)) (sSeq (sRet (eLst [(false, (eVar 3)), (false, (eBin .Add (eBin .Add (eBin .Add (eBin .Mult (eBin .Mod (eFn absW [(eVar 2)]) (eCst (.int 1152921504606846869))) (eCst (.int 67))) (eBin .Mult (eCst (.int 1013)) (eVar 1))) (eBin .Mult (eCst (.int 47)) (eFn intW [(eCmp .Lt (eVar 2) (eCst (.int 0)))]))) (eCst (.int 19)))), (false, (eCst (.int 0)))])) sNil)))
def m__law_dice : SE := callM 4 b__law_dice
def D__law_dice : De := ⟨["script", "spot", "cell", "left"], defScope (top 28), none, tab_17, []⟩
theorem e__law_dice : callM D__law_dice.N.length (blockD (den 60) D__law_dice (defBody (top 28))) = m__law_dice := by kernel_rfl
theorem s__law_dice : FnScope D__law_dice.N ["script", "spot"] D__law_dice.sc := ⟨by kernel_rfl, by kernel_rfl, by kernel_rfl, by decide +kernel, by kernel_rfl, by decide +kernel, by decide +kernel⟩
def tab_18 : List (Str × GK) := ("_law_dice", .fn 2 m__law_dice) :: tab_17
def d__law_dice : He.DefD := ⟨("_law_dice", none), "_law_dice", "_law_dice", defArgs (top 28), defBody (top 28), defScope (top 28), [], []⟩
def b__law_roll : SS := (sSeq (sIf (eCmp .Gt (eIx (eVar 0) (eCst (.int 0))) (eCst (.int 0))) (sSeq (sAsg (eBin .Mod (eFn intW [(eIx (eVar 0) (eCst (.int 0)))]) (eVar 1)) (asgN 2)) (sSeq (sAsg (eBin .FloorDiv (eIx (eVar 0) (eCst (.int 0))) (eVar 1)) (gIx (eVar 0) (eCst (.int 0)))) (sSeq (sRet (eVar 2)) sNil))) sNil) (sSeq (sAsg (eBin .Add (eIx (eVar 0) (eCst (.int 2))) (eCst (.int 1))) (gIx (eVar 0) (eCst (.int 2)))) (sSeq (sAsg (eBin .Mod (eFn intW [(eBin .Add (eIx (eVar 0) (eCst (.int 1))) (eBin .Mult (eCst (.int 86028157)) (eIx (eVar 0) (eCst (.int 2)))))]) (eCst (.int 2305843009213693381))) (asgN 3)) (sSeq (sAsg (eBin .Add (eBin .Mult (eBin .Mod (eFn intW [(eBin .Add (eBin .Mult (eVar 3) (eVar 3)) (eBin .Mult (eCst (.int 101)) (eIx (eVar 0) (eCst (.int 2)))))]) (eCst (.int 2305843009213693343))) (eCst (.int 7368791))) (eVar 3)) (asgN 4)) (sSeq (sRet (eBin .Mod (eFn intW [(eBin .FloorDiv (eVar 4) (eCst (.int 65551)))]) (eVar 1))) sNil)))))
def m__law_roll : SE := callM 5 b__law_roll
def D__law_roll : De := ⟨["dice", "most", "found", "one", "two"], defScope (top 29), none, tab_18, []⟩
theorem e__law_roll : callM D__law_roll.N.length (blockD (den 60) D__law_roll (defBody (top 29))) = m__law_roll := by kernel_rfl
theorem s__law_roll : FnScope D__law_roll.N ["dice", "most"] D__law_roll.sc := ⟨by kernel_rfl, by kernel_rfl, by kernel_rfl, by decide +kernel, by kernel_rfl, by decide +kernel, by decide +kernel⟩
def tab_19 : List (Str × GK) := ("_law_roll", .fn 2 m__law_roll) :: tab_18
def d__law_roll : He.DefD := ⟨("_law_roll", none), "_law_roll", "_law_roll", defArgs (top 29), defBody (top 29), defScope (top 29), [], []⟩
def f__law_shuffled_1 : SS := (sSeq (sExpr (eMut1 appW (eVar 3) (eMut1 popAtW (eVar 2) (eCall m__law_roll [(eVar 0), (eFn lenW [(eVar 2)])])))) sNil)
def b__law_shuffled : SS := (sSeq (sPar [2, 3] [(eFn listW [(eVar 1)]), (eLst [])]) (sSeq (sFor (iArgs rng1 [(eFn lenW [(eVar 1)])]) (asgN 4) f__law_shuffled_1) (sSeq (sRet (eVar 3)) sNil)))
def m__law_shuffled : SE := callM 5 b__law_shuffled
def D__law_shuffled : De := ⟨["dice", "items", "left", "found", "turn"], defScope (top 30), none, tab_19, []⟩
theorem e__law_shuffled : callM D__law_shuffled.N.length (blockD (den 60) D__law_shuffled (defBody (top 30))) = m__law_shuffled := by kernel_rfl
theorem s__law_shuffled : FnScope D__law_shuffled.N ["dice", "items"] D__law_shuffled.sc := ⟨by kernel_rfl, by kernel_rfl, by kernel_rfl, by decide +kernel, by kernel_rfl, by decide +kernel, by decide +kernel⟩
def tab_20 : List (Str × GK) := ("_law_shuffled", .fn 2 m__law_shuffled) :: tab_19
def d__law_shuffled : He.DefD := ⟨("_law_shuffled", none), "_law_shuffled", "_law_shuffled", defArgs (top 30), defBody (top 30), defScope (top 30), [], []⟩
def c__law_turned_row_2_e : SE := (eVar 2)
def c__law_turned_row_2_t : SE := (eCmp .Gt (eVar 2) (eVar 1))
def c__law_turned_row_2 : SE := eLc (iVal (eVar 0)) (asgN 2) c__law_turned_row_2_t c__law_turned_row_2_e [2]
def c__law_turned_row_1_e : SE := (eFn lenW [c__law_turned_row_2])
def c__law_turned_row_1 : SE := eLc (iArgs rng1 [(eIx (eVar 0) (eCst (.int 0)))]) (asgN 1) (blE true) c__law_turned_row_1_e [1]
def b__law_turned_row : SS := (sSeq (sIf (eCmp .Eq (eVar 0) (eTup [])) (sSeq (sRet (eTup [])) sNil) sNil) (sSeq (sRet (eFn tupW [c__law_turned_row_1])) sNil))
def m__law_turned_row : SE := callM 3 b__law_turned_row
def D__law_turned_row : De := ⟨["row", "at", "part"], defScope (top 31), none, tab_20, []⟩
theorem e__law_turned_row : callM D__law_turned_row.N.length (blockD (den 60) D__law_turned_row (defBody (top 31))) = m__law_turned_row := by kernel_rfl
theorem s__law_turned_row : FnScope D__law_turned_row.N ["row"] D__law_turned_row.sc := ⟨by kernel_rfl, by kernel_rfl, by kernel_rfl, by decide +kernel, by kernel_rfl, by decide +kernel, by decide +kernel⟩
def tab_21 : List (Str × GK) := ("_law_turned_row", .fn 1 m__law_turned_row) :: tab_20
def d__law_turned_row : He.DefD := ⟨("_law_turned_row", none), "_law_turned_row", "_law_turned_row", defArgs (top 31), defBody (top 31), defScope (top 31), [], []⟩
def f__law_columns_1 : SS := (sSeq (sIf (eCmp .Gt (eVar 4) (eVar 3)) (sSeq (sExpr (eMut1 appW (eVar 2) (eTup [(false, (eBin .Sub (eBin .Sub (eVar 4) (eVar 3)) (eCst (.int 1)))), (false, (eBin .Sub (eBin .Sub (eIx (eVar 1) (eVar 3)) (eVar 3)) (eCst (.int 1))))]))) sNil) sNil) sNil)
def b__law_columns : SS := (sSeq (sPar [1, 2] [(eCall m__law_turned_row [(eVar 0)]), (eLst [])]) (sSeq (sFor (iArgs enumA [(eVar 0)]) (gTupW [(asgN 3), (asgN 4)]) f__law_columns_1) (sSeq (sRet (eVar 2)) sNil)))
def m__law_columns : SE := callM 5 b__law_columns
def D__law_columns : De := ⟨["row", "legs", "found", "at", "part"], defScope (top 32), none, tab_21, []⟩
theorem e__law_columns : callM D__law_columns.N.length (blockD (den 60) D__law_columns (defBody (top 32))) = m__law_columns := by kernel_rfl
theorem s__law_columns : FnScope D__law_columns.N ["row"] D__law_columns.sc := ⟨by kernel_rfl, by kernel_rfl, by kernel_rfl, by decide +kernel, by kernel_rfl, by decide +kernel, by decide +kernel⟩
def tab_22 : List (Str × GK) := ("_law_columns", .fn 1 m__law_columns) :: tab_21
def d__law_columns : He.DefD := ⟨("_law_columns", none), "_law_columns", "_law_columns", defArgs (top 32), defBody (top 32), defScope (top 32), [], []⟩
def c__law_ranks_1_e : SE := (eBin .Sub (eVar 1) (eVar 2))
def c__law_ranks_1 : SE := eLc (iVal (eCall m__law_columns [(eVar 0)])) (gTupW [(asgN 1), (asgN 2)]) (blE true) c__law_ranks_1_e [1, 2]
def b__law_ranks : SS := (sSeq (sRet c__law_ranks_1) sNil)
def m__law_ranks : SE := callM 3 b__law_ranks
def D__law_ranks : De := ⟨["row", "arm", "leg"], defScope (top 33), none, tab_22, []⟩
theorem e__law_ranks : callM D__law_ranks.N.length (blockD (den 60) D__law_ranks (defBody (top 33))) = m__law_ranks := by kernel_rfl
theorem s__law_ranks : FnScope D__law_ranks.N ["row"] D__law_ranks.sc := ⟨by kernel_rfl, by kernel_rfl, by kernel_rfl, by decide +kernel, by kernel_rfl, by decide +kernel, by decide +kernel⟩
def tab_23 : List (Str × GK) := ("_law_ranks", .fn 1 m__law_ranks) :: tab_22
def d__law_ranks : He.DefD := ⟨("_law_ranks", none), "_law_ranks", "_law_ranks", defArgs (top 33), defBody (top 33), defScope (top 33), [], []⟩
def c__law_row_drawn_1_e : SE := (eBin .Add (eCst (.int 1)) (eCall m__law_roll [(eVar 0), (eVar 2)]))
def c__law_row_drawn_1 : SE := eLc (iArgs rng1 [(eCall m__law_roll [(eVar 0), (eBin .Add (eVar 1) (eCst (.int 1)))])]) (asgN 4) (blE true) c__law_row_drawn_1_e [4]
def b__law_row_drawn : SS := (sSeq (sAsg c__law_row_drawn_1 (asgN 3)) (sSeq (sRet (eFn tupW [(eOne revW (eFn sortW [(eVar 3)]))])) sNil))
def m__law_row_drawn : SE := callM 5 b__law_row_drawn
def D__law_row_drawn : De := ⟨["dice", "longest", "most", "found", "turn"], defScope (top 34), none, tab_23, []⟩
theorem e__law_row_drawn : callM D__law_row_drawn.N.length (blockD (den 60) D__law_row_drawn (defBody (top 34))) = m__law_row_drawn := by kernel_rfl
theorem s__law_row_drawn : FnScope D__law_row_drawn.N ["dice", "longest", "most"] D__law_row_drawn.sc := ⟨by kernel_rfl, by kernel_rfl, by kernel_rfl, by decide +kernel, by kernel_rfl, by decide +kernel, by decide +kernel⟩
def tab_24 : List (Str × GK) := ("_law_row_drawn", .fn 3 m__law_row_drawn) :: tab_23
def d__law_row_drawn : He.DefD := ⟨("_law_row_drawn", none), "_law_row_drawn", "_law_row_drawn", defArgs (top 34), defBody (top 34), defScope (top 34), [], []⟩
def c__law_rw_squares_2_e : SE := (eTup [(false, (eBin .Add (eVar 2) (eCst (.int 1)))), (false, (eBin .Add (eVar 4) (eCst (.int 1))))])
def c__law_rw_squares_2 : SE := eLc (iArgs rng1 [(eVar 3)]) (asgN 4) (blE true) c__law_rw_squares_2_e [4]
def f__law_rw_squares_1 : SS := (sSeq (sExpr (eMut1 extW (eVar 1) c__law_rw_squares_2)) sNil)
def b__law_rw_squares : SS := (sSeq (sAsg (eLst []) (asgN 1)) (sSeq (sFor (iArgs enumA [(eVar 0)]) (gTupW [(asgN 2), (asgN 3)]) f__law_rw_squares_1) (sSeq (sRet (eVar 1)) sNil)))
def m__law_rw_squares : SE := callM 5 b__law_rw_squares
def D__law_rw_squares : De := ⟨["row", "found", "at", "part", "to"], defScope (top 35), none, tab_24, []⟩
theorem e__law_rw_squares : callM D__law_rw_squares.N.length (blockD (den 60) D__law_rw_squares (defBody (top 35))) = m__law_rw_squares := by kernel_rfl
theorem s__law_rw_squares : FnScope D__law_rw_squares.N ["row"] D__law_rw_squares.sc := ⟨by kernel_rfl, by kernel_rfl, by kernel_rfl, by decide +kernel, by kernel_rfl, by decide +kernel, by decide +kernel⟩
def tab_25 : List (Str × GK) := ("_law_rw_squares", .fn 1 m__law_rw_squares) :: tab_24
def d__law_rw_squares : He.DefD := ⟨("_law_rw_squares", none), "_law_rw_squares", "_law_rw_squares", defArgs (top 35), defBody (top 35), defScope (top 35), [], []⟩
def c__law_fall_1_e : SE := (eCst (.int 1))
def c__law_fall_1_t : SE := (eCmp .Gt (eVar 2) (eVar 1))
def c__law_fall_1 : SE := eLc (iArgs zipW [(eVar 0), (eSl (eVar 0) (some (eCst (.int 1))) none)]) (gTupW [(asgN 1), (asgN 2)]) c__law_fall_1_t c__law_fall_1_e [1, 2]
def b__law_fall : SS := (sSeq (sRet (eCmp .Eq c__law_fall_1 (eLst []))) sNil)
def m__law_fall : SE := callM 3 b__law_fall
def D__law_fall : De := ⟨["numbers", "one", "other"], defScope (top 36), none, tab_25, []⟩
theorem e__law_fall : callM D__law_fall.N.length (blockD (den 60) D__law_fall (defBody (top 36))) = m__law_fall := by kernel_rfl
theorem s__law_fall : FnScope D__law_fall.N ["numbers"] D__law_fall.sc := ⟨by kernel_rfl, by kernel_rfl, by kernel_rfl, by decide +kernel, by kernel_rfl, by decide +kernel, by decide +kernel⟩
def tab_26 : List (Str × GK) := ("_law_fall", .fn 1 m__law_fall) :: tab_25
def d__law_fall : He.DefD := ⟨("_law_fall", none), "_law_fall", "_law_fall", defArgs (top 36), defBody (top 36), defScope (top 36), [], []⟩
def c__law_right_2_e : SE := (eVar 7)
def c__law_right_2_t : SE := (eCmp .Eq (eBin .Sub (eIx (eVar 7) (eCst (.int 0))) (eIx (eVar 7) (eCst (.int 1)))) (eVar 4))
def c__law_right_2 : SE := eLc (iVal (eVar 3)) (asgN 7) c__law_right_2_t c__law_right_2_e [7]
def c__law_right_3_e : SE := (eBin .Sub (eIx (eVar 1) (eBin .Sub (eVar 8) (eCst (.int 1)))) (eIx (eVar 2) (eBin .Sub (eVar 9) (eCst (.int 1)))))
def c__law_right_3 : SE := eLc (iVal (eVar 5)) (gTupW [(asgN 8), (asgN 9)]) (blE true) c__law_right_3_e [8, 9]
def c__law_right_4_e : SE := (eIx (eVar 1) (eBin .Sub (eVar 8) (eCst (.int 1))))
def c__law_right_4 : SE := eLc (iVal (eVar 5)) (gTupW [(asgN 8), (asgN 9)]) (blE true) c__law_right_4_e [8, 9]
def c__law_right_5_e : SE := (eIx (eVar 2) (eBin .Sub (eVar 9) (eCst (.int 1))))
def c__law_right_5 : SE := eLc (iVal (eVar 5)) (gTupW [(asgN 8), (asgN 9)]) (blE true) c__law_right_5_e [8, 9]
def c__law_right_6_e : SE := (eBin .Sub (eCst (.int 0)) (eVar 10))
def c__law_right_6 : SE := eLc (iVal (eVar 6)) (asgN 10) (blE true) c__law_right_6_e [10]
def f__law_right_1 : SS := (sSeq (sAsg c__law_right_2 (asgN 5)) (sSeq (sAsg (eFn tupW [c__law_right_3]) (asgN 6)) (sSeq (sIf (boolL .Or [(eCmp .NotEq (eCall m_squares_on [(eVar 1), (eVar 4)]) (eFn tupW [(eVar 5)])), (eCmp .NotEq (eCall m_hook_differences [(eVar 1), (eVar 4)]) (eVar 6))]) (sSeq (sRet (eCst (.bl false))) sNil) sNil) (sSeq (sIf (boolL .Or [(eNot (eCall m__law_fall [c__law_right_4])), (eNot (eCall m__law_fall [c__law_right_5]))]) (sSeq (sRet (eCst (.bl false))) sNil) sNil) (sSeq (sIf (eCmp .NotEq (eCall m_hook_differences [(eVar 2), (eBin .Sub (eCst (.int 0)) (eVar 4))]) (eFn tupW [c__law_right_6])) (sSeq (sRet (eCst (.bl false))) sNil) sNil) sNil)))))
def f__law_right_7 : SS := (sSeq (sIf (boolL .Or [(eCmp .NotEq (eCall m_hook_difference [(eVar 1), (eVar 8), (eVar 9)]) (eBin .Sub (eIx (eVar 1) (eBin .Sub (eVar 8) (eCst (.int 1)))) (eIx (eVar 2) (eBin .Sub (eVar 9) (eCst (.int 1)))))), (eCmp .NotEq (eCall m_hook_difference [(eVar 2), (eVar 9), (eVar 8)]) (eBin .Sub (eIx (eVar 2) (eBin .Sub (eVar 9) (eCst (.int 1)))) (eIx (eVar 1) (eBin .Sub (eVar 8) (eCst (.int 1))))))]) (sSeq (sRet (eCst (.bl false))) sNil) sNil) sNil)
def b__law_right : SS := (sSeq (sAsg (eCall m__law_row_drawn [(eVar 0), (eCst (.int 8)), (eCst (.int 9))]) (asgN 1)) (sSeq (sAsg (eTup [(false, (eCall m__law_turned_row [(eVar 1)])), (false, (eCall m__law_rw_squares [(eVar 1)]))]) (gTupW [(asgN 2), (asgN 3)])) (sSeq (sIf (boolL .Or [(eCmp .NotEq (eCall m_turned [(eVar 1)]) (eVar 2)), (eCmp .NotEq (eCall m_turned [(eVar 2)]) (eVar 1)), (eCmp .NotEq (eCall m_size_of [(eVar 1)]) (eFn sumW [(eVar 1)])), (eCmp .NotEq (eCall m_size_of [(eVar 2)]) (eCall m_size_of [(eVar 1)]))]) (sSeq (sRet (eCst (.bl false))) sNil) sNil) (sSeq (sIf (boolL .Or [(eCmp .NotEq (eFn lenW [(eVar 3)]) (eCall m_size_of [(eVar 1)])), (eCmp .NotEq (eCall m_ranks [(eVar 1)]) (eFn tupW [(eCall m__law_ranks [(eVar 1)])])), (eCmp .NotEq (eCall m_ranks [(eVar 1)]) (eCall m_hook_differences [(eVar 1), (eCst (.int 0))]))]) (sSeq (sRet (eCst (.bl false))) sNil) sNil) (sSeq (sFor (iArgs rng2 [(eNeg (eCst (.int 10))), (eCst (.int 11))]) (asgN 4) f__law_right_1) (sSeq (sFor (iVal (eSl (eCall m__law_shuffled [(eVar 0), (eVar 3)]) none (some (eCst (.int 6))))) (gTupW [(asgN 8), (asgN 9)]) f__law_right_7) (sSeq (sRet (eCst (.bl true))) sNil)))))))
def m__law_right : SE := callM 11 b__law_right
def D__law_right : De := ⟨["dice", "row", "over", "squares", "diagonal", "here", "due", "square", "r", "c", "one"], defScope (top 37), none, tab_26, []⟩
theorem e__law_right : callM D__law_right.N.length (blockD (den 60) D__law_right (defBody (top 37))) = m__law_right := by kernel_rfl
theorem s__law_right : FnScope D__law_right.N ["dice"] D__law_right.sc := ⟨by kernel_rfl, by kernel_rfl, by kernel_rfl, by decide +kernel, by kernel_rfl, by decide +kernel, by decide +kernel⟩
def tab_27 : List (Str × GK) := ("_law_right", .fn 1 m__law_right) :: tab_26
def d__law_right : He.DefD := ⟨("_law_right", none), "_law_right", "_law_right", defArgs (top 37), defBody (top 37), defScope (top 37), [], []⟩
def f_law_1 : SS := (sSeq (sAsg (eCall m__law_dice [(eVar 0), (eVar 1)]) (asgN 2)) (sSeq (sIf (boolL .Or [(eNot (eCall m__law_right [(eVar 2)])), (eNot (eCall m__law_right [(eVar 2)]))]) (sSeq (sRet (eCst (.bl false))) sNil) sNil) sNil))
def b_law : SS := (sSeq (sFor (iArgs rng1 [(eFn max2W [(eCst (.int 1)), (eFn min2W [(eCst (.int 3)), (eFn lenW [(eVar 0)])])])]) (asgN 1) f_law_1) (sSeq (sAsg (eLst [(false, (eCall m_turned [(eTup [(false, (eCst (.int 4))), (false, (eCst (.int 2))), (false, (eCst (.int 1)))])])), (false, (eCall m_turned [(eTup [])])), (false, (eCall m_ranks [(eTup [(false, (eCst (.int 4))), (false, (eCst (.int 2))), (false, (eCst (.int 1)))])])), (false, (eCall m_ranks [(eTup [])])), (false, (eCall m_size_of [(eBin .Mult (eTup [(false, (eCst (.int 200)))]) (eCst (.int 60)))]))]) (asgN 3)) (sSeq (sIf (boolL .Or [(eCmp .NotEq (eVar 3) (eLst [(false, (eTup [(false, (eCst (.int 3))), (false, (eCst (.int 2))), (false, (eCst (.int 1))), (false, (eCst (.int 1)))])), (false, (eTup [])), (false, (eTup [(false, (eCst (.int 1))), (false, (eCst (.int 0)))])), (false, (eTup [])), (false, (eCst (.int 12000)))])), (eCmp .NotEq (eCall m_turned [(eBin .Mult (eTup [(false, (eCst (.int 60)))]) (eCst (.int 60)))]) (eBin .Mult (eTup [(false, (eCst (.int 60)))]) (eCst (.int 60))))]) (sSeq (sRet (eCst (.bl false))) sNil) sNil) (sSeq (sAsg (eLst [(false, (eCall m_hook_difference [(eTup [(false, (eCst (.int 4))), (false, (eCst (.int 2))), (false, (eCst (.int 1)))]), (eCst (.int 1)), (eCst (.int 3))])), (false, (eCall m_hook_difference [(eTup [(false, (eCst (.int 4))), (false, (eCst (.int 2))), (false, (eCst (.int 1)))]), (eCst (.int 3)), (eCst (.int 1))])), (false, (eCall m_squares_on [(eTup [(false, (eCst (.int 4))), (false, (eCst (.int 2))), (false, (eCst (.int 1)))]), (eNeg (eCst (.int 1)))]))]) (asgN 3)) (sSeq (sIf (boolL .Or [(eCmp .NotEq (eVar 3) (eLst [(false, (eCst (.int 3))), (false, (eNeg (eCst (.int 2)))), (false, (eTup [(false, (eTup [(false, (eCst (.int 1))), (false, (eCst (.int 2)))]))]))])), (eCmp .NotEq (eLst [(false, (eCall m_squares_on [(eTup [(false, (eCst (.int 5))), (false, (eCst (.int 5))), (false, (eCst (.int 1)))]), (eNeg (eCst (.int 2)))])), (false, (eCall m_hook_differences [(eTup [(false, (eCst (.int 5))), (false, (eCst (.int 5))), (false, (eCst (.int 1)))]), (eNeg (eCst (.int 2)))]))]) (eLst [(false, (eTup [(false, (eTup [(false, (eCst (.int 1))), (false, (eCst (.int 3)))])), (false, (eTup [(false, (eCst (.int 2))), (false, (eCst (.int 4)))]))])), (false, (eTup [(false, (eCst (.int 3))), (false, (eCst (.int 3)))]))]))]) (sSeq (sRet (eCst (.bl false))) sNil) sNil) (sSeq (sRet (boolL .And [(eCmp .Eq (eCall m_squares_on [(eTup [(false, (eCst (.int 4))), (false, (eCst (.int 2))), (false, (eCst (.int 1)))]), (eCst (.int 3))]) (eTup [])), (eCmp .Eq (eCall m_turned [(eTup [(false, (eCst (.int 200)))])]) (eBin .Mult (eTup [(false, (eCst (.int 1)))]) (eCst (.int 200)))), (eCmp .Eq (eCall m_hook_differences [(eTup [(false, (eCst (.int 200)))]), (eNeg (eCst (.int 199)))]) (eTup [(false, (eCst (.int 199)))]))])) sNil))))))
def m_law : SE := callM 4 b_law
def D_law : De := ⟨["script", "spot", "dice", "told"], defScope (top 38), none, tab_27, []⟩
theorem e_law : callM D_law.N.length (blockD (den 60) D_law (defBody (top 38))) = m_law := by kernel_rfl
theorem s_law : FnScope D_law.N ["script"] D_law.sc := ⟨by kernel_rfl, by kernel_rfl, by kernel_rfl, by decide +kernel, by kernel_rfl, by decide +kernel, by decide +kernel⟩
def tab_28 : List (Str × GK) := ("law", .fn 1 m_law) :: tab_27
def d_law : He.DefD := ⟨("law", none), "law", "law", defArgs (top 38), defBody (top 38), defScope (top 38), [], []⟩
/-! ### the head -/
def fn0 : List He.DefD := [d_is_integer, d_is_within, d_require_within, d_are_falling, d_is_row_in, d_require_row, d_turned_in, d_has_square_in, d_squares_in, d_differences_in, d_size_of, d_turned, d_hook_difference, d_require_row_and_diagonal, d_squares_on, d_hook_differences, d_ranks, d__law_dice, d__law_roll, d__law_shuffled]
def fn1 : List He.DefD := [d__law_turned_row, d__law_columns, d__law_ranks, d__law_row_drawn, d__law_rw_squares, d__law_fall, d__law_right, d_law]
def fn : List He.DefD := fn0 ++ fn1
def fa0 : List He.Fa := [.free "abs", .free "all", .free "bool", .free "enumerate", .free "int", .free "isinstance", .free "len", .free "list", .free "max", .free "min", .free "range", .free "sorted", .free "sum", .free "tuple", .free "zip", .int "LONGEST" 1000000000000000000000000000000000000000000000000000000000000, .int "MAX_PARTS" 60, .int "MAX_PART" 200, .glo "is_integer", .glo "is_within"]
def fa1 : List He.Fa := [.glo "require_within", .glo "are_falling", .glo "is_row_in", .glo "require_row", .glo "turned_in", .glo "has_square_in", .glo "squares_in", .glo "differences_in", .glo "size_of", .glo "turned", .glo "hook_difference", .glo "require_row_and_diagonal", .glo "squares_on", .glo "hook_differences", .glo "ranks", .glo "_law_dice", .glo "_law_roll", .glo "_law_shuffled", .glo "_law_turned_row", .glo "_law_columns"]
def fa2 : List He.Fa := [.glo "_law_ranks", .glo "_law_row_drawn", .glo "_law_rw_squares", .glo "_law_fall", .glo "_law_right", .glo "law"]
def fa : List He.Fa := fa0 ++ fa1 ++ fa2
def loose0 : List PySem.Str := ["HookError", "InvalidRow", "InvalidOperation", "InvalidNumber", "LONGEST", "is_integer", "is_within", "require_within", "MAX_PARTS", "MAX_PART", "are_falling", "is_row_in", "require_row", "turned_in", "has_square_in", "squares_in", "differences_in", "size_of", "turned", "hook_difference"]
def loose1 : List PySem.Str := ["require_row_and_diagonal", "squares_on", "hook_differences", "ranks", "_law_dice", "_law_roll", "_law_shuffled", "_law_turned_row", "_law_columns", "_law_ranks", "_law_row_drawn", "_law_rw_squares", "_law_fall", "_law_right"]
def loose : List PySem.Str := loose0 ++ loose1
abbrev R : PySem.W.OpenRow := PySem.W.OpenLaw.row PySem.Challenge.rw_hookstrips_k07_whole_turned_rows_and_dif
abbrev hk : PySem.W.Hook := He.hookD 4 fa fn
def ob (s : PySem.W.SharedT) : He.AlD := He.obsDG 4 fa fn (HandSHeadRun.getT s)
theorem ob_eq (s : PySem.W.SharedT) : ob s = hk.obs s.abs := He.obsDG_eq (HandSHeadRun.getT_eq s)
theorem run (w : World) : HandSHeadRun.RunEq R (PySem.W.view R.prog [38]) hk ob 4000 loose w := by
  intro os
  kernel_rfl
abbrev cst (K : PySem.W.Frag) : Cst := ⟨⟨fun _ => none, fun _ => none⟩, K, []⟩
section
variable {P : Program} {w : World} {K : PySem.W.Frag} {h base : Heap} {mg : Str → Option Value}
theorem t_0 (X : K.In h) (G : h.Ns mainGlobals mg) (cc : He.SaysD fa fn K) : TabOk (cst K) 0 P w K mg base tab_0 := by
  obtain ⟨u0, k0⟩ := He.int_ok X G (cc.fact 15 (f := .int "LONGEST" 1000000000000000000000000000000000000000000000000000000000000) (by kernel_rfl))
  obtain ⟨u1, k1⟩ := He.int_ok X G (cc.fact 16 (f := .int "MAX_PARTS" 60) (by kernel_rfl))
  obtain ⟨u2, k2⟩ := He.int_ok X G (cc.fact 17 (f := .int "MAX_PART" 200) (by kernel_rfl))
  unfold tab_0
  exact (tab_cons (g := .blt) (He.free_ok X G (cc.fact 0 (f := .free "abs") (by kernel_rfl))) (tab_cons (g := .blt) (He.free_ok X G (cc.fact 1 (f := .free "all") (by kernel_rfl))) (tab_cons (g := .blt) (He.free_ok X G (cc.fact 2 (f := .free "bool") (by kernel_rfl))) (tab_cons (g := .blt) (He.free_ok X G (cc.fact 3 (f := .free "enumerate") (by kernel_rfl))) (tab_cons (g := .blt) (He.free_ok X G (cc.fact 4 (f := .free "int") (by kernel_rfl))) (tab_cons (g := .blt) (He.free_ok X G (cc.fact 5 (f := .free "isinstance") (by kernel_rfl))) (tab_cons (g := .blt) (He.free_ok X G (cc.fact 6 (f := .free "len") (by kernel_rfl))) (tab_cons (g := .blt) (He.free_ok X G (cc.fact 7 (f := .free "list") (by kernel_rfl))) (tab_cons (g := .blt) (He.free_ok X G (cc.fact 8 (f := .free "max") (by kernel_rfl))) (tab_cons (g := .blt) (He.free_ok X G (cc.fact 9 (f := .free "min") (by kernel_rfl))) (tab_cons (g := .blt) (He.free_ok X G (cc.fact 10 (f := .free "range") (by kernel_rfl))) (tab_cons (g := .blt) (He.free_ok X G (cc.fact 11 (f := .free "sorted") (by kernel_rfl))) (tab_cons (g := .blt) (He.free_ok X G (cc.fact 12 (f := .free "sum") (by kernel_rfl))) (tab_cons (g := .blt) (He.free_ok X G (cc.fact 13 (f := .free "tuple") (by kernel_rfl))) (tab_cons (g := .blt) (He.free_ok X G (cc.fact 14 (f := .free "zip") (by kernel_rfl))) (tab_cons (gok_int k0 ⟨u0, rfl⟩) (tab_cons (gok_int k1 ⟨u1, rfl⟩) (tab_cons (gok_int k2 ⟨u2, rfl⟩) tab_nil))))))))))))))))))
theorem t_1 (X : K.In h) (G : h.Ns mainGlobals mg) (cc : He.SaysD fa fn K) : TabOk (cst K) 1 P w K mg base tab_1 := by
  have t := t_0 (P := P) (w := w) (base := base) X G cc
  obtain ⟨fd, F⟩ := cc.def_ 0 (d := d_is_integer) (by kernel_rfl)
  exact tab_cons (tab_def (c := cst K) (D := D_is_integer) (ps := ["value"]) rfl t F s_is_integer rfl rfl (He.glo_ok X G (cc.fact 18 (f := .glo "is_integer") (by kernel_rfl))) (F.bindsN fun _ _ _ _ _ _ us hl => match us, hl with | [_], _ => by kernel_rfl) e_is_integer) (tab_mono (Nat.le_succ _) t)
theorem t_2 (X : K.In h) (G : h.Ns mainGlobals mg) (cc : He.SaysD fa fn K) : TabOk (cst K) 2 P w K mg base tab_2 := by
  have t := t_1 (P := P) (w := w) (base := base) X G cc
  obtain ⟨fd, F⟩ := cc.def_ 1 (d := d_is_within) (by kernel_rfl)
  exact tab_cons (tab_def (c := cst K) (D := D_is_within) (ps := ["value", "least", "most"]) rfl t F s_is_within rfl rfl (He.glo_ok X G (cc.fact 19 (f := .glo "is_within") (by kernel_rfl))) (F.bindsN fun _ _ _ _ _ _ us hl => match us, hl with | [_, _, _], _ => by kernel_rfl) e_is_within) (tab_mono (Nat.le_succ _) t)
theorem t_3 (X : K.In h) (G : h.Ns mainGlobals mg) (cc : He.SaysD fa fn K) : TabOk (cst K) 3 P w K mg base tab_3 := by
  have t := t_2 (P := P) (w := w) (base := base) X G cc
  obtain ⟨fd, F⟩ := cc.def_ 2 (d := d_require_within) (by kernel_rfl)
  exact tab_cons (tab_def (c := cst K) (D := D_require_within) (ps := ["value", "least", "most"]) rfl t F s_require_within rfl rfl (He.glo_ok X G (cc.fact 20 (f := .glo "require_within") (by kernel_rfl))) (F.bindsN fun _ _ _ _ _ _ us hl => match us, hl with | [_, _, _], _ => by kernel_rfl) e_require_within) (tab_mono (Nat.le_succ _) t)
theorem t_4 (X : K.In h) (G : h.Ns mainGlobals mg) (cc : He.SaysD fa fn K) : TabOk (cst K) 4 P w K mg base tab_4 := by
  have t := t_3 (P := P) (w := w) (base := base) X G cc
  obtain ⟨fd, F⟩ := cc.def_ 3 (d := d_are_falling) (by kernel_rfl)
  exact tab_cons (tab_def (c := cst K) (D := D_are_falling) (ps := ["values"]) rfl t F s_are_falling rfl rfl (He.glo_ok X G (cc.fact 21 (f := .glo "are_falling") (by kernel_rfl))) (F.bindsN fun _ _ _ _ _ _ us hl => match us, hl with | [_], _ => by kernel_rfl) e_are_falling) (tab_mono (Nat.le_succ _) t)
theorem t_5 (X : K.In h) (G : h.Ns mainGlobals mg) (cc : He.SaysD fa fn K) : TabOk (cst K) 5 P w K mg base tab_5 := by
  have t := t_4 (P := P) (w := w) (base := base) X G cc
  obtain ⟨fd, F⟩ := cc.def_ 4 (d := d_is_row_in) (by kernel_rfl)
  exact tab_cons (tab_def (c := cst K) (D := D_is_row_in) (ps := ["value"]) rfl t F s_is_row_in rfl rfl (He.glo_ok X G (cc.fact 22 (f := .glo "is_row_in") (by kernel_rfl))) (F.bindsN fun _ _ _ _ _ _ us hl => match us, hl with | [_], _ => by kernel_rfl) e_is_row_in) (tab_mono (Nat.le_succ _) t)
theorem t_6 (X : K.In h) (G : h.Ns mainGlobals mg) (cc : He.SaysD fa fn K) : TabOk (cst K) 6 P w K mg base tab_6 := by
  have t := t_5 (P := P) (w := w) (base := base) X G cc
  obtain ⟨fd, F⟩ := cc.def_ 5 (d := d_require_row) (by kernel_rfl)
  exact tab_cons (tab_def (c := cst K) (D := D_require_row) (ps := ["value"]) rfl t F s_require_row rfl rfl (He.glo_ok X G (cc.fact 23 (f := .glo "require_row") (by kernel_rfl))) (F.bindsN fun _ _ _ _ _ _ us hl => match us, hl with | [_], _ => by kernel_rfl) e_require_row) (tab_mono (Nat.le_succ _) t)
theorem t_7 (X : K.In h) (G : h.Ns mainGlobals mg) (cc : He.SaysD fa fn K) : TabOk (cst K) 7 P w K mg base tab_7 := by
  have t := t_6 (P := P) (w := w) (base := base) X G cc
  obtain ⟨fd, F⟩ := cc.def_ 6 (d := d_turned_in) (by kernel_rfl)
  exact tab_cons (tab_def (c := cst K) (D := D_turned_in) (ps := ["row"]) rfl t F s_turned_in rfl rfl (He.glo_ok X G (cc.fact 24 (f := .glo "turned_in") (by kernel_rfl))) (F.bindsN fun _ _ _ _ _ _ us hl => match us, hl with | [_], _ => by kernel_rfl) e_turned_in) (tab_mono (Nat.le_succ _) t)
theorem t_8 (X : K.In h) (G : h.Ns mainGlobals mg) (cc : He.SaysD fa fn K) : TabOk (cst K) 8 P w K mg base tab_8 := by
  have t := t_7 (P := P) (w := w) (base := base) X G cc
  obtain ⟨fd, F⟩ := cc.def_ 7 (d := d_has_square_in) (by kernel_rfl)
  exact tab_cons (tab_def (c := cst K) (D := D_has_square_in) (ps := ["row", "r", "c"]) rfl t F s_has_square_in rfl rfl (He.glo_ok X G (cc.fact 25 (f := .glo "has_square_in") (by kernel_rfl))) (F.bindsN fun _ _ _ _ _ _ us hl => match us, hl with | [_, _, _], _ => by kernel_rfl) e_has_square_in) (tab_mono (Nat.le_succ _) t)
theorem t_9 (X : K.In h) (G : h.Ns mainGlobals mg) (cc : He.SaysD fa fn K) : TabOk (cst K) 9 P w K mg base tab_9 := by
  have t := t_8 (P := P) (w := w) (base := base) X G cc
  obtain ⟨fd, F⟩ := cc.def_ 8 (d := d_squares_in) (by kernel_rfl)
  exact tab_cons (tab_def (c := cst K) (D := D_squares_in) (ps := ["row", "diagonal"]) rfl t F s_squares_in rfl rfl (He.glo_ok X G (cc.fact 26 (f := .glo "squares_in") (by kernel_rfl))) (F.bindsN fun _ _ _ _ _ _ us hl => match us, hl with | [_, _], _ => by kernel_rfl) e_squares_in) (tab_mono (Nat.le_succ _) t)
theorem t_10 (X : K.In h) (G : h.Ns mainGlobals mg) (cc : He.SaysD fa fn K) : TabOk (cst K) 10 P w K mg base tab_10 := by
  have t := t_9 (P := P) (w := w) (base := base) X G cc
  obtain ⟨fd, F⟩ := cc.def_ 9 (d := d_differences_in) (by kernel_rfl)
  exact tab_cons (tab_def (c := cst K) (D := D_differences_in) (ps := ["row", "diagonal"]) rfl t F s_differences_in rfl rfl (He.glo_ok X G (cc.fact 27 (f := .glo "differences_in") (by kernel_rfl))) (F.bindsN fun _ _ _ _ _ _ us hl => match us, hl with | [_, _], _ => by kernel_rfl) e_differences_in) (tab_mono (Nat.le_succ _) t)
theorem t_11 (X : K.In h) (G : h.Ns mainGlobals mg) (cc : He.SaysD fa fn K) : TabOk (cst K) 11 P w K mg base tab_11 := by
  have t := t_10 (P := P) (w := w) (base := base) X G cc
  obtain ⟨fd, F⟩ := cc.def_ 10 (d := d_size_of) (by kernel_rfl)
  exact tab_cons (tab_def (c := cst K) (D := D_size_of) (ps := ["row"]) rfl t F s_size_of rfl rfl (He.glo_ok X G (cc.fact 28 (f := .glo "size_of") (by kernel_rfl))) (F.bindsN fun _ _ _ _ _ _ us hl => match us, hl with | [_], _ => by kernel_rfl) e_size_of) (tab_mono (Nat.le_succ _) t)
theorem t_12 (X : K.In h) (G : h.Ns mainGlobals mg) (cc : He.SaysD fa fn K) : TabOk (cst K) 12 P w K mg base tab_12 := by
  have t := t_11 (P := P) (w := w) (base := base) X G cc
  obtain ⟨fd, F⟩ := cc.def_ 11 (d := d_turned) (by kernel_rfl)
  exact tab_cons (tab_def (c := cst K) (D := D_turned) (ps := ["row"]) rfl t F s_turned rfl rfl (He.glo_ok X G (cc.fact 29 (f := .glo "turned") (by kernel_rfl))) (F.bindsN fun _ _ _ _ _ _ us hl => match us, hl with | [_], _ => by kernel_rfl) e_turned) (tab_mono (Nat.le_succ _) t)
theorem t_13 (X : K.In h) (G : h.Ns mainGlobals mg) (cc : He.SaysD fa fn K) : TabOk (cst K) 13 P w K mg base tab_13 := by
  have t := t_12 (P := P) (w := w) (base := base) X G cc
  obtain ⟨fd, F⟩ := cc.def_ 12 (d := d_hook_difference) (by kernel_rfl)
  exact tab_cons (tab_def (c := cst K) (D := D_hook_difference) (ps := ["row", "r", "c"]) rfl t F s_hook_difference rfl rfl (He.glo_ok X G (cc.fact 30 (f := .glo "hook_difference") (by kernel_rfl))) (F.bindsN fun _ _ _ _ _ _ us hl => match us, hl with | [_, _, _], _ => by kernel_rfl) e_hook_difference) (tab_mono (Nat.le_succ _) t)
theorem t_14 (X : K.In h) (G : h.Ns mainGlobals mg) (cc : He.SaysD fa fn K) : TabOk (cst K) 14 P w K mg base tab_14 := by
  have t := t_13 (P := P) (w := w) (base := base) X G cc
  obtain ⟨fd, F⟩ := cc.def_ 13 (d := d_require_row_and_diagonal) (by kernel_rfl)
  exact tab_cons (tab_def (c := cst K) (D := D_require_row_and_diagonal) (ps := ["row", "diagonal"]) rfl t F s_require_row_and_diagonal rfl rfl (He.glo_ok X G (cc.fact 31 (f := .glo "require_row_and_diagonal") (by kernel_rfl))) (F.bindsN fun _ _ _ _ _ _ us hl => match us, hl with | [_, _], _ => by kernel_rfl) e_require_row_and_diagonal) (tab_mono (Nat.le_succ _) t)
theorem t_15 (X : K.In h) (G : h.Ns mainGlobals mg) (cc : He.SaysD fa fn K) : TabOk (cst K) 15 P w K mg base tab_15 := by
  have t := t_14 (P := P) (w := w) (base := base) X G cc
  obtain ⟨fd, F⟩ := cc.def_ 14 (d := d_squares_on) (by kernel_rfl)
  exact tab_cons (tab_def (c := cst K) (D := D_squares_on) (ps := ["row", "diagonal"]) rfl t F s_squares_on rfl rfl (He.glo_ok X G (cc.fact 32 (f := .glo "squares_on") (by kernel_rfl))) (F.bindsN fun _ _ _ _ _ _ us hl => match us, hl with | [_, _], _ => by kernel_rfl) e_squares_on) (tab_mono (Nat.le_succ _) t)
theorem t_16 (X : K.In h) (G : h.Ns mainGlobals mg) (cc : He.SaysD fa fn K) : TabOk (cst K) 16 P w K mg base tab_16 := by
  have t := t_15 (P := P) (w := w) (base := base) X G cc
  obtain ⟨fd, F⟩ := cc.def_ 15 (d := d_hook_differences) (by kernel_rfl)
  exact tab_cons (tab_def (c := cst K) (D := D_hook_differences) (ps := ["row", "diagonal"]) rfl t F s_hook_differences rfl rfl (He.glo_ok X G (cc.fact 33 (f := .glo "hook_differences") (by kernel_rfl))) (F.bindsN fun _ _ _ _ _ _ us hl => match us, hl with | [_, _], _ => by kernel_rfl) e_hook_differences) (tab_mono (Nat.le_succ _) t)
theorem t_17 (X : K.In h) (G : h.Ns mainGlobals mg) (cc : He.SaysD fa fn K) : TabOk (cst K) 17 P w K mg base tab_17 := by
  have t := t_16 (P := P) (w := w) (base := base) X G cc
  obtain ⟨fd, F⟩ := cc.def_ 16 (d := d_ranks) (by kernel_rfl)
  exact tab_cons (tab_def (c := cst K) (D := D_ranks) (ps := ["row"]) rfl t F s_ranks rfl rfl (He.glo_ok X G (cc.fact 34 (f := .glo "ranks") (by kernel_rfl))) (F.bindsN fun _ _ _ _ _ _ us hl => match us, hl with | [_], _ => by kernel_rfl) e_ranks) (tab_mono (Nat.le_succ _) t)
theorem t_18 (X : K.In h) (G : h.Ns mainGlobals mg) (cc : He.SaysD fa fn K) : TabOk (cst K) 18 P w K mg base tab_18 := by
  have t := t_17 (P := P) (w := w) (base := base) X G cc
  obtain ⟨fd, F⟩ := cc.def_ 17 (d := d__law_dice) (by kernel_rfl)
  exact tab_cons (tab_def (c := cst K) (D := D__law_dice) (ps := ["script", "spot"]) rfl t F s__law_dice rfl rfl (He.glo_ok X G (cc.fact 35 (f := .glo "_law_dice") (by kernel_rfl))) (F.bindsN fun _ _ _ _ _ _ us hl => match us, hl with | [_, _], _ => by kernel_rfl) e__law_dice) (tab_mono (Nat.le_succ _) t)
theorem t_19 (X : K.In h) (G : h.Ns mainGlobals mg) (cc : He.SaysD fa fn K) : TabOk (cst K) 19 P w K mg base tab_19 := by
  have t := t_18 (P := P) (w := w) (base := base) X G cc
  obtain ⟨fd, F⟩ := cc.def_ 18 (d := d__law_roll) (by kernel_rfl)
  exact tab_cons (tab_def (c := cst K) (D := D__law_roll) (ps := ["dice", "most"]) rfl t F s__law_roll rfl rfl (He.glo_ok X G (cc.fact 36 (f := .glo "_law_roll") (by kernel_rfl))) (F.bindsN fun _ _ _ _ _ _ us hl => match us, hl with | [_, _], _ => by kernel_rfl) e__law_roll) (tab_mono (Nat.le_succ _) t)
theorem t_20 (X : K.In h) (G : h.Ns mainGlobals mg) (cc : He.SaysD fa fn K) : TabOk (cst K) 20 P w K mg base tab_20 := by
  have t := t_19 (P := P) (w := w) (base := base) X G cc
  obtain ⟨fd, F⟩ := cc.def_ 19 (d := d__law_shuffled) (by kernel_rfl)
  exact tab_cons (tab_def (c := cst K) (D := D__law_shuffled) (ps := ["dice", "items"]) rfl t F s__law_shuffled rfl rfl (He.glo_ok X G (cc.fact 37 (f := .glo "_law_shuffled") (by kernel_rfl))) (F.bindsN fun _ _ _ _ _ _ us hl => match us, hl with | [_, _], _ => by kernel_rfl) e__law_shuffled) (tab_mono (Nat.le_succ _) t)
theorem t_21 (X : K.In h) (G : h.Ns mainGlobals mg) (cc : He.SaysD fa fn K) : TabOk (cst K) 21 P w K mg base tab_21 := by
  have t := t_20 (P := P) (w := w) (base := base) X G cc
  obtain ⟨fd, F⟩ := cc.def_ 20 (d := d__law_turned_row) (by kernel_rfl)
  exact tab_cons (tab_def (c := cst K) (D := D__law_turned_row) (ps := ["row"]) rfl t F s__law_turned_row rfl rfl (He.glo_ok X G (cc.fact 38 (f := .glo "_law_turned_row") (by kernel_rfl))) (F.bindsN fun _ _ _ _ _ _ us hl => match us, hl with | [_], _ => by kernel_rfl) e__law_turned_row) (tab_mono (Nat.le_succ _) t)
theorem t_22 (X : K.In h) (G : h.Ns mainGlobals mg) (cc : He.SaysD fa fn K) : TabOk (cst K) 22 P w K mg base tab_22 := by
  have t := t_21 (P := P) (w := w) (base := base) X G cc
  obtain ⟨fd, F⟩ := cc.def_ 21 (d := d__law_columns) (by kernel_rfl)
  exact tab_cons (tab_def (c := cst K) (D := D__law_columns) (ps := ["row"]) rfl t F s__law_columns rfl rfl (He.glo_ok X G (cc.fact 39 (f := .glo "_law_columns") (by kernel_rfl))) (F.bindsN fun _ _ _ _ _ _ us hl => match us, hl with | [_], _ => by kernel_rfl) e__law_columns) (tab_mono (Nat.le_succ _) t)
theorem t_23 (X : K.In h) (G : h.Ns mainGlobals mg) (cc : He.SaysD fa fn K) : TabOk (cst K) 23 P w K mg base tab_23 := by
  have t := t_22 (P := P) (w := w) (base := base) X G cc
  obtain ⟨fd, F⟩ := cc.def_ 22 (d := d__law_ranks) (by kernel_rfl)
  exact tab_cons (tab_def (c := cst K) (D := D__law_ranks) (ps := ["row"]) rfl t F s__law_ranks rfl rfl (He.glo_ok X G (cc.fact 40 (f := .glo "_law_ranks") (by kernel_rfl))) (F.bindsN fun _ _ _ _ _ _ us hl => match us, hl with | [_], _ => by kernel_rfl) e__law_ranks) (tab_mono (Nat.le_succ _) t)
theorem t_24 (X : K.In h) (G : h.Ns mainGlobals mg) (cc : He.SaysD fa fn K) : TabOk (cst K) 24 P w K mg base tab_24 := by
  have t := t_23 (P := P) (w := w) (base := base) X G cc
  obtain ⟨fd, F⟩ := cc.def_ 23 (d := d__law_row_drawn) (by kernel_rfl)
  exact tab_cons (tab_def (c := cst K) (D := D__law_row_drawn) (ps := ["dice", "longest", "most"]) rfl t F s__law_row_drawn rfl rfl (He.glo_ok X G (cc.fact 41 (f := .glo "_law_row_drawn") (by kernel_rfl))) (F.bindsN fun _ _ _ _ _ _ us hl => match us, hl with | [_, _, _], _ => by kernel_rfl) e__law_row_drawn) (tab_mono (Nat.le_succ _) t)
theorem t_25 (X : K.In h) (G : h.Ns mainGlobals mg) (cc : He.SaysD fa fn K) : TabOk (cst K) 25 P w K mg base tab_25 := by
  have t := t_24 (P := P) (w := w) (base := base) X G cc
  obtain ⟨fd, F⟩ := cc.def_ 24 (d := d__law_rw_squares) (by kernel_rfl)
  exact tab_cons (tab_def (c := cst K) (D := D__law_rw_squares) (ps := ["row"]) rfl t F s__law_rw_squares rfl rfl (He.glo_ok X G (cc.fact 42 (f := .glo "_law_rw_squares") (by kernel_rfl))) (F.bindsN fun _ _ _ _ _ _ us hl => match us, hl with | [_], _ => by kernel_rfl) e__law_rw_squares) (tab_mono (Nat.le_succ _) t)
theorem t_26 (X : K.In h) (G : h.Ns mainGlobals mg) (cc : He.SaysD fa fn K) : TabOk (cst K) 26 P w K mg base tab_26 := by
  have t := t_25 (P := P) (w := w) (base := base) X G cc
  obtain ⟨fd, F⟩ := cc.def_ 25 (d := d__law_fall) (by kernel_rfl)
  exact tab_cons (tab_def (c := cst K) (D := D__law_fall) (ps := ["numbers"]) rfl t F s__law_fall rfl rfl (He.glo_ok X G (cc.fact 43 (f := .glo "_law_fall") (by kernel_rfl))) (F.bindsN fun _ _ _ _ _ _ us hl => match us, hl with | [_], _ => by kernel_rfl) e__law_fall) (tab_mono (Nat.le_succ _) t)
theorem t_27 (X : K.In h) (G : h.Ns mainGlobals mg) (cc : He.SaysD fa fn K) : TabOk (cst K) 27 P w K mg base tab_27 := by
  have t := t_26 (P := P) (w := w) (base := base) X G cc
  obtain ⟨fd, F⟩ := cc.def_ 26 (d := d__law_right) (by kernel_rfl)
  exact tab_cons (tab_def (c := cst K) (D := D__law_right) (ps := ["dice"]) rfl t F s__law_right rfl rfl (He.glo_ok X G (cc.fact 44 (f := .glo "_law_right") (by kernel_rfl))) (F.bindsN fun _ _ _ _ _ _ us hl => match us, hl with | [_], _ => by kernel_rfl) e__law_right) (tab_mono (Nat.le_succ _) t)
theorem t_28 (X : K.In h) (G : h.Ns mainGlobals mg) (cc : He.SaysD fa fn K) : TabOk (cst K) 28 P w K mg base tab_28 := by
  have t := t_27 (P := P) (w := w) (base := base) X G cc
  obtain ⟨fd, F⟩ := cc.def_ 27 (d := d_law) (by kernel_rfl)
  exact tab_cons (tab_def (c := cst K) (D := D_law) (ps := ["script"]) rfl t F s_law rfl rfl (He.glo_ok X G (cc.fact 45 (f := .glo "law") (by kernel_rfl))) (F.bindsN fun _ _ _ _ _ _ us hl => match us, hl with | [_], _ => by kernel_rfl) e_law) (tab_mono (Nat.le_succ _) t)
theorem facts (X : K.In h) (G : h.Ns mainGlobals mg) {f : Addr} (hfa : mg ("law" : Str) = some (.ref f)) (cc : He.SaysD fa fn K) :
    ∃ fd : FuncData, (∀ (s : Shared) (v : Value), BindsTo s fd ⟨[v], []⟩ [("script", v)]) ∧ ∀ base : Heap, K.In base → base.Ns mainGlobals mg → FnOk P w K mg base CX0 28 f fd ["script"] (fun vs H Q _ => spM (cst K) 1 m_law vs H Q fun _ _ _ => False) := by
  obtain ⟨fd, F⟩ := cc.def_ 27 (d := d_law) (by kernel_rfl)
  have e := hfa.symm.trans (He.glo_ok X G (cc.fact 45 (f := .glo "law") (by kernel_rfl)))
  cases e
  have b := FunD.bindsA (ps := ["script"]) F fun _ _ _ _ _ _ us hl => match us, hl with | [_], _ => by kernel_rfl
  exact ⟨fd, fun s v => b s [v] rfl, fun base _ _ => fn_calm (e_law ▸ def_ok (c := cst K) (D := D_law) (ps := ["script"]) rfl (t_27 X G cc) F s_law rfl rfl)⟩
end
end Zk07
section
open PySem PySem.W PySem.Calls PyProof.Rows
theorem Zk07.close (hm : ∀ ns : List Int, ns.length ≤ 63 → ∃ as', Zk07.m_law [.fro (.scr (ns.map Qs.W.int))] = .ok (.fro (.bl true), as')) : PySem.Challenge.rw_hookstrips_k07_whole_turned_rows_and_dif.Holds := by
  w_on; o_law
  refine HandSHeadRun.head_any (r := OpenLaw.row PySem.Challenge.rw_hookstrips_k07_whole_turned_rows_and_dif) (q := view (OpenLaw.row PySem.Challenge.rw_hookstrips_k07_whole_turned_rows_and_dif).prog [38]) (H := Zk07.hk) (ob := Zk07.ob) (M := 4000) (loose := Zk07.loose) (d := HandSHeadRun.topDef (OpenLaw.row PySem.Challenge.rw_hookstrips_k07_whole_turned_rows_and_dif).prog 38) (kwd := []) Zk07.ob_eq
    (by kernel_rfl) (fun s => by kernel_rfl) Zk07.run (by kernel_rfl) (by kernel_rfl) (by kernel_rfl) (by rfl) (by first | assumption | decide +kernel) (by decide +kernel) ⟨rfl, rfl, rfl, rfl, rfl, by decide +kernel⟩ ?hw ?hc
  case hw => w_witness2
  case hc =>
    refine L2.walk_ofE (l := PySem.Challenge.rw_hookstrips_k07_whole_turned_rows_and_dif) (n := 63) (k := 28) (x := "script") (CX := L2.CX0) rfl (by decide) (by kernel_rfl) ⟨rfl, by decide, by decide⟩ ?F (fun _ _ _ _ z => z)
    intro w mg fa h Y G hmg0
    obtain ⟨K, KX, c⟩ := Y
    have hmg : mg ("law" : PySem.Str) = some (.ref fa) := by
      have e : (HandSHeadRun.topDef (OpenLaw.row PySem.Challenge.rw_hookstrips_k07_whole_turned_rows_and_dif).prog 38).name = ("law" : PySem.Str) := by kernel_rfl
      rw [← e]
      exact hmg0
    obtain ⟨fd, hb, hF⟩ := Zk07.facts (P := (PySem.Challenge.rw_hookstrips_k07_whole_turned_rows_and_dif).prog) (w := w) KX G hmg c
    exact ⟨K, fd, fun vs H Q _ => Qs.spM (Zk07.cst K) 1 Zk07.m_law vs H Q fun _ _ _ => False, KX, hb, fun H a ns hl _ hS => Qs.law_end rfl hS (hm ns hl), hF⟩
end
namespace Zk07
open Qs Rw
abbrev Sl := Qs.Sl
/-- a row as a tree -/
def wi (n : Nat) : W := .int (n : Int)
abbrev wr (r : List Nat) : W := .tup (r.map wi)
def big : Int := 1000000000000000000000000000000000000000000000000000000000000
theorem x_is_integer (i : Int) (h1 : -big < i) (h2 : i < big) : m_is_integer [.fro (.int i)] = .ok (.fro (.bl true), [.fro (.int i)]) := by
  unfold big at h1 h2
  simp [m_is_integer, b_is_integer, ev_callM, startS, h1, h2]
theorem x_is_within (i a b : Int) (h1 : -big < i) (h2 : i < big) : m_is_within [.fro (.int i), .fro (.int a), .fro (.int b)] = .ok (.fro (.bl (decide (a ≤ i) && decide (i ≤ b))), [.fro (.int i), .fro (.int a), .fro (.int b)]) := by
  simp [m_is_within, b_is_within, ev_callM, startS, x_is_integer, h1, h2]
  by_cases h : a ≤ i <;> simp [h]
theorem x_require_within (i a b : Int) (h1 : -big < i) (h2 : i < big) (h3 : a ≤ i) (h4 : i ≤ b) : m_require_within [.fro (.int i), .fro (.int a), .fro (.int b)] = .ok (.fro .non, [.fro (.int i), .fro (.int a), .fro (.int b)]) := by
  simp [m_require_within, b_require_within, ev_callM, startS, x_is_within, h1, h2, h3, h4]
/-- rows that can be passed -/
structure Row (r : List Nat) : Prop where
  fal : Fal r
  pos : ∀ x ∈ r, 0 < x
  top : ∀ x ∈ r, x ≤ 200
  len : r.length ≤ 60
theorem zip_nat {r q : List Nat} : zipL (r.map wi) (q.map wi) = (r.zip q).map fun p => .tup [wi p.1, wi p.2] := by
  unfold zipL
  rw [List.zip_map, List.map_map]
  rfl
@[simp] theorem cut1 {r : List Nat} : cutG (r.map wi) (some 1) none = r.tail.map wi := by
  rw [show (1 : Int) = ((1 : Nat) : Int) from rfl, cut_from, ← List.map_drop, List.drop_one]
@[simp] theorem all_true {α : Type} {xs : List α} : allW [.lst (xs.map fun _ => .bl true)] = some (.fro (.bl true)) := by
  have : boolsOf (xs.map fun _ => W.bl true) = some (xs.map fun _ => true) := by
    induction xs with
    | nil => rfl
    | cons x xs ih => simp only [List.map_cons, boolsOf, ih]; rfl
  show (boolsOf _).map _ = _
  rw [this]
  simp
theorem zip_tl {r : List Nat} : zipL (r.map wi) (r.map wi).tail = (r.zip r.tail).map fun p => .tup [wi p.1, wi p.2] := by
  rw [← List.map_tail, zip_nat]
theorem big_of {i : Int} (h : -1000 ≤ i) (h2 : i ≤ 1000) : -big < i ∧ i < big := by
  unfold big; omega
theorem x_are_falling {r : List Nat} (h : Fal r) (hl : r.length ≤ 4000) : m_are_falling [.fro (wr r)] = .ok (.fro (.bl true), [.fro (wr r)]) := by
  have e : c_are_falling_1 [.fro (wr r), .un, .un] = .ok (.new (.lst ((r.zip r.tail).map fun _ => .bl true)), [.fro (wr r), .un, .un]) := by
    unfold c_are_falling_1
    refine lc_all (r.zip r.tail) (fun p => .tup [wi p.1, wi p.2]) (fun _ => .bl true) ?_ ?_ ?_ ?_
    · simp [zip_tl]
    · simp; omega
    · simp
    · intro p hp
      have hge : p.2 ≤ p.1 := by
        obtain ⟨i, hi, rfl⟩ := List.getElem_of_mem hp
        have : i + 1 < r.length := by simp at hi; omega
        have := List.pairwise_iff_getElem.mp h i (i + 1) (by omega) this (by omega)
        simpa using this
      simp [turnT, c_are_falling_1_e, wi, hge]
  simp [m_are_falling, b_are_falling, ev_callM, startS, e]
theorem y0 {q : Int} {r : List Nat} (h3 : -big < q) (h4 : q < big) (h5 : 1 ≤ q) (h6 : q ≤ 200) : turnT (asgN 1) (blE true) c_is_row_in_1_e [1] (.int q) [.fro (wr r), .un] = .ok (some (.bl true), [.fro (wr r), .un]) := by
  simp [turnT, c_is_row_in_1_e, x_is_within, h3, h4, h5, h6]
theorem y1 {p : Nat} {r : List Nat} (h1 : 0 < p) (h2 : p ≤ 200) : turnT (asgN 1) (blE true) c_is_row_in_1_e [1] (wi p) [.fro (wr r), .un] = .ok (some (.bl true), [.fro (wr r), .un]) := by
  obtain ⟨h3, h4⟩ := big_of (i := (p : Int)) (by omega) (by omega)
  exact y0 h3 h4 (by omega) (by omega)
theorem y2 {r : List Nat} (h : Row r) : c_is_row_in_1 [.fro (wr r), .un] = .ok (.new (.lst (r.map fun _ => .bl true)), [.fro (wr r), .un]) := by
    unfold c_is_row_in_1
    refine lc_all r wi (fun _ => .bl true) ?_ ?_ ?_ ?_
    · simp [iVal]
    · have := h.len; omega
    · simp
    · intro p hp
      have h1 := h.pos p hp
      have h2 := h.top p hp
      simpa using y1 h1 h2
theorem x_is_row_in {r : List Nat} (h : Row r) : m_is_row_in [.fro (wr r)] = .ok (.fro (.bl true), [.fro (wr r)]) := by
  have hl := h.len
  have hn : ¬ (60 : Int) < (r.length : Int) := by omega
  simp [m_is_row_in, b_is_row_in, ev_callM, startS, y2 h, x_are_falling h.fal (show r.length ≤ 4000 by omega), hn]
theorem x_require_row {r : List Nat} (h : Row r) : m_require_row [.fro (wr r)] = .ok (.fro .non, [.fro (wr r)]) := by
  simp [m_require_row, b_require_row, ev_callM, startS, x_is_row_in h]
end Zk07
namespace Zk07
open Qs Rw
/-- the pointer goes down to the last part that is not below the column -/
theorem x_turn_while {r : List Nat} (h : Fal r) {F : List W} {k : Nat} (hk : 0 < cnt k r) {p : Nat} (hp : cnt k r ≤ p) (hl : p ≤ r.length) (hr : r.length ≤ 60) :
    ∃ s', whileN (eCmp .Lt (eIx (eVar 0) (eBin .Sub (eVar 2) (eCst (.int 1)))) (eVar 3)) w_turned_in_2 wFuel [.fro (wr r), .own false (.lst F), .fro (wi p), .fro (.int (1 + (k : Int)))] = .ok (.nx s') ∧
      s' = [.fro (wr r), .own false (.lst F), .fro (wi (cnt k r)), .fro (.int (1 + (k : Int)))] := by
  refine while_inv (fun n s => cnt k r ≤ n ∧ n ≤ r.length ∧ s = [.fro (wr r), .own false (.lst F), .fro (wi n), .fro (.int (1 + (k : Int)))]) _ ?_ p wFuel _ (by unfold wFuel; omega) ⟨hp, hl, rfl⟩
  clear hp hl p
  rintro p s ⟨h1, h2, rfl⟩
  have hq : p - 1 < r.length := by omega
  have e : L2.atI (r.map wi) ((p : Int) - 1) = some (wi r[p - 1]) := by
    rw [show (p : Int) - 1 = ((p - 1 : Nat) : Int) by omega, at_nat, List.getElem?_map, List.getElem?_eq_getElem hq]
    rfl
  have kk := key (a := k) h hq
  by_cases hc : p = cnt k r
  · refine .inr ⟨.fro (.bl false), [.fro (wr r), .own false (.lst F), .fro (wi p), .fro (.int (1 + (k : Int)))], ?_, rfl, by rw [hc]⟩
    have : ¬ ((r[p - 1] : Int) < 1 + k) := by omega
    simp [wi, e, this]
  · refine .inl ⟨.fro (.bl true), [.fro (wr r), .own false (.lst F), .fro (wi p), .fro (.int (1 + (k : Int)))], [.fro (wr r), .own false (.lst F), .fro (wi (p - 1)), .fro (.int (1 + (k : Int)))], p - 1, ?_, rfl, .inl ?_, by omega, by omega, by omega, rfl⟩
    · have : ((r[p - 1] : Int) < 1 + k) := by omega
      simp [wi, e, this]
    · simp [w_turned_in_2, wi]
      omega
theorem wr_ints {r : List Nat} : r.map wi = (r.map fun n : Nat => (n : Int)).map W.int := by
  rw [List.map_map]; rfl
theorem cast_inj {r q : List Nat} : (r.map (fun n : Nat => (n : Int)) = q.map fun n : Nat => (n : Int)) ↔ r = q := by
  constructor
  · intro h
    exact (List.map_inj_right (fun a b e => Int.ofNat.inj e)).mp h
  · intro h; rw [h]
@[simp] theorem eqO_wr {r q : List Nat} : eqO (.tup (r.map wi)) (.tup (q.map wi)) = some (decide (r = q)) := by
  rw [wr_ints, wr_ints, eqO_tints]
  simp only [Option.some.injEq, decide_eq_decide, cast_inj]
@[simp] theorem eqO_wr0 {r : List Nat} : eqO (.tup (r.map wi)) (.tup []) = some (decide (r = [])) := eqO_wr (q := [])
/-- a row's numbers turned -/
theorem rng_nat {k n : Nat} : rngL (1 + (k : Int)) 1 (n + 1) = .int (1 + (k : Int)) :: rngL (1 + ((k + 1 : Nat) : Int)) 1 n := by
  unfold rngL
  rw [List.range_succ_eq_map, List.map_cons, List.map_map]
  simp
  intro a _
  omega
theorem rng_to {q : Int} (h : 0 ≤ q) (h2 : q ≤ 200) : rng2 [.int 1, .int (q + 1)] = some (rngL 1 1 q.toNat) := by
  rw [rng2_of (by omega) (by omega) (by omega) (by omega), show (q + 1 - 1).toNat = q.toNat by rw [Int.add_sub_cancel]]
theorem rng_r0 {q : Int} {ws : List W} {s : List Qs.Sl} (h : 0 ≤ q) (h2 : q ≤ 200) (e : L2.atI ws 0 = some (.int q)) (e2 : eqO (.tup ws) (.tup []) = some false) :
    (iArgs rng2 [(eCst (.int 1)), (eIf (eCmp .NotEq (eVar 0) (eTup [])) (eBin .Add (eIx (eVar 0) (eCst (.int 0))) (eCst (.int 1))) (eCst (.int 1)))]) (.fro (.tup ws) :: s) = .ok (rngL 1 1 q.toNat, .fro (.tup ws) :: s) := by
  have hlim : (0 : Nat) ≤ lim := Nat.zero_le _
  simp [hlim, e, e2, rng_to h h2]
theorem rng_n0 {s : List Qs.Sl} : (iArgs rng2 [(eCst (.int 1)), (eIf (eCmp .NotEq (eVar 0) (eTup [])) (eBin .Add (eIx (eVar 0) (eCst (.int 0))) (eCst (.int 1))) (eCst (.int 1)))]) (.fro (.tup []) :: s) = .ok ([], .fro (.tup []) :: s) := by
  rfl
theorem rng_row {r : List Nat} (h : Row r) {s : List Qs.Sl} : (iArgs rng2 [(eCst (.int 1)), (eIf (eCmp .NotEq (eVar 0) (eTup [])) (eBin .Add (eIx (eVar 0) (eCst (.int 0))) (eCst (.int 1))) (eCst (.int 1)))]) (.fro (wr r) :: s) = .ok (rngL 1 1 (r.headD 0), .fro (wr r) :: s) := by
  cases r with
  | nil => exact rng_n0
  | cons y r =>
    have hy : y ≤ 200 := h.top y List.mem_cons_self
    exact rng_r0 (q := (y : Int)) (by omega) (by omega) (at_nat (n := 0)) (eqO_wr0 (r := y :: r))
theorem x_turned_in {r : List Nat} (h : Row r) : m_turned_in [.fro (wr r)] = .ok (.fro (wr (tr r)), [.fro (wr r)]) := by
  have hl := h.len
  obtain ⟨s', e1, k, hk, ew, p, y, hp, hpl, rfl⟩ := forL_inv (g := asgN 3) (fb := f_turned_in_1) (fun ws s => ∃ k : Nat, k ≤ r.headD 0 ∧ ws = rngL (1 + (k : Int)) 1 (r.headD 0 - k) ∧ ∃ (p : Nat) (x : Qs.Sl), (∀ j, j = k → j < r.headD 0 → cnt j r ≤ p) ∧ p ≤ r.length ∧ s = [.fro (wr r), .own false (.lst ((List.range k).map fun a => wi (cnt a r))), .fro (wi p), x])
    (fun w ws s ⟨k, hk, ew, p, x, hp, hpl, es⟩ => by
      have hlt : k < r.headD 0 := by
        rcases Nat.lt_or_ge k (r.headD 0) with z | z
        · exact z
        · rw [Nat.sub_eq_zero_of_le z] at ew; cases ew
      rw [show r.headD 0 - k = (r.headD 0 - (k + 1)) + 1 by omega, rng_nat] at ew
      cases ew
      obtain ⟨s', e1, rfl⟩ := x_turn_while (F := (List.range k).map fun a => wi (cnt a r)) h.fal (cnt_pos hlt) (hp k rfl hlt) hpl hl
      refine ⟨_, [.fro (wr r), .own false (.lst ((List.range (k + 1)).map fun a => wi (cnt a r))), .fro (wi (cnt k r)), .fro (.int (1 + (k : Int)))], by rw [es]; simp; rfl, .inl ?_, k + 1, hlt, rfl, cnt k r, _, fun j e _ => by rw [e]; exact cnt_anti (Nat.le_succ k) r, cnt_le, rfl⟩
      have top : r.headD 0 ≤ 200 := by
        cases r with
        | nil => exact Nat.zero_le _
        | cons y r => exact h.top y List.mem_cons_self
      have hlim : k < lim := by unfold lim; omega
      simp [f_turned_in_1, e1, hlim, List.range_succ])
    (rngL 1 1 (r.headD 0)) [.fro (wr r), .own false (.lst []), .fro (wi r.length), .un] ⟨0, Nat.zero_le _, rfl, r.length, .un, fun j _ _ => cnt_le, Nat.le_refl _, rfl⟩
  have hk2 : k = r.headD 0 := by
    have z := congrArg List.length ew
    simp only [rngL, List.length_map, List.length_range, List.length_nil] at z
    omega
  subst hk2
  have top : r.headD 0 ≤ 200 := by
    cases r with
    | nil => exact Nat.zero_le _
    | cons y r => exact h.top y List.mem_cons_self
  have e8 : sFor (iArgs rng2 [(eCst (.int 1)), (eIf (eCmp .NotEq (eVar 0) (eTup [])) (eBin .Add (eIx (eVar 0) (eCst (.int 0))) (eCst (.int 1))) (eCst (.int 1)))]) (asgN 3) f_turned_in_1 [.fro (wr r), .own false (.lst []), .fro (.int r.length), .un] = .ok (.nx [.fro (wr r), .own false (.lst ((List.range (r.headD 0)).map fun a => wi (cnt a r))), .fro (wi p), y]) := by
    rw [ev_for, rng_row h]
    exact e1
  have hlim : r.length < lim := by unfold lim; omega
  simp [m_turned_in, b_turned_in, ev_callM, startS, -ev_for, e8]
  unfold tr
  rw [List.map_map, List.headD_eq_head?_getD]
  rfl
end Zk07
namespace Zk07
open Qs Rw
/-- whether a row has a square, told by its row and column -/
def hasS (r : List Nat) (a b : Int) : Bool := decide (1 ≤ a) && (decide (a ≤ r.length) && (decide (1 ≤ b) && decide (b ≤ ((r.getD (a - 1).toNat 0 : Nat) : Int))))
theorem x_has0 {ws : List W} {a b n x : Int} (hn : (ws.length : Int) = n) (h : 1 ≤ a → a ≤ n → L2.atI ws (a - 1) = some (.int x)) :
    m_has_square_in [.fro (.tup ws), .fro (.int a), .fro (.int b)] = .ok (.fro (.bl (decide (1 ≤ a) && (decide (a ≤ n) && (decide (1 ≤ b) && decide (b ≤ x))))), [.fro (.tup ws), .fro (.int a), .fro (.int b)]) := by
  by_cases h1 : 1 ≤ a
  · by_cases h2 : a ≤ n
    · have e := h h1 h2
      by_cases h3 : 1 ≤ b
      · by_cases h4 : b ≤ x <;> simp [m_has_square_in, b_has_square_in, ev_callM, startS, hn, h1, h2, h3, h4, e]
      · simp [m_has_square_in, b_has_square_in, ev_callM, startS, hn, h1, h2, h3, e]
    · simp [m_has_square_in, b_has_square_in, ev_callM, startS, hn, h1, h2]
  · simp [m_has_square_in, b_has_square_in, ev_callM, startS, hn, h1]
theorem x_has {r : List Nat} {a b : Int} : m_has_square_in [.fro (wr r), .fro (.int a), .fro (.int b)] = .ok (.fro (.bl (hasS r a b)), [.fro (wr r), .fro (.int a), .fro (.int b)]) := by
  refine x_has0 (by simp) fun h1 h2 => ?_
  have hi : (a - 1).toNat < r.length := by omega
  rw [at_pos (by omega), List.getElem?_map, List.getElem?_eq_getElem hi, List.getD_eq_getElem?_getD, List.getElem?_eq_getElem hi]
  rfl
/-- a square on a diagonal -/
def sqW (d : Int) (a : Nat) : W := .tup [.int ((a : Int) + 1), .int ((a : Int) + 1 - d)]
theorem has_onD {r : List Nat} {d : Int} {a : Nat} (hd : d ≤ (a : Int)) : hasS r ((a : Int) + 1) ((a : Int) + 1 - d) = onD r d a := by
  unfold hasS
  rw [show ((a : Int) + 1 - 1).toNat = a by omega]
  by_cases hl : a < r.length
  · unfold onD
    have h1 : (1 : Int) ≤ (a : Int) + 1 := by omega
    have h2 : (a : Int) + 1 ≤ r.length := by omega
    have h3 : (1 : Int) ≤ (a : Int) + 1 - d := by omega
    rw [decide_eq_true h1, decide_eq_true h2, decide_eq_true h3, decide_eq_true hd]
    simp only [Bool.true_and, decide_eq_decide]
    omega
  · rw [onD_out (by omega)]
    have h2 : ¬ ((a : Int) + 1 ≤ r.length) := by omega
    rw [decide_eq_false h2]; simp
theorem sq_step {ws : List W} {F : List W} {d q : Int} (hF : F.length < lim) : w_squares_in_1 [.fro (.tup ws), .fro (.int d), .own false (.lst F), .fro (.int q)] = .ok (.nx [.fro (.tup ws), .fro (.int d), .own false (.lst (F ++ [.tup [.int q, .int (q - d)]])), .fro (.int (q + 1))]) := by
  have h2 : (2 : Nat) ≤ lim := by unfold lim; omega
  simp [w_squares_in_1, hF, h2]
theorem sq_test {ws : List W} {F : List W} {d q : Int} {b : Bool} (e : m_has_square_in [.fro (.tup ws), .fro (.int q), .fro (.int (q - d))] = .ok (.fro (.bl b), [.fro (.tup ws), .fro (.int q), .fro (.int (q - d))])) :
    eCall m_has_square_in [(eVar 0), (eVar 3), (eBin .Sub (eVar 3) (eVar 1))] [.fro (.tup ws), .fro (.int d), .own false (.lst F), .fro (.int q)] = .ok (.fro (.bl b), [.fro (.tup ws), .fro (.int d), .own false (.lst F), .fro (.int q)]) := by
  simp [e]
theorem x_squares_in {r : List Nat} {d : Int} (h : Fal r) (hl : r.length ≤ 1000) (hd : -1000 ≤ d) (hd2 : d ≤ 1000) : m_squares_in [.fro (wr r), .fro (.int d)] = .ok (.new (.lst ((sqs r d).map (sqW d))), [.fro (wr r), .fro (.int d)]) := by
  obtain ⟨s', e1, q, rfl⟩ := while_inv (ft := eCall m_has_square_in [(eVar 0), (eVar 3), (eBin .Sub (eVar 3) (eVar 1))]) (fb := w_squares_in_1) (fun n s => ∃ a : Nat, n = r.length - a ∧ d ≤ (a : Int) ∧ (∀ x : Nat, x < a → onD r d x = false ∨ x < r.length) ∧ a ≤ 2000 ∧ s = [.fro (wr r), .fro (.int d), .own false (.lst (((List.range a).filter (onD r d)).map (sqW d))), .fro (.int ((a : Int) + 1))])
    (fun s => ∃ q, s = [.fro (wr r), .fro (.int d), .own false (.lst ((sqs r d).map (sqW d))), .fro (.int q)]) (fun n s ⟨a, en, ha, hx, ha2, es⟩ => by
      have t := sq_test (F := ((List.range a).filter (onD r d)).map (sqW d)) (x_has (r := r) (a := (a : Int) + 1) (b := (a : Int) + 1 - d))
      rw [has_onD ha] at t
      subst es
      cases q : onD r d a with
      | true =>
        have hal : a < r.length := by
          rcases Nat.lt_or_ge a r.length with z | z
          · exact z
          · rw [onD_out z] at q; cases q
        rw [q] at t
        refine .inl ⟨_, _, _, r.length - (a + 1), t, rfl, .inl (sq_step ?_), by omega, a + 1, rfl, by omega, fun x hx => .inr (by omega), by omega, ?_⟩
        · have : ((List.range a).filter (onD r d)).length ≤ a := by
            have := List.length_filter_le (onD r d) (List.range a)
            simpa using this
          rw [List.length_map]; unfold lim; omega
        · rw [List.range_succ, List.filter_append, List.map_append]
          simp [q, sqW]
      | false =>
        rw [q] at t
        refine .inr ⟨_, _, t, rfl, (a : Int) + 1, ?_⟩
        have : (List.range r.length).filter (onD r d) = (List.range a).filter (onD r d) := filter_same fun x h1 h2 => by
          rcases Nat.lt_or_ge x a with z | z
          · exact onD_out (by omega)
          · exact onD_down h z ha q
        unfold sqs
        rw [this])
    (r.length - (max 0 d).toNat) wFuel [.fro (wr r), .fro (.int d), .own false (.lst []), .fro (.int (max 1 (1 + d)))] (by unfold wFuel; omega) ⟨(max 0 d).toNat, rfl, by omega, fun x hx => .inl (by unfold onD; rw [decide_eq_false (by omega)]; rfl), by omega, by
      have e : (List.range (max 0 d).toNat).filter (onD r d) = [] := by
        rw [List.filter_eq_nil_iff]
        intro x hx
        have := List.mem_range.mp hx
        unfold onD
        rw [decide_eq_false (by omega)]; simp
      rw [e, show (max 1 (1 + d)) = (((max 0 d).toNat : Nat) : Int) + 1 by omega]
      rfl⟩
  have hm : (if 1 < 1 + d then 1 + d else 1) = max 1 (1 + d) := by
    split <;> omega
  simp [m_squares_in, b_squares_in, ev_callM, startS, hm, e1]
end Zk07
namespace Zk07
open Qs Rw
theorem Row.tr {r : List Nat} (h : Row r) : Row (tr r) ∨ 60 < r.headD 0 := by
  by_cases q : 60 < r.headD 0
  · exact .inr q
  · refine .inl ⟨tr_fal, tr_pos, fun x hx => ?_, by rw [tr_len]; omega⟩
    unfold Rw.tr at hx
    obtain ⟨a, _, rfl⟩ := List.mem_map.mp hx
    have := cnt_le (a := a) (r := r)
    have := h.len
    omega
theorem x_turned {r : List Nat} (h : Row r) : m_turned [.fro (wr r)] = .ok (.fro (wr (tr r)), [.fro (wr r)]) := by
  simp [m_turned, b_turned, ev_callM, startS, x_require_row h, x_turned_in h]
theorem intsOf_wr : ∀ {r : List Nat}, intsOf (r.map wi) = some (r.map fun n : Nat => (n : Int))
  | [] => rfl
  | x :: r => by
    show (intsOf (r.map wi)).map _ = _
    rw [intsOf_wr]; rfl
theorem sum_cast : ∀ {r : List Nat}, (r.map fun n : Nat => (n : Int)).sum = ((r.sum : Nat) : Int)
  | [] => rfl
  | x :: r => by
    rw [List.map_cons, List.sum_cons, sum_cast, List.sum_cons, Int.natCast_add]
theorem sum_wr {r : List Nat} : sumW [.tup (r.map wi)] = some (.fro (.int (r.sum : Nat))) := by
  show (intsOf (r.map wi)).map _ = _
  rw [intsOf_wr, Option.map_some, sum_cast]
theorem x_size_of {r : List Nat} (h : Row r) : m_size_of [.fro (wr r)] = .ok (.fro (.int (r.sum : Nat)), [.fro (wr r)]) := by
  simp [m_size_of, b_size_of, ev_callM, startS, x_require_row h, sum_wr]
/-- the hook difference at a place of the diagonal -/
def hkD (r : List Nat) (d : Int) (a : Nat) : Int := ((r.getD a 0 : Nat) : Int) - (((tr r).getD ((a : Int) - d).toNat 0 : Nat) : Int)
theorem diff_turn {ws us : List W} {d p q x y : Int} (e1 : L2.atI ws (p - 1) = some (.int x)) (e2 : L2.atI us (q - 1) = some (.int y)) :
    turnT (gTupW [(asgN 3), (asgN 4)]) (blE true) c_differences_in_1_e [3, 4] (.tup [.int p, .int q]) [.fro (.tup ws), .fro (.int d), .fro (.tup us), .un, .un] = .ok (some (.int (x - y)), [.fro (.tup ws), .fro (.int d), .fro (.tup us), .un, .un]) := by
  simp [turnT, c_differences_in_1_e, e1, e2]
theorem onD_facts {r : List Nat} {d : Int} {a : Nat} (h : onD r d a = true) : d ≤ (a : Int) ∧ a < r.length ∧ (a : Int) - d < ((r.getD a 0 : Nat) : Int) := by
  have hl : a < r.length := by
    rcases Nat.lt_or_ge a r.length with z | z
    · exact z
    · rw [onD_out z] at h; cases h
  unfold onD at h
  rw [Bool.and_eq_true, decide_eq_true_eq, decide_eq_true_eq] at h
  exact ⟨h.1, hl, h.2⟩
theorem at_wr {r : List Nat} {a : Nat} (h : a < r.length) : L2.atI (r.map wi) ((a : Int) + 1 - 1) = some (.int (r.getD a 0 : Nat)) := by
  rw [Int.add_sub_cancel, at_nat, List.getElem?_map, List.getD_eq_getElem?_getD, List.getElem?_eq_getElem h]
  rfl
theorem col_lt {r : List Nat} (h : Fal r) {d : Int} {a : Nat} (q : onD r d a = true) : ((a : Int) - d).toNat < (tr r).length := by
  obtain ⟨h1, h2, h3⟩ := onD_facts q
  have := head_le h h2
  rw [List.getD_eq_getElem?_getD, List.getElem?_eq_getElem h2] at h3
  simp only [Option.getD_some] at h3
  rw [tr_len]; omega
theorem x_differences_in {r : List Nat} {d : Int} (h : Row r) (hd : -1000 ≤ d) (hd2 : d ≤ 1000) : m_differences_in [.fro (wr r), .fro (.int d)] = .ok (.new (.lst ((sqs r d).map fun a => .int (hkD r d a))), [.fro (wr r), .fro (.int d)]) := by
  have hl := h.len
  have e : c_differences_in_1 [.fro (wr r), .fro (.int d), .fro (wr (tr r)), .un, .un] = .ok (.new (.lst ((sqs r d).map fun a => .int (hkD r d a))), [.fro (wr r), .fro (.int d), .fro (wr (tr r)), .un, .un]) := by
    unfold c_differences_in_1
    refine lc_all (sqs r d) (sqW d) _ ?_ ?_ ?_ ?_
    · refine iv_of (r := .new (.lst ((sqs r d).map (sqW d)))) (s1 := [.fro (wr r), .fro (.int d), .fro (wr (tr r)), .un, .un]) ?_ rfl rfl
      simp [x_squares_in h.fal (show r.length ≤ 1000 by omega) hd hd2]
    · have := List.length_filter_le (onD r d) (List.range r.length)
      rw [List.length_range] at this
      unfold sqs; omega
    · simp
    · intro a ha
      have q := (List.mem_filter.mp ha).2
      obtain ⟨h1, h2, h3⟩ := onD_facts q
      refine diff_turn (at_wr h2) ?_
      have hc := col_lt h.fal q
      rw [show (a : Int) + 1 - d - 1 = ((((a : Int) - d).toNat : Nat) : Int) by omega, at_nat, List.getElem?_map, List.getD_eq_getElem?_getD, List.getElem?_eq_getElem hc]
      rfl
  simp [m_differences_in, b_differences_in, ev_callM, startS, x_turned_in h, e]
theorem x_rrd {r : List Nat} {d : Int} (h : Row r) (hd : -200 ≤ d) (hd2 : d ≤ 200) : m_require_row_and_diagonal [.fro (wr r), .fro (.int d)] = .ok (.fro .non, [.fro (wr r), .fro (.int d)]) := by
  obtain ⟨h3, h4⟩ := big_of (i := d) (by omega) (by omega)
  simp [m_require_row_and_diagonal, b_require_row_and_diagonal, ev_callM, startS, x_require_row h, x_is_within, h3, h4, hd, hd2]
theorem x_squares_on {r : List Nat} {d : Int} (h : Row r) (hd : -200 ≤ d) (hd2 : d ≤ 200) : m_squares_on [.fro (wr r), .fro (.int d)] = .ok (.fro (.tup ((sqs r d).map (sqW d))), [.fro (wr r), .fro (.int d)]) := by
  have hl := h.len
  simp [m_squares_on, b_squares_on, ev_callM, startS, x_rrd h hd hd2, x_squares_in h.fal (show r.length ≤ 1000 by omega) (show -1000 ≤ d by omega) (show d ≤ 1000 by omega)]
theorem x_hook_differences {r : List Nat} {d : Int} (h : Row r) (hd : -200 ≤ d) (hd2 : d ≤ 200) : m_hook_differences [.fro (wr r), .fro (.int d)] = .ok (.fro (.tup ((sqs r d).map fun a => .int (hkD r d a))), [.fro (wr r), .fro (.int d)]) := by
  simp [m_hook_differences, b_hook_differences, ev_callM, startS, x_rrd h hd hd2, x_differences_in h (show -1000 ≤ d by omega) (show d ≤ 1000 by omega)]
theorem x_ranks {r : List Nat} (h : Row r) : m_ranks [.fro (wr r)] = .ok (.fro (.tup ((sqs r 0).map fun a => .int (hkD r 0 a))), [.fro (wr r)]) := by
  simp [m_ranks, b_ranks, ev_callM, startS, x_require_row h, x_differences_in h (show (-1000 : Int) ≤ 0 by omega) (show (0 : Int) ≤ 1000 by omega)]
end Zk07
namespace Zk07
open Qs Rw
theorem x_hd0 {r : List Nat} (h : Row r) {p q x y : Int} (h1 : 1 ≤ p) (h2 : p ≤ 200) (h3 : 1 ≤ q) (h4 : q ≤ 200) (hs : hasS r p q = true) (e1 : L2.atI (r.map wi) (p - 1) = some (.int x)) (e2 : L2.atI ((tr r).map wi) (q - 1) = some (.int y)) :
    m_hook_difference [.fro (wr r), .fro (.int p), .fro (.int q)] = .ok (.fro (.int (x - y)), [.fro (wr r), .fro (.int p), .fro (.int q)]) := by
  obtain ⟨b1, b2⟩ := big_of (i := p) (by omega) (by omega)
  obtain ⟨b3, b4⟩ := big_of (i := q) (by omega) (by omega)
  simp [m_hook_difference, b_hook_difference, ev_callM, startS, x_require_row h, x_require_within, b1, b2, b3, b4, h1, h2, h3, h4, x_has, hs, x_turned_in h, e1, e2]
theorem x_hook_difference {r : List Nat} (h : Row r) {a b : Nat} (ha : a < r.length) (hb : b < r.getD a 0) :
    m_hook_difference [.fro (wr r), .fro (.int ((a : Int) + 1)), .fro (.int ((b : Int) + 1))] = .ok (.fro (.int ((r.getD a 0 : Nat) - ((tr r).getD b 0 : Nat))), [.fro (wr r), .fro (.int ((a : Int) + 1)), .fro (.int ((b : Int) + 1))]) := by
  have hl := h.len
  have e : r.getD a 0 = r[a] := by rw [List.getD_eq_getElem?_getD, List.getElem?_eq_getElem ha]; rfl
  have ht := h.top _ (List.getElem_mem ha)
  have hh := head_le h.fal ha
  have hb2 : b < (tr r).length := by rw [tr_len]; omega
  refine x_hd0 h (by omega) (by omega) (by omega) (by omega) ?_ (at_wr ha) (at_wr hb2)
  unfold hasS
  rw [show ((a : Int) + 1 - 1).toNat = a by omega, decide_eq_true (show (1 : Int) ≤ (a : Int) + 1 by omega), decide_eq_true (show (a : Int) + 1 ≤ r.length by omega), decide_eq_true (show (1 : Int) ≤ (b : Int) + 1 by omega), decide_eq_true (show (b : Int) + 1 ≤ (r.getD a 0 : Nat) by omega)]
  rfl
end Zk07
namespace Zk07
open Qs Rw
/-! ### the law's own -/
theorem y_tr_in {ws : List W} {q x : Int} {t : Bool} (ht : t = decide (q < x)) : turnT (asgN 2) c__law_turned_row_2_t c__law_turned_row_2_e [2] (.int x) [.fro (.tup ws), .fro (.int q), .un] = .ok (if t = true then some (.int x) else none, [.fro (.tup ws), .fro (.int q), .un]) := by
  subst ht
  by_cases h : q < x <;> simp [turnT, c__law_turned_row_2_t, c__law_turned_row_2_e, h]
theorem filterMap_len {r : List Nat} {a : Nat} : (r.filterMap fun x => if decide (((a : Nat) : Int) < ((x : Nat) : Int)) = true then some (wi x) else none).length = cnt a r := by
  induction r with
  | nil => rfl
  | cons x r ih =>
    rw [List.filterMap_cons, cnt_cons, ← ih]
    by_cases h : a < x
    · have : ((a : Int) < (x : Int)) := by omega
      simp [h]
    · have : ¬ ((a : Int) < (x : Int)) := by omega
      simp [h]
theorem y_tr_row {r : List Nat} (h : Row r) {a : Nat} : c__law_turned_row_2 [.fro (wr r), .fro (wi a), .un] = .ok (.new (.lst (r.filterMap fun x => if decide (((a : Nat) : Int) < ((x : Nat) : Int)) = true then some (wi x) else none)), [.fro (wr r), .fro (wi a), .un]) := by
  have hl := h.len
  unfold c__law_turned_row_2
  refine lc_map r wi _ ?_ (by omega) (by simp) fun x hx => y_tr_in rfl
  exact iv_of (r := .fro (wr r)) (s1 := [.fro (wr r), .fro (wi a), .un]) (by simp) rfl rfl
theorem rng_of {n : Nat} : rngL 0 1 n = (List.range n).map wi := by
  unfold rngL
  apply List.map_congr_left
  intro a _
  simp [wi]
theorem y_tr_step {ws l : List W} {q : Int} (e : c__law_turned_row_2 [.fro (.tup ws), .fro (.int q), .un] = .ok (.new (.lst l), [.fro (.tup ws), .fro (.int q), .un])) :
    turnT (asgN 1) (blE true) c__law_turned_row_1_e [1] (.int q) [.fro (.tup ws), .un, .un] = .ok (some (.int l.length), [.fro (.tup ws), .un, .un]) := by
  simp [turnT, c__law_turned_row_1_e, e]
theorem y_rng {ws : List W} {q : Int} {s : List Qs.Sl} (h : 0 ≤ q) (h2 : q ≤ 200) (e : L2.atI ws 0 = some (.int q)) : iArgs rng1 [(eIx (eVar 0) (eCst (.int 0)))] (.fro (.tup ws) :: s) = .ok (rngL 0 1 q.toNat, .fro (.tup ws) :: s) := by
  have e2 := rng1_of (j := q) (by omega) (by omega)
  simp [e, e2]
theorem y_turned_row {r : List Nat} (h : Row r) : m__law_turned_row [.fro (wr r)] = .ok (.fro (wr (tr r)), [.fro (wr r)]) := by
  cases r with
  | nil => rfl
  | cons y r =>
    have hy : y ≤ 200 := h.top y List.mem_cons_self
    have e : c__law_turned_row_1 [.fro (wr (y :: r)), .un, .un] = .ok (.new (.lst ((List.range y).map fun a => wi (cnt a (y :: r)))), [.fro (wr (y :: r)), .un, .un]) := by
      unfold c__law_turned_row_1
      refine lc_all (List.range y) wi _ ?_ (by simp; omega) (by simp) fun a _ => ?_
      · rw [← rng_of]
        exact y_rng (q := (y : Int)) (by omega) (by omega) (at_nat (n := 0))
      · have e3 := y_tr_step (y_tr_row h (a := a))
        rw [filterMap_len] at e3
        exact e3
    have e7 : eqO (.tup (wi y :: r.map wi)) (.tup []) = some false := by
      have := eqO_wr0 (r := y :: r)
      simpa using this
    have hlim : (0 : Nat) ≤ lim := Nat.zero_le _
    simp [m__law_turned_row, b__law_turned_row, ev_callM, startS, e7, hlim, e]
    unfold tr
    rw [List.map_map]
    rfl
end Zk07
namespace Zk07
open Qs Rw
theorem zip_int {l q : List Int} : zipL (l.map W.int) (q.map W.int) = (l.zip q).map fun p => .tup [.int p.1, .int p.2] := by
  unfold zipL
  rw [List.zip_map, List.map_map]
  rfl
theorem cut_int {l : List Int} : cutG (l.map W.int) (some 1) none = l.tail.map W.int := by
  rw [show (1 : Int) = ((1 : Nat) : Int) from rfl, cut_from, ← List.map_drop, List.drop_one]
theorem y_fall_in {ws : List W} {x y : Int} (h : ¬ x < y) : turnT (gTupW [(asgN 1), (asgN 2)]) c__law_fall_1_t c__law_fall_1_e [1, 2] (.tup [.int x, .int y]) [.fro (.lst ws), .un, .un] = .ok (none, [.fro (.lst ws), .un, .un]) := by
  simp [turnT, c__law_fall_1_t, h]
theorem y_fall_it {l : List Int} : iArgs zipW [(eVar 0), (eSl (eVar 0) (some (eCst (.int 1))) none)] [.fro (.lst (l.map W.int)), .un, .un] = .ok ((l.zip l.tail).map fun p => .tup [.int p.1, .int p.2], [.fro (.lst (l.map W.int)), .un, .un]) := by
  have e := zip_int (l := l) (q := l.tail)
  rw [← cut_int] at e
  simp only [iargs2, ev_var, sl_from, List.getElem?_cons_zero, Res.bind_ok, frz_fro, ofO_some, ev_onW, val_fro, slice_lst, frz_new, zip_lst, e]
theorem y_fall {l : List Int} (h : l.Pairwise (· ≥ ·)) (hl : l.length ≤ 4000) : m__law_fall [.fro (.lst (l.map W.int))] = .ok (.fro (.bl true), [.fro (.lst (l.map W.int))]) := by
  have e : c__law_fall_1 [.fro (.lst (l.map W.int)), .un, .un] = .ok (.new (.lst []), [.fro (.lst (l.map W.int)), .un, .un]) := by
    unfold c__law_fall_1
    have := lc_map (g := gTupW [(asgN 1), (asgN 2)]) (ft := c__law_fall_1_t) (fe := c__law_fall_1_e) (vs := [1, 2]) (l.zip l.tail) (fun p => .tup [.int p.1, .int p.2]) (fun _ => none) (y_fall_it (l := l)) (by simp; omega) (by simp) fun p hp => by
      have hge : ¬ p.1 < p.2 := by
        obtain ⟨i, hi, rfl⟩ := List.getElem_of_mem hp
        have : i + 1 < l.length := by simp at hi; omega
        have := List.pairwise_iff_getElem.mp h i (i + 1) (by omega) this (by omega)
        simp
        omega
      exact y_fall_in hge
    rw [this]
    simp
  have hlim : (0 : Nat) ≤ lim := Nat.zero_le _
  have e2 : eqO (.lst []) (.lst []) = some true := rfl
  simp [m__law_fall, b__law_fall, ev_callM, startS, e, hlim, e2]
end Zk07
namespace Qs
theorem forL_range {g : GT} {fb : SS} {n : Nat} {e : Nat → W} (J : Nat → S → Prop) (step : ∀ k s, k < n → J k s → ∃ s1 s2, g (.fro (e k)) s = .ok s1 ∧ (fb s1 = .ok (.nx s2) ∨ fb s1 = .ok (.ct s2)) ∧ J (k + 1) s2) {s : S} (h : J 0 s) :
    ∃ s', forL g fb ((List.range n).map e) s = .ok (.nx s') ∧ J n s' := by
  obtain ⟨s', e1, k, hk, ek, h2⟩ := forL_inv (g := g) (fb := fb) (fun ws s => ∃ k, k ≤ n ∧ ws = ((List.range n).map e).drop k ∧ J k s) (fun w ws s ⟨k, hk, ek, hj⟩ => by
    have hlt : k < n := by
      rcases Nat.lt_or_ge k n with z | z
      · exact z
      · rw [List.drop_eq_nil_of_le (by simpa using z)] at ek; cases ek
    rw [List.drop_eq_getElem_cons (by simpa using hlt)] at ek
    injection ek with e1 e2
    obtain ⟨s1, s2, f1, f2, f3⟩ := step k s hlt hj
    refine ⟨s1, s2, ?_, f2, k + 1, hlt, e2, f3⟩
    rw [e1]
    simpa using f1) ((List.range n).map e) s ⟨0, Nat.zero_le _, by simp, h⟩
  have : n ≤ k := by
    have z := congrArg List.length ek
    simp at z
    omega
  have : k = n := by omega
  subst this
  exact ⟨s', e1, h2⟩
end Qs
namespace Zk07
open Qs Rw
theorem num_wr {r : List Nat} : numL (r.map wi) = (List.range r.length).map fun a => .tup [wi a, wi (r.getD a 0)] := by
  unfold numL zipL
  rw [rng_of, List.length_map]
  apply List.ext_getElem
  · simp
  · intro i h1 h2
    have hi : i < r.length := by simpa using h2
    simp [hi]
def sqP (a b : Nat) : W := .tup [.int ((a : Int) + 1), .int ((b : Int) + 1)]
def allSq (r : List Nat) (n : Nat) : List W := (List.range n).flatMap fun a => (List.range (r.getD a 0)).map (sqP a)
theorem y_sq_in {ws : List W} {p q x : Int} {F : List W} : turnT (asgN 4) (blE true) c__law_rw_squares_2_e [4] (.int x) [.fro (.tup ws), .own false (.lst F), .fro (.int p), .fro (.int q), .un] = .ok (some (.tup [.int (p + 1), .int (x + 1)]), [.fro (.tup ws), .own false (.lst F), .fro (.int p), .fro (.int q), .un]) := by
  have h2 : (2 : Nat) ≤ lim := by unfold lim; omega
  simp [turnT, c__law_rw_squares_2_e, h2]
theorem y_sq_it {s0 s1 s2 x : Qs.Sl} {v : W} {l : List W} (e2 : rng1 [v] = some l) : iArgs rng1 [(eVar 3)] [s0, s1, s2, .fro v, x] = .ok (l, [s0, s1, s2, .fro v, x]) := by
  simp [e2]
theorem y_sq_bk {u v w : W} {F : List W} {x : Qs.Sl} : backS [4] 0 [.fro u, .own false (.lst F), .fro v, .fro w, x] (wipeS [.fro u, .own false (.lst F), .fro v, .fro w, x] [4]) = some [.fro u, .own false (.lst F), .fro v, .fro w, x] := by
  simp
theorem rng1_wi {n : Nat} (hn : n ≤ 4000) : rng1 [wi n] = some ((List.range n).map wi) := by
  unfold wi
  rw [rng1_of (by omega) (by omega), Int.toNat_natCast, rng_of]
  rfl
theorem y_sq_row {r : List Nat} {F : List W} {a n : Nat} {x : Qs.Sl} (hn : n ≤ 4000) : c__law_rw_squares_2 [.fro (wr r), .own false (.lst F), .fro (wi a), .fro (wi n), x] = .ok (.new (.lst ((List.range n).map (sqP a))), [.fro (wr r), .own false (.lst F), .fro (wi a), .fro (wi n), x]) := by
  unfold c__law_rw_squares_2
  exact lc_all (List.range n) wi (sqP a) (y_sq_it (rng1_wi hn)) (by rw [List.length_range]; omega) y_sq_bk fun b _ => y_sq_in
end Zk07
namespace Zk07
open Qs Rw
theorem y_rs_tg {s0 s1 s2 s3 s4 : Qs.Sl} {u v : W} : gTupW [(asgN 2), (asgN 3)] (.fro (.tup [u, v])) [s0, s1, s2, s3, s4] = .ok [s0, s1, .fro u, .fro v, s4] := by
  simp
theorem y_rs_body {u v w : W} {F l : List W} {x : Qs.Sl} (e : c__law_rw_squares_2 [.fro u, .own false (.lst F), .fro v, .fro w, x] = .ok (.new (.lst l), [.fro u, .own false (.lst F), .fro v, .fro w, x])) (hl : F.length + l.length ≤ lim) :
    f__law_rw_squares_1 [.fro u, .own false (.lst F), .fro v, .fro w, x] = .ok (.nx [.fro u, .own false (.lst (F ++ l)), .fro v, .fro w, x]) := by
  simp [f__law_rw_squares_1, e, hl]
theorem allSq_len {r : List Nat} (h : ∀ x ∈ r, x ≤ 200) : ∀ n : Nat, (allSq r n).length ≤ 200 * n
  | 0 => by simp [allSq]
  | n + 1 => by
    have ih := allSq_len h n
    have hx : r.getD n 0 ≤ 200 := by
      rw [List.getD_eq_getElem?_getD]
      by_cases hn : n < r.length
      · rw [List.getElem?_eq_getElem hn]; exact h _ (List.getElem_mem hn)
      · rw [List.getElem?_eq_none (by omega)]; exact Nat.zero_le _
    unfold allSq at ih ⊢
    rw [List.range_succ, List.flatMap_append, List.length_append]
    simp at ih ⊢
    simp at hx
    omega
theorem y_rw_squares {r : List Nat} (h : Row r) : m__law_rw_squares [.fro (wr r)] = .ok (.new (.lst (allSq r r.length)), [.fro (wr r)]) := by
  have hl := h.len
  obtain ⟨s', e1, x2, x3, rfl⟩ := forL_range (g := gTupW [(asgN 2), (asgN 3)]) (fb := f__law_rw_squares_1) (n := r.length) (e := fun a => .tup [wi a, wi (r.getD a 0)]) (fun k s => ∃ x2 x3 : Qs.Sl, s = [.fro (wr r), .own false (.lst (allSq r k)), x2, x3, .un])
    (fun k s hk ⟨x2, x3, es⟩ => by
      subst es
      have hx : r.getD k 0 ≤ 200 := by
        rw [List.getD_eq_getElem?_getD, List.getElem?_eq_getElem hk]
        exact h.top _ (List.getElem_mem hk)
      have h1 := allSq_len h.top k
      refine ⟨_, _, y_rs_tg, .inl (y_rs_body (y_sq_row (by omega)) (by rw [List.length_map, List.length_range]; unfold lim; omega)), .fro (wi k), .fro (wi (r.getD k 0)), ?_⟩
      unfold allSq
      rw [List.range_succ, List.flatMap_append]
      simp)
    (s := [.fro (wr r), .own false (.lst []), .un, .un, .un]) ⟨.un, .un, rfl⟩
  have e2 : sFor (iArgs enumA [(eVar 0)]) (gTupW [(asgN 2), (asgN 3)]) f__law_rw_squares_1 [.fro (wr r), .own false (.lst []), .un, .un, .un] = .ok (.nx [.fro (wr r), .own false (.lst (allSq r r.length)), x2, x3, .un]) := by
    rw [ev_for]
    have e3 : iArgs enumA [(eVar 0)] [.fro (wr r), .own false (.lst []), .un, .un, .un] = .ok (numL (r.map wi), [.fro (wr r), .own false (.lst []), .un, .un, .un]) := by simp
    rw [e3, num_wr]
    exact e1
  have hlim : (0 : Nat) ≤ lim := Nat.zero_le _
  simp [m__law_rw_squares, b__law_rw_squares, ev_callM, startS, -ev_for, e2, hlim]
end Zk07
namespace Zk07
open Qs Rw
theorem y_col_y {ws us F : List W} {p q y : Int} (h : p < q) (e : L2.atI us p = some (.int y)) (hF : F.length < lim) : f__law_columns_1 [.fro (.tup ws), .fro (.tup us), .own false (.lst F), .fro (.int p), .fro (.int q)] = .ok (.nx [.fro (.tup ws), .fro (.tup us), .own false (.lst (F ++ [.tup [.int (q - p - 1), .int (y - p - 1)]])), .fro (.int p), .fro (.int q)]) := by
  have h2 : (2 : Nat) ≤ lim := by unfold lim; omega
  simp [f__law_columns_1, h, e, hF, h2]
theorem y_col_n {ws us F : List W} {p q : Int} (h : ¬ p < q) : f__law_columns_1 [.fro (.tup ws), .fro (.tup us), .own false (.lst F), .fro (.int p), .fro (.int q)] = .ok (.nx [.fro (.tup ws), .fro (.tup us), .own false (.lst F), .fro (.int p), .fro (.int q)]) := by
  simp [f__law_columns_1, h]
theorem y_col_tg {s0 s1 s2 s3 s4 : Qs.Sl} {u v : W} : gTupW [(asgN 3), (asgN 4)] (.fro (.tup [u, v])) [s0, s1, s2, s3, s4] = .ok [s0, s1, s2, .fro u, .fro v] := by
  simp
def colW (r : List Nat) (a : Nat) : W := .tup [.int ((r.getD a 0 : Nat) - (a : Int) - 1), .int (((tr r).getD a 0 : Nat) - (a : Int) - 1)]
theorem y_columns {r : List Nat} (h : Row r) : m__law_columns [.fro (wr r)] = .ok (.new (.lst ((sqs r 0).map (colW r))), [.fro (wr r)]) := by
  have hl := h.len
  obtain ⟨s', e1, x2, x3, rfl⟩ := forL_range (g := gTupW [(asgN 3), (asgN 4)]) (fb := f__law_columns_1) (n := r.length) (e := fun a => .tup [wi a, wi (r.getD a 0)]) (fun k s => ∃ x2 x3 : Qs.Sl, s = [.fro (wr r), .fro (wr (tr r)), .own false (.lst (((List.range k).filter (onD r 0)).map (colW r))), x2, x3])
    (fun k s hk ⟨x2, x3, es⟩ => by
      subst es
      have hF : ((List.range k).filter (onD r 0)).length ≤ k := by
        have := List.length_filter_le (onD r 0) (List.range k)
        simpa using this
      cases q : onD r 0 k with
      | true =>
        obtain ⟨_, _, h3⟩ := onD_facts q
        have hc := col_lt h.fal q
        rw [show ((k : Int) - 0).toNat = k by omega] at hc
        have ea : L2.atI ((tr r).map wi) (k : Int) = some (.int ((tr r).getD k 0 : Nat)) := by
          rw [at_nat, List.getElem?_map, List.getD_eq_getElem?_getD, List.getElem?_eq_getElem hc]
          rfl
        refine ⟨_, _, y_col_tg, .inl (y_col_y (by omega) ea (by rw [List.length_map]; unfold lim; omega)), .fro (wi k), .fro (wi (r.getD k 0)), ?_⟩
        rw [List.range_succ, List.filter_append, List.map_append]
        simp only [List.filter_cons, q, if_true, List.filter_nil, List.map_cons, List.map_nil]
        rfl
      | false =>
        have hn : ¬ ((k : Int) < ((r.getD k 0 : Nat) : Int)) := fun z => by
          unfold onD at q
          rw [decide_eq_true (by omega), Bool.true_and, decide_eq_false_iff_not] at q
          omega
        refine ⟨_, _, y_col_tg, .inl (y_col_n hn), .fro (wi k), .fro (wi (r.getD k 0)), ?_⟩
        rw [List.range_succ, List.filter_append, List.map_append]
        have e0 : List.filter (onD r 0) [k] = [] := by simp [q]
        rw [e0, List.map_nil, List.append_nil]
        rfl)
    (s := [.fro (wr r), .fro (wr (tr r)), .own false (.lst []), .un, .un]) ⟨.un, .un, rfl⟩
  have e2 : sFor (iArgs enumA [(eVar 0)]) (gTupW [(asgN 3), (asgN 4)]) f__law_columns_1 [.fro (wr r), .fro (wr (tr r)), .own false (.lst []), .un, .un] = .ok (.nx [.fro (wr r), .fro (wr (tr r)), .own false (.lst ((sqs r 0).map (colW r))), x2, x3]) := by
    rw [ev_for]
    have e3 : iArgs enumA [(eVar 0)] [.fro (wr r), .fro (wr (tr r)), .own false (.lst []), .un, .un] = .ok (numL (r.map wi), [.fro (wr r), .fro (wr (tr r)), .own false (.lst []), .un, .un]) := by simp
    rw [e3, num_wr]
    exact e1
  have hlim : (0 : Nat) ≤ lim := Nat.zero_le _
  simp [m__law_columns, b__law_columns, ev_callM, startS, -ev_for, e2, hlim, y_turned_row h]
end Zk07
namespace Zk07
open Qs Rw
theorem y_rk_in {ws : List W} {p q z : Int} (h : p - q = z) : turnT (gTupW [(asgN 1), (asgN 2)]) (blE true) c__law_ranks_1_e [1, 2] (.tup [.int p, .int q]) [.fro (.tup ws), .un, .un] = .ok (some (.int z), [.fro (.tup ws), .un, .un]) := by
  subst h
  simp [turnT, c__law_ranks_1_e]
theorem y_rk_it {ws l : List W} (e : m__law_columns [.fro (.tup ws)] = .ok (.new (.lst l), [.fro (.tup ws)])) : iVal (eCall m__law_columns [(eVar 0)]) [.fro (.tup ws), .un, .un] = .ok (l, [.fro (.tup ws), .un, .un]) := by
  refine iv_of (r := .new (.lst l)) (s1 := [.fro (.tup ws), .un, .un]) ?_ rfl rfl
  simp [e]
theorem y_ranks {r : List Nat} (h : Row r) : m__law_ranks [.fro (wr r)] = .ok (.new (.lst ((sqs r 0).map fun a => .int (hkD r 0 a))), [.fro (wr r)]) := by
  have hl := h.len
  have e : c__law_ranks_1 [.fro (wr r), .un, .un] = .ok (.new (.lst ((sqs r 0).map fun a => .int (hkD r 0 a))), [.fro (wr r), .un, .un]) := by
    unfold c__law_ranks_1
    refine lc_all (sqs r 0) (colW r) _ (y_rk_it (y_columns h)) ?_ (by simp) fun a _ => y_rk_in ?_
    · have := List.length_filter_le (onD r 0) (List.range r.length)
      rw [List.length_range] at this
      unfold sqs; omega
    · unfold hkD
      rw [show ((a : Int) - 0).toNat = a by omega]
      omega
  simp [m__law_ranks, b__law_ranks, ev_callM, startS, e]
end Zk07
namespace Qs
theorem log2_small {n k : Nat} (h : n < 2 ^ k) : n.log2 ≤ k := by
  by_cases h0 : n = 0
  · subst h0; simp
  · exact Nat.le_of_lt ((Nat.log2_lt h0).mpr h)
theorem mulOk_of {i j : Int} (hi : i.natAbs < 2 ^ 300) (hj : j.natAbs < 2 ^ 300) : mulOk i j = true := by
  unfold mulOk
  have a := log2_small hi
  have b := log2_small hj
  simp only [decide_eq_true_eq]
  omega
theorem divOk_of {j : Int} (h : 0 < j) (h2 : j.natAbs < 2 ^ 300) : divOk j = true := by
  unfold divOk
  have := log2_small h2
  simp only [Bool.and_eq_true, decide_eq_true_eq]
  exact ⟨h, by omega⟩
end Qs
namespace Qs
section
variable {s : S} {fa fb : SE} {w : W}
@[simp] theorem ev_gix {r : R} : gIx fa fb r s = (ofO (frz s r)).bind fun f => (fa f.2).bind fun p => (fb p.2).bind fun q => (ofO (ownL q.2 p.1)).bind fun l => (ofO ((val q.2 q.1).bind (idx l.2.2.length))).bind fun j => .ok (q.2.set l.1 (.own l.2.1 (.lst (l.2.2.set j f.1)))) := by
  unfold gIx
  simp only [nfW_eq, nfLs_eq]
@[simp] theorem int_int {i : Int} : intW [.int i] = some (.fro (.int i)) := Eq.trans rfl rfl
end
end Qs
namespace Zk07
open Qs
theorem roll_a {a b k m : Int} {p : Bool} (ha : 0 < a) (hm : 0 < m) (hd : divOk m = true) : m__law_roll [.own p (.lst [.int a, .int b, .int k]), .fro (.int m)] = .ok (.fro (.int (a % m)), [.own p (.lst [.int (a / m), .int b, .int k]), .fro (.int m)]) := by
  have e0 : L2.atI [W.int a, W.int b, W.int k] 0 = some (.int a) := rfl
  have i0 : idx 3 (.int 0) = some 0 := rfl
  simp [m__law_roll, b__law_roll, ev_callM, startS, e0, ha, hm, hd, i0]
end Zk07
namespace Zk07
open Qs
theorem roll_b {a b k m o t : Int} {p : Bool} (ha : ¬ 0 < a) (hm : 0 < m) (h1 : mulOk 86028157 (k + 1) = true) (ho : (b + 86028157 * (k + 1)) % 2305843009213693381 = o) (h2 : mulOk o o = true) (h3 : mulOk 101 (k + 1) = true)
    (ht : (o * o + 101 * (k + 1)) % 2305843009213693343 = t) (h4 : mulOk t 7368791 = true) (h5 : divOk 65551 = true) : ∃ z, 0 ≤ z ∧ z < m ∧ m__law_roll [.own p (.lst [.int a, .int b, .int k]), .fro (.int m)] = .ok (.fro (.int z), [.own p (.lst [.int a, .int b, .int (k + 1)]), .fro (.int m)]) := by
  refine ⟨(t * 7368791 + o) / 65551 % m, Int.emod_nonneg _ (by omega), Int.emod_lt_of_pos _ hm, ?_⟩
  have e0 : L2.atI [W.int a, W.int b, W.int k] 0 = some (.int a) := rfl
  have e2 : L2.atI [W.int a, W.int b, W.int k] 2 = some (.int k) := rfl
  have f1 : L2.atI [W.int a, W.int b, W.int (k + 1)] 1 = some (.int b) := rfl
  have f2 : L2.atI [W.int a, W.int b, W.int (k + 1)] 2 = some (.int (k + 1)) := rfl
  have i2 : idx 3 (.int 2) = some 2 := rfl
  simp [m__law_roll, b__law_roll, ev_callM, startS, e0, e2, f1, f2, ha, hm, i2, h1, ho, h2, h3, ht, h4, h5]
/-- dice that can be rolled n times -/
def DiceOk (n : Nat) (d : List W) : Prop := ∃ a b k : Int, d = [.int a, .int b, .int k] ∧ 0 ≤ a ∧ 0 ≤ k ∧ k + n ≤ 1000000000000
theorem nat_pow_big : (2305843009213693951 : Nat) < 2 ^ 300 := by decide +kernel
theorem small_abs {i : Int} (h : 0 ≤ i) (h2 : i < 2305843009213693951) : i.natAbs < 2 ^ 300 := Nat.lt_trans (by omega) nat_pow_big
theorem roll {n : Nat} {d : List W} {m : Int} {p : Bool} (h : DiceOk (n + 1) d) (hm : 0 < m) (hm2 : m ≤ 1000000) : ∃ z d', 0 ≤ z ∧ z < m ∧ DiceOk n d' ∧ m__law_roll [.own p (.lst d), .fro (.int m)] = .ok (.fro (.int z), [.own p (.lst d'), .fro (.int m)]) := by
  obtain ⟨a, b, k, rfl, ha, hk, hn⟩ := h
  by_cases h0 : 0 < a
  · exact ⟨a % m, _, Int.emod_nonneg _ (by omega), Int.emod_lt_of_pos _ hm, ⟨a / m, b, k, rfl, Int.ediv_nonneg ha (by omega), hk, by omega⟩, roll_a h0 hm (divOk_of hm (small_abs (by omega) (by omega)))⟩
  · have ho1 := Int.emod_nonneg (b + 86028157 * (k + 1)) (show (2305843009213693381 : Int) ≠ 0 by decide)
    have ho2 := Int.emod_lt_of_pos (b + 86028157 * (k + 1)) (show (0 : Int) < 2305843009213693381 by decide)
    generalize ho : (b + 86028157 * (k + 1)) % 2305843009213693381 = o at ho1 ho2
    have ht1 := Int.emod_nonneg (o * o + 101 * (k + 1)) (show (2305843009213693343 : Int) ≠ 0 by decide)
    have ht2 := Int.emod_lt_of_pos (o * o + 101 * (k + 1)) (show (0 : Int) < 2305843009213693343 by decide)
    generalize ht : (o * o + 101 * (k + 1)) % 2305843009213693343 = t at ht1 ht2
    have sk : (k + 1).natAbs < 2 ^ 300 := small_abs (by omega) (by omega)
    have so : o.natAbs < 2 ^ 300 := small_abs ho1 (by omega)
    obtain ⟨z, z1, z2, z3⟩ := roll_b (p := p) (a := a) (b := b) (k := k) (m := m) h0 hm (mulOk_of (small_abs (by decide) (by decide)) sk) ho (mulOk_of so so) (mulOk_of (small_abs (by decide) (by decide)) sk) ht (mulOk_of (small_abs ht1 (by omega)) (small_abs (by decide) (by decide))) (divOk_of (by decide) (small_abs (by decide) (by decide)))
    exact ⟨z, _, z1, z2, ⟨a, b, k + 1, rfl, ha, by omega, by omega⟩, z3⟩
end Zk07
namespace Zk07
open Qs Rw
theorem rd_turn {d d' : List W} {l m z x : Int} (e : m__law_roll [.own false (.lst d), .fro (.int m)] = .ok (.fro (.int z), [.own false (.lst d'), .fro (.int m)])) :
    turnT (asgN 4) (blE true) c__law_row_drawn_1_e [4] (.int x) [.own true (.lst d), .fro (.int l), .fro (.int m), .un, .un] = .ok (some (.int (1 + z)), [.own true (.lst d'), .fro (.int l), .fro (.int m), .un, .un]) := by
  simp [turnT, c__law_row_drawn_1_e, e]
end Zk07
namespace Zk07
open Qs Rw
theorem DiceOk.less {n m : Nat} {d : List W} (h : DiceOk n d) (hm : m ≤ n) : DiceOk m d := by
  obtain ⟨a, b, k, e, h1, h2, h3⟩ := h
  exact ⟨a, b, k, e, h1, h2, by omega⟩
theorem rd_block {n : Nat} {l m : Int} (hm : 0 < m) (hm2 : m ≤ 1000) (xs : List Nat) {d : List W} (h : DiceOk (n + xs.length) d) :
    ∃ (zs : List Int) (d' : List W), zs.length = xs.length ∧ (∀ z ∈ zs, 1 ≤ z ∧ z ≤ m) ∧ DiceOk n d' ∧ compL (asgN 4) (blE true) c__law_row_drawn_1_e [4] (xs.map wi) [.own true (.lst d), .fro (.int l), .fro (.int m), .un, .un] = .ok (zs.map W.int, [.own true (.lst d'), .fro (.int l), .fro (.int m), .un, .un]) := by
  induction xs generalizing d with
  | nil => exact ⟨[], d, rfl, (fun z hz => nomatch hz), h, rfl⟩
  | cons x xs ih =>
    obtain ⟨z, d1, z1, z2, h1, e1⟩ := roll (p := false) (show DiceOk ((n + xs.length) + 1) d from h) hm (by omega)
    obtain ⟨zs, d2, e2, e3, h2, e4⟩ := ih h1
    refine ⟨(1 + z) :: zs, d2, by simp [e2], fun y hy => ?_, h2, ?_⟩
    · rcases List.mem_cons.mp hy with rfl | hy
      · omega
      · exact e3 y hy
    · rw [List.map_cons, show wi x = W.int (x : Int) from rfl, compL_cons (rd_turn e1), e4]; rfl
end Zk07
namespace Zk07
open Qs Rw
@[simp] theorem intsOf_int : ∀ {l : List Int}, intsOf (l.map W.int) = some l
  | [] => rfl
  | x :: l => by
    show (intsOf (l.map W.int)).map _ = _
    rw [intsOf_int]; rfl
@[simp] theorem sort_of {l : List Int} : sortW [.lst (l.map W.int)] = some (.new (.lst ((sortI l).map W.int))) := by
  show (intsOf (l.map W.int)).map _ = _
  rw [intsOf_int]; rfl
@[simp] theorem rev_of {ws : List W} : revW (.lst ws) = some (.new (.lst ws.reverse)) := rfl
theorem rd_first {d d' : List W} {l m z : Int} (e : m__law_roll [.own false (.lst d), .fro (.int (l + 1))] = .ok (.fro (.int z), [.own false (.lst d'), .fro (.int (l + 1))])) (hz : 0 ≤ z) (hz2 : z ≤ 1000) :
    iArgs rng1 [(eCall m__law_roll [(eVar 0), (eBin .Add (eVar 1) (eCst (.int 1)))])] [.own true (.lst d), .fro (.int l), .fro (.int m), .un, .un] = .ok (rngL 0 1 z.toNat, [.own true (.lst d'), .fro (.int l), .fro (.int m), .un, .un]) := by
  have e2 := rng1_of (j := z) hz (by omega)
  simp [e, e2]
theorem rd_back {u : List W} {l m : Int} {d d' : List W} : backS [4] 0 [.own true (.lst d), .fro (.int l), .fro (.int m), .un, .un] [.own true (.lst d'), .fro (.int l), .fro (.int m), .un, .un] = some [.own true (.lst d'), .fro (.int l), .fro (.int m), .un, .un] := by
  simp
/-- a row of drawn numbers -/
def rowOf (zs : List Int) : List Nat := ((sortI zs).reverse).map Int.toNat
theorem rowOf_row {zs : List Int} {n m : Nat} (hl : zs.length ≤ n) (hn : n ≤ 60) (hm : m ≤ 200) (h : ∀ z ∈ zs, 1 ≤ z ∧ z ≤ (m : Int)) : Row (rowOf zs) ∧ (rowOf zs).length ≤ n ∧ (∀ x ∈ rowOf zs, x ≤ m) ∧ ((sortI zs).reverse).map W.int = (rowOf zs).map wi := by
  have hp := sortI_perm zs
  have mem : ∀ x ∈ (sortI zs).reverse, 1 ≤ x ∧ x ≤ (m : Int) := fun x hx => h x (hp.mem_iff.mp (List.mem_reverse.mp hx))
  have len : (rowOf zs).length = zs.length := by
    unfold rowOf
    rw [List.length_map, List.length_reverse, hp.length_eq]
  have e : ((sortI zs).reverse).map W.int = (rowOf zs).map wi := by
    unfold rowOf
    rw [List.map_map]
    apply List.map_congr_left
    intro x hx
    have := mem x hx
    show W.int x = W.int _
    rw [Int.toNat_of_nonneg (by omega)]
  have top : ∀ x ∈ rowOf zs, 0 < x ∧ x ≤ m := fun x hx => by
    obtain ⟨y, hy, rfl⟩ := List.mem_map.mp hx
    have := mem y hy
    omega
  refine ⟨⟨?_, fun x hx => (top x hx).1, fun x hx => by have := (top x hx).2; omega, by omega⟩, by omega, fun x hx => (top x hx).2, e⟩
  unfold Fal rowOf
  rw [List.pairwise_map, List.pairwise_reverse]
  exact (sortI_pw zs).imp fun hab => by omega
theorem y_row_drawn {n l m : Nat} {d : List W} {p : Bool} (hl : l ≤ 60) (hm0 : 0 < m) (hm : m ≤ 200) (h : DiceOk (n + l + 1) d) :
    ∃ (r : List Nat) (d' : List W), Row r ∧ r.length ≤ l ∧ (∀ x ∈ r, x ≤ m) ∧ DiceOk n d' ∧ m__law_row_drawn [.own p (.lst d), .fro (wi l), .fro (wi m)] = .ok (.fro (wr r), [.own p (.lst d'), .fro (wi l), .fro (wi m)]) := by
  obtain ⟨z, d1, hz, hz2, h1, e1⟩ := roll (p := false) (m := (l : Int) + 1) h (by omega) (by omega)
  have hzl : z.toNat ≤ l := by omega
  obtain ⟨zs, d2, e2, e3, h2, e4⟩ := rd_block (n := n) (l := (l : Int)) (m := (m : Int)) (by omega) (by omega) (List.range z.toNat) (h1.less (by rw [List.length_range]; omega))
  rw [List.length_range] at e2
  obtain ⟨f1, f2, f3, f4⟩ := rowOf_row (zs := zs) (n := l) (m := m) (by omega) hl hm e3
  refine ⟨rowOf zs, d2, f1, f2, f3, h2, ?_⟩
  have e5 : c__law_row_drawn_1 [.own true (.lst d), .fro (wi l), .fro (wi m), .un, .un] = .ok (.new (.lst (zs.map W.int)), [.own true (.lst d2), .fro (wi l), .fro (wi m), .un, .un]) := by
    unfold c__law_row_drawn_1
    refine lc_of (rd_first e1 hz (by omega)) ?_ ?_ (rd_back (u := []))
    · unfold rngL; rw [List.length_map, List.length_range]; omega
    · rw [rng_of]
      simpa using e4
  rw [List.map_reverse] at f4
  simp [m__law_row_drawn, b__law_row_drawn, ev_callM, startS, e5]
  exact f4
end Zk07
namespace Zk07
open Qs Rw
theorem popAt_of {ws : List W} {i : Int} (h : 0 ≤ i) (h2 : i < ws.length) (h3 : i ≤ 1000000) : ∃ k w, ws[k]? = some w ∧ popAtW ws (.int i) = some (w, ws.eraseIdx k) := by
  obtain ⟨n, rfl⟩ := Int.eq_ofNat_of_zero_le h
  have hn : n < ws.length := by omega
  refine ⟨n, ws[n], List.getElem?_eq_getElem hn, ?_⟩
  unfold popAtW
  have a : decide (-9223372036854775808 ≤ ((n : Nat) : Int)) = true := decide_eq_true (by omega)
  have b : decide (((n : Nat) : Int) < 9223372036854775808) = true := decide_eq_true (by omega)
  have s : PySem.seqIndex? ((n : Nat) : Int) ws.length = some n := by
    unfold PySem.seqIndex?
    have h1 : ¬ (((n : Nat) : Int) < 0) := by omega
    simp [h1, hn]
  show (if (decide (-9223372036854775808 ≤ ((n : Nat) : Int)) && decide (((n : Nat) : Int) < 9223372036854775808)) = true then _ else _) = _
  rw [a, b, s]
  simp [hn]
theorem sh_body {d d' ws F : List W} {v w : W} {i q : Int} {k : Nat} (hq : (ws.length : Int) = q) (e : m__law_roll [.own false (.lst d), .fro (.int q)] = .ok (.fro (.int i), [.own false (.lst d'), .fro (.int q)])) (e2 : popAtW ws (.int i) = some (w, ws.eraseIdx k)) (hF : F.length < lim) {x : Qs.Sl} :
    f__law_shuffled_1 [.own true (.lst d), .fro v, .own false (.lst ws), .own false (.lst F), x] = .ok (.nx [.own true (.lst d'), .fro v, .own false (.lst (ws.eraseIdx k)), .own false (.lst (F ++ [w])), x]) := by
  simp [f__law_shuffled_1, hq, e, e2, hF]
theorem sh_tg {s0 s1 s2 s3 s4 : Qs.Sl} {w : W} : asgN 4 (.fro w) [s0, s1, s2, s3, s4] = .ok [s0, s1, s2, s3, .fro w] := by
  simp
theorem sh_rng0 {ws l : List W} {q : Int} {s0 s2 s3 s4 : Qs.Sl} (hq : (ws.length : Int) = q) (e : rng1 [.int q] = some l) : iArgs rng1 [(eFn lenW [(eVar 1)])] [s0, .fro (.lst ws), s2, s3, s4] = .ok (l, [s0, .fro (.lst ws), s2, s3, s4]) := by
  simp [hq, e]
theorem sh_rng {ws : List W} {s0 s2 s3 s4 : Qs.Sl} (h : ws.length ≤ 4000) : iArgs rng1 [(eFn lenW [(eVar 1)])] [s0, .fro (.lst ws), s2, s3, s4] = .ok ((List.range ws.length).map wi, [s0, .fro (.lst ws), s2, s3, s4]) :=
  sh_rng0 rfl (rng1_wi h)
/-- one turn -/
theorem sh_step {n k m : Nat} {d' us F ws : List W} {v : W} {x : Qs.Sl} {q : Int} (hq : (us.length : Int) = q) (h1 : DiceOk (n + 1) d') (h2 : us.length = m + 1) (h3 : F.length < 5000) (h0 : m ≤ 5000) (h4 : ∀ u ∈ us, u ∈ ws) (h5 : ∀ u ∈ F, u ∈ ws) :
    ∃ (d2 us2 F2 : List W), f__law_shuffled_1 [.own true (.lst d'), .fro v, .own false (.lst us), .own false (.lst F), x] = .ok (.nx [.own true (.lst d2), .fro v, .own false (.lst us2), .own false (.lst F2), x]) ∧ DiceOk n d2 ∧ us2.length = m ∧ F2.length = F.length + 1 ∧ (∀ u ∈ us2, u ∈ ws) ∧ ∀ u ∈ F2, u ∈ ws := by
  obtain ⟨z, d2, z1, z2, h6, e1⟩ := roll (p := false) (m := q) h1 (by omega) (by omega)
  obtain ⟨j, w, hj, e2⟩ := popAt_of (ws := us) z1 (by omega) (by omega)
  refine ⟨d2, _, _, sh_body hq e1 e2 (by unfold lim; omega), h6, ?_, by simp, fun u hu => h4 u (List.mem_of_mem_eraseIdx hu), fun u hu => ?_⟩
  · have : j < us.length := (List.getElem?_eq_some_iff.mp hj).1
    rw [List.length_eraseIdx_of_lt this]; omega
  · rcases List.mem_append.mp hu with hu | hu
    · exact h5 u hu
    · rw [List.mem_singleton] at hu
      subst hu
      exact h4 _ (List.mem_of_getElem? hj)
theorem sh_p0 {x y z w : Qs.Sl} {ws : List W} : eLst [] [x, .fro (.lst ws), y, z, w] = .ok (.new (.lst []), [x, .fro (.lst ws), y, z, w]) := by
  have hlim : (0 : Nat) ≤ lim := Nat.zero_le _
  simp [hlim]
theorem sh_p1 {x y z w : Qs.Sl} {ws : List W} : (eFn listW [(eVar 1)]) [x, .fro (.lst ws), y, z, w] = .ok (.new (.lst ws), [x, .fro (.lst ws), y, z, w]) := by
  have e3 : listW [.lst ws] = some (.new (.lst ws)) := Eq.trans rfl rfl
  simp [e3]
theorem sh_p2 {x y z w : Qs.Sl} {ws us : List W} : asgL [2, 3] [.new (.lst ws), .new (.lst us)] [x, .fro (.lst ws), y, z, w] = .ok [x, .fro (.lst ws), .own false (.lst ws), .own false (.lst us), w] := by
  simp
theorem sh_p3 {x y z w : Qs.Sl} {ws : List W} : bindB [(eFn listW [(eVar 1)]), (eLst [])] (asgL [2, 3]) [x, .fro (.lst ws), y, z, w] = .ok [x, .fro (.lst ws), .own false (.lst ws), .own false (.lst []), w] := by
  simp only [bindB_cons, bindB_nil, sh_p1, sh_p0, Res.bind_ok, frzB_n, ofO_some]
  exact sh_p2
theorem sh_par {x y z w : Qs.Sl} {ws : List W} : sPar [2, 3] [(eFn listW [(eVar 1)]), (eLst [])] [x, .fro (.lst ws), y, z, w] = .ok (.nx [x, .fro (.lst ws), .own false (.lst ws), .own false (.lst []), w]) := by
  rw [ev_par, sh_p3, Res.bind_ok]
theorem sh_end {d d' ws us F : List W} {p : Bool} {y : Qs.Sl} (e2 : sFor (iArgs rng1 [(eFn lenW [(eVar 1)])]) (asgN 4) f__law_shuffled_1 [.own true (.lst d), .fro (.lst ws), .own false (.lst ws), .own false (.lst []), .un] = .ok (.nx [.own true (.lst d'), .fro (.lst ws), .own false (.lst us), .own false (.lst F), y])) :
    m__law_shuffled [.own p (.lst d), .fro (.lst ws)] = .ok (.new (.lst F), [.own p (.lst d'), .fro (.lst ws)]) := by
  have e0 : startS 5 [.own p (.lst d), .fro (.lst ws)] = [.own true (.lst d), .fro (.lst ws), .un, .un, .un] := rfl
  unfold m__law_shuffled
  rw [ev_callM, e0]
  unfold b__law_shuffled
  rw [ev_seq, sh_par, Res.bind_ok, then_nx, ev_seq, e2, Res.bind_ok, then_nx]
  simp
theorem y_shuffled {n : Nat} {d ws : List W} {p : Bool} (hl : ws.length ≤ 4000) (h : DiceOk (n + ws.length) d) :
    ∃ (us d' : List W), (∀ u ∈ us, u ∈ ws) ∧ DiceOk n d' ∧ m__law_shuffled [.own p (.lst d), .fro (.lst ws)] = .ok (.new (.lst us), [.own p (.lst d'), .fro (.lst ws)]) := by
  obtain ⟨s', e1, d', us, F, y, h1, h2, rfl⟩ := forL_range (g := asgN 4) (fb := f__law_shuffled_1) (n := ws.length) (e := wi) (fun k s => ∃ (d' us F : List W) (x : Qs.Sl), DiceOk (n + (ws.length - k)) d' ∧ (us.length = ws.length - k ∧ F.length = k ∧ (∀ u ∈ us, u ∈ ws) ∧ ∀ u ∈ F, u ∈ ws) ∧ s = [.own true (.lst d'), .fro (.lst ws), .own false (.lst us), .own false (.lst F), x])
    (fun k s hk ⟨d', us, F, x, h1, ⟨h2, h3, h4, h5⟩, es⟩ => by
      subst es
      obtain ⟨d2, us2, F2, e1, f1, f2, f3, f4, f5⟩ := sh_step (n := n + (ws.length - (k + 1))) (k := 0) (m := ws.length - (k + 1)) (d' := d') (us := us) (F := F) (ws := ws) (v := .lst ws) (x := .fro (wi k)) rfl (h1.less (by omega)) (by omega) (by omega) (by omega) h4 h5
      exact ⟨_, _, sh_tg, .inl e1, d2, us2, F2, _, f1, ⟨f2, by omega, f4, f5⟩, rfl⟩)
    (s := [.own true (.lst d), .fro (.lst ws), .own false (.lst ws), .own false (.lst []), .un]) ⟨d, ws, [], .un, h, ⟨rfl, rfl, fun u hu => hu, fun u hu => nomatch hu⟩, rfl⟩
  obtain ⟨_, _, _, h5⟩ := h2
  refine ⟨F, d', h5, h1.less (by omega), sh_end (us := us) (y := y) ?_⟩
  rw [ev_for, sh_rng hl]
  exact e1
end Zk07
namespace Qs
theorem backSl_self : ∀ x : Sl, backSl x x = some x
  | .un => by simp
  | .fro w => by simp
  | .own b w => by simp
theorem back_go (vs : List Nat) : ∀ (s : S) (k : Nat), backS vs k s (wipeS.go vs k s) = some s
  | [], k => rfl
  | x :: s, k => by
    rw [wgo_cons, backS_cons, back_go vs s (k + 1)]
    by_cases h : vs.contains k = true
    · rw [if_pos h]; rfl
    · rw [if_neg h, if_neg h, backSl_self]; rfl
theorem back_self {vs : List Nat} {s : S} : backS vs 0 s (wipeS s vs) = some s := back_go vs s 0
mutual
theorem eqW_self : ∀ (n : Nat) (w : W), datW n w = true → eqW w w = true
  | _, .non, _ => by unfold eqW; rfl
  | _, .bl b, _ => by unfold eqW; cases b <;> rfl
  | _, .int i, _ => by unfold eqW; simp
  | _, .str s, _ => by unfold eqW; simp
  | n + 1, .tup xs, h => by
    unfold eqW
    unfold datW at h
    exact eqWs_self n xs h
  | n + 1, .lst xs, h => by
    unfold eqW
    unfold datW at h
    exact eqWs_self n xs h
  | 0, .tup xs, h => by unfold datW at h; cases h
  | 0, .lst xs, h => by unfold datW at h; cases h
  | n, .dic _ _, h => by cases n <;> (unfold datW at h; cases h)
  | n, .fn _, h => by cases n <;> (unfold datW at h; cases h)
  | n, .cl _, h => by cases n <;> (unfold datW at h; cases h)
  | n, .ty _, h => by cases n <;> (unfold datW at h; cases h)
  | n, .ins _ _, h => by cases n <;> (unfold datW at h; cases h)
  | n, .scr _, h => by cases n <;> (unfold datW at h; cases h)
theorem eqWs_self : ∀ (n : Nat) (ws : List W), ws.all (datW n) = true → eqWs ws ws = true
  | _, [], _ => by unfold eqWs; rfl
  | n, w :: ws, h => by
    rw [List.all_cons, Bool.and_eq_true] at h
    unfold eqWs
    rw [eqW_self n w h.1, eqWs_self n ws h.2]; rfl
end
theorem eqO_self {w : W} (h : datW 60 w = true) : eqO w w = some true := by
  unfold eqO
  rw [h, eqW_self 60 w h]; rfl
end Qs
namespace Zk07
open Qs Rw
theorem allSq_eq {r : List Nat} {n : Nat} : allSq r n = (sqAll r n).map fun p => sqP p.1 p.2 := by
  unfold allSq sqAll
  rw [List.map_flatMap]
  simp only [List.map_map]
  rfl
theorem sqP_D {d : Int} {a : Nat} (h : d ≤ (a : Int)) : sqP a ((a : Int) - d).toNat = sqW d a := by
  unfold sqP sqW
  rw [show ((((a : Int) - d).toNat : Nat) : Int) + 1 = (a : Int) + 1 - d by omega]
theorem sq_filter {r : List Nat} {d : Int} : ((sqAll r r.length).filterMap fun p => if decide ((p.1 : Int) + 1 - ((p.2 : Int) + 1) = d) = true then some (sqP p.1 p.2) else none) = (sqs r d).map (sqW d) := by
  have e2 : ∀ l : List (Nat × Nat), (l.filterMap fun p => if decide ((p.1 : Int) + 1 - ((p.2 : Int) + 1) = d) = true then some (sqP p.1 p.2) else none) = (l.filter fun p => decide ((p.1 : Int) - (p.2 : Int) = d)).map fun p => sqP p.1 p.2 := by
    intro l
    induction l with
    | nil => rfl
    | cons p l ih =>
      have : ((p.1 : Int) + 1 - ((p.2 : Int) + 1) = d) ↔ ((p.1 : Int) - (p.2 : Int) = d) := by omega
      have hd : decide ((p.1 : Int) + 1 - ((p.2 : Int) + 1) = d) = decide ((p.1 : Int) - (p.2 : Int) = d) := decide_eq_decide.mpr this
      rw [List.filterMap_cons, List.filter_cons, hd]
      by_cases h : (p.1 : Int) - (p.2 : Int) = d <;> simp [h] <;> simpa using ih
  rw [e2, sq_diag, List.map_map]
  unfold sqs
  apply List.map_congr_left
  intro a ha
  have h1 := (List.mem_filter.mp ha).2
  unfold onD at h1
  rw [Bool.and_eq_true, decide_eq_true_eq] at h1
  exact sqP_D h1.1
theorem dg2_turn {s0 s1 s2 s3 x5 x6 x8 x9 x10 : Qs.Sl} {dg p q : Int} {t : Bool} (ht : t = decide (p - q = dg)) : turnT (asgN 7) c__law_right_2_t c__law_right_2_e [7] (.tup [.int p, .int q]) [s0, s1, s2, s3, .fro (.int dg), x5, x6, .un, x8, x9, x10] =
    .ok (if t = true then some (.tup [.int p, .int q]) else none, [s0, s1, s2, s3, .fro (.int dg), x5, x6, .un, x8, x9, x10]) := by
  subst ht
  have e0 : L2.atI [W.int p, W.int q] 0 = some (.int p) := rfl
  have e1 : L2.atI [W.int p, W.int q] 1 = some (.int q) := rfl
  by_cases h : p - q = dg <;> simp [turnT, c__law_right_2_t, c__law_right_2_e, e0, e1, h]
theorem dg2 {r : List Nat} (hr : ∀ x ∈ r, x ≤ 200) (hl : r.length ≤ 20) {s0 s1 s2 x5 x6 x7 x8 x9 x10 : Qs.Sl} {dg : Int} :
    c__law_right_2 [s0, s1, s2, .fro (.lst (allSq r r.length)), .fro (.int dg), x5, x6, x7, x8, x9, x10] = .ok (.new (.lst ((sqs r dg).map (sqW dg))), [s0, s1, s2, .fro (.lst (allSq r r.length)), .fro (.int dg), x5, x6, x7, x8, x9, x10]) := by
  unfold c__law_right_2
  rw [← sq_filter]
  refine lc_map (sqAll r r.length) (fun p => sqP p.1 p.2) _ ?_ ?_ back_self fun p hp => ?_
  · rw [← allSq_eq]
    exact iv_of (r := .fro (.lst (allSq r r.length))) (s1 := [s0, s1, s2, .fro (.lst (allSq r r.length)), .fro (.int dg), x5, x6, x7, x8, x9, x10]) (by simp) rfl rfl
  · have := allSq_len hr r.length
    rw [allSq_eq, List.length_map] at this
    omega
  · have := dg2_turn (s0 := s0) (s1 := s1) (s2 := s2) (s3 := .fro (.lst (allSq r r.length))) (x5 := x5) (x6 := x6) (x8 := x8) (x9 := x9) (x10 := x10) (dg := dg) (p := (p.1 : Int) + 1) (q := (p.2 : Int) + 1) rfl
    simpa [sqP] using this
end Zk07
namespace Zk07
open Qs Rw
theorem sqs_len {r : List Nat} {d : Int} : (sqs r d).length ≤ r.length := by
  have := List.length_filter_le (onD r d) (List.range r.length)
  rw [List.length_range] at this
  exact this
theorem dg3_turn {s0 s3 s4 x5 x6 x7 x10 : Qs.Sl} {ws us : List W} {p q x y : Int} (e1 : L2.atI ws (p - 1) = some (.int x)) (e2 : L2.atI us (q - 1) = some (.int y)) :
    turnT (gTupW [(asgN 8), (asgN 9)]) (blE true) c__law_right_3_e [8, 9] (.tup [.int p, .int q]) [s0, .fro (.tup ws), .fro (.tup us), s3, s4, x5, x6, x7, .un, .un, x10] =
    .ok (some (.int (x - y)), [s0, .fro (.tup ws), .fro (.tup us), s3, s4, x5, x6, x7, .un, .un, x10]) := by
  simp [turnT, c__law_right_3_e, e1, e2]
theorem dg4_turn {s0 s2 s3 s4 x5 x6 x7 x10 : Qs.Sl} {ws : List W} {p q x : Int} (e1 : L2.atI ws (p - 1) = some (.int x)) :
    turnT (gTupW [(asgN 8), (asgN 9)]) (blE true) c__law_right_4_e [8, 9] (.tup [.int p, .int q]) [s0, .fro (.tup ws), s2, s3, s4, x5, x6, x7, .un, .un, x10] =
    .ok (some (.int x), [s0, .fro (.tup ws), s2, s3, s4, x5, x6, x7, .un, .un, x10]) := by
  simp [turnT, c__law_right_4_e, e1]
theorem dg5_turn {s0 s1 s3 s4 x5 x6 x7 x10 : Qs.Sl} {us : List W} {p q y : Int} (e2 : L2.atI us (q - 1) = some (.int y)) :
    turnT (gTupW [(asgN 8), (asgN 9)]) (blE true) c__law_right_5_e [8, 9] (.tup [.int p, .int q]) [s0, s1, .fro (.tup us), s3, s4, x5, x6, x7, .un, .un, x10] =
    .ok (some (.int y), [s0, s1, .fro (.tup us), s3, s4, x5, x6, x7, .un, .un, x10]) := by
  simp [turnT, c__law_right_5_e, e2]
theorem dg6_turn {s0 s1 s2 s3 s4 x5 x6 x7 x8 x9 : Qs.Sl} {x : Int} :
    turnT (asgN 10) (blE true) c__law_right_6_e [10] (.int x) [s0, s1, s2, s3, s4, x5, x6, x7, x8, x9, .un] =
    .ok (some (.int (0 - x)), [s0, s1, s2, s3, s4, x5, x6, x7, x8, x9, .un]) := by
  simp [turnT, c__law_right_6_e]
theorem at_col {r : List Nat} (h : Fal r) {d : Int} {a : Nat} (q : onD r d a = true) : L2.atI ((tr r).map wi) ((a : Int) + 1 - d - 1) = some (.int ((tr r).getD ((a : Int) - d).toNat 0 : Nat)) := by
  obtain ⟨h1, _, _⟩ := onD_facts q
  have hc := col_lt h q
  rw [show (a : Int) + 1 - d - 1 = ((((a : Int) - d).toNat : Nat) : Int) by omega, at_nat, List.getElem?_map, List.getD_eq_getElem?_getD, List.getElem?_eq_getElem hc]
  rfl
section
variable {r : List Nat} (h : Row r) {s0 s3 s4 x6 x7 x8 x9 x10 : Qs.Sl} {d : Int}
include h
theorem dg3 : c__law_right_3 [s0, .fro (wr r), .fro (wr (tr r)), s3, s4, .own false (.lst ((sqs r d).map (sqW d))), x6, x7, x8, x9, x10] =
    .ok (.new (.lst ((sqs r d).map fun a => .int (hkD r d a))), [s0, .fro (wr r), .fro (wr (tr r)), s3, s4, .fro (.lst ((sqs r d).map (sqW d))), x6, x7, x8, x9, x10]) := by
  have hl := h.len
  have hs := sqs_len (r := r) (d := d)
  unfold c__law_right_3
  refine lc_all (s1 := [s0, .fro (wr r), .fro (wr (tr r)), s3, s4, .fro (.lst ((sqs r d).map (sqW d))), x6, x7, x8, x9, x10]) (sqs r d) (sqW d) (fun a => .int (hkD r d a)) ?_ (by omega) back_self fun a ha => ?_
  · exact iv_of (r := .bor 5) (s1 := [s0, .fro (wr r), .fro (wr (tr r)), s3, s4, .own false (.lst ((sqs r d).map (sqW d))), x6, x7, x8, x9, x10]) (by simp) rfl rfl
  · have q := (List.mem_filter.mp ha).2
    obtain ⟨h1, h2, h3⟩ := onD_facts q
    exact dg3_turn (at_wr h2) (at_col h.fal q)
theorem dg4 : c__law_right_4 [s0, .fro (wr r), .fro (wr (tr r)), s3, s4, .fro (.lst ((sqs r d).map (sqW d))), x6, x7, x8, x9, x10] =
    .ok (.new (.lst (((sqs r d).map fun a => ((r.getD a 0 : Nat) : Int)).map W.int)), [s0, .fro (wr r), .fro (wr (tr r)), s3, s4, .fro (.lst ((sqs r d).map (sqW d))), x6, x7, x8, x9, x10]) := by
  have hl := h.len
  have hs := sqs_len (r := r) (d := d)
  unfold c__law_right_4
  rw [List.map_map]
  refine lc_all (s1 := [s0, .fro (wr r), .fro (wr (tr r)), s3, s4, .fro (.lst ((sqs r d).map (sqW d))), x6, x7, x8, x9, x10]) (sqs r d) (sqW d) _ ?_ (by omega) back_self fun a ha => ?_
  · exact iv_of (r := .fro (.lst ((sqs r d).map (sqW d)))) (s1 := [s0, .fro (wr r), .fro (wr (tr r)), s3, s4, .fro (.lst ((sqs r d).map (sqW d))), x6, x7, x8, x9, x10]) (by simp) rfl rfl
  · have q := (List.mem_filter.mp ha).2
    obtain ⟨h1, h2, h3⟩ := onD_facts q
    exact dg4_turn (at_wr h2)
theorem dg5 : c__law_right_5 [s0, .fro (wr r), .fro (wr (tr r)), s3, s4, .fro (.lst ((sqs r d).map (sqW d))), x6, x7, x8, x9, x10] =
    .ok (.new (.lst (((sqs r d).map fun a : Nat => (((tr r).getD ((a : Int) - d).toNat 0 : Nat) : Int)).map W.int)), [s0, .fro (wr r), .fro (wr (tr r)), s3, s4, .fro (.lst ((sqs r d).map (sqW d))), x6, x7, x8, x9, x10]) := by
  have hl := h.len
  have hs := sqs_len (r := r) (d := d)
  unfold c__law_right_5
  rw [List.map_map]
  refine lc_all (s1 := [s0, .fro (wr r), .fro (wr (tr r)), s3, s4, .fro (.lst ((sqs r d).map (sqW d))), x6, x7, x8, x9, x10]) (sqs r d) (sqW d) _ ?_ (by omega) back_self fun a ha => ?_
  · exact iv_of (r := .fro (.lst ((sqs r d).map (sqW d)))) (s1 := [s0, .fro (wr r), .fro (wr (tr r)), s3, s4, .fro (.lst ((sqs r d).map (sqW d))), x6, x7, x8, x9, x10]) (by simp) rfl rfl
  · have q := (List.mem_filter.mp ha).2
    exact dg5_turn (at_col h.fal q)
theorem dg6 {s1 s2 s5 : Qs.Sl} : c__law_right_6 [s0, s1, s2, s3, s4, s5, .fro (.tup ((sqs r d).map fun a => .int (hkD r d a))), x7, x8, x9, x10] =
    .ok (.new (.lst ((sqs r d).map fun a => .int (0 - hkD r d a))), [s0, s1, s2, s3, s4, s5, .fro (.tup ((sqs r d).map fun a => .int (hkD r d a))), x7, x8, x9, x10]) := by
  have hl := h.len
  have hs := sqs_len (r := r) (d := d)
  unfold c__law_right_6
  refine lc_all (s1 := [s0, s1, s2, s3, s4, s5, .fro (.tup ((sqs r d).map fun a => .int (hkD r d a))), x7, x8, x9, x10]) (sqs r d) (fun a => .int (hkD r d a)) _ ?_ (by omega) back_self fun a ha => dg6_turn
  exact iv_of (r := .fro (.tup ((sqs r d).map fun a => .int (hkD r d a)))) (s1 := [s0, s1, s2, s3, s4, s5, .fro (.tup ((sqs r d).map fun a => .int (hkD r d a))), x7, x8, x9, x10]) (by simp) rfl rfl
/-- the turned row's differences -/
theorem hk_turn : ((sqs (tr r) (0 - d)).map fun b => W.int (hkD (tr r) (0 - d) b)) = (sqs r d).map fun a => W.int (0 - hkD r d a) := by
  rw [sqs_tr h.fal, List.map_map]
  apply List.map_congr_left
  intro a ha
  have := (sqs_mem.mp ha).1
  show W.int (hkD (tr r) (0 - d) ((a : Int) - d).toNat) = W.int (0 - hkD r d a)
  congr 1
  unfold hkD
  rw [tr_tr h.fal h.pos, show (((((a : Int) - d).toNat : Nat) : Int) - (0 - d)).toNat = a by omega]
  omega
theorem row_falls : ((sqs r d).map fun a => ((r.getD a 0 : Nat) : Int)).Pairwise (· ≥ ·) := by
  rw [List.pairwise_map]
  refine sqs_pw.imp fun {a b} hab => ?_
  have := fal_get h.fal (Nat.le_of_lt hab)
  omega
theorem col_falls : ((sqs r d).map fun a : Nat => (((tr r).getD ((a : Int) - d).toNat 0 : Nat) : Int)).Pairwise (· ≥ ·) := by
  rw [List.pairwise_map]
  refine sqs_pw.imp fun {a b} hab => ?_
  have := fal_get (tr_fal (r := r)) (show ((a : Int) - d).toNat ≤ ((b : Int) - d).toNat by omega)
  omega
end
end Zk07
namespace Zk07
open Qs Rw
theorem eq_sqs {l : List Nat} {d : Int} : eqO (.tup (l.map (sqW d))) (.tup (l.map (sqW d))) = some true := by
  refine eqO_self ?_
  show (l.map (sqW d)).all (datW 59) = true
  rw [List.all_map, List.all_eq_true]
  intro x _
  rfl
theorem eq_ints {l : List Nat} {f : Nat → Int} : eqO (.tup (l.map fun a => W.int (f a))) (.tup (l.map fun a => W.int (f a))) = some true := by
  refine eqO_self ?_
  show (l.map fun a => W.int (f a)).all (datW 59) = true
  rw [List.all_map, List.all_eq_true]
  intro x _
  rfl
theorem dg_all {r : List Nat} (h : Row r) (ht : Row (tr r)) (hl : r.length ≤ 20) {s0 x5 x6 x7 x8 x9 x10 : Qs.Sl} {dg : Int} (hd : -200 ≤ dg) (hd2 : dg ≤ 200) :
    f__law_right_1 [s0, .fro (wr r), .fro (wr (tr r)), .fro (.lst (allSq r r.length)), .fro (.int dg), x5, x6, x7, x8, x9, x10] =
    .ok (.nx [s0, .fro (wr r), .fro (wr (tr r)), .fro (.lst (allSq r r.length)), .fro (.int dg), .fro (.lst ((sqs r dg).map (sqW dg))), .fro (.tup ((sqs r dg).map fun a => .int (hkD r dg a))), x7, x8, x9, x10]) := by
  have hs := sqs_len (r := r) (d := dg)
  have e1 := x_hook_differences ht (d := 0 - dg) (by omega) (by omega)
  rw [hk_turn h] at e1
  have e2 := y_fall (row_falls h (d := dg)) (by rw [List.length_map]; omega)
  have e3 := y_fall (col_falls h (d := dg)) (by rw [List.length_map]; omega)
  have e4 := eq_ints (l := sqs r dg) (f := fun a => 0 - hkD r dg a)
  simp only [Int.zero_sub] at e1 e4
  simp [-List.map_map, -List.getD_eq_getElem?_getD, f__law_right_1, dg2 h.top hl, dg3 h, dg4 h, dg5 h, dg6 h, x_squares_on h hd hd2, x_hook_differences h hd hd2, e1, e2, e3, e4, eq_sqs, eq_ints]
theorem r7_all {s0 s3 s4 x5 x6 x7 x10 : Qs.Sl} {ws us : List W} {p q x y : Int} (e1 : L2.atI ws (p - 1) = some (.int x)) (e2 : L2.atI us (q - 1) = some (.int y))
    (e3 : m_hook_difference [.fro (.tup ws), .fro (.int p), .fro (.int q)] = .ok (.fro (.int (x - y)), [.fro (.tup ws), .fro (.int p), .fro (.int q)]))
    (e4 : m_hook_difference [.fro (.tup us), .fro (.int q), .fro (.int p)] = .ok (.fro (.int (y - x)), [.fro (.tup us), .fro (.int q), .fro (.int p)])) :
    f__law_right_7 [s0, .fro (.tup ws), .fro (.tup us), s3, s4, x5, x6, x7, .fro (.int p), .fro (.int q), x10] =
    .ok (.nx [s0, .fro (.tup ws), .fro (.tup us), s3, s4, x5, x6, x7, .fro (.int p), .fro (.int q), x10]) := by
  simp [f__law_right_7, e1, e2, e3, e4]
theorem r7_tg {s0 s1 s2 s3 s4 x5 x6 x7 x8 x9 x10 : Qs.Sl} {u v : W} : gTupW [(asgN 8), (asgN 9)] (.fro (.tup [u, v])) [s0, s1, s2, s3, s4, x5, x6, x7, x8, x9, x10] = .ok [s0, s1, s2, s3, s4, x5, x6, x7, .fro u, .fro v, x10] := by
  simp
theorem r7_row {r : List Nat} (h : Row r) (ht : Row (tr r)) {s0 s3 s4 x5 x6 x7 x10 : Qs.Sl} {a b : Nat} (ha : a < r.length) (hb : b < r.getD a 0) :
    f__law_right_7 [s0, .fro (wr r), .fro (wr (tr r)), s3, s4, x5, x6, x7, .fro (.int ((a : Int) + 1)), .fro (.int ((b : Int) + 1)), x10] =
    .ok (.nx [s0, .fro (wr r), .fro (wr (tr r)), s3, s4, x5, x6, x7, .fro (.int ((a : Int) + 1)), .fro (.int ((b : Int) + 1)), x10]) := by
  have h1 := (turn_sq h.fal).mp hb
  have hb2 : b < (tr r).length := by
    rcases Nat.lt_or_ge b (tr r).length with z | z
    · exact z
    · rw [getD_ge (by omega)] at h1; exact absurd h1 (Nat.not_lt_zero _)
  have e4 := x_hook_difference ht hb2 h1
  rw [tr_tr h.fal h.pos] at e4
  exact r7_all (at_wr ha) (at_wr hb2) (x_hook_difference h ha hb) e4
end Zk07
namespace Zk07
open Qs Rw
theorem l1_tg {s0 s1 s2 s3 s4 x5 x6 x7 x8 x9 x10 : Qs.Sl} {u : W} : asgN 4 (.fro u) [s0, s1, s2, s3, s4, x5, x6, x7, x8, x9, x10] = .ok [s0, s1, s2, s3, .fro u, x5, x6, x7, x8, x9, x10] := by
  simp
theorem lp1 {r : List Nat} (h : Row r) (ht : Row (tr r)) (hl : r.length ≤ 20) {s0 : Qs.Sl} :
    ∃ x4 x5 x6 : Qs.Sl, sFor (iArgs rng2 [(eNeg (eCst (.int 10))), (eCst (.int 11))]) (asgN 4) f__law_right_1 [s0, .fro (wr r), .fro (wr (tr r)), .fro (.lst (allSq r r.length)), .un, .un, .un, .un, .un, .un, .un] =
    .ok (.nx [s0, .fro (wr r), .fro (wr (tr r)), .fro (.lst (allSq r r.length)), x4, x5, x6, .un, .un, .un, .un]) := by
  obtain ⟨s', e1, x4, x5, x6, rfl⟩ := forL_range (g := asgN 4) (fb := f__law_right_1) (n := 21) (e := fun i => .int (-10 + (i : Nat) * 1)) (fun k s => ∃ x4 x5 x6 : Qs.Sl, s = [s0, .fro (wr r), .fro (wr (tr r)), .fro (.lst (allSq r r.length)), x4, x5, x6, .un, .un, .un, .un])
    (fun k s hk ⟨x4, x5, x6, es⟩ => by
      subst es
      exact ⟨_, _, l1_tg, .inl (dg_all h ht hl (by omega) (by omega)), _, _, _, rfl⟩)
    (s := [s0, .fro (wr r), .fro (wr (tr r)), .fro (.lst (allSq r r.length)), .un, .un, .un, .un, .un, .un, .un]) ⟨.un, .un, .un, rfl⟩
  refine ⟨x4, x5, x6, ?_⟩
  have e2 : iArgs rng2 [(eNeg (eCst (.int 10))), (eCst (.int 11))] [s0, .fro (wr r), .fro (wr (tr r)), .fro (.lst (allSq r r.length)), .un, .un, .un, .un, .un, .un, .un] = .ok (rngL (-10) 1 21, [s0, .fro (wr r), .fro (wr (tr r)), .fro (.lst (allSq r r.length)), .un, .un, .un, .un, .un, .un, .un]) := by
    have := rng2_of (i := -10) (j := 11) (by decide) (by decide) (by decide) (by decide)
    simp at this
    simp [this]
  rw [ev_for, e2]
  exact e1
theorem lp2 {r : List Nat} (h : Row r) (ht : Row (tr r)) (hl : r.length ≤ 20) (hm : ∀ x ∈ r, x ≤ 20) {n : Nat} {d : List W} (hd : DiceOk (n + 400) d) {x4 x5 x6 : Qs.Sl} :
    ∃ (d' : List W) (x8 x9 : Qs.Sl), DiceOk n d' ∧ sFor (iVal (eSl (eCall m__law_shuffled [(eVar 0), (eVar 3)]) none (some (eCst (.int 6))))) (gTupW [(asgN 8), (asgN 9)]) f__law_right_7 [.own true (.lst d), .fro (wr r), .fro (wr (tr r)), .fro (.lst (allSq r r.length)), x4, x5, x6, .un, .un, .un, .un] =
    .ok (.nx [.own true (.lst d'), .fro (wr r), .fro (wr (tr r)), .fro (.lst (allSq r r.length)), x4, x5, x6, .un, x8, x9, .un]) := by
  have hlen : (allSq r r.length).length ≤ 400 := by
    rw [allSq_eq, List.length_map, sqAll_len']
    have : ∀ l : List Nat, (∀ x ∈ l, x ≤ 20) → l.sum ≤ 20 * l.length := by
      intro l
      induction l with
      | nil => intro _; simp
      | cons x l ih =>
        intro hx
        have h1 := ih fun y hy => hx y (List.mem_cons_of_mem _ hy)
        have h2 := hx x List.mem_cons_self
        simp only [List.sum_cons, List.length_cons]
        omega
    have := this r hm
    omega
  obtain ⟨us, d', h1, h2, e1⟩ := y_shuffled (n := n) (p := false) (d := d) (ws := allSq r r.length) (by omega) (hd.less (by omega))
  obtain ⟨s', e2, _, x8, x9, rfl⟩ := forL_inv (g := gTupW [(asgN 8), (asgN 9)]) (fb := f__law_right_7) (fun ws s => (∀ u ∈ ws, u ∈ allSq r r.length) ∧ ∃ x8 x9 : Qs.Sl, s = [.own true (.lst d'), .fro (wr r), .fro (wr (tr r)), .fro (.lst (allSq r r.length)), x4, x5, x6, .un, x8, x9, .un])
    (fun w ws s ⟨hw, x8, x9, es⟩ => by
      subst es
      have hw0 := hw w List.mem_cons_self
      rw [allSq_eq] at hw0
      obtain ⟨p, hp, rfl⟩ := List.mem_map.mp hw0
      obtain ⟨ha, hb⟩ := sqAll_mem hp
      exact ⟨_, _, r7_tg, .inl (r7_row h ht ha hb), fun u hu => hw u (List.mem_cons_of_mem _ hu), _, _, rfl⟩)
    (us.take 6) [.own true (.lst d'), .fro (wr r), .fro (wr (tr r)), .fro (.lst (allSq r r.length)), x4, x5, x6, .un, .un, .un, .un] ⟨fun u hu => h1 u (List.mem_of_mem_take hu), .un, .un, rfl⟩
  refine ⟨d', x8, x9, h2, ?_⟩
  have e3 : iVal (eSl (eCall m__law_shuffled [(eVar 0), (eVar 3)]) none (some (eCst (.int 6)))) [.own true (.lst d), .fro (wr r), .fro (wr (tr r)), .fro (.lst (allSq r r.length)), x4, x5, x6, .un, .un, .un, .un] =
      .ok (us.take 6, [.own true (.lst d'), .fro (wr r), .fro (wr (tr r)), .fro (.lst (allSq r r.length)), x4, x5, x6, .un, .un, .un, .un]) := by
    have hc : cutG us none (some 6) = us.take 6 := cut_to (n := 6)
    refine iv_of (r := .new (.lst (us.take 6))) (s1 := [.own true (.lst d'), .fro (wr r), .fro (wr (tr r)), .fro (.lst (allSq r r.length)), x4, x5, x6, .un, .un, .un, .un]) ?_ rfl rfl
    simp [e1, hc]
  rw [ev_for, e3]
  exact e2
theorem y_right {n : Nat} {d : List W} {p : Bool} (hd : DiceOk (n + 1000) d) : ∃ d', DiceOk n d' ∧ m__law_right [.own p (.lst d)] = .ok (.fro (.bl true), [.own p (.lst d')]) := by
  obtain ⟨r, d1, h, hl, hm, h1, e1⟩ := y_row_drawn (n := n + 900) (l := 8) (m := 9) (p := false) (by omega) (by omega) (by omega) (hd.less (by omega))
  have hh : r.headD 0 ≤ 9 := by
    cases r with
    | nil => exact Nat.zero_le _
    | cons y r => exact hm y List.mem_cons_self
  have ht : Row (tr r) := by
    rcases h.tr with z | z
    · exact z
    · omega
  have e1 : m__law_row_drawn [.own false (.lst d), .fro (.int 8), .fro (.int 9)] = .ok (.fro (wr r), [.own false (.lst d1), .fro (.int 8), .fro (.int 9)]) := e1
  obtain ⟨x4, x5, x6, e2⟩ := lp1 h ht (by omega) (s0 := .own true (.lst d1))
  obtain ⟨d2, x8, x9, h2, e3⟩ := lp2 h ht (by omega) (fun x hx => by have := hm x hx; omega) (n := n) (d := d1) (h1.less (by omega)) (x4 := x4) (x5 := x5) (x6 := x6)
  refine ⟨d2, h2, ?_⟩
  have e4 := x_turned ht
  rw [tr_tr h.fal h.pos] at e4
  have e5 := x_size_of ht
  rw [sum_tr h.fal] at e5
  have e6 : (allSq r r.length).length = r.sum := by rw [allSq_eq, List.length_map, sqAll_len']
  have e7 : eqO (.tup (r.map wi)) (.tup (r.map wi)) = some true := by rw [eqO_wr]; simp
  have e8 := eq_ints (l := sqs r 0) (f := hkD r 0)
  have hlim : (2 : Nat) ≤ lim := by unfold lim; omega
  simp [m__law_right, b__law_right, ev_callM, startS, -ev_for, e1, y_turned_row h, y_rw_squares h, x_turned h, e4, x_size_of h, e5, sum_wr, e6, x_ranks h, y_ranks h, x_hook_differences h (show (-200 : Int) ≤ 0 by omega) (show (0 : Int) ≤ 200 by omega), e2, e3, e8, hlim]
end Zk07
namespace Qs
@[simp] theorem abs_of {i : Int} : absW [.int i] = some (.fro (.int (if i < 0 then -i else i))) := Eq.trans rfl rfl
@[simp] theorem int_bl {b : Bool} : intW [.bl b] = some (.fro (.int (if b then 1 else 0))) := Eq.trans rfl rfl
end Qs
namespace Zk07
open Qs Rw
theorem dice0 {sc : W} {k c A B C M l r x y z : Int} (h1 : powW (.int 10) (.int 16) = some (.fro (.int A))) (h2 : powW (.int 10) (.int 56) = some (.fro (.int B))) (h3 : powW (.int 10) (.int 60) = some (.fro (.int C)))
    (h4 : mulW (.int B) (.int C) = some (.fro (.int M))) (hM : 0 < M) (ha : (if c < 0 then -c else c) = l) (hm : (if A < l then l - A else 0) = r) (h5 : mulW (.int (l % 1152921504606846869)) (.int 67) = some (.fro (.int x)))
    (h6 : mulW (.int 1013) (.int k) = some (.fro (.int y))) (h7 : mulW (.int 47) (.int (if decide (c < 0) = true then 1 else 0)) = some (.fro (.int z)))
    (e1 : (eIf (eCmp .Lt (eVar 1) (eFn lenW [(eVar 0)])) (eFn intW [(eIx (eVar 0) (eVar 1))]) (eBin .Add (eBin .Mult (eCst (.int 97)) (eVar 1)) (eCst (.int 61)))) [.fro sc, .fro (.int k), .un, .un] = .ok (.fro (.int c), [.fro sc, .fro (.int k), .un, .un])) :
    m__law_dice [.fro sc, .fro (.int k)] = .ok (.new (.lst [.int (r % M), .int (x + y + z + 19), .int 0]), [.fro sc, .fro (.int k)]) := by
  have hlim : (3 : Nat) ≤ lim := by unfold lim; omega
  simp only [decide_eq_true_eq] at h7
  simp [m__law_dice, b__law_dice, ev_callM, startS, -ev_if, -pow_int, -mul_int, e1, h1, h2, h3, h4, hM, ha, hm, h5, h6, h7, hlim]
theorem dice_in {ns : List Int} {k : Nat} (h : k < ns.length) {x y : Qs.Sl} : (eIf (eCmp .Lt (eVar 1) (eFn lenW [(eVar 0)])) (eFn intW [(eIx (eVar 0) (eVar 1))]) (eBin .Add (eBin .Mult (eCst (.int 97)) (eVar 1)) (eCst (.int 61)))) [.fro (.scr (ns.map W.int)), .fro (wi k), x, y] = .ok (.fro (.int ns[k]), [.fro (.scr (ns.map W.int)), .fro (wi k), x, y]) := by
  have e : L2.atI (ns.map W.int) ((k : Nat) : Int) = some (.int ns[k]) := by
    rw [at_nat, List.getElem?_map, List.getElem?_eq_getElem h]; rfl
  simp [wi, h, e]
theorem dice_out {ws : List W} {k q v : Int} (hq : (ws.length : Int) = q) (h : ¬ k < q) (hm : mulW (.int 97) (.int k) = some (.fro (.int v))) {x y : Qs.Sl} : (eIf (eCmp .Lt (eVar 1) (eFn lenW [(eVar 0)])) (eFn intW [(eIx (eVar 0) (eVar 1))]) (eBin .Add (eBin .Mult (eCst (.int 97)) (eVar 1)) (eCst (.int 61)))) [.fro (.scr ws), .fro (.int k), x, y] = .ok (.fro (.int (v + 61)), [.fro (.scr ws), .fro (.int k), x, y]) := by
  simp [-mul_int, hq, h, hm]
theorem mul_some {i j : Int} (hi : i.natAbs < 2 ^ 300) (hj : j.natAbs < 2 ^ 300) : mulW (.int i) (.int j) = some (.fro (.int (i * j))) := by
  rw [mul_int, mulOk_of hi hj]; rfl
def dM : Int := 10 ^ 116
theorem dM_pos : 0 < dM := by decide +kernel
theorem d_16 : powW (.int 10) (.int 16) = some (.fro (.int (10 ^ 16))) := by kernel_rfl
theorem d_56 : powW (.int 10) (.int 56) = some (.fro (.int (10 ^ 56))) := by kernel_rfl
theorem d_60 : powW (.int 10) (.int 60) = some (.fro (.int (10 ^ 60))) := by kernel_rfl
theorem d_M : mulW (.int (10 ^ 56)) (.int (10 ^ 60)) = some (.fro (.int dM)) := by kernel_rfl
theorem dice1 {sc : W} {k c : Int} (hk : 0 ≤ k) (hk2 : k ≤ 1000)
    (e1 : (eIf (eCmp .Lt (eVar 1) (eFn lenW [(eVar 0)])) (eFn intW [(eIx (eVar 0) (eVar 1))]) (eBin .Add (eBin .Mult (eCst (.int 97)) (eVar 1)) (eCst (.int 61)))) [.fro sc, .fro (.int k), .un, .un] = .ok (.fro (.int c), [.fro sc, .fro (.int k), .un, .un])) :
    ∃ d, DiceOk 100000 d ∧ m__law_dice [.fro sc, .fro (.int k)] = .ok (.new (.lst d), [.fro sc, .fro (.int k)]) := by
  generalize hl : (if c < 0 then -c else c) = l
  have hl0 : 0 ≤ l := by split at hl <;> omega
  have hn := Int.emod_nonneg l (show (1152921504606846869 : Int) ≠ 0 by decide)
  have hn2 := Int.emod_lt_of_pos l (show (0 : Int) < 1152921504606846869 by decide)
  have m1 := mul_some (small_abs hn (by omega)) (j := 67) (small_abs (by decide) (by decide))
  have m2 := mul_some (i := 1013) (j := k) (small_abs (by decide) (by decide)) (small_abs hk (by omega))
  have m3 := mul_some (i := 47) (j := if decide (c < 0) = true then 1 else 0) (small_abs (by decide) (by decide)) (by split <;> exact small_abs (by decide) (by decide))
  exact ⟨_, ⟨_, _, _, rfl, Int.emod_nonneg _ (Int.ne_of_gt dM_pos), Int.le_refl _, by decide⟩, dice0 d_16 d_56 d_60 d_M dM_pos hl rfl m1 m2 m3 e1⟩
theorem y_dice {ns : List Int} {k : Nat} (hk : k ≤ 1000) : ∃ d, DiceOk 100000 d ∧ m__law_dice [.fro (.scr (ns.map W.int)), .fro (wi k)] = .ok (.new (.lst d), [.fro (.scr (ns.map W.int)), .fro (wi k)]) := by
  by_cases h : k < ns.length
  · exact dice1 (by omega) (by omega) (dice_in h)
  · refine dice1 (by omega) (by omega) (dice_out (q := (ns.length : Int)) (by simp) (by omega) (mul_some (small_abs (by decide) (by decide)) (small_abs (by omega) (by omega))))
end Zk07
namespace Zk07
open Qs Rw
theorem law_step {sc : W} {k : W} {d0 d1 d2 : List W} {x2 x3 : Qs.Sl} (e1 : m__law_dice [.fro sc, .fro k] = .ok (.new (.lst d0), [.fro sc, .fro k])) (e2 : m__law_right [.own false (.lst d0)] = .ok (.fro (.bl true), [.own false (.lst d1)])) (e3 : m__law_right [.own false (.lst d1)] = .ok (.fro (.bl true), [.own false (.lst d2)])) :
    f_law_1 [.fro sc, .fro k, x2, x3] = .ok (.nx [.fro sc, .fro k, .own false (.lst d2), x3]) := by
  simp [f_law_1, e1, e2, e3]
theorem law_tail : ∃ T : SS, b_law = sSeq (sFor (iArgs rng1 [(eFn max2W [(eCst (.int 1)), (eFn min2W [(eCst (.int 3)), (eFn lenW [(eVar 0)])])])]) (asgN 1) f_law_1) T ∧
    ∀ (ws : List W) (x1 x2 : Qs.Sl), T [.fro (.scr ws), x1, x2, .un] = .ok (.rt (.fro (.bl true)) [.fro (.scr ws), x1, x2, .own false (.lst [.int 3, .int (-2), .tup [.tup [.int 1, .int 2]]])]) :=
  ⟨_, rfl, fun ws x1 x2 => by kernel_rfl⟩
theorem law_rng {ws l : List W} {q m : Int} {s1 s2 s3 : Qs.Sl} (hq : (ws.length : Int) = q) (hm : (if (if q < 3 then q else 3) > 1 then (if q < 3 then q else 3) else 1) = m) (e : rng1 [.int m] = some l) :
    iArgs rng1 [(eFn max2W [(eCst (.int 1)), (eFn min2W [(eCst (.int 3)), (eFn lenW [(eVar 0)])])])] [.fro (.scr ws), s1, s2, s3] = .ok (l, [.fro (.scr ws), s1, s2, s3]) := by
  have hm' : (if 1 < (if q < 3 then q else 3) then (if q < 3 then q else 3) else 1) = m := hm
  simp [hq, hm', e]
theorem tg_law {s0 s1 s2 s3 : Qs.Sl} {w : W} : asgN 1 (.fro w) [s0, s1, s2, s3] = .ok [s0, .fro w, s2, s3] := by
  simp
theorem y_law {ns : List Int} : ∃ as', m_law [.fro (.scr (ns.map W.int))] = .ok (.fro (.bl true), as') := by
  obtain ⟨T, eT, hT⟩ := law_tail
  obtain ⟨m, hm⟩ : ∃ m : Nat, (if (if ((ns.map W.int).length : Int) < 3 then ((ns.map W.int).length : Int) else 3) > 1 then (if ((ns.map W.int).length : Int) < 3 then ((ns.map W.int).length : Int) else 3) else 1) = (m : Int) ∧ m ≤ 3 := by
    by_cases h : ((ns.map W.int).length : Int) < 3
    · rw [if_pos h]
      split
      · exact ⟨(ns.map W.int).length, rfl, by omega⟩
      · exact ⟨1, rfl, by omega⟩
    · rw [if_neg h]
      exact ⟨3, rfl, by omega⟩
  obtain ⟨s', e1, x1, x2, rfl⟩ := forL_range (g := asgN 1) (fb := f_law_1) (n := m) (e := wi) (fun k s => ∃ x1 x2 : Qs.Sl, s = [.fro (.scr (ns.map W.int)), x1, x2, .un])
    (fun k s hk ⟨x1, x2, es⟩ => by
      subst es
      obtain ⟨d, h1, e1⟩ := y_dice (ns := ns) (k := k) (by omega)
      obtain ⟨d1, h2, e2⟩ := y_right (n := 2000) (p := false) (h1.less (by omega))
      obtain ⟨d2, h3, e3⟩ := y_right (n := 1000) (p := false) (h2.less (by omega))
      exact ⟨_, _, tg_law, .inl (law_step e1 e2 e3), _, _, rfl⟩)
    (s := [.fro (.scr (ns.map W.int)), .un, .un, .un]) ⟨.un, .un, rfl⟩
  have e2 : sFor (iArgs rng1 [(eFn max2W [(eCst (.int 1)), (eFn min2W [(eCst (.int 3)), (eFn lenW [(eVar 0)])])])]) (asgN 1) f_law_1 [.fro (.scr (ns.map W.int)), .un, .un, .un] = .ok (.nx [.fro (.scr (ns.map W.int)), x1, x2, .un]) := by
    rw [ev_for, law_rng rfl hm.1 (rng1_wi (n := m) (by omega))]
    exact e1
  have e0 : startS 4 [.fro (.scr (ns.map W.int))] = [.fro (.scr (ns.map W.int)), .un, .un, .un] := rfl
  unfold m_law
  rw [ev_callM, e0, eT, ev_seq, e2, Res.bind_ok, then_nx, hT]
  exact ⟨_, rfl⟩
end Zk07
theorem PySem.Challenge.cw_hookstrips_k07_whole_turned_rows_and_dif_holds : PySem.Challenge.rw_hookstrips_k07_whole_turned_rows_and_dif.Holds :=
  Zk07.close fun _ _ => Zk07.y_law
