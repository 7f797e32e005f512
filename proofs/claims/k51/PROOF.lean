import PyProof.Rows.All
import Wide.All
import OpenK.AllK
import Wide.FinOn
import HandS.ForMost
import HandS.Flow
import HandS.Wide
import HandS.IsInst
import HandS.Deep
import HandS.SortInts
import HandS.TupAny
import HandS.Gcd
import HandS.RevRange
import HandS.Style
import HandS.Conv
import HandS.More
import PySem.Challenge.RW_hallsemptied_k51_whole_first_beats_of_sm
set_option Elab.async false
set_option linter.all false
set_option maxRecDepth 100000
set_option maxHeartbeats 1000000
namespace Pv
open PySem PySem.Spec PyProof.Rows L2

/-! answers of the plain evaluator -/
inductive R (α : Type) where
  | ok (a : α)
  | exc (c : Nat)
  | no
def R.bind {α β : Type} : R α → (α → R β) → R β
  | .ok a, f => f a
  | .exc c, _ => .exc c
  | .no, _ => .no
instance : Monad R where
  pure := R.ok
  bind := R.bind
@[simp] theorem R.ok_bind {α β : Type} (a : α) (f : α → R β) : (R.ok a >>= f) = f a := rfl
@[simp] theorem R.exc_bind {α β : Type} (c : Nat) (f : α → R β) : ((R.exc c : R α) >>= f) = R.exc c := rfl
@[simp] theorem R.no_bind {α β : Type} (f : α → R β) : ((R.no : R α) >>= f) = R.no := rfl
@[simp] theorem R.pure_eq {α : Type} (a : α) : (pure a : R α) = R.ok a := rfl

abbrev D := PyData

/-! ownership -/
inductive Own where
  | bw | sh | itm
  | lst (o : Own)
  | tn
  | tc (o r : Own)
  deriving DecidableEq

def mask (H : Hp) (O : Addr → Bool) : Hp := fun a => if O a = true then none else H a
def add (O : Addr → Bool) (A : List Addr) : Addr → Bool := fun a => O a || decide (a ∈ A)
theorem mask_some {H : Hp} {O : Addr → Bool} {a : Addr} {o : HO} : mask H O a = some o ↔ O a = false ∧ H a = some o := by
  unfold mask
  cases h : O a <;> simp
theorem mask_of {H : Hp} {O : Addr → Bool} {a : Addr} {o : HO} (h0 : O a = false) (h : H a = some o) : mask H O a = some o := mask_some.mpr ⟨h0, h⟩
theorem mask_le {H : Hp} {O : Addr → Bool} : Same (mask H O) H := fun _ _ h => (mask_some.mp h).2
theorem mask_mono {H H' : Hp} {O O' : Addr → Bool} (s : Same H H') (h : ∀ a, O' a = true → O a = true ∨ H a = none) : Same (mask H O) (mask H' O') := fun a o e => by
  obtain ⟨e0, e1⟩ := mask_some.mp e
  refine mask_of ?_ (s a o e1)
  cases q : O' a with
  | false => rfl
  | true =>
    rcases h a q with z | z
    · rw [z] at e0; cases e0
    · rw [z] at e1; cases e1
theorem mask_none {H : Hp} {O : Addr → Bool} (h : ∀ a, O a = false) : mask H O = H := by
  funext a
  unfold mask
  rw [h a]
  rfl
theorem add_true {O : Addr → Bool} {A : List Addr} {a : Addr} : add O A a = true ↔ O a = true ∨ a ∈ A := by
  unfold add
  rw [Bool.or_eq_true, decide_eq_true_eq]
theorem add_nil {O : Addr → Bool} : add O [] = O := by
  funext a
  unfold add
  simp

theorem Same.seqT {K : PySem.W.Frag} {H H' : Hp} {a : Addr} {xs : List V} (e : Same H H') (h : SqT K H a xs) : SqT K H' a xs := by
  rcases h with (h | ⟨o, h⟩) | h
  · exact .inl (.inl (e _ _ h))
  · exact .inl (.inr ⟨o, e _ _ h⟩)
  · exact .inr h

mutual
theorem dp_mono {K : PySem.W.Frag} {H H' : Hp} (s : Same H H') : ∀ (d : D) (v : V), Dp K H v d → Dp K H' v d
  | .none, _, h => by cases h; exact .non
  | .bool _, _, h => by cases h; exact .bl _
  | .int _, _, h => by cases h; exact .int _
  | .str _, _, h => by cases h; exact .str _
  | .list ds, _, h => by
    cases h with
    | lst h1 h2 => exact .lst (Same.seq s h1) (dpAll_mono s ds _ h2)
  | .tuple ds, _, h => by
    cases h with
    | tup h1 h2 => exact .tup (Same.seqT s h1) (dpAll_mono s ds _ h2)
  | .dict _, _, h => by cases h
theorem dpAll_mono {K : PySem.W.Frag} {H H' : Hp} (s : Same H H') : ∀ (ds : List D) (vs : List V), DpAll K H vs ds → DpAll K H' vs ds
  | [], _, h => by cases h; exact .nil
  | d :: ds, _, h => by
    cases h with
    | cons h1 h2 => exact .cons (dp_mono s d _ h1) (dpAll_mono s ds _ h2)
end

def flatD : D → Bool
  | .none | .bool _ | .int _ | .str _ => true
  | _ => false
theorem dp_flat {K : PySem.W.Frag} {H H' : Hp} {v : V} : ∀ {d : D}, flatD d = true → Dp K H v d → Dp K H' v d
  | .none, _, h => by cases h; exact .non
  | .bool _, _, h => by cases h; exact .bl _
  | .int _, _, h => by cases h; exact .int _
  | .str _, _, h => by cases h; exact .str _

/-! how a value bears data -/
mutual
inductive Rp (K : PySem.W.Frag) (H : Hp) (O : Addr → Bool) : V → D → Own → List Addr → Prop
  | bw {v : V} {d : D} : Dp K H v d → Rp K H O v d .bw []
  | sh {v : V} {d : D} : Dp K (mask H O) v d → Rp K H O v d .sh []
  | flat {v : V} {d : D} {o : Own} : flatD d = true → Dp K H v d → Rp K H O v d o []
  | itmL {a : Addr} {xs : List V} {ds : List D} : SqL K H a xs → DpAll K (mask H O) xs ds → Rp K H O (.ref a) (.list ds) .itm []
  | itmT {a : Addr} {xs : List V} {ds : List D} : SqT K H a xs → DpAll K (mask H O) xs ds → Rp K H O (.ref a) (.tuple ds) .itm []
  | lst {a : Addr} {xs : List V} {ds : List D} {o : Own} {A : List Addr} : H a = some (.lst xs) → O a = true → RpA K H O xs ds o A → Rp K H O (.ref a) (.list ds) (.lst o) (a :: A)
  | tup {a : Addr} {xs : List V} {ds : List D} {o r : Own} {A : List Addr} : H a = some (.tup xs) → RpS K H O xs ds (.tc o r) A → Rp K H O (.ref a) (.tuple ds) (.tc o r) A
inductive RpA (K : PySem.W.Frag) (H : Hp) (O : Addr → Bool) : List V → List D → Own → List Addr → Prop
  | nil {o : Own} : RpA K H O [] [] o []
  | cons {v : V} {vs : List V} {d : D} {ds : List D} {o : Own} {A B : List Addr} : Rp K H O v d o A → RpA K H O vs ds o B → RpA K H O (v :: vs) (d :: ds) o (A ++ B)
inductive RpS (K : PySem.W.Frag) (H : Hp) (O : Addr → Bool) : List V → List D → Own → List Addr → Prop
  | nil : RpS K H O [] [] .tn []
  | cons {v : V} {vs : List V} {d : D} {ds : List D} {o r : Own} {A B : List Addr} : Rp K H O v d o A → RpS K H O vs ds r B → RpS K H O (v :: vs) (d :: ds) (.tc o r) (A ++ B)
end

mutual
theorem Rp.dp {K : PySem.W.Frag} {H : Hp} {O : Addr → Bool} {v : V} {d : D} {o : Own} {A : List Addr} : Rp K H O v d o A → Dp K H v d
  | .bw h => h
  | .sh h => dp_mono mask_le _ _ h
  | .flat _ h => h
  | .itmL h1 h2 => .lst h1 (dpAll_mono mask_le _ _ h2)
  | .itmT h1 h2 => .tup h1 (dpAll_mono mask_le _ _ h2)
  | .lst h1 _ h2 => .lst (.inl (.inl h1)) h2.dp
  | .tup h1 h2 => .tup (.inl (.inl h1)) h2.dp
theorem RpA.dp {K : PySem.W.Frag} {H : Hp} {O : Addr → Bool} {v : List V} {d : List D} {o : Own} {A : List Addr} : RpA K H O v d o A → DpAll K H v d
  | .nil => .nil
  | .cons h1 h2 => .cons h1.dp h2.dp
theorem RpS.dp {K : PySem.W.Frag} {H : Hp} {O : Addr → Bool} {v : List V} {d : List D} {o : Own} {A : List Addr} : RpS K H O v d o A → DpAll K H v d
  | .nil => .nil
  | .cons h1 h2 => .cons h1.dp h2.dp
end

/-! other heap, other owned ones: what is owned here stays, nothing that was free is owned now but what is new -/
mutual
theorem Rp.mono {K : PySem.W.Frag} {H H' : Hp} {O O' : Addr → Bool} (s : Same H H') (ho : ∀ a, O' a = true → O a = true ∨ H a = none) {v : V} {d : D} {o : Own} {A : List Addr} (hA : ∀ a ∈ A, O' a = true) : Rp K H O v d o A → Rp K H' O' v d o A
  | .bw h => .bw (dp_mono s _ _ h)
  | .sh h => .sh (dp_mono (mask_mono s ho) _ _ h)
  | .flat f h => .flat f (dp_flat f h)
  | .itmL h1 h2 => .itmL (Same.seq s h1) (dpAll_mono (mask_mono s ho) _ _ h2)
  | .itmT h1 h2 => .itmT (Same.seqT s h1) (dpAll_mono (mask_mono s ho) _ _ h2)
  | .lst h1 h3 h2 => .lst (s _ _ h1) (hA _ List.mem_cons_self) (RpA.mono s ho (fun a h => hA a (List.mem_cons_of_mem _ h)) h2)
  | .tup h1 h2 => .tup (s _ _ h1) (RpS.mono s ho hA h2)
theorem RpA.mono {K : PySem.W.Frag} {H H' : Hp} {O O' : Addr → Bool} (s : Same H H') (ho : ∀ a, O' a = true → O a = true ∨ H a = none) {v : List V} {d : List D} {o : Own} {A : List Addr} (hA : ∀ a ∈ A, O' a = true) : RpA K H O v d o A → RpA K H' O' v d o A
  | .nil => .nil
  | .cons h1 h2 => .cons (Rp.mono s ho (fun a h => hA a (List.mem_append_left _ h)) h1) (RpA.mono s ho (fun a h => hA a (List.mem_append_right _ h)) h2)
theorem RpS.mono {K : PySem.W.Frag} {H H' : Hp} {O O' : Addr → Bool} (s : Same H H') (ho : ∀ a, O' a = true → O a = true ∨ H a = none) {v : List V} {d : List D} {o : Own} {A : List Addr} (hA : ∀ a ∈ A, O' a = true) : RpS K H O v d o A → RpS K H' O' v d o A
  | .nil => .nil
  | .cons h1 h2 => .cons (Rp.mono s ho (fun a h => hA a (List.mem_append_left _ h)) h1) (RpS.mono s ho (fun a h => hA a (List.mem_append_right _ h)) h2)
end
/-! what a value owns -/
mutual
theorem Rp.owned {K : PySem.W.Frag} {H : Hp} {O : Addr → Bool} {v : V} {d : D} {o : Own} {A : List Addr} : Rp K H O v d o A → ∀ a ∈ A, O a = true ∧ ∃ xs, H a = some (.lst xs)
  | .bw h => fun _ z => nomatch z
  | .sh h => fun _ z => nomatch z
  | .flat f h => fun _ z => nomatch z
  | .itmL h1 h2 => fun _ z => nomatch z
  | .itmT h1 h2 => fun _ z => nomatch z
  | .lst h1 h3 h2 => fun a z => by
    rcases List.mem_cons.mp z with e | e
    · subst e; exact ⟨h3, _, h1⟩
    · exact h2.owned a e
  | .tup h1 h2 => h2.owned
theorem RpA.owned {K : PySem.W.Frag} {H : Hp} {O : Addr → Bool} {v : List V} {d : List D} {o : Own} {A : List Addr} : RpA K H O v d o A → ∀ a ∈ A, O a = true ∧ ∃ xs, H a = some (.lst xs)
  | .nil => fun _ z => nomatch z
  | .cons h1 h2 => fun a z => by
    rcases List.mem_append.mp z with e | e
    · exact h1.owned a e
    · exact h2.owned a e
theorem RpS.owned {K : PySem.W.Frag} {H : Hp} {O : Addr → Bool} {v : List V} {d : List D} {o : Own} {A : List Addr} : RpS K H O v d o A → ∀ a ∈ A, O a = true ∧ ∃ xs, H a = some (.lst xs)
  | .nil => fun _ z => nomatch z
  | .cons h1 h2 => fun a z => by
    rcases List.mem_append.mp z with e | e
    · exact h1.owned a e
    · exact h2.owned a e
end

def fz : Own → Bool
  | .bw | .itm => false
  | .sh | .tn => true
  | .lst o => fz o
  | .tc o r => fz o && fz r
def Dom (H : Hp) (O : Addr → Bool) : Prop := ∀ a, O a = true → ∃ xs, H a = some (.lst xs)
/-! the heap may change at what others own -/
mutual
theorem Rp.keep {K : PySem.W.Frag} {H H' : Hp} {O O' : Addr → Bool} (hd : Dom H O) {v : V} {d : D} {o : Own} {A : List Addr} (s : ∀ a x, H a = some x → (O a = false ∨ a ∈ A) → H' a = some x) (ho : ∀ a, O' a = true → O a = true ∨ H a = none) (hA : ∀ a ∈ A, O' a = true) (hf : fz o = true) : Rp K H O v d o A → Rp K H' O' v d o A
  | .bw h => by cases hf
  | .sh h => by
    refine .sh (dp_mono (fun a x e => ?_) _ _ h)
    obtain ⟨e0, e1⟩ := mask_some.mp e
    refine mask_of ?_ (s a x e1 (.inl e0))
    cases q : O' a with
    | false => rfl
    | true =>
      rcases ho a q with z | z
      · rw [z] at e0; cases e0
      · rw [z] at e1; cases e1
  | .flat f h => .flat f (dp_flat f h)
  | .itmL h1 h2 => by cases hf
  | .itmT h1 h2 => by cases hf
  | .lst (o := o) (A := A) h1 h3 h2 => .lst (s _ _ h1 (.inr List.mem_cons_self)) (hA _ List.mem_cons_self) (RpA.keep hd (fun a x e q => s a x e (q.elim .inl fun q => .inr (List.mem_cons_of_mem _ q))) ho (fun a h => hA a (List.mem_cons_of_mem _ h)) (show fz o = true from hf) h2)
  | .tup (a := a) (o := o) (r := r) h1 h2 => by
    refine .tup (s _ _ h1 (.inl ?_)) (RpS.keep hd s ho hA (show fz (.tc o r) = true from hf) h2)
    cases q : O a with
    | false => rfl
    | true =>
      obtain ⟨xs, e⟩ := hd a q
      rw [h1] at e
      cases e
theorem RpA.keep {K : PySem.W.Frag} {H H' : Hp} {O O' : Addr → Bool} (hd : Dom H O) {v : List V} {d : List D} {o : Own} {A : List Addr} (s : ∀ a x, H a = some x → (O a = false ∨ a ∈ A) → H' a = some x) (ho : ∀ a, O' a = true → O a = true ∨ H a = none) (hA : ∀ a ∈ A, O' a = true) (hf : fz o = true) : RpA K H O v d o A → RpA K H' O' v d o A
  | .nil => .nil
  | .cons h1 h2 => .cons (Rp.keep hd (fun a x e q => s a x e (q.elim .inl fun q => .inr (List.mem_append_left _ q))) ho (fun a h => hA a (List.mem_append_left _ h)) hf h1) (RpA.keep hd (fun a x e q => s a x e (q.elim .inl fun q => .inr (List.mem_append_right _ q))) ho (fun a h => hA a (List.mem_append_right _ h)) hf h2)
theorem RpS.keep {K : PySem.W.Frag} {H H' : Hp} {O O' : Addr → Bool} (hd : Dom H O) {v : List V} {d : List D} {o : Own} {A : List Addr} (s : ∀ a x, H a = some x → (O a = false ∨ a ∈ A) → H' a = some x) (ho : ∀ a, O' a = true → O a = true ∨ H a = none) (hA : ∀ a ∈ A, O' a = true) (hf : fz o = true) : RpS K H O v d o A → RpS K H' O' v d o A
  | .nil => .nil
  | .cons h1 h2 => by
    have hf' := Bool.and_eq_true_iff.mp hf
    exact .cons (Rp.keep hd (fun a x e q => s a x e (q.elim .inl fun q => .inr (List.mem_append_left _ q))) ho (fun a h => hA a (List.mem_append_left _ h)) hf'.1 h1) (RpS.keep hd (fun a x e q => s a x e (q.elim .inl fun q => .inr (List.mem_append_right _ q))) ho (fun a h => hA a (List.mem_append_right _ h)) hf'.2 h2)
end

mutual
theorem Rp.freeze {K : PySem.W.Frag} {H : Hp} {O O' : Addr → Bool} (hd : Dom H O') (ho : ∀ a, O' a = true → O a = true) {v : V} {d : D} {o : Own} {A : List Addr} (hA : ∀ a ∈ A, O' a = false) (hf : fz o = true) : Rp K H O v d o A → Dp K (mask H O') v d
  | .bw h => by cases hf
  | .sh h => dp_mono (mask_mono (Same.refl _) fun a e => .inl (ho a e)) _ _ h
  | .flat f h => dp_flat f h
  | .itmL h1 h2 => by cases hf
  | .itmT h1 h2 => by cases hf
  | .lst (o := o) h1 h3 h2 => .lst (.inl (.inl (mask_of (hA _ List.mem_cons_self) h1))) (RpA.freeze hd ho (fun a h => hA a (List.mem_cons_of_mem _ h)) (show fz o = true from hf) h2)
  | .tup (a := a) h1 h2 => by
    refine .tup (.inl (.inl (mask_of ?_ h1))) (RpS.freeze hd ho hA hf h2)
    cases q : O' a with
    | false => rfl
    | true =>
      obtain ⟨xs, e⟩ := hd a q
      rw [h1] at e
      cases e
theorem RpA.freeze {K : PySem.W.Frag} {H : Hp} {O O' : Addr → Bool} (hd : Dom H O') (ho : ∀ a, O' a = true → O a = true) {v : List V} {d : List D} {o : Own} {A : List Addr} (hA : ∀ a ∈ A, O' a = false) (hf : fz o = true) : RpA K H O v d o A → DpAll K (mask H O') v d
  | .nil => .nil
  | .cons h1 h2 => .cons (Rp.freeze hd ho (fun a h => hA a (List.mem_append_left _ h)) hf h1) (RpA.freeze hd ho (fun a h => hA a (List.mem_append_right _ h)) hf h2)
theorem RpS.freeze {K : PySem.W.Frag} {H : Hp} {O O' : Addr → Bool} (hd : Dom H O') (ho : ∀ a, O' a = true → O a = true) {v : List V} {d : List D} {o : Own} {A : List Addr} (hA : ∀ a ∈ A, O' a = false) (hf : fz o = true) : RpS K H O v d o A → DpAll K (mask H O') v d
  | .nil => .nil
  | .cons h1 h2 => by
    have hf' := Bool.and_eq_true_iff.mp hf
    exact .cons (Rp.freeze hd ho (fun a h => hA a (List.mem_append_left _ h)) hf'.1 h1) (RpS.freeze hd ho (fun a h => hA a (List.mem_append_right _ h)) hf'.2 h2)
end

/-- what can give its items away -/
def itmb : Own → Bool
  | .sh | .itm => true
  | .lst o => fz o
  | .tc o r => fz o && fz r
  | _ => false
/-- the items of a list or tuple, masked -/
def Itm (K : PySem.W.Frag) (H : Hp) (O : Addr → Bool) (v : V) (d : D) : Prop :=
  (flatD d = true ∧ Dp K H v d) ∨ (∃ a xs ds, v = .ref a ∧ d = .list ds ∧ SqL K H a xs ∧ DpAll K (mask H O) xs ds) ∨ ∃ a xs ds, v = .ref a ∧ d = .tuple ds ∧ SqT K H a xs ∧ DpAll K (mask H O) xs ds
theorem Rp.its {K : PySem.W.Frag} {H : Hp} {O O' : Addr → Bool} (hd : Dom H O') (ho : ∀ a, O' a = true → O a = true) {v : V} {d : D} {o : Own} {A : List Addr} (hA : ∀ a ∈ A, O' a = false) (hf : itmb o = true) (h : Rp K H O v d o A) : Itm K H O' v d := by
  cases h with
  | bw h => cases hf
  | sh h =>
    have h := dp_mono (mask_mono (Same.refl _) fun a e => .inl (ho a e)) _ _ h
    cases h with
    | non => exact .inl ⟨rfl, .non⟩
    | bl b => exact .inl ⟨rfl, .bl _⟩
    | int i => exact .inl ⟨rfl, .int _⟩
    | str i => exact .inl ⟨rfl, .str _⟩
    | lst h1 h2 => exact .inr (.inl ⟨_, _, _, rfl, rfl, Same.seq mask_le h1, h2⟩)
    | tup h1 h2 => exact .inr (.inr ⟨_, _, _, rfl, rfl, Same.seqT mask_le h1, h2⟩)
  | flat f h => exact .inl ⟨f, h⟩
  | itmL h1 h2 => exact .inr (.inl ⟨_, _, _, rfl, rfl, h1, dpAll_mono (mask_mono (Same.refl _) fun a e => .inl (ho a e)) _ _ h2⟩)
  | itmT h1 h2 => exact .inr (.inr ⟨_, _, _, rfl, rfl, h1, dpAll_mono (mask_mono (Same.refl _) fun a e => .inl (ho a e)) _ _ h2⟩)
  | lst h1 h3 h2 => exact .inr (.inl ⟨_, _, _, rfl, rfl, .inl (.inl h1), h2.freeze hd ho (fun a h => hA a (List.mem_cons_of_mem _ h)) hf⟩)
  | tup h1 h2 => exact .inr (.inr ⟨_, _, _, rfl, rfl, .inl (.inl h1), RpS.freeze (o := .tc _ _) hd ho hA hf h2⟩)

/-! answers by the heap -/
structure Fresh (H H' : Hp) (A : List Addr) : Prop where
  nd : A.Nodup
  new : ∀ a ∈ A, H a = none
  lst : ∀ a ∈ A, ∃ xs, H' a = some (.lst xs)
theorem Fresh.nil {H H' : Hp} : Fresh H H' [] := ⟨List.nodup_nil, fun _ z => (nomatch z), fun _ z => (nomatch z)⟩
theorem Fresh.elder {H H1 H' : Hp} {A : List Addr} (s : Same H H1) (f : Fresh H1 H' A) : Fresh H H' A := ⟨f.nd, fun a h => s.free (f.new a h), f.lst⟩
def AnsP {α : Type} (W : Nat → Hp → Prop) (H : Hp) (r : R α) (P : Hp → α → Prop) : Prop :=
  match r with
  | .ok d => P H d
  | .exc c => ∀ H', Same H H' → W c H'
  | .no => False
/-- what a value's wish says -/
def Gv (O : Addr → Bool) (o : Own) (Q : V → Hp → Prop) : Hp → D → Prop := fun H d => ∀ v H' A, Same H H' → Fresh H H' A → Rp [] H' (add O A) v d o A → Q v H'
def Gb (Q : Bool → Hp → Prop) : Hp → Bool → Prop := fun H b => ∀ H', Same H H' → Q b H'
def Ga (O : Addr → Bool) (os : Own) (Q : List V → Hp → Prop) : Hp → List D → Prop := fun H ds => ∀ vs H' A, Same H H' → Fresh H H' A → RpS [] H' (add O A) vs ds os A → Q vs H'
def Up {α : Type} (P : Hp → α → Prop) : Prop := ∀ H H1 a, Same H H1 → P H a → P H1 a
theorem Gv.up {O : Addr → Bool} {o : Own} {Q : V → Hp → Prop} : Up (Gv O o Q) := fun _ _ _ s h v H' A s' f r => h v H' A (s.trans s') (f.elder s) r
theorem Gb.up {Q : Bool → Hp → Prop} : Up (Gb Q) := fun _ _ _ s h H' s' => h H' (s.trans s')
theorem Ga.up {O : Addr → Bool} {o : Own} {Q : List V → Hp → Prop} : Up (Ga O o Q) := fun _ _ _ s h v H' A s' f r => h v H' A (s.trans s') (f.elder s) r
theorem AnsP.later {α : Type} {W : Nat → Hp → Prop} {H H1 : Hp} {r : R α} {P : Hp → α → Prop} (u : Up P) (s : Same H H1) (h : AnsP W H r P) : AnsP W H1 r P := by
  cases r with
  | no => exact h
  | exc c => exact fun H' s' => h H' (s.trans s')
  | ok d => exact u _ _ _ s h
theorem AnsP.imp {α : Type} {W : Nat → Hp → Prop} {H : Hp} {r : R α} {P P' : Hp → α → Prop} (h : AnsP W H r P) (i : ∀ a, r = .ok a → P H a → P' H a) : AnsP W H r P' := by
  cases r with
  | no => exact h
  | exc c => exact h
  | ok d => exact i d rfl h

abbrev Ev := List (Option (D × Bool))
def lk : Ev → Nat → Option (D × Bool)
  | [], _ => none
  | x :: _, 0 => x
  | _ :: r, n + 1 => lk r n
def put : Ev → Nat → Option (D × Bool) → Ev
  | [], _, _ => []
  | _ :: r, 0, v => v :: r
  | x :: r, n + 1, v => x :: put r n v

def EnvR (H : Hp) (O : Addr → Bool) (Γ : Nat → Own) (env : Ev) (σ : L2.St) : Prop :=
  ∀ i d b, lk env i = some (d, b) → ∃ v, σ[i]? = some (some v) ∧ (if b = true then Dp [] (mask H O) v d else ∃ A, (∀ a ∈ A, O a = true) ∧ Rp [] H O v d (Γ i) A)

structure Ctx where
  W : Nat → Hp → Prop
  Γ : Nat → Own

structure At (c : Ctx) (H : Hp) (O : Addr → Bool) (env : Ev) (σ : L2.St) : Prop where
  dom : Dom H O
  er : EnvR H O c.Γ env σ
  len : env.length = σ.length

def tE (c : Ctx) (f : Ev → R D) (o : Own) : TE := fun σ H Q => ∃ env O, At c H O env σ ∧ AnsP c.W H (f env) (Gv O o Q)
def tT (c : Ctx) (f : Ev → R Bool) : TT := fun σ H Q => ∃ env O, At c H O env σ ∧ AnsP c.W H (f env) (Gb Q)
def tA (c : Ctx) (f : Ev → R (List D)) (os : Own) : TA := fun σ H Q => ∃ env O, At c H O env σ ∧ AnsP c.W H (f env) (Ga O os Q)

theorem PE.imp {X : Cx} {e : Expr} {t t' : TE} (h : PE X e t) (i : ∀ σ H Q, t' σ H Q → t σ H Q) : PE X e t' := ⟨fun pins s σ H Q I q => h.run pins s σ H Q I (i _ _ _ q)⟩
theorem PT.imp {X : Cx} {e : Expr} {t t' : TT} (h : PT X e t) (i : ∀ σ H Q, t' σ H Q → t σ H Q) : PT X e t' := ⟨fun pins s σ H Q I q => h.run pins s σ H Q I (i _ _ _ q)⟩
theorem PW.imp {X : Cx} {e : Expr} {t t' : TT} (h : PW X e t) (i : ∀ σ H Q, t' σ H Q → t σ H Q) : PW X e t' := ⟨fun w pins s σ H Q I q => h.run w pins s σ H Q I (i _ _ _ q)⟩
theorem PA.imp {X : Cx} {e : List Expr} {t t' : TA} (h : PA X e t) (i : ∀ σ H Q, t' σ H Q → t σ H Q) : PA X e t' := ⟨fun p pins s σ H Q I q => h.run p pins s σ H Q I (i _ _ _ q)⟩
theorem PS.imp {X : Cx} {e : Stmt} {t t' : TS} (h : PS X e t) (i : ∀ D σ H, t' D σ H → t D σ H) : PS X e t' := ⟨fun pins s σ H D I q => h.run pins s σ H D I (i _ _ _ q)⟩
theorem PSs.imp {X : Cx} {e : List Stmt} {t t' : TS} (h : PSs X e t) (i : ∀ D σ H, t' D σ H → t D σ H) : PSs X e t' := ⟨fun pins s σ H D I q => h.run pins s σ H D I (i _ _ _ q)⟩

theorem Dom.mono {H H' : Hp} {O : Addr → Bool} (d : Dom H O) (s : Same H H') : Dom H' O := fun a h => let ⟨xs, e⟩ := d a h; ⟨xs, s _ _ e⟩
theorem Dom.add {H H' : Hp} {O : Addr → Bool} {A : List Addr} (d : Dom H O) (s : Same H H') (f : Fresh H H' A) : Dom H' (add O A) := fun a h => by
  rcases add_true.mp h with h | h
  · exact d.mono s a h
  · exact f.lst a h
theorem add_new {H H' : Hp} {O : Addr → Bool} {A : List Addr} (f : Fresh H H' A) : ∀ a, Pv.add O A a = true → O a = true ∨ H a = none := fun a h => by
  rcases add_true.mp h with h | h
  · exact .inl h
  · exact .inr (f.new a h)
theorem EnvR.mono {H H' : Hp} {O O' : Addr → Bool} {Γ : Nat → Own} {env : Ev} {σ : L2.St} (s : Same H H') (h1 : ∀ a, O' a = true → O a = true ∨ H a = none) (h2 : ∀ a, O a = true → O' a = true) (e : EnvR H O Γ env σ) : EnvR H' O' Γ env σ := fun i d b hl => by
  obtain ⟨v, hv, q⟩ := e i d b hl
  refine ⟨v, hv, ?_⟩
  cases b with
  | true => exact dp_mono (mask_mono s h1) _ _ q
  | false =>
    obtain ⟨A, hA, q⟩ := q
    exact ⟨A, fun a h => h2 a (hA a h), Rp.mono s h1 (fun a h => h2 a (hA a h)) q⟩
theorem At.later {c : Ctx} {H H' : Hp} {O : Addr → Bool} {env : Ev} {σ : L2.St} (a : At c H O env σ) (s : Same H H') : At c H' O env σ :=
  ⟨a.dom.mono s, a.er.mono s (fun _ h => .inl h) fun _ h => h, a.len⟩
theorem At.add {c : Ctx} {H H' : Hp} {O : Addr → Bool} {env : Ev} {σ : L2.St} {A : List Addr} (a : At c H O env σ) (s : Same H H') (f : Fresh H H' A) : At c H' (add O A) env σ :=
  ⟨a.dom.add s f, a.er.mono s (add_new f) fun b h => add_true.mpr (.inl h), a.len⟩
theorem Fresh.disj {H H' : Hp} {O : Addr → Bool} {A : List Addr} (f : Fresh H H' A) (d : Dom H O) : ∀ a ∈ A, O a = false := fun a h => by
  cases q : O a with
  | false => rfl
  | true =>
    obtain ⟨xs, e⟩ := d a q
    rw [f.new a h] at e
    cases e
/-- a temporary: what it owns is given free -/
def Tmp (H : Hp) (O : Addr → Bool) (v : V) (d : D) (o : Own) : Prop := ∃ A, (∀ a ∈ A, O a = false) ∧ Rp [] H (add O A) v d o A
theorem Tmp.later {H H' : Hp} {O : Addr → Bool} {v : V} {d : D} {o : Own} (s : Same H H') (t : Tmp H O v d o) : Tmp H' O v d o := by
  obtain ⟨A, h, r⟩ := t
  exact ⟨A, h, Rp.mono s (fun _ h => .inl h) (fun a h => add_true.mpr (.inr h)) r⟩
theorem Tmp.dp {H : Hp} {O : Addr → Bool} {v : V} {d : D} {o : Own} (t : Tmp H O v d o) : Dp [] H v d := by
  obtain ⟨A, h, r⟩ := t
  exact r.dp
theorem Tmp.fz {H : Hp} {O : Addr → Bool} {v : V} {d : D} {o : Own} (hd : Dom H O) (hf : fz o = true) (t : Tmp H O v d o) : Dp [] (mask H O) v d := by
  obtain ⟨A, h, r⟩ := t
  exact r.freeze hd (fun a h => add_true.mpr (.inl h)) h hf
theorem Tmp.its {H : Hp} {O : Addr → Bool} {v : V} {d : D} {o : Own} (hd : Dom H O) (hf : itmb o = true) (t : Tmp H O v d o) : Itm [] H O v d := by
  obtain ⟨A, h, r⟩ := t
  exact r.its hd (fun a h => add_true.mpr (.inl h)) h hf
/-- one operand, then what follows with it -/
theorem tE_bind {α : Type} {c : Ctx} {f : Ev → R D} {o : Own} {g : D → R α} {σ : L2.St} {H : Hp} {P : Hp → α → Prop} {Q' : V → Hp → Prop}
    {env : Ev} {O : Addr → Bool} (a : At c H O env σ) (u : Up P) (h : AnsP c.W H (f env >>= g) P)
    (k : ∀ d v H1, f env = .ok d → Same H H1 → At c H1 O env σ → Tmp H1 O v d o → AnsP c.W H1 (g d) P → Q' v H1) : tE c f o σ H Q' := by
  refine ⟨env, O, a, ?_⟩
  cases hf : f env with
  | no => rw [hf] at h; exact h
  | exc x => rw [hf] at h; exact h
  | ok d =>
    rw [hf] at h
    exact fun v H1 A s fr r => k d v H1 hf s (a.later s) ⟨A, fr.disj a.dom, r⟩ (AnsP.later u s h)
/-- .. what it owns is kept -/
theorem tE_own {α : Type} {c : Ctx} {f : Ev → R D} {o : Own} {g : D → R α} {σ : L2.St} {H : Hp} {P : Hp → α → Prop} {Q' : V → Hp → Prop}
    {env : Ev} {O : Addr → Bool} (a : At c H O env σ) (h : AnsP c.W H (f env >>= g) P)
    (k : ∀ d v H1 A, f env = .ok d → Same H H1 → Fresh H H1 A → Rp [] H1 (add O A) v d o A → AnsP c.W H (g d) P → Q' v H1) : tE c f o σ H Q' := by
  refine ⟨env, O, a, ?_⟩
  cases hf : f env with
  | no => rw [hf] at h; exact h
  | exc x => rw [hf] at h; exact h
  | ok d =>
    rw [hf] at h
    exact fun v H1 A s fr r => k d v H1 A hf s fr r h
theorem tT_bind {α : Type} {c : Ctx} {f : Ev → R Bool} {g : Bool → R α} {σ : L2.St} {H : Hp} {P : Hp → α → Prop} {Q' : Bool → Hp → Prop}
    {env : Ev} {O : Addr → Bool} (a : At c H O env σ) (u : Up P) (h : AnsP c.W H (f env >>= g) P)
    (k : ∀ d H1, f env = .ok d → Same H H1 → At c H1 O env σ → AnsP c.W H1 (g d) P → Q' d H1) : tT c f σ H Q' := by
  refine ⟨env, O, a, ?_⟩
  cases hf : f env with
  | no => rw [hf] at h; exact h
  | exc x => rw [hf] at h; exact h
  | ok d =>
    rw [hf] at h
    exact fun H1 s => k d H1 hf s (a.later s) (AnsP.later u s h)
theorem tA_bind {α : Type} {c : Ctx} {f : Ev → R (List D)} {o : Own} {g : List D → R α} {σ : L2.St} {H : Hp} {P : Hp → α → Prop} {Q' : List V → Hp → Prop}
    {env : Ev} {O : Addr → Bool} (a : At c H O env σ) (h : AnsP c.W H (f env >>= g) P)
    (k : ∀ d v H1 A, f env = .ok d → Same H H1 → Fresh H H1 A → RpS [] H1 (add O A) v d o A → AnsP c.W H (g d) P → Q' v H1) : tA c f o σ H Q' := by
  refine ⟨env, O, a, ?_⟩
  cases hf : f env with
  | no => rw [hf] at h; exact h
  | exc x => rw [hf] at h; exact h
  | ok d =>
    rw [hf] at h
    exact fun v H1 A s fr r => k d v H1 A hf s fr r h
/-- given without anything owned -/
theorem Gv.give {H H' : Hp} {O : Addr → Bool} {d : D} {o : Own} {Q : V → Hp → Prop} {v : V} (h : Gv O o Q H d) (s : Same H H') (r : Rp [] H' O v d o []) : Q v H' :=
  h v H' [] s Fresh.nil (by rw [add_nil]; exact r)
theorem Gv.flat {H : Hp} {O : Addr → Bool} {d : D} {o : Own} {Q : V → Hp → Prop} {v : V} (h : Gv O o Q H d) (f : flatD d = true) (r : Dp [] H v d) : Q v H := h.give (Same.refl _) (.flat f r)

/-! a new list, a new tuple -/
theorem same_new {H : Hp} {p : Addr} {o : HO} (h : H p = none) : Same H (upd H p o) := fun b x e => by rw [upd_ne (ne_of_none e h)]; exact e
theorem Fresh.one {H : Hp} {p : Addr} {xs : List V} (h : H p = none) : Fresh H (upd H p (.lst xs)) [p] :=
  ⟨List.nodup_cons.mpr ⟨by simp, List.nodup_nil⟩, fun a z => by rw [List.mem_singleton.mp z]; exact h, fun a z => ⟨xs, by rw [List.mem_singleton.mp z]; exact upd_same⟩⟩
theorem Fresh.add {H H1 H' : Hp} {A B : List Addr} (s : Same H H1) (s' : Same H1 H') (f : Fresh H H1 A) (g : Fresh H1 H' B) : Fresh H H' (A ++ B) := by
  refine ⟨List.nodup_append.mpr ⟨f.nd, g.nd, fun a ha b hb e => ?_⟩, fun a h => ?_, fun a h => ?_⟩
  · subst e
    obtain ⟨xs, q⟩ := f.lst a ha
    rw [g.new a hb] at q
    cases q
  · rcases List.mem_append.mp h with h | h
    · exact f.new a h
    · exact s.free (g.new a h)
  · rcases List.mem_append.mp h with h | h
    · obtain ⟨xs, q⟩ := f.lst a h
      exact ⟨xs, s' _ _ q⟩
    · exact g.lst a h
theorem Dom.out {H : Hp} {O : Addr → Bool} {p : Addr} (hd : Dom H O) (h : H p = none) : O p = false := by
  cases q : O p with
  | false => rfl
  | true =>
    obtain ⟨xs, e⟩ := hd p q
    rw [h] at e
    cases e
def newO : Own → Bool
  | .sh => true
  | .lst .sh => true
  | _ => false
theorem rpA_sh {H : Hp} {O : Addr → Bool} : ∀ {ds : List D} {vs : List V}, DpAll [] (mask H O) vs ds → RpA [] H O vs ds .sh []
  | [], _, h => by cases h; exact .nil
  | d :: ds, _, h => by
    cases h with
    | cons h1 h2 => exact .cons (.sh h1) (rpA_sh h2)
/-- a new list of frozen items -/
theorem Gv.newList {H H2 : Hp} {O : Addr → Bool} {ds : List D} {o : Own} {Q : V → Hp → Prop} {p : Addr} {xs : List V} (ho : newO o = true) (hd : Dom H2 O) (s : Same H H2) (h : Gv O o Q H (.list ds)) (hx : DpAll [] (mask H2 O) xs ds) (hp : H2 p = none) :
    Q (.ref p) (upd H2 p (.lst xs)) := by
  have sn : Same H2 (upd H2 p (.lst xs)) := same_new hp
  have o0 : O p = false := hd.out hp
  match o, ho with
  | .sh, _ =>
    refine h.give (s.trans sn) (.sh (.lst (.inl (.inl (mask_of o0 upd_same))) (dpAll_mono (mask_mono sn fun a e => .inl e) _ _ hx)))
  | .lst .sh, _ =>
    refine h _ _ [p] (s.trans sn) ((Fresh.one hp).elder s) (.lst upd_same (add_true.mpr (.inr (List.mem_singleton.mpr rfl))) (rpA_sh (dpAll_mono (mask_mono sn fun a e => ?_) _ _ hx)))
    rcases add_true.mp e with e | e
    · exact .inl e
    · rw [List.mem_singleton.mp e]
      exact .inr hp
theorem Gv.newTup {H H2 : Hp} {O : Addr → Bool} {ds : List D} {Q : V → Hp → Prop} {p : Addr} {xs : List V} (hd : Dom H2 O) (s : Same H H2) (h : Gv O .sh Q H (.tuple ds)) (hx : DpAll [] (mask H2 O) xs ds) (hp : H2 p = none) :
    Q (.ref p) (upd H2 p (.tup xs)) := by
  have sn : Same H2 (upd H2 p (.tup xs)) := same_new hp
  exact h.give (s.trans sn) (.sh (.tup (.inl (.inl (mask_of (hd.out hp) upd_same))) (dpAll_mono (mask_mono sn fun a e => .inl e) _ _ hx)))
/-! lists and tuples that bear data are tracked -/
theorem rd_of {H : Hp} {a : Addr} {xs : List V} (h : SqL [] H a xs) : Rd H a (.lst xs) := by
  rcases h with h | ⟨_, _, _, k, _⟩
  · exact h
  · cases k
theorem rdT_of {H : Hp} {a : Addr} {xs : List V} (h : SqT [] H a xs) : Rd H a (.tup xs) := by
  rcases h with h | ⟨_, _, _, k, _⟩
  · exact h
  · cases k
theorem seq_any {K : PySem.W.Frag} {H : Hp} {a : Addr} {xs : List V} (h : SqL [] H a xs) : SqL K H a xs := .inl (rd_of h)
theorem seqT_any {K : PySem.W.Frag} {H : Hp} {a : Addr} {xs : List V} (h : SqT [] H a xs) : SqT K H a xs := .inl (rdT_of h)
mutual
theorem dp_any {K : PySem.W.Frag} {H : Hp} : ∀ (d : D) (v : V), Dp [] H v d → Dp K H v d
  | .none, _, h => by cases h; exact .non
  | .bool _, _, h => by cases h; exact .bl _
  | .int _, _, h => by cases h; exact .int _
  | .str _, _, h => by cases h; exact .str _
  | .list ds, _, h => by
    cases h with
    | lst h1 h2 => exact .lst (seq_any h1) (dpAll_any ds _ h2)
  | .tuple ds, _, h => by
    cases h with
    | tup h1 h2 => exact .tup (seqT_any h1) (dpAll_any ds _ h2)
  | .dict _, _, h => by cases h
theorem dpAll_any {K : PySem.W.Frag} {H : Hp} : ∀ (ds : List D) (vs : List V), DpAll [] H vs ds → DpAll K H vs ds
  | [], _, h => by cases h; exact .nil
  | d :: ds, _, h => by
    cases h with
    | cons h1 h2 => exact .cons (dp_any d _ h1) (dpAll_any ds _ h2)
end
theorem DpAll.length {K : PySem.W.Frag} {H : Hp} : ∀ {ds : List D} {vs : List V}, DpAll K H vs ds → vs.length = ds.length
  | [], _, h => by cases h; rfl
  | d :: ds, _, h => by
    cases h with
    | cons h1 h2 => simp only [List.length_cons, DpAll.length h2]
theorem DpAll.append {K : PySem.W.Frag} {H : Hp} : ∀ {ds es : List D} {vs us : List V}, DpAll K H vs ds → DpAll K H us es → DpAll K H (vs ++ us) (ds ++ es)
  | [], _, _, _, h, g => by cases h; exact g
  | d :: ds, _, _, _, h, g => by
    cases h with
    | cons h1 h2 => exact .cons h1 (DpAll.append h2 g)
theorem DpAll.get {K : PySem.W.Frag} {H : Hp} : ∀ {ds : List D} {vs : List V} {i : Nat} {d : D}, DpAll K H vs ds → ds[i]? = some d → ∃ v, vs[i]? = some v ∧ Dp K H v d
  | [], _, _, _, h, e => by simp at e
  | d :: ds, _, 0, _, h, e => by
    cases h with
    | cons h1 h2 => simp at e; subst e; exact ⟨_, rfl, h1⟩
  | d :: ds, _, i + 1, _, h, e => by
    cases h with
    | cons h1 h2 =>
      obtain ⟨v, hv, q⟩ := DpAll.get (i := i) h2 (by simpa using e)
      exact ⟨v, by simpa using hv, q⟩
theorem DpAll.take {K : PySem.W.Frag} {H : Hp} : ∀ {ds : List D} {vs : List V} (n : Nat), DpAll K H vs ds → DpAll K H (vs.take n) (ds.take n)
  | _, _, 0, h => .nil
  | [], _, n + 1, h => by cases h; exact .nil
  | d :: ds, _, n + 1, h => by
    cases h with
    | cons h1 h2 => exact .cons h1 (DpAll.take n h2)
theorem DpAll.drop {K : PySem.W.Frag} {H : Hp} : ∀ {ds : List D} {vs : List V} (n : Nat), DpAll K H vs ds → DpAll K H (vs.drop n) (ds.drop n)
  | _, _, 0, h => h
  | [], _, n + 1, h => by cases h; exact .nil
  | d :: ds, _, n + 1, h => by
    cases h with
    | cons h1 h2 => exact DpAll.drop n h2
theorem DpAll.rep {K : PySem.W.Frag} {H : Hp} {ds : List D} {vs : List V} (h : DpAll K H vs ds) : ∀ n, DpAll K H (List.replicate n vs).flatten (List.replicate n ds).flatten
  | 0 => .nil
  | n + 1 => by
    rw [List.replicate_succ, List.replicate_succ, List.flatten_cons, List.flatten_cons]
    exact DpAll.append h (DpAll.rep h n)
theorem DpAll.rev {K : PySem.W.Frag} {H : Hp} : ∀ {ds : List D} {vs : List V}, DpAll K H vs ds → DpAll K H vs.reverse ds.reverse
  | [], _, h => by cases h; exact .nil
  | d :: ds, _, h => by
    cases h with
    | cons h1 h2 =>
      rw [List.reverse_cons, List.reverse_cons]
      exact DpAll.append (DpAll.rev h2) (.cons h1 .nil)
theorem DpAll.ints {K : PySem.W.Frag} {H : Hp} : ∀ {ns : List Int} {vs : List V}, DpAll K H vs (ns.map PyData.int) → vs = ns.map V.int
  | [], _, h => by cases h; rfl
  | d :: ds, _, h => by
    cases h with
    | cons h1 h2 =>
      cases h1
      rw [DpAll.ints h2]
      rfl
theorem DpAll.bls {K : PySem.W.Frag} {H : Hp} : ∀ {ns : List Bool} {vs : List V}, DpAll K H vs (ns.map PyData.bool) → vs = ns.map V.bl
  | [], _, h => by cases h; rfl
  | d :: ds, _, h => by
    cases h with
    | cons h1 h2 =>
      cases h1
      rw [DpAll.bls h2]
      rfl
theorem DpAll.of_ints {K : PySem.W.Frag} {H : Hp} : ∀ ns : List Int, DpAll K H (ns.map V.int) (ns.map PyData.int)
  | [] => .nil
  | n :: ns => .cons (.int n) (DpAll.of_ints ns)
end Pv

namespace Pv
open PySem PySem.Spec PyProof.Rows L2

/-! operators upon data -/
inductive BOp where
  | add | sub | mul | fdiv | mod | pow | shl | shr | band | bor | bxor
  deriving DecidableEq
inductive COp where
  | lt | le | gt | ge | eq | ne | isin | notin | isn | notn
  deriving DecidableEq
def BOp.op : BOp → Operator
  | .add => .Add | .sub => .Sub | .mul => .Mult | .fdiv => .FloorDiv | .mod => .Mod | .pow => .Pow | .shl => .LShift | .shr => .RShift | .band => .BitAnd | .bor => .BitOr | .bxor => .BitXor
def COp.op : COp → CmpOp
  | .lt => .Lt | .le => .LtE | .gt => .Gt | .ge => .GtE | .eq => .Eq | .ne => .NotEq | .isin => .In | .notin => .NotIn | .isn => .Is | .notn => .IsNot

def mulOk (i j : Int) : Bool := (decide (-18446744073709551616 < i) && decide (i < 18446744073709551616)) || (decide (-18446744073709551616 < j) && decide (j < 18446744073709551616))
def powOk (i j : Int) : Bool := decide (0 ≤ j) && decide (j ≤ 1000000) && decide (i.natAbs < 18446744073709551616)
def evBin (op : BOp) (o : Own) (x y : D) : R D :=
  match op, x, y with
  | .add, .int i, .int j => .ok (.int (i + j))
  | .add, .list xs, .list ys => if xs.length + ys.length ≤ 16777216 then .ok (.list (xs ++ ys)) else .no
  | .add, .tuple xs, .tuple ys => if xs.length + ys.length ≤ 16777216 ∧ o = .sh then .ok (.tuple (xs ++ ys)) else .no
  | .add, .str a, .str b => if a.length + b.length ≤ 16777216 then .ok (.str (a ++ b)) else .no
  | .sub, .int i, .int j => .ok (.int (i - j))
  | .mul, .int i, .int j => if mulOk i j = true then .ok (.int (i * j)) else .no
  | .mul, .list xs, .int k => if -9223372036854775808 ≤ k ∧ k < 9223372036854775808 ∧ xs.length * k.toNat ≤ 16777216 then .ok (.list (List.replicate k.toNat xs).flatten) else .no
  | .fdiv, .int i, .int j => if 0 < j ∧ j < 1073741824 then .ok (.int (i / j)) else .no
  | .mod, .int i, .int j => if 0 < j then .ok (.int (i % j)) else .no
  | .pow, .int i, .int j => if powOk i j = true then .ok (.int (i ^ j.toNat)) else .no
  | .shl, .int i, .int j => if powOk i j = true then .ok (.int (i * 2 ^ j.toNat)) else .no
  | .shr, .int i, .int j => if 0 ≤ j then .ok (.int (i / 2 ^ j.toNat)) else .no
  | .band, .int i, .int j => .ok (.int (Builtin.bitAnd i j))
  | .bor, .int i, .int j => .ok (.int (Builtin.bitOr i j))
  | .bxor, .int i, .int j => .ok (.int (Builtin.bitXor i j))
  | _, _, _ => .no
def flats : List D → Bool
  | [] => true
  | d :: ds => flatD d && flats ds
def evIn (x y : D) : R Bool :=
  match y with
  | .list ys => if SeqAt.shaped x = true ∧ SeqAt.shaped (.list ys) = true then .ok (ys.any fun z => PyData.eqv z x) else .no
  | .tuple ys => if flatD x = true ∧ flats ys = true then .ok (ys.any fun z => PyData.eqv z x) else .no
  | .str t => match x with
    | .str s => .ok (!(Builtin.Str.occurrences t s 0 t.length 1).isEmpty)
    | _ => .no
  | _ => .no
def isNone : D → Bool
  | .none => true
  | _ => false
def evCmp (op : COp) (x y : D) : R Bool :=
  match op with
  | .lt => match x, y with | .int i, .int j => .ok (decide (i < j)) | _, _ => .no
  | .le => match x, y with | .int i, .int j => .ok (decide (i ≤ j)) | _, _ => .no
  | .gt => match x, y with | .int i, .int j => .ok (decide (j < i)) | _, _ => .no
  | .ge => match x, y with | .int i, .int j => .ok (decide (j ≤ i)) | _, _ => .no
  | .eq => if SeqAt.shaped x = true ∧ SeqAt.shaped y = true then .ok (PyData.eqv x y) else .no
  | .ne => if SeqAt.shaped x = true ∧ SeqAt.shaped y = true then .ok (!PyData.eqv x y) else .no
  | .isin => evIn x y
  | .notin => evIn x y >>= fun b => .ok (!b)
  | .isn => if isNone y = true then .ok (isNone x) else .no
  | .notn => if isNone y = true then .ok (!isNone x) else .no
def truthD : D → R Bool
  | .none => .ok false
  | .bool b => .ok b
  | .int i => .ok (i != 0)
  | .str s => if s.length ≤ 16777216 then .ok ((s.length : Int) != 0) else .no
  | .list xs => .ok (!xs.isEmpty)
  | .tuple xs => .ok (!xs.isEmpty)
  | .dict _ => .no
def evIdx (x y : D) : R D :=
  match x, y with
  | .list xs, .int i => match atI xs i with | some d => .ok d | none => .no
  | .tuple xs, .int i => match atI xs i with | some d => .ok d | none => .no
  | .str z, .int i => if z.length ≤ 16777216 then (match atI z.cps.toList i with | some c => .ok (.str ⟨#[c]⟩) | none => .no) else .no
  | _, _ => .no
def cutD (xs : List D) (lo hi : Option Int) : List D := (xs.drop (HT.sIx xs.length 0 lo)).take (HT.sIx xs.length xs.length hi - HT.sIx xs.length 0 lo)
def evSl (o : Own) (x : D) (lo hi : Option Int) : R D :=
  match x with
  | .list xs => .ok (.list (cutD xs lo hi))
  | .tuple xs => if o = .sh then .ok (.tuple (cutD xs lo hi)) else .no
  | .str z => if z.length ≤ 16777216 then .ok (.str (cutS z lo hi)) else .no
  | _ => .no

section
variable {X : Cx}

theorem sz : (16777216 : Nat) = sizeLine := sizeLine_eq.symm
theorem itm_dp {H : Hp} {O : Addr → Bool} {v : V} {d : D} (h : Itm [] H O v d) : Dp [] H v d := by
  rcases h with ⟨_, h⟩ | ⟨a, xs, ds, rfl, rfl, h1, h2⟩ | ⟨a, xs, ds, rfl, rfl, h1, h2⟩
  · exact h
  · exact .lst h1 (dpAll_mono mask_le _ _ h2)
  · exact .tup h1 (dpAll_mono mask_le _ _ h2)
theorem rd_mask {H : Hp} {O : Addr → Bool} {a : Addr} {xs : List V} (hd : Dom H O) (h : Rd H a (.tup xs)) : Rd (mask H O) a (.tup xs) := by
  have h0 : O a = false := by
    cases q : O a with
    | false => rfl
    | true =>
      obtain ⟨ys, e⟩ := hd a q
      rcases h with h | ⟨o, h⟩ <;> (rw [e] at h; cases h)
  rcases h with h | ⟨o, h⟩
  · exact .inl (mask_of h0 h)
  · exact .inr ⟨o, mask_of h0 h⟩
theorem itm_tup {H : Hp} {O : Addr → Bool} {v : V} {ds : List D} (hd : Dom H O) (h : Itm [] H O v (.tuple ds)) : Dp [] (mask H O) v (.tuple ds) := by
  rcases h with ⟨h, _⟩ | ⟨a, xs, es, rfl, e, h1, h2⟩ | ⟨a, xs, es, rfl, e, h1, h2⟩
  · cases h
  · cases e
  · cases e
    exact .tup (.inl (rd_mask hd (rdT_of h1))) h2

/-- + of two lists, tracked or known -/
theorem op_catS : OpR X (binaryOp .Add) (fun x y H Q => ∃ l b xs zs, x = .ref l ∧ y = .ref b ∧ SqL [] H l xs ∧ SqL [] H b zs ∧ xs.length + zs.length ≤ sizeLine ∧ ∀ p, H p = none → Q (.ref p) (upd H p (.lst (xs ++ zs)))) := by
  rintro pins s σ H x y v u Q I rx ry ⟨l, b, xs, zs, rfl, rfl, h1, h2, hz, q⟩
  cases rx
  cases ry
  obtain ⟨z1, its, n, r, e⟩ := (rd_of h1).ok I.hok
  obtain ⟨z2, its2, n2, r2, e2⟩ := (rd_of h2).ok I.hok
  have l1 := r.length
  have l2 := r2.length
  refine PySem.P.add_list e e2 ?_ (by simp only [List.size_toArray]; omega)
  have ea : its.toArray ++ its2.toArray = (its ++ its2).toArray := List.append_toArray _ _
  rw [ea]
  exact ⟨.ref _, _, I.lnew (t' := s.toks) (r.append r2) (by simp only [List.length_append]; omega), rfl, q _ I.fresh⟩
/-- a list times an int -/
theorem op_repS : OpR X (binaryOp .Mult) (fun x y H Q => ∃ l k xs, x = .ref l ∧ y = .int k ∧ SqL [] H l xs ∧ -(2 ^ 63) ≤ k ∧ k < 2 ^ 63 ∧ xs.length * k.toNat ≤ sizeLine ∧ ∀ p, H p = none → Q (.ref p) (upd H p (.lst (List.replicate k.toNat xs).flatten))) := by
  rintro pins s σ H x y v u Q I rx ry ⟨l, k, xs, rfl, rfl, hs, h1, h2, hz, q⟩
  cases rx
  obtain ⟨t, rfl⟩ := ry
  obtain ⟨z, its, n, r, e⟩ := (rd_of hs).ok I.hok
  have hl := r.length
  have hlen : its.toArray.size * k.toNat ≤ sizeLine := by simp only [List.size_toArray]; rw [← hl]; exact hz
  have hcap : ¬ its.toArray.size * k.toNat > (2 ^ 63 - 1) / 8 := by
    have : (sizeLine : Nat) ≤ (2 ^ 63 - 1) / 8 := by decide
    omega
  have hfit : ¬ (!Builtin.List.listFitsIndex k) = true := by rw [fitsIndex_both h1 h2]; exact Bool.false_ne_true
  have hlong : ¬ Builtin.List.listTooLong (its.toArray.size * k.toNat) = true := by rw [notLongL hlen]; exact Bool.false_ne_true
  have hnew : List.foldl (fun x1 x2 => x1 ++ x2) #[] (List.replicate (if its.toArray.isEmpty = true then 0 else k.toNat) its.toArray) = (List.replicate k.toNat its).flatten.toArray := by
    have f0 : ∀ m : Nat, List.foldl (fun x1 x2 => x1 ++ x2) #[] (List.replicate m its.toArray) = (List.replicate m its).flatten.toArray := fun m => by
      simpa using foldl_rep its m []
    rw [f0]
    cases its with
    | nil => simp
    | cons a r' => rw [if_neg (by simp)]
  refine wpAny_binaryOp_repeat_ref (T := "list") (U := "int") (by decide) ⟨_, e, rfl⟩ (fun s' => typeIs_int s' k t) noFill_list_mul F.fills_int_mul F.slot_int_rmul repeat_list F.slot_int_index.lookup
    (call_meets F.slot_int_rmul (typeIs_int s k t) F.entry_int_rmul (F.args_int_rmul_2 _ _) (int___rmul___int_list k t l its.toArray n) ⟨e, rfl, ⟨_, e, rfl⟩, ?_⟩)
  refine call_meets F.slot_list_mul ⟨_, e, rfl⟩ F.entry_list_mul (F.args_list_mul_2 _ _) (AutoListH.list___mul___list_int_3 l its.toArray n k t hfit hcap hlong) ⟨e, ?_⟩
  rw [hnew]
  exact ⟨.ref _, _, I.lnew (t' := s.toks) (r.rep k.toNat) (by rw [PyProof.Rows.lm_len_rep_flat, Nat.mul_comm]; exact hz), rfl, q _ I.fresh⟩

def rB (op : BOp) (o : Own) : R2 := fun x y H Q => ∃ d e z O, Dom H O ∧ Itm [] H O x d ∧ Itm [] H O y e ∧ evBin op o d e = .ok z ∧ Gv O o Q H z
theorem flat_out {H : Hp} {O : Addr → Bool} {o : Own} {Q : V → Hp → Prop} {i : Int} (g : Gv O o Q H (.int i)) : Q (.int i) H := g.flat rfl (.int i)
theorem itm_int {H : Hp} {O : Addr → Bool} {v : V} {i : Int} (h : Itm [] H O v (.int i)) : v = .int i := by
  have := itm_dp h
  cases this
  rfl
theorem OpR.mono {f : Value → Value → Sem Value} {r r' : R2} (h : OpR X f r) (i : ∀ x y H Q, r' x y H Q → r x y H Q) : OpR X f r' := fun pins s σ H x y v u Q I rx ry q => h pins s σ H x y v u Q I rx ry (i _ _ _ _ q)
theorem opr_bin {op : BOp} {o : Own} (ho : newO o = true) : OpR X (binaryOp op.op) (rB op o) := by
  intro pins s σ H x y v u Q I rx ry ⟨d, e, z, O, hd, hx, hy, hev, g⟩
  unfold evBin at hev
  split at hev
  · cases hev
    exact op_add pins s σ H x y v u Q I rx ry ⟨_, _, itm_int hx, itm_int hy, flat_out g⟩
  · split at hev
    · rename_i hsz
      cases hev
      rcases hx with ⟨z0, _⟩ | ⟨a, vs, es, rfl, e0, hx1, hx2⟩ | ⟨a, vs, es, rfl, e0, _, _⟩
      · cases z0
      · rcases hy with ⟨z0, _⟩ | ⟨b, us, fs, rfl, e1, hy1, hy2⟩ | ⟨b, us, fs, rfl, e1, _, _⟩
        · cases z0
        · cases e0
          cases e1
          refine op_catS pins s σ H _ _ v u Q I rx ry ⟨a, b, vs, us, rfl, rfl, hx1, hy1, ?_, fun p hp => ?_⟩
          · rw [DpAll.length hx2, DpAll.length hy2, ← sz]
            exact hsz
          · exact g.newList ho hd (Same.refl _) (DpAll.append hx2 hy2) hp
        · cases e1
      · cases e0
    · cases hev
  · split at hev
    · rename_i hsz
      obtain ⟨hsz, eo⟩ := hsz
      subst eo
      cases hev
      have kx := itm_tup hd hx
      have ky := itm_tup hd hy
      cases kx with
      | @tup a vs _ kx1 kx2 =>
        cases ky with
        | @tup b us _ ky1 ky2 =>
          refine op_catA pins s σ H _ _ v u Q I rx ry ⟨a, b, vs, us, rfl, rfl, seqT_any (Same.seqT mask_le kx1), seqT_any (Same.seqT mask_le ky1), ?_, fun z0 => ?_, fun _ z0 => ?_, fun _ _ p hp => ?_⟩
          · rw [DpAll.length kx2, DpAll.length ky2, ← sz]
            exact hsz
          · subst z0
            cases kx2
            exact g.give (Same.refl _) (.sh (.tup ky1 ky2))
          · subst z0
            cases ky2
            rw [List.append_nil] at g
            exact g.give (Same.refl _) (.sh (.tup kx1 kx2))
          · exact g.newTup hd (Same.refl _) (DpAll.append kx2 ky2) hp
    · cases hev
  · split at hev
    · rename_i hsz
      cases hev
      have kx := itm_dp hx
      have ky := itm_dp hy
      cases kx
      cases ky
      exact op_add_str pins s σ H _ _ v u Q I rx ry ⟨_, _, rfl, rfl, by rw [← sz]; exact hsz, g.flat rfl (.str _)⟩
    · cases hev
  · cases hev
    exact op_sub pins s σ H x y v u Q I rx ry ⟨_, _, itm_int hx, itm_int hy, flat_out g⟩
  · split at hev
    · rename_i hm
      cases hev
      refine op_mul pins s σ H x y v u Q I rx ry ⟨_, _, itm_int hx, itm_int hy, ?_, flat_out g⟩
      unfold mulOk at hm
      simp only [Bool.or_eq_true, Bool.and_eq_true, decide_eq_true_eq] at hm
      rcases hm with hm | hm
      · exact .inl (by omega)
      · exact .inr (by omega)
    · cases hev
  · split at hev
    · rename_i hm
      obtain ⟨m1, m2, m3⟩ := hm
      cases hev
      rcases hx with ⟨z0, _⟩ | ⟨a, vs, es, rfl, e0, hx1, hx2⟩ | ⟨a, vs, es, rfl, e0, _, _⟩
      · cases z0
      · cases e0
        refine op_repS pins s σ H _ _ v u Q I rx ry ⟨a, _, vs, rfl, itm_int hy, hx1, by omega, by omega, ?_, fun p hp => ?_⟩
        · rw [DpAll.length hx2, ← sz]
          exact m3
        · exact g.newList ho hd (Same.refl _) (DpAll.rep hx2 _) hp
      · cases e0
    · cases hev
  · split at hev
    · rename_i hm
      cases hev
      exact op_fdiv pins s σ H x y v u Q I rx ry ⟨_, _, itm_int hx, itm_int hy, hm, flat_out g⟩
    · cases hev
  · split at hev
    · rename_i hm
      cases hev
      exact op_mod pins s σ H x y v u Q I rx ry ⟨_, _, itm_int hx, itm_int hy, hm, flat_out g⟩
    · cases hev
  · split at hev
    · rename_i hm
      cases hev
      unfold powOk at hm
      simp only [Bool.and_eq_true, decide_eq_true_eq] at hm
      exact op_pow pins s σ H x y v u Q I rx ry ⟨_, _, itm_int hx, itm_int hy, ⟨hm.1.1, hm.1.2, hm.2⟩, flat_out g⟩
    · cases hev
  · split at hev
    · rename_i hm
      cases hev
      unfold powOk at hm
      simp only [Bool.and_eq_true, decide_eq_true_eq] at hm
      exact op_shl pins s σ H x y v u Q I rx ry ⟨_, _, itm_int hx, itm_int hy, ⟨hm.1.1, hm.1.2, hm.2⟩, flat_out g⟩
    · cases hev
  · split at hev
    · rename_i hm
      cases hev
      exact op_shr pins s σ H x y v u Q I rx ry ⟨_, _, itm_int hx, itm_int hy, hm, flat_out g⟩
    · cases hev
  · cases hev
    exact op_and pins s σ H x y v u Q I rx ry ⟨_, _, itm_int hx, itm_int hy, flat_out g⟩
  · cases hev
    exact op_or pins s σ H x y v u Q I rx ry ⟨_, _, itm_int hx, itm_int hy, flat_out g⟩
  · cases hev
    exact op_xor pins s σ H x y v u Q I rx ry ⟨_, _, itm_int hx, itm_int hy, flat_out g⟩
  · cases hev

/-! comparisons -/
def rC (op : COp) : R2 := fun x y H Q => ∃ d e b, Dp [] H x d ∧ Dp [] H y e ∧ evCmp op d e = .ok b ∧ Q (.bl b) H
theorem flatV_of {H : Hp} {v : V} : ∀ {d : D}, flatD d = true → Dp [] H v d → flatV v = true
  | .none, _, h => by cases h; rfl
  | .bool _, _, h => by cases h; rfl
  | .int _, _, h => by cases h; rfl
  | .str _, _, h => by cases h; rfl
theorem flatVs_of {H : Hp} : ∀ {ds : List D} {vs : List V}, flats ds = true → DpAll [] H vs ds → vs.all flatV = true
  | [], _, _, h => by cases h; rfl
  | d :: ds, _, f, h => by
    cases h with
    | cons h1 h2 =>
      have f' := Bool.and_eq_true_iff.mp f
      rw [List.all_cons, flatV_of f'.1 h1, flatVs_of f'.2 h2]
      rfl
theorem eqV_of {H : Hp} {v u : V} {d e : D} (fd : flatD d = true) (fe : flatD e = true) (h : Dp [] H v d) (g : Dp [] H u e) : eqV v u = PyData.eqv d e := by
  cases h <;> first | cases fd | skip
  all_goals (cases g <;> first | cases fe | skip)
  all_goals rfl
theorem inV_of {H : Hp} {x : V} {d : D} (fd : flatD d = true) (hx : Dp [] H x d) : ∀ {ds : List D} {vs : List V}, flats ds = true → DpAll [] H vs ds → inV x vs = ds.any fun z => PyData.eqv z d
  | [], _, _, h => by cases h; rfl
  | e :: ds, _, f, h => by
    cases h with
    | cons h1 h2 =>
      have f' := Bool.and_eq_true_iff.mp f
      have ih := inV_of fd hx f'.2 h2
      unfold inV at ih ⊢
      rw [List.any_cons, List.any_cons, ih, eqV_of f'.1 fd h1 hx]
theorem dec_non {H : Hp} {x : V} {d : D} (h : Dp [] H x d) : decide (x = .non) = isNone d := by cases h <;> simp [isNone]
theorem opr_cmp {op : COp} (hu : X.A.units + 65 < cLine) : OpR X (compareOp op.op) (rC op) := by
  intro pins s σ H x y v u Q I rx ry ⟨d, e, b, hx, hy, hev, q⟩
  have in_ok : ∀ b, evIn d e = .ok b → (Q (.bl b) H → wpAny (model X.prog X.w) X.A (compareOp .In v u) (EP X pins σ Q) X.xe s) ∧ (Q (.bl (!b)) H → wpAny (model X.prog X.w) X.A (compareOp .NotIn v u) (EP X pins σ Q) X.xe s) := by
    intro b he
    unfold evIn at he
    split at he
    · split at he
      · rename_i hm
        cases he
        exact ⟨fun q => op_inD hu pins s σ H x y v u Q I rx ry ⟨_, _, dp_any _ _ hx, dp_any _ _ hy, hm.1, hm.2, q⟩, fun q => op_notInD hu pins s σ H x y v u Q I rx ry ⟨_, _, dp_any _ _ hx, dp_any _ _ hy, hm.1, hm.2, q⟩⟩
      · cases he
    · split at he
      · rename_i hm
        cases he
        cases hy with
        | @tup a vs _ h1 h2 =>
          have fv := flatV_of hm.1 hx
          have fvs := flatVs_of hm.2 h2
          have ei := inV_of hm.1 hx hm.2 h2
          refine ⟨fun q => op_in_seq pins s σ H x _ v u Q I rx ry ⟨a, vs, rfl, .inr (seqT_any h1), fv, fvs, ?_⟩, fun q => op_notIn_seq pins s σ H x _ v u Q I rx ry ⟨a, vs, rfl, .inr (seqT_any h1), fv, fvs, ?_⟩⟩
          · rw [if_neg Bool.false_ne_true, ei]; exact q
          · rw [if_pos rfl, ei]; exact q
      · cases he
    · split at he
      · cases he
        cases hx
        cases hy
        exact ⟨fun q => op_in_str pins s σ H _ _ v u Q I rx ry ⟨_, _, rfl, rfl, q⟩, fun q => L2.op_notIn_str pins s σ H _ _ v u Q I rx ry ⟨_, _, rfl, rfl, q⟩⟩
      · cases he
    · cases he
  cases op with
  | lt =>
    unfold evCmp at hev
    dsimp only at hev
    split at hev
    · cases hev; cases hx; cases hy
      exact op_lt pins s σ H _ _ v u Q I rx ry ⟨_, _, rfl, rfl, q⟩
    · cases hev
  | le =>
    unfold evCmp at hev
    dsimp only at hev
    split at hev
    · cases hev; cases hx; cases hy
      exact op_le pins s σ H _ _ v u Q I rx ry ⟨_, _, rfl, rfl, q⟩
    · cases hev
  | gt =>
    unfold evCmp at hev
    dsimp only at hev
    split at hev
    · cases hev; cases hx; cases hy
      exact op_gt pins s σ H _ _ v u Q I rx ry ⟨_, _, rfl, rfl, q⟩
    · cases hev
  | ge =>
    unfold evCmp at hev
    dsimp only at hev
    split at hev
    · cases hev; cases hx; cases hy
      exact op_ge pins s σ H _ _ v u Q I rx ry ⟨_, _, rfl, rfl, q⟩
    · cases hev
  | eq =>
    unfold evCmp at hev
    dsimp only at hev
    split at hev
    · rename_i hm
      cases hev
      exact op_eqD (by omega) pins s σ H x y v u Q I rx ry ⟨_, _, dp_any _ _ hx, dp_any _ _ hy, hm.1, hm.2, q⟩
    · cases hev
  | ne =>
    unfold evCmp at hev
    dsimp only at hev
    split at hev
    · rename_i hm
      cases hev
      exact op_neD (by omega) pins s σ H x y v u Q I rx ry ⟨_, _, dp_any _ _ hx, dp_any _ _ hy, hm.1, hm.2, q⟩
    · cases hev
  | isin => exact (in_ok b hev).1 q
  | notin =>
    unfold evCmp at hev
    dsimp only at hev
    cases he : evIn d e with
    | no => rw [he] at hev; cases hev
    | exc c => rw [he] at hev; cases hev
    | ok b' =>
      rw [he] at hev
      cases hev
      exact (in_ok b' he).2 q
  | isn =>
    unfold evCmp at hev
    dsimp only at hev
    split at hev
    · rename_i hm
      cases hev
      cases hy <;> first | cases hm | skip
      exact op_isN pins s σ H x _ v u Q I rx ry ⟨rfl, by rw [dec_non hx]; exact q⟩
    · cases hev
  | notn =>
    unfold evCmp at hev
    dsimp only at hev
    split at hev
    · rename_i hm
      cases hev
      cases hy <;> first | cases hm | skip
      exact op_notN pins s σ H x _ v u Q I rx ry ⟨rfl, by rw [dec_non hx]; exact q⟩
    · cases hev

theorem isEmpty_len {K : PySem.W.Frag} {H : Hp} {ds : List D} {vs : List V} (h : DpAll K H vs ds) : vs.isEmpty = ds.isEmpty := by
  cases ds with
  | nil => cases h; rfl
  | cons d ds => cases h; rfl
theorem tru_of {K : PySem.W.Frag} {H : Hp} {x : V} {d : D} {b : Bool} (h : Dp [] H x d) (e : truthD d = .ok b) : TruV K x H b := by
  cases h with
  | non => cases e; rfl
  | bl b => cases e; rfl
  | int i => cases e; rfl
  | str z =>
    have e : (if z.length ≤ 16777216 then R.ok ((z.length : Int) != 0) else R.no) = R.ok b := e
    split at e
    · rename_i hz
      cases e
      exact ⟨by rw [← sz]; exact hz, rfl⟩
    · cases e
  | lst h1 h2 =>
    cases e
    exact .inl ⟨_, seq_any h1, by rw [isEmpty_len h2]⟩
  | tup h1 h2 =>
    cases e
    exact .inr (.inl ⟨_, seqT_any h1, by rw [isEmpty_len h2]⟩)

/-! subscripts -/
theorem atI_dp {K : PySem.W.Frag} {H : Hp} {ds : List D} {vs : List V} {i : Int} {d : D} (h : DpAll K H vs ds) (e : atI ds i = some d) : ∃ v, atI vs i = some v ∧ Dp K H v d := by
  unfold atI at e ⊢
  rw [DpAll.length h]
  cases q : ixN ds.length i with
  | none => rw [q] at e; cases e
  | some j =>
    rw [q] at e
    exact DpAll.get h e
def rX (o : Own) : R2 := fun x y H Q => ∃ d e z O, Dom H O ∧ Dp [] H x d ∧ (o = .sh → Itm [] H O x d) ∧ Dp [] H y e ∧ evIdx d e = .ok z ∧ Gv O o Q H z
theorem ixr {o : Own} (ho : o = .sh ∨ o = .bw) : IxR X (rX o) := by
  intro value slice pins s σ H x y v u Q I rx ry ⟨d, e, z, O, hd, hx, hx', hy, hev, g⟩ hs
  unfold evIdx at hev
  split at hev
  · split at hev
    · rename_i hi
      cases hev
      cases hy
      cases hx with
      | @lst a vs _ h1 h2 =>
        rcases ho with ho | ho
        · subst ho
          rcases hx' rfl with ⟨z0, _⟩ | ⟨_, us, _, e1, e0, k1, k2⟩ | ⟨_, _, _, _, e0, _, _⟩
          · cases z0
          · cases e0
            cases e1
            obtain ⟨w, hw, kd⟩ := atI_dp k2 hi
            exact ix_list value slice pins s σ H _ _ v u Q I rx ry ⟨a, us, _, w, rfl, rfl, seq_any k1, hw, g.give (Same.refl _) (.sh kd)⟩ hs
          · cases e0
        · subst ho
          obtain ⟨w, hw, kd⟩ := atI_dp h2 hi
          exact ix_list value slice pins s σ H _ _ v u Q I rx ry ⟨a, vs, _, w, rfl, rfl, seq_any h1, hw, g.give (Same.refl _) (.bw kd)⟩ hs
    · cases hev
  · split at hev
    · rename_i hi
      cases hev
      cases hy
      cases hx with
      | @tup a vs _ h1 h2 =>
        rcases ho with ho | ho
        · subst ho
          rcases hx' rfl with ⟨z0, _⟩ | ⟨_, us, _, e1, e0, k1, k2⟩ | ⟨_, us, _, e1, e0, k1, k2⟩
          · cases z0
          · cases e0
          · cases e0
            cases e1
            obtain ⟨w, hw, kd⟩ := atI_dp k2 hi
            exact ix_tup value slice pins s σ H _ _ v u Q I rx ry ⟨a, us, _, w, rfl, rfl, seqT_any k1, hw, g.give (Same.refl _) (.sh kd)⟩ hs
        · subst ho
          obtain ⟨w, hw, kd⟩ := atI_dp h2 hi
          exact ix_tup value slice pins s σ H _ _ v u Q I rx ry ⟨a, vs, _, w, rfl, rfl, seqT_any h1, hw, g.give (Same.refl _) (.bw kd)⟩ hs
    · cases hev
  · split at hev
    · rename_i hz
      split at hev
      · rename_i hi
        cases hev
        cases hy
        cases hx
        exact ix_str value slice pins s σ H _ _ v u Q I rx ry ⟨_, _, _, rfl, rfl, by rw [← sz]; exact hz, hi, g.flat rfl (.str _)⟩ hs
      · cases hev
    · cases hev
  · cases hev

/-! slices -/
theorem cutD_dp {K : PySem.W.Frag} {H : Hp} {ds : List D} {vs : List V} {lo hi : Option Int} (h : DpAll K H vs ds) : DpAll K H (cutV vs lo hi) (cutD ds lo hi) := by
  unfold cutV cutD
  rw [DpAll.length h]
  exact DpAll.take _ (DpAll.drop _ h)
theorem sIx_full (n : Nat) {lo hi : Option Int} (h : HT.sIx n 0 lo = 0 ∧ HT.sIx n n hi = n) (ds : List D) (e : ds.length = n) : cutD ds lo hi = ds := by
  unfold cutD
  rw [e, h.1, h.2]
  simp only [List.drop_zero, Nat.sub_zero]
  exact List.take_of_length_le (by omega)
def rL (o : Own) : V → Option Int → Option Int → Hp → VK → Prop := fun x lo hi H Q => ∃ d z O, Dom H O ∧ Itm [] H O x d ∧ evSl o d lo hi = .ok z ∧ Gv O o Q H z
theorem slr {o : Own} (ho : newO o = true) : SlR X (rL o) := by
  intro pins s σ H x v vl vu lo hi sl Q I rx hs pl pu ⟨d, z, O, hd, hx, hev, g⟩
  unfold evSl at hev
  split at hev
  · cases hev
    rcases hx with ⟨z0, _⟩ | ⟨a, us, es, rfl, e0, k1, k2⟩ | ⟨_, _, _, _, e0, _, _⟩
    · cases z0
    · cases e0
      exact sl_list pins s σ H _ v vl vu lo hi sl Q I rx hs pl pu ⟨a, us, rfl, seq_any k1, fun p hp => g.newList ho hd (Same.refl _) (cutD_dp k2) hp⟩
    · cases e0
  · split at hev
    · rename_i eo
      subst eo
      cases hev
      have kx := itm_tup hd hx
      cases kx with
      | @tup a us _ k1 k2 =>
        refine sl_tupA pins s σ H _ v vl vu lo hi sl Q I rx hs pl pu ⟨a, us, rfl, seqT_any (Same.seqT mask_le k1), fun hw => ?_, fun hw p hp => ?_⟩
        · rw [sIx_full _ hw _ (DpAll.length k2).symm] at g
          exact g.give (Same.refl _) (.sh (.tup k1 k2))
        · exact g.newTup hd (Same.refl _) (cutD_dp k2) hp
    · cases hev
  · split at hev
    · rename_i hz
      cases hev
      have kx := itm_dp hx
      cases kx
      exact sl_str pins s σ H _ v vl vu lo hi sl Q I rx hs pl pu ⟨_, rfl, by rw [← sz]; exact hz, g.flat rfl (.str _)⟩
    · cases hev
  · cases hev
end
end Pv

namespace Pv
open PySem PySem.Spec PyProof.Rows L2

/-! built-in functions upon data -/
inductive Bi where
  | len | int | sum | min | max | abs | all | any | sorted | list | tuple
  deriving DecidableEq
def intsOf : List D → Option (List Int)
  | [] => some []
  | .int i :: r => (intsOf r).map (i :: ·)
  | _ :: _ => none
def blsOf : List D → Option (List Bool)
  | [] => some []
  | .bool i :: r => (blsOf r).map (i :: ·)
  | _ :: _ => none
theorem intsOf_some : ∀ {ds : List D} {ns : List Int}, intsOf ds = some ns → ds = ns.map PyData.int
  | [], _, h => by cases h; rfl
  | .int i :: r, ns, h => by
    have h : (intsOf r).map (i :: ·) = some ns := h
    obtain ⟨ms, e1, e2⟩ := Option.map_eq_some_iff.mp h
    subst e2
    rw [intsOf_some e1]
    rfl
  | .none :: _, _, h | .bool _ :: _, _, h | .str _ :: _, _, h | .list _ :: _, _, h | .tuple _ :: _, _, h | .dict _ :: _, _, h => by cases h
theorem blsOf_some : ∀ {ds : List D} {ns : List Bool}, blsOf ds = some ns → ds = ns.map PyData.bool
  | [], _, h => by cases h; rfl
  | .bool i :: r, ns, h => by
    have h : (blsOf r).map (i :: ·) = some ns := h
    obtain ⟨ms, e1, e2⟩ := Option.map_eq_some_iff.mp h
    subst e2
    rw [blsOf_some e1]
    rfl
  | .none :: _, _, h | .int _ :: _, _, h | .str _ :: _, _, h | .list _ :: _, _, h | .tuple _ :: _, _, h | .dict _ :: _, _, h => by cases h
@[simp] theorem intsOf_map : ∀ ns : List Int, intsOf (ns.map PyData.int) = some ns
  | [] => rfl
  | n :: ns => by
    show (intsOf (ns.map PyData.int)).map (n :: ·) = _
    rw [intsOf_map ns]
    rfl
@[simp] theorem blsOf_map : ∀ ns : List Bool, blsOf (ns.map PyData.bool) = some ns
  | [] => rfl
  | n :: ns => by
    show (blsOf (ns.map PyData.bool)).map (n :: ·) = _
    rw [blsOf_map ns]
    rfl
def minL : Int → List Int → Int
  | a, [] => a
  | a, b :: r => minL (if b < a then b else a) r
def maxL : Int → List Int → Int
  | a, [] => a
  | a, b :: r => maxL (if a < b then b else a) r
theorem minL_le : ∀ (r : List Int) (a : Int), minL a r ≤ a ∧ ∀ y ∈ r, minL a r ≤ y
  | [], a => ⟨Int.le_refl a, fun _ h => (nomatch h)⟩
  | b :: r, a => by
    obtain ⟨h1, h2⟩ := minL_le r (if b < a then b else a)
    show minL (if b < a then b else a) r ≤ a ∧ ∀ y ∈ b :: r, minL (if b < a then b else a) r ≤ y
    refine ⟨?_, fun y hy => ?_⟩
    · split at h1 <;> (rename_i hc; first | rw [if_pos hc] | rw [if_neg hc]) <;> omega
    · rcases List.mem_cons.mp hy with e | e
      · subst e
        split at h1 <;> (rename_i hc; first | rw [if_pos hc] | rw [if_neg hc]) <;> omega
      · exact h2 y e
theorem minL_mem : ∀ (r : List Int) (a : Int), minL a r ∈ a :: r
  | [], a => List.mem_cons_self
  | b :: r, a => by
    have h := minL_mem r (if b < a then b else a)
    show minL (if b < a then b else a) r ∈ a :: b :: r
    rcases List.mem_cons.mp h with e | e
    · rw [e]
      split <;> simp
    · exact List.mem_cons_of_mem _ (List.mem_cons_of_mem _ e)
theorem le_maxL : ∀ (r : List Int) (a : Int), a ≤ maxL a r ∧ ∀ y ∈ r, y ≤ maxL a r
  | [], a => ⟨Int.le_refl a, fun _ h => (nomatch h)⟩
  | b :: r, a => by
    obtain ⟨h1, h2⟩ := le_maxL r (if a < b then b else a)
    show a ≤ maxL (if a < b then b else a) r ∧ ∀ y ∈ b :: r, y ≤ maxL (if a < b then b else a) r
    refine ⟨?_, fun y hy => ?_⟩
    · split at h1 <;> (rename_i hc; first | rw [if_pos hc] | rw [if_neg hc]) <;> omega
    · rcases List.mem_cons.mp hy with e | e
      · subst e
        split at h1 <;> (rename_i hc; first | rw [if_pos hc] | rw [if_neg hc]) <;> omega
      · exact h2 y e
theorem maxL_mem : ∀ (r : List Int) (a : Int), maxL a r ∈ a :: r
  | [], a => List.mem_cons_self
  | b :: r, a => by
    have h := maxL_mem r (if a < b then b else a)
    show maxL (if a < b then b else a) r ∈ a :: b :: r
    rcases List.mem_cons.mp h with e | e
    · rw [e]
      split <;> simp
    · exact List.mem_cons_of_mem _ (List.mem_cons_of_mem _ e)
/-- sorted ints -/
def insI (x : Int) : List Int → List Int
  | [] => [x]
  | y :: r => if x ≤ y then x :: y :: r else y :: insI x r
def sortI : List Int → List Int
  | [] => []
  | x :: r => insI x (sortI r)
theorem insI_perm (x : Int) : ∀ r : List Int, (insI x r).Perm (x :: r)
  | [] => .refl _
  | y :: r => by
    unfold insI
    split
    · exact .refl _
    · exact .trans (.cons y (insI_perm x r)) (.swap x y r)
theorem sortI_perm : ∀ r : List Int, (sortI r).Perm r
  | [] => .refl _
  | x :: r => .trans (insI_perm x _) (.cons x (sortI_perm r))
theorem insI_pw (x : Int) : ∀ {r : List Int}, r.Pairwise (· ≤ ·) → (insI x r).Pairwise (· ≤ ·)
  | [], _ => List.pairwise_singleton _ _
  | y :: r, h => by
    unfold insI
    split
    · rename_i hc
      refine .cons (fun z hz => ?_) h
      rcases List.mem_cons.mp hz with e | e
      · omega
      · have := (List.pairwise_cons.mp h).1 z e
        omega
    · rename_i hc
      refine .cons (fun z hz => ?_) (insI_pw x (List.pairwise_cons.mp h).2)
      rcases List.mem_cons.mp ((insI_perm x r).mem_iff.mp hz) with e | e
      · omega
      · exact (List.pairwise_cons.mp h).1 z e
theorem sortI_pw : ∀ r : List Int, (sortI r).Pairwise (· ≤ ·)
  | [] => .nil
  | x :: r => insI_pw x (sortI_pw r)
theorem sortI_eq {a b : List Int} (hp : a.Perm b) (ha : a.Pairwise (· ≤ ·)) : a = sortI b :=
  PySem.W.ksm_same (hp.trans (sortI_perm b).symm) ha (sortI_pw b)

def evBi (b : Bi) (o : Own) (ds : List D) : R D :=
  match b, ds with
  | .len, [.list xs] => .ok (.int xs.length)
  | .len, [.tuple xs] => .ok (.int xs.length)
  | .len, [.str z] => if z.length ≤ 16777216 then .ok (.int z.length) else .no
  | .int, [.int i] => .ok (.int i)
  | .int, [.bool k] => .ok (.int (if k = true then 1 else 0))
  | .sum, [.list xs] => match intsOf xs with | some ns => .ok (.int ns.sum) | none => .no
  | .min, [.int i, .int j] => .ok (.int (if j < i then j else i))
  | .min, [.list xs] => match intsOf xs with | some (n :: ns) => .ok (.int (minL n ns)) | _ => .no
  | .max, [.int i, .int j] => .ok (.int (if j > i then j else i))
  | .max, [.list xs] => match intsOf xs with | some (n :: ns) => .ok (.int (maxL n ns)) | _ => .no
  | .abs, [.int i] => .ok (.int (if i < 0 then -i else i))
  | .all, [.list xs] => match blsOf xs with | some bs => .ok (.bool (bs.all id)) | none => .no
  | .any, [.list xs] => match blsOf xs with | some bs => .ok (.bool (bs.any id)) | none => .no
  | .sorted, [.list xs] => match intsOf xs with | some ns => .ok (.list ((sortI ns).map PyData.int)) | none => .no
  | .list, [.list xs] => .ok (.list xs)
  | .list, [.tuple xs] => .ok (.list xs)
  | .tuple, [.list xs] => if o = .sh then .ok (.tuple xs) else .no
  | .tuple, [.tuple xs] => if o = .sh then .ok (.tuple xs) else .no
  | _, _ => .no
def Bi.nm : Bi → Str
  | .len => "len" | .int => "int" | .sum => "sum" | .min => "min" | .max => "max" | .abs => "abs" | .all => "all" | .any => "any" | .sorted => "sorted" | .list => "list" | .tuple => "tuple"
def Bi.val : Bi → Value
  | .len => .builtin "len" | .int => .type "int" | .sum => .builtin "sum" | .min => .builtin "min" | .max => .builtin "max" | .abs => .builtin "abs" | .all => .builtin "all" | .any => .builtin "any"
  | .sorted => .builtin "sorted" | .list => .type "list" | .tuple => .type "tuple"
theorem Bi.boot (b : Bi) : bootBuiltins b.nm = some b.val := by cases b <;> decide +kernel
def itms : Bi → Bool
  | .list | .tuple => true
  | _ => false

section
variable {X : Cx}
def TmpS (H : Hp) (O : Addr → Bool) (vs : List V) (ds : List D) (os : Own) : Prop := ∃ A, (∀ a ∈ A, O a = false) ∧ RpS [] H (add O A) vs ds os A
def rF (b : Bi) (o : Own) : List V → Hp → VK → Prop := fun vs H Q => ∃ ds z O, Dom H O ∧ DpAll [] H vs ds ∧ (itms b = true → ∀ v d, vs = [v] → ds = [d] → Itm [] H O v d) ∧ evBi b o ds = .ok z ∧ Gv O o Q H z
theorem dp1 {H : Hp} {vs : List V} {d : D} (h : DpAll [] H vs [d]) : ∃ v, vs = [v] ∧ Dp [] H v d := by
  cases h with
  | cons h1 h2 => cases h2; exact ⟨_, rfl, h1⟩
theorem dp2 {H : Hp} {vs : List V} {d e : D} (h : DpAll [] H vs [d, e]) : ∃ v u, vs = [v, u] ∧ Dp [] H v d ∧ Dp [] H u e := by
  cases h with
  | cons h1 h2 =>
    obtain ⟨u, rfl, h3⟩ := dp1 h2
    exact ⟨_, u, rfl, h1, h3⟩
theorem dpInt {H : Hp} {v : V} {i : Int} (h : Dp [] H v (.int i)) : v = .int i := by cases h; rfl
theorem cr_bi {b : Bi} {o : Own} (ho : newO o = true) (hc : X.calm = true) : CallR X b.val (rF b o) := by
  intro pins s σ H vs us Q I r ⟨ds, z, O, hd, hv, hi, hev, g⟩
  unfold evBi at hev
  split at hev
  · cases hev
    obtain ⟨v, rfl, h1⟩ := dp1 hv
    cases h1 with
    | @lst a ws _ k1 k2 => exact call_len pins s σ H _ us Q I r ⟨_, _, rfl, .inl ⟨ws, seq_any k1, rfl⟩, by rw [DpAll.length k2]; exact flat_out g⟩
  · cases hev
    obtain ⟨v, rfl, h1⟩ := dp1 hv
    cases h1 with
    | @tup a ws _ k1 k2 => exact call_len pins s σ H _ us Q I r ⟨_, _, rfl, .inr ⟨ws, seqT_any k1, rfl⟩, by rw [DpAll.length k2]; exact flat_out g⟩
  · split at hev
    · rename_i hz
      cases hev
      obtain ⟨v, rfl, h1⟩ := dp1 hv
      cases h1
      exact call_len pins s σ H _ us Q I r ⟨_, _, rfl, ⟨by rw [← sz]; exact hz, rfl⟩, flat_out g⟩
    · cases hev
  · cases hev
    obtain ⟨v, rfl, h1⟩ := dp1 hv
    rw [dpInt h1] at r
    exact call_int1 pins s σ H _ us Q I r (.inl ⟨_, rfl, flat_out g⟩)
  · cases hev
    obtain ⟨v, rfl, h1⟩ := dp1 hv
    cases h1
    exact call_int1 pins s σ H _ us Q I r (.inr ⟨_, rfl, flat_out g⟩)
  · split at hev
    · rename_i e
      cases hev
      have e := intsOf_some e
      subst e
      obtain ⟨v, rfl, h1⟩ := dp1 hv
      cases h1 with
      | @lst a ws _ k1 k2 =>
        rw [DpAll.ints k2] at k1
        exact cr_sum hc pins s σ H _ us Q I r ⟨a, _, rfl, seq_any k1, flat_out g⟩
    · cases hev
  · cases hev
    obtain ⟨v, u, rfl, h1, h2⟩ := dp2 hv
    rw [dpInt h1, dpInt h2] at r
    exact call_min2 hc pins s σ H _ us Q I r ⟨_, _, rfl, flat_out g⟩
  · split at hev
    · rename_i e
      cases hev
      have e := intsOf_some e
      subst e
      obtain ⟨v, rfl, h1⟩ := dp1 hv
      cases h1 with
      | @lst a ws _ k1 k2 =>
        rw [DpAll.ints k2] at k1
        rename_i n ns
        refine cr_min hc pins s σ H _ us Q I r ⟨a, _, rfl, seq_any k1, Nat.succ_pos _, fun m hm hle => ?_⟩
        have e1 : m = minL n ns := by
          have h1 := hle _ (minL_mem ns n)
          rcases List.mem_cons.mp hm with e | e
          · have := (minL_le ns n).1
            omega
          · have := (minL_le ns n).2 m e
            omega
        rw [e1]
        exact flat_out g
    · cases hev
  · cases hev
    obtain ⟨v, u, rfl, h1, h2⟩ := dp2 hv
    rw [dpInt h1, dpInt h2] at r
    exact call_max2 hc pins s σ H _ us Q I r ⟨_, _, rfl, flat_out g⟩
  · split at hev
    · rename_i e
      cases hev
      have e := intsOf_some e
      subst e
      obtain ⟨v, rfl, h1⟩ := dp1 hv
      cases h1 with
      | @lst a ws _ k1 k2 =>
        rw [DpAll.ints k2] at k1
        rename_i n ns
        refine cr_max hc pins s σ H _ us Q I r ⟨a, _, rfl, seq_any k1, Nat.succ_pos _, fun m hm hle => ?_⟩
        have e1 : m = maxL n ns := by
          have h1 := hle _ (maxL_mem ns n)
          rcases List.mem_cons.mp hm with e | e
          · have := (le_maxL ns n).1
            omega
          · have := (le_maxL ns n).2 m e
            omega
        rw [e1]
        exact flat_out g
    · cases hev
  · cases hev
    obtain ⟨v, rfl, h1⟩ := dp1 hv
    rw [dpInt h1] at r
    exact call_abs pins s σ H _ us Q I r ⟨_, rfl, flat_out g⟩
  · split at hev
    · rename_i e
      cases hev
      have e := blsOf_some e
      subst e
      obtain ⟨v, rfl, h1⟩ := dp1 hv
      cases h1 with
      | @lst a ws _ k1 k2 =>
        rw [DpAll.bls k2] at k1
        exact cr_all hc pins s σ H _ us Q I r ⟨a, _, rfl, seq_any k1, g.flat rfl (.bl _)⟩
    · cases hev
  · split at hev
    · rename_i e
      cases hev
      have e := blsOf_some e
      subst e
      obtain ⟨v, rfl, h1⟩ := dp1 hv
      cases h1 with
      | @lst a ws _ k1 k2 =>
        rw [DpAll.bls k2] at k1
        exact cr_any hc pins s σ H _ us Q I r ⟨a, _, rfl, seq_any k1, g.flat rfl (.bl _)⟩
    · cases hev
  · split at hev
    · rename_i e
      cases hev
      have e := intsOf_some e
      subst e
      obtain ⟨v, rfl, h1⟩ := dp1 hv
      cases h1 with
      | @lst a ws _ k1 k2 =>
        rw [DpAll.ints k2] at k1
        refine cr_sortedI pins s σ H _ us Q I r ⟨a, _, rfl, seq_any k1, fun ns' p hp hs hn => ?_⟩
        rw [sortI_eq hp hs]
        exact g.newList ho hd (Same.refl _) (DpAll.of_ints _) hn
    · cases hev
  · cases hev
    obtain ⟨v, rfl, h1⟩ := dp1 hv
    rcases hi rfl _ _ rfl rfl with ⟨z0, _⟩ | ⟨a, ws, es, rfl, e0, k1, k2⟩ | ⟨_, _, _, _, e0, _, _⟩
    · cases z0
    · cases e0
      exact call_list_of pins s σ H _ us Q I r ⟨a, ws, rfl, .inl (seq_any k1), fun p hp => g.newList ho hd (Same.refl _) k2 hp⟩
    · cases e0
  · cases hev
    obtain ⟨v, rfl, h1⟩ := dp1 hv
    rcases hi rfl _ _ rfl rfl with ⟨z0, _⟩ | ⟨_, _, _, _, e0, _, _⟩ | ⟨a, ws, es, rfl, e0, k1, k2⟩
    · cases z0
    · cases e0
    · cases e0
      exact call_list_of pins s σ H _ us Q I r ⟨a, ws, rfl, .inr (seqT_any k1), fun p hp => g.newList ho hd (Same.refl _) k2 hp⟩
  · split at hev
    · rename_i eo
      subst eo
      cases hev
      obtain ⟨v, rfl, h1⟩ := dp1 hv
      rcases hi rfl _ _ rfl rfl with ⟨z0, _⟩ | ⟨a, ws, es, rfl, e0, k1, k2⟩ | ⟨_, _, _, _, e0, _, _⟩
      · cases z0
      · cases e0
        exact call_tuple_of pins s σ H _ us Q I r ⟨a, ws, rfl, .inl ⟨seq_any k1, fun p hp => g.newTup hd (Same.refl _) k2 hp⟩⟩
      · cases e0
    · cases hev
  · split at hev
    · rename_i eo
      subst eo
      cases hev
      obtain ⟨v, rfl, h1⟩ := dp1 hv
      have kx := itm_tup hd (hi rfl _ _ rfl rfl)
      cases kx with
      | @tup a ws _ k1 k2 => exact call_tuple_of pins s σ H _ us Q I r ⟨a, ws, rfl, .inr ⟨seqT_any (Same.seqT mask_le k1), g.give (Same.refl _) (.sh (.tup k1 k2))⟩⟩
    · cases hev
  · cases hev
end

/-! what is walked -/
def ItOk (J : It) (B M : Hp) (ds : List D) : Prop := ∀ i H O, Dom H O → Same B H → Same M (mask H O) →
  (∀ d, ds[i]? = some d → J.go i H ∧ ∀ x H', J.yld i H x H' → Same H H' ∧ Dp [] (mask H' O) x d) ∧ (ds.length ≤ i → J.stop i H)
def bse (p : Bool) (H : Hp) (O : Addr → Bool) : Hp := if p = true then H else mask H O
def tI (c : Ctx) (p : Bool) (f : Ev → R (List D)) : TI := fun σ H Rr => ∃ env O, At c H O env σ ∧ AnsP c.W H (f env) (fun H ds => ∀ J H1, Same H H1 → ItOk J (bse p H1 O) (mask H1 O) ds → Rr J H1)
theorem PI.imp {X : Cx} {tg e : Expr} {t t' : TI} (h : PI X tg e t) (i : ∀ σ H R, t' σ H R → t σ H R) : PI X tg e t' := ⟨fun pins s σ H Q I q => h.run pins s σ H Q I (i _ _ _ q)⟩
theorem up_it {p : Bool} {O : Addr → Bool} {R : It → Hp → Prop} : Up (fun H ds => ∀ J H1, Same H H1 → ItOk J (bse p H1 O) (mask H1 O) ds → R J H1) := fun _ _ _ s h J H1 s' => h J H1 (s.trans s')

/-- the list at a, as its items stand in the base -/
theorem itok_list {K : PySem.W.Frag} {B M : Hp} {a : Addr} {vs : List V} {ds : List D} (h : SqL [] B a vs) (hd : DpAll [] M vs ds) : ItOk (Itl K a) B M ds := by
  intro i H O dm sb sm
  refine ⟨fun d e => ?_, fun e => ⟨vs, seq_any (Same.seq sb h), by rw [DpAll.length hd]; exact e⟩⟩
  obtain ⟨v, hv, kd⟩ := DpAll.get hd e
  refine ⟨⟨vs, v, seq_any (Same.seq sb h), hv⟩, fun x H' y => ?_⟩
  obtain ⟨rfl, y⟩ := y
  refine ⟨Same.refl _, ?_⟩
  have e2 := y vs (seq_any (Same.seq sb h))
  rw [hv] at e2
  cases e2
  exact dp_mono sm _ _ kd
theorem itok_tup {K : PySem.W.Frag} {B M : Hp} {a : Addr} {vs : List V} {ds : List D} (h : SqT [] B a vs) (hd : DpAll [] M vs ds) : ItOk (Itt K a) B M ds := by
  intro i H O dm sb sm
  refine ⟨fun d e => ?_, fun e => ⟨vs, seqT_any (Same.seqT sb h), by rw [DpAll.length hd]; exact e⟩⟩
  obtain ⟨v, hv, kd⟩ := DpAll.get hd e
  refine ⟨⟨vs, v, seqT_any (Same.seqT sb h), hv⟩, fun x H' y => ?_⟩
  obtain ⟨rfl, y⟩ := y
  refine ⟨Same.refl _, ?_⟩
  have e2 := y vs (seqT_any (Same.seqT sb h))
  rw [hv] at e2
  cases e2
  exact dp_mono sm _ _ kd
def chars (z : Str) : List D := z.cps.toList.map fun c => .str ⟨#[c]⟩
theorem itok_str {B M : Hp} {z : Str} : ItOk (L2.Its z) B M (chars z) := by
  intro i H O dm sb sm
  have hl : (chars z).length = z.cps.size := by unfold chars; rw [List.length_map, Array.length_toList]
  refine ⟨fun d e => ?_, fun e => by rw [hl] at e; exact e⟩
  have hi : i < z.cps.size := by
    rw [← hl]
    exact (List.getElem?_eq_some_iff.mp e).1
  refine ⟨hi, fun x H' y => ?_⟩
  obtain ⟨rfl, c, hc, rfl⟩ := y
  refine ⟨Same.refl _, ?_⟩
  unfold chars at e
  rw [List.getElem?_map, Array.getElem?_toList, hc] at e
  cases e
  exact .str _
def rngD (lo : Int) (n : Nat) : List D := (List.range n).map fun (k : Nat) => .int (lo + k)
theorem itok_rng {B M : Hp} {lo : Int} {n : Nat} : ItOk (Itr lo n) B M (rngD lo n) := by
  intro i H O dm sb sm
  have hl : (rngD lo n).length = n := by unfold rngD; rw [List.length_map, List.length_range]
  refine ⟨fun d e => ?_, fun e => by rw [hl] at e; exact e⟩
  have hi : i < n := by
    rw [← hl]
    exact (List.getElem?_eq_some_iff.mp e).1
  refine ⟨hi, fun x H' y => ?_⟩
  obtain ⟨rfl, rfl⟩ := y
  refine ⟨Same.refl _, ?_⟩
  unfold rngD at e
  rw [List.getElem?_map, List.getElem?_range hi] at e
  cases e
  exact .int _
def rngS (lo c : Int) (n : Nat) : List D := (List.range n).map fun (k : Nat) => .int (lo + k * c)
theorem itok_rngS {B M : Hp} {lo c : Int} {n : Nat} : ItOk (Itc lo c n) B M (rngS lo c n) := by
  intro i H O dm sb sm
  have hl : (rngS lo c n).length = n := by unfold rngS; rw [List.length_map, List.length_range]
  refine ⟨fun d e => ?_, fun e => by rw [hl] at e; exact e⟩
  have hi : i < n := by
    rw [← hl]
    exact (List.getElem?_eq_some_iff.mp e).1
  refine ⟨hi, fun x H' y => ?_⟩
  obtain ⟨rfl, rfl⟩ := y
  refine ⟨Same.refl _, ?_⟩
  unfold rngS at e
  rw [List.getElem?_map, List.getElem?_range hi] at e
  cases e
  exact .int _
def enumD : Nat → List D → List D
  | _, [] => []
  | n, d :: r => .tuple [.int n, d] :: enumD (n + 1) r
theorem enumD_get : ∀ (ds : List D) (n i : Nat), (enumD n ds)[i]? = ds[i]?.map fun d => .tuple [.int ((n + i : Nat) : Int), d]
  | [], n, i => by simp [enumD]
  | d :: r, n, 0 => by simp [enumD]
  | d :: r, n, i + 1 => by
    simp only [enumD, List.getElem?_cons_succ]
    rw [enumD_get r (n + 1) i, show n + 1 + i = n + (i + 1) by omega]
theorem enumD_len : ∀ (ds : List D) (n : Nat), (enumD n ds).length = ds.length
  | [], _ => rfl
  | d :: r, n => by simp only [enumD, List.length_cons, enumD_len r (n + 1)]
theorem itok_enum {K : PySem.W.Frag} {B M : Hp} {a : Addr} {vs : List V} {ds : List D} (h : SqL [] B a vs) (hd : DpAll [] M vs ds) : ItOk (Ite K a) B M (enumD 0 ds) := by
  intro i H O dm sb sm
  refine ⟨fun d e => ?_, fun e => ⟨vs, seq_any (Same.seq sb h), by rw [DpAll.length hd]; rw [enumD_len] at e; exact e⟩⟩
  rw [enumD_get, Nat.zero_add] at e
  obtain ⟨d0, e0, rfl⟩ := Option.map_eq_some_iff.mp e
  obtain ⟨v, hv, kd⟩ := DpAll.get hd e0
  refine ⟨⟨vs, v, seq_any (Same.seq sb h), hv⟩, fun x H' y => ?_⟩
  obtain ⟨T, x0, rfl, hT, rfl, y⟩ := y
  have e2 := y vs (seq_any (Same.seq sb h))
  rw [hv] at e2
  cases e2
  have sn : Same H (upd H T (.tup [.int (i : Nat), v])) := same_new hT
  refine ⟨sn, .tup (.inl (.inl (mask_of (dm.out hT) upd_same))) (.cons (.int _) (.cons (dp_mono (mask_mono sn fun a e => .inl e) _ _ (dp_mono sm _ _ kd)) .nil))⟩
def zipD : List D → List D → List D
  | d :: r, e :: s => .tuple [d, e] :: zipD r s
  | _, _ => []
theorem zipD_get : ∀ (ds es : List D) (i : Nat) (z : D), (zipD ds es)[i]? = some z → ∃ d e, ds[i]? = some d ∧ es[i]? = some e ∧ z = .tuple [d, e]
  | [], _, i, z, h => by simp [zipD] at h
  | _ :: _, [], i, z, h => by simp [zipD] at h
  | d :: r, e :: s, 0, z, h => by
    simp only [zipD, List.getElem?_cons_zero, Option.some.injEq] at h
    exact ⟨d, e, rfl, rfl, h.symm⟩
  | d :: r, e :: s, i + 1, z, h => by
    simp only [zipD, List.getElem?_cons_succ] at h
    exact zipD_get r s i z h
theorem zipD_len : ∀ (ds es : List D), (zipD ds es).length = min ds.length es.length
  | [], _ => by simp [zipD]
  | _ :: _, [] => by simp [zipD]
  | d :: r, e :: s => by
    simp only [zipD, List.length_cons, zipD_len r s]
    omega
theorem itok_zip {K : PySem.W.Frag} {B M : Hp} {a b : Addr} {vs us : List V} {ds es : List D} (h : SqL [] B a vs) (hd : DpAll [] M vs ds) (h2 : SqL [] B b us) (he : DpAll [] M us es) : ItOk (Itz K a b) B M (zipD ds es) := by
  intro i H O dm sb sm
  refine ⟨fun z e => ?_, fun e => ⟨vs, us, seq_any (Same.seq sb h), seq_any (Same.seq sb h2), by rw [DpAll.length hd, DpAll.length he]; rw [zipD_len] at e; omega⟩⟩
  obtain ⟨d, g, e0, e1, rfl⟩ := zipD_get _ _ _ _ e
  obtain ⟨v, hv, kd⟩ := DpAll.get hd e0
  obtain ⟨u, hu, ke⟩ := DpAll.get he e1
  refine ⟨⟨vs, us, v, u, seq_any (Same.seq sb h), seq_any (Same.seq sb h2), hv, hu⟩, fun x H' y => ?_⟩
  obtain ⟨T, x0, y0, rfl, hT, rfl, y1, y2⟩ := y
  have q1 := y1 vs (seq_any (Same.seq sb h))
  rw [hv] at q1
  cases q1
  have q2 := y2 us (seq_any (Same.seq sb h2))
  rw [hu] at q2
  cases q2
  have sn : Same H (upd H T (.tup [v, u])) := same_new hT
  have mm := mask_mono (O := O) (O' := O) sn fun a e => .inl e
  exact ⟨sn, .tup (.inl (.inl (mask_of (dm.out hT) upd_same))) (.cons (dp_mono mm _ _ (dp_mono sm _ _ kd)) (.cons (dp_mono mm _ _ (dp_mono sm _ _ ke)) .nil))⟩

/-! the walks -/
section
variable {X : Cx} {tg : Expr} {c : Ctx}
/-- a list, a tuple, a text that is walked -/
theorem pi_any {l : Expr} {tl : TE} (hl : PE X l tl) : PI X tg l (fun σ H Rr => tl σ H fun x H1 => (∃ a, x = .ref a ∧ (∃ xs, SqL X.K H1 a xs) ∧ Rr (Itl X.K a) H1) ∨ (∃ a, x = .ref a ∧ (∃ xs, SqT X.K H1 a xs) ∧ Rr (Itt X.K a) H1) ∨ ∃ z, x = .str z ∧ Rr (L2.Its z) H1) := by
  refine ⟨fun pins s σ H Rr I h => ?_⟩
  have go : ∀ v s1 x H1, Inv X pins σ H1 s1 → RelV x v → ((∃ a, x = .ref a ∧ (∃ xs, SqL X.K H1 a xs) ∧ Rr (Itl X.K a) H1) ∨ (∃ a, x = .ref a ∧ (∃ xs, SqT X.K H1 a xs) ∧ Rr (Itt X.K a) H1) ∨ ∃ z, x = .str z ∧ Rr (L2.Its z) H1) →
      wpAny (model X.prog X.w) X.A (pyIter v) (PIE X pins σ tg Rr) X.xe s1 := by
    intro v s1 x H1 I1 r1 q1
    have fp : ∀ b ∈ [s1.heap.objs.size], FpOk X pins H1 b := fun b hb => by
      rw [List.mem_singleton.mp hb]
      exact I1.fpOk (Nat.le_refl _) (I1.hok.fresh (Nat.le_refl _))
    rcases q1 with ⟨a, e, ⟨xs, hq⟩, q⟩ | ⟨a, e, ⟨xs, hq⟩, q⟩ | ⟨z, e, q⟩
    · subst e
      cases r1
      obtain ⟨its, rv, p, hz⟩ := I1.list hq
      exact wpAny_pyIter_list p.isList ⟨s1.heap.objs.size, [s1.heap.objs.size], _, _, H1, rfl, I1.kept (t' := s1.toks) fun b o e => Heap.get?_push_of_some _ e, turn_list a _, ⟨_, Heap.get?_push_size _ rfl, rfl, rfl⟩, fp, q⟩
    · subst e
      cases r1
      obtain ⟨its, rv, p, hz⟩ := I1.tuple hq
      exact wpAny_pyIter_tuple (show s1.heap.IsTuple a its.toArray from p) ⟨s1.heap.objs.size, [s1.heap.objs.size], _, _, H1, rfl, I1.kept (t' := s1.toks) fun b o e => Heap.get?_push_of_some _ e, turn_tuple a _, ⟨_, Heap.get?_push_size _ rfl, rfl, rfl⟩, fp, q⟩
    · subst e
      obtain ⟨t, rfl⟩ := r1
      cases ha : z.cps.all (· < 128)
      · exact wpAny_pyIter_wide ha (pi_one (tk := s1.toks) I1 _ (turn_str _ z t "str_iterator" (.inr rfl)) ⟨_, Heap.get?_push_size _ rfl, rfl, rfl⟩ q)
      · exact wpAny_pyIter_ascii ha (pi_one (tk := s1.toks) I1 _ (turn_str _ z t "str_ascii_iterator" (.inl rfl)) ⟨_, Heap.get?_push_size _ rfl, rfl, rfl⟩ q)
  exact thn (hl.run pins s σ H _ I h) fun v s1 ⟨x, H1, I1, r1, q1⟩ => go v s1 x H1 I1 r1 q1
def seqD : D → R (List D)
  | .list ds => .ok ds
  | .tuple ds => .ok ds
  | .str z => .ok (chars z)
  | _ => .no
def walkb (p : Bool) (o : Own) : Bool := if p = true then itmb o else fz o
/-- a temporary's items, by the way it is walked -/
theorem bs_itm {p : Bool} {o : Own} {H : Hp} {O : Addr → Bool} {x : V} {d : D} (hd : Dom H O) (hw : walkb p o = true) (t : Tmp H O x d o) :
    (flatD d = true ∧ Dp [] H x d) ∨ (∃ a vs ds, x = .ref a ∧ d = .list ds ∧ SqL [] (bse p H O) a vs ∧ DpAll [] (mask H O) vs ds) ∨ ∃ a vs ds, x = .ref a ∧ d = .tuple ds ∧ SqT [] (bse p H O) a vs ∧ DpAll [] (mask H O) vs ds := by
  cases p with
  | true => exact t.its hd hw
  | false =>
    have k := t.fz hd hw
    cases k with
    | non => exact .inl ⟨rfl, .non⟩
    | bl b => exact .inl ⟨rfl, .bl b⟩
    | int i => exact .inl ⟨rfl, .int i⟩
    | str i => exact .inl ⟨rfl, .str i⟩
    | lst k1 k2 => exact .inr (.inl ⟨_, _, _, rfl, rfl, k1, k2⟩)
    | tup k1 k2 => exact .inr (.inr ⟨_, _, _, rfl, rfl, k1, k2⟩)
theorem bse_le {p : Bool} {H : Hp} {O : Addr → Bool} : Same (bse p H O) H := by
  cases p
  · exact mask_le
  · exact Same.refl _
theorem pi_seq {p : Bool} {l : Expr} {f : Ev → R D} {o : Own} (hl : PE X l (tE c f o)) (hw : walkb p o = true) : PI X tg l (tI c p fun env => f env >>= seqD) := by
  refine PI.imp (pi_any hl) fun σ H Rr ⟨env, O, a, h⟩ => ?_
  refine tE_bind a up_it h fun d x H1 _ s1 a1 t h1 => ?_
  rcases bs_itm a1.dom hw t with ⟨z, k⟩ | ⟨a, vs, ds, rfl, rfl, k1, k2⟩ | ⟨a, vs, ds, rfl, rfl, k1, k2⟩
  · cases k <;> first | exact h1.elim | cases z | skip
    exact .inr (.inr ⟨_, rfl, h1 _ H1 (Same.refl _) itok_str⟩)
  · exact .inl ⟨a, rfl, ⟨vs, seq_any (Same.seq bse_le k1)⟩, h1 _ H1 (Same.refl _) (itok_list k1 k2)⟩
  · exact .inr (.inl ⟨a, rfl, ⟨vs, seqT_any (Same.seqT bse_le k1)⟩, h1 _ H1 (Same.refl _) (itok_tup k1 k2)⟩)
def rngOk (i : Int) : Bool := decide (-4611686018427387904 ≤ i) && decide (i < 4611686018427387904)
theorem rngOk_of {i : Int} (h : rngOk i = true) : -(2 ^ 62) ≤ i ∧ i < 2 ^ 62 := by
  unfold rngOk at h
  simp only [Bool.and_eq_true, decide_eq_true_eq] at h
  omega
def rng1D : List D → R (List D)
  | [.int j] => if rngOk j = true then .ok (rngD 0 j.toNat) else .no
  | _ => .no
def rng2D : List D → R (List D)
  | [.int i, .int j] => if rngOk i = true ∧ rngOk j = true then .ok (rngD i (j - i).toNat) else .no
  | _ => .no
def rngnD : List D → R (List D)
  | [.int i, .int j, .int (-1)] => if rngOk i = true ∧ rngOk j = true then .ok (rngS i (-1) (i - j).toNat) else .no
  | _ => .no
theorem rpS_dp {H : Hp} {O : Addr → Bool} {vs : List V} {ds : List D} {os : Own} {A : List Addr} (h : RpS [] H O vs ds os A) : DpAll [] H vs ds := h.dp
theorem pi_r1 {p : Bool} {a : Expr} {f : Ev → R (List D)} {os : Own} {q pos : Pos} (hg : Gl X "range") (hm : X.mg "range" = none) (ha : PA X [a] (tA c f os)) (hs : starEach [a] X.env = [(false, eval a X.env)]) :
    PI X tg (.Call (.Name "range" q) [a] [] pos) (tI c p fun env => f env >>= rng1D) := by
  refine PI.imp (pi_range1 hg hm ha hs) fun σ H Rr ⟨env, O, at_, h⟩ => ?_
  refine tA_bind at_ h fun ds vs H1 A _ s1 fr r h1 => ?_
  unfold rng1D at h1
  split at h1
  · split at h1
    · rename_i hr
      obtain ⟨v, rfl, k⟩ := dp1 r.dp
      obtain ⟨b1, b2⟩ := rngOk_of hr
      exact ⟨_, by rw [dpInt k], b1, b2, h1 _ H1 s1 itok_rng⟩
    · exact h1.elim
  · exact h1.elim
theorem pi_r2 {p : Bool} {a b : Expr} {f : Ev → R (List D)} {os : Own} {q pos : Pos} (hg : Gl X "range") (hm : X.mg "range" = none) (ha : PA X [a, b] (tA c f os)) (hs : starEach [a, b] X.env = [(false, eval a X.env), (false, eval b X.env)]) (hs2 : starEach [b] X.env = [(false, eval b X.env)]) :
    PI X tg (.Call (.Name "range" q) [a, b] [] pos) (tI c p fun env => f env >>= rng2D) := by
  refine PI.imp (pi_range2 hg hm ha hs hs2) fun σ H Rr ⟨env, O, at_, h⟩ => ?_
  refine tA_bind at_ h fun ds vs H1 A _ s1 fr r h1 => ?_
  unfold rng2D at h1
  split at h1
  · split at h1
    · rename_i hr
      obtain ⟨v, u, rfl, k, k'⟩ := dp2 r.dp
      obtain ⟨b1, b2⟩ := rngOk_of hr.1
      obtain ⟨b3, b4⟩ := rngOk_of hr.2
      exact ⟨_, _, by rw [dpInt k, dpInt k'], ⟨b1, b2, b3, b4⟩, h1 _ H1 s1 itok_rng⟩
    · exact h1.elim
  · exact h1.elim
theorem dp3 {H : Hp} {vs : List V} {d e g : D} (h : DpAll [] H vs [d, e, g]) : ∃ v u w, vs = [v, u, w] ∧ Dp [] H v d ∧ Dp [] H u e ∧ Dp [] H w g := by
  cases h with
  | cons h1 h2 =>
    obtain ⟨u, w, rfl, h3, h4⟩ := dp2 h2
    exact ⟨_, u, w, rfl, h1, h3, h4⟩
theorem pi_r3 {p : Bool} {a b d : Expr} {f : Ev → R (List D)} {os : Own} {q pos : Pos} (hg : Gl X "range") (hm : X.mg "range" = none) (ha : PA X [a, b, d] (tA c f os))
    (hs : starEach [a, b, d] X.env = (false, eval a X.env) :: starEach [b, d] X.env) (hpl : (backTo pos (starEach [b, d] X.env)).any (·.1) = false) :
    PI X tg (.Call (.Name "range" q) [a, b, d] [] pos) (tI c p fun env => f env >>= rngnD) := by
  refine PI.imp (pi_range3 hg hm ha hs hpl) fun σ H Rr ⟨env, O, at_, h⟩ => ?_
  refine tA_bind at_ h fun ds vs H1 A _ s1 fr r h1 => ?_
  unfold rngnD at h1
  split at h1
  · split at h1
    · rename_i hr
      obtain ⟨v, u, w, rfl, k, k', k2⟩ := dp3 r.dp
      obtain ⟨b1, b2⟩ := rngOk_of hr.1
      obtain ⟨b3, b4⟩ := rngOk_of hr.2
      exact ⟨_, _, _, _, by rw [dpInt k, dpInt k', dpInt k2], RgC.neg b1 b2 b3 b4, h1 _ H1 s1 itok_rngS⟩
    · exact h1.elim
  · exact h1.elim
def enum1D : List D → R (List D)
  | [.list ds] => .ok (enumD 0 ds)
  | _ => .no
def zip2D : List D → R (List D)
  | [.list ds, .list es] => .ok (zipD ds es)
  | _ => .no
def walks (p : Bool) : Own → Bool
  | .tn => true
  | .tc o r => walkb p o && walks p r
  | _ => false
/-- arguments that are walked -/
theorem rpS_tmp {p : Bool} {H : Hp} {O : Addr → Bool} (hd : Dom H O) : ∀ {ds : List D} {vs : List V} {os : Own} {A : List Addr} {O' : Addr → Bool}, (∀ a ∈ A, O a = false) → (∀ a, O a = true → O' a = true) → (∀ a, O' a = true → O a = true ∨ O' a = true) → walks p os = true → RpS [] H O' vs ds os A →
    ∀ (i : Nat) (v : V) (d : D), vs[i]? = some v → ds[i]? = some d → ∃ o, walkb p o = true ∧ ∃ B, (∀ b ∈ B, O b = false) ∧ Rp [] H O' v d o B
  | _, _, _, _, _, _, _, _, _, .nil, i, v, d, e1, e2 => by simp at e1
  | _, _, _, _, _, hA, h1, h2, hw, .cons r1 r2, i, v, d, e1, e2 => by
    have hw' := Bool.and_eq_true_iff.mp hw
    cases i with
    | zero =>
      simp at e1 e2
      subst e1 e2
      exact ⟨_, hw'.1, _, fun b hb => hA b (List.mem_append_left _ hb), r1⟩
    | succ i =>
      simp at e1 e2
      exact rpS_tmp hd (fun b hb => hA b (List.mem_append_right _ hb)) h1 h2 hw'.2 r2 i v d e1 e2
theorem bs_arg {p : Bool} {H : Hp} {O : Addr → Bool} {A : List Addr} {vs : List V} {ds : List D} {os : Own} (hd : Dom H O) (hA : ∀ a ∈ A, O a = false) (hw : walks p os = true) (r : RpS [] H (add O A) vs ds os A) (i : Nat) (v : V) (es : List D) (e1 : vs[i]? = some v) (e2 : ds[i]? = some (.list es)) :
    ∃ a us, v = .ref a ∧ SqL [] (bse p H O) a us ∧ DpAll [] (mask H O) us es := by
  obtain ⟨o, ho, B, hB, rr⟩ := rpS_tmp (p := p) hd hA (fun a h => add_true.mpr (.inl h)) (fun a h => .inr h) hw r i v _ e1 e2
  have o1 : ∀ a, O a = true → add O A a = true := fun a h => add_true.mpr (.inl h)
  cases p with
  | true =>
    rcases rr.its hd o1 hB ho with ⟨z, _⟩ | ⟨a, us, _, rfl, e, k1, k2⟩ | ⟨_, _, _, _, e, _, _⟩
    · cases z
    · cases e
      exact ⟨a, us, rfl, k1, k2⟩
    · cases e
  | false =>
    have k := rr.freeze hd o1 hB ho
    cases k with
    | @lst a us _ k1 k2 => exact ⟨a, us, rfl, k1, k2⟩
theorem pi_en {p : Bool} {a : Expr} {elts : List Expr} {kk : Nat} {tpos : Pos} {f : Ev → R (List D)} {os : Own} {q pos : Pos} (hg : Gl X "enumerate") (hm : X.mg "enumerate" = none) (ha : PA X [a] (tA c f os)) (hw : walks p os = true) (hs : starEach [a] X.env = [(false, eval a X.env)]) :
    PI X (.Tuple elts kk tpos) (.Call (.Name "enumerate" q) [a] [] pos) (tI c p fun env => f env >>= enum1D) := by
  refine PI.imp (pi_enum hg hm ha hs) fun σ H Rr ⟨env, O, at_, h⟩ => ?_
  refine tA_bind at_ h fun ds vs H1 A _ s1 fr r h1 => ?_
  unfold enum1D at h1
  split at h1
  · obtain ⟨v, rfl, k⟩ := dp1 r.dp
    obtain ⟨a, us, rfl, k1, k2⟩ := bs_arg (p := p) (at_.dom.mono s1) (fr.disj at_.dom) hw r 0 v _ rfl rfl
    exact ⟨a, us, rfl, seq_any (Same.seq bse_le k1), h1 _ H1 s1 (itok_enum k1 k2)⟩
  · exact h1.elim
theorem pi_zp {p : Bool} {a b : Expr} {elts : List Expr} {kk : Nat} {tpos : Pos} {f : Ev → R (List D)} {os : Own} {q pos : Pos} (hg : Gl X "zip") (hm : X.mg "zip" = none) (ha : PA X [a, b] (tA c f os)) (hw : walks p os = true)
    (hs : starEach [a, b] X.env = (false, eval a X.env) :: starEach [b] X.env) (hpl : (backTo pos (starEach [b] X.env)).any (·.1) = false) :
    PI X (.Tuple elts kk tpos) (.Call (.Name "zip" q) [a, b] [] pos) (tI c p fun env => f env >>= zip2D) := by
  refine PI.imp (pi_zip hg hm ha hs hpl) fun σ H Rr ⟨env, O, at_, h⟩ => ?_
  refine tA_bind at_ h fun ds vs H1 A _ s1 fr r h1 => ?_
  unfold zip2D at h1
  split at h1
  · obtain ⟨v, u, rfl, k, k'⟩ := dp2 r.dp
    obtain ⟨a, us, rfl, k1, k2⟩ := bs_arg (p := p) (at_.dom.mono s1) (fr.disj at_.dom) hw r 0 v _ rfl rfl
    obtain ⟨b, ws, rfl, k3, k4⟩ := bs_arg (p := p) (at_.dom.mono s1) (fr.disj at_.dom) hw r 1 u _ rfl rfl
    exact ⟨a, b, us, ws, rfl, seq_any (Same.seq bse_le k1), seq_any (Same.seq bse_le k3), h1 _ H1 s1 (itok_zip k1 k2 k3 k4)⟩
  · exact h1.elim
end
end Pv

namespace Pv
open PySem PySem.Spec PyProof.Rows L2

/-! targets -/
mutual
inductive G where
  | nm (i : Nat)
  | tp (gs : Gs)
inductive Gs where
  | nil
  | cons (g : G) (r : Gs)
end
mutual
def gset : G → D → Ev → R Ev
  | .nm i, d, env => .ok (put env i (some (d, true)))
  | .tp gs, d, env => match d with
    | .tuple ds => gsets gs ds env
    | _ => .no
def gsets : Gs → List D → Ev → R Ev
  | .nil, [], env => .ok env
  | .cons g r, d :: ds, env => gset g d env >>= fun e => gsets r ds e
  | _, _, _ => .no
end
mutual
def gslots : G → List Nat
  | .nm i => [i]
  | .tp gs => gsslots gs
def gsslots : Gs → List Nat
  | .nil => []
  | .cons g r => gslots g ++ gsslots r
end
def Gs.len : Gs → Nat
  | .nil => 0
  | .cons _ r => r.len + 1
mutual
def tgG (K : PySem.W.Frag) : G → TG
  | .nm i => gName i
  | .tp gs => gTup K gs.len (tgGs K gs)
def tgGs (K : PySem.W.Frag) : Gs → TGs
  | .nil => gNil
  | .cons g r => gCons (tgG K g) (tgGs K r)
end

theorem lk_put : ∀ (env : Ev) (i j : Nat) (v : Option (D × Bool)), lk (put env i v) j = if j = i then (if i < env.length then v else none) else lk env j
  | [], i, j, v => by
    show lk [] j = _
    simp [lk]
  | x :: r, 0, 0, v => by simp [put, lk]
  | x :: r, 0, j + 1, v => by simp [put, lk]
  | x :: r, i + 1, 0, v => by simp [put, lk]
  | x :: r, i + 1, j + 1, v => by
    show lk (put r i v) j = _
    rw [lk_put r i j v]
    simp [lk]
theorem put_len : ∀ (env : Ev) (i : Nat) (v : Option (D × Bool)), (put env i v).length = env.length
  | [], _, _ => rfl
  | _ :: _, 0, _ => rfl
  | x :: r, i + 1, v => by
    show (put r i v).length + 1 = r.length + 1
    rw [put_len r i v]
theorem lk_none : ∀ (env : Ev) (i : Nat), env.length ≤ i → lk env i = none
  | [], _, _ => rfl
  | x :: r, 0, h => by simp at h
  | x :: r, i + 1, h => lk_none r i (by simpa using h)

/-- a frozen value is stored -/
theorem EnvR.put {H : Hp} {O : Addr → Bool} {Γ : Nat → Own} {env : Ev} {σ : L2.St} {i : Nat} {d : D} {v : V} (e : EnvR H O Γ env σ) (hl : env.length = σ.length) (k : Dp [] (mask H O) v d) : EnvR H O Γ (put env i (some (d, true))) (σ.set i (some v)) := fun j d' b hj => by
  rw [lk_put] at hj
  by_cases h : j = i
  · rw [if_pos h] at hj
    split at hj
    · rename_i hi
      cases hj
      subst h
      exact ⟨v, by rw [List.getElem?_set_self (by omega)], k⟩
    · cases hj
  · rw [if_neg h] at hj
    obtain ⟨w, hw, q⟩ := e j d' b hj
    exact ⟨w, by rw [List.getElem?_set_ne (Ne.symm h)]; exact hw, q⟩

/-- a general state about which targets are set: an invariant under storing frozen values -/
def Stores (P : Ev → L2.St → Prop) (M : Hp) : Prop := ∀ env σ i d v, P env σ → Dp [] M v d → P (put env i (some (d, true))) (σ.set i (some v))
mutual
theorem gset_ok {K : PySem.W.Frag} {P : Ev → L2.St → Prop} {H : Hp} {O : Addr → Bool} (st : Stores P (mask H O)) : ∀ (g : G) (d : D) (v : V) (env env' : Ev) (σ : L2.St) (Q : L2.St → Hp → Prop), Dp [] (mask H O) v d → gset g d env = .ok env' → P env σ →
    (∀ σ', P env' σ' → (∀ vs, (∀ i ∈ gslots g, i ∈ vs) → wipe σ' vs = wipe σ vs) → Q σ' H) → tgG K g v σ H Q
  | .nm i, d, v, env, env', σ, Q, k, h, p, q => by
    cases h
    refine q _ (st env σ i d v p k) fun vs hv => ?_
    exact wipe_set (hv i (by simp [gslots]))
  | .tp gs, .tuple ds, v, env, env', σ, Q, k, h, p, q => by
    cases k with
    | @tup a vs _ k1 k2 =>
      have hl := gsets_len gs ds env env' h
      exact ⟨a, vs, rfl, seqT_any (Same.seqT mask_le k1), by rw [DpAll.length k2, hl], gsets_ok st gs ds vs env env' σ Q k2 h p q⟩
  | .tp gs, .none, v, env, env', σ, Q, k, h, p, q => by cases h
  | .tp gs, .bool _, v, env, env', σ, Q, k, h, p, q => by cases h
  | .tp gs, .int _, v, env, env', σ, Q, k, h, p, q => by cases h
  | .tp gs, .str _, v, env, env', σ, Q, k, h, p, q => by cases h
  | .tp gs, .list _, v, env, env', σ, Q, k, h, p, q => by cases h
  | .tp gs, .dict _, v, env, env', σ, Q, k, h, p, q => by cases h
theorem gsets_ok {K : PySem.W.Frag} {P : Ev → L2.St → Prop} {H : Hp} {O : Addr → Bool} (st : Stores P (mask H O)) : ∀ (gs : Gs) (ds : List D) (vs : List V) (env env' : Ev) (σ : L2.St) (Q : L2.St → Hp → Prop), DpAll [] (mask H O) vs ds → gsets gs ds env = .ok env' → P env σ →
    (∀ σ', P env' σ' → (∀ vs, (∀ i ∈ gsslots gs, i ∈ vs) → wipe σ' vs = wipe σ vs) → Q σ' H) → tgGs K gs vs σ H Q
  | .nil, [], vs, env, env', σ, Q, k, h, p, q => by
    cases k
    cases h
    exact ⟨rfl, q σ p fun _ _ => rfl⟩
  | .nil, _ :: _, vs, env, env', σ, Q, k, h, p, q => by cases h
  | .cons g r, [], vs, env, env', σ, Q, k, h, p, q => by cases h
  | .cons g r, d :: ds, vs, env, env', σ, Q, k, h, p, q => by
    cases k with
    | @cons v vs _ _ k1 k2 =>
      have h : (gset g d env >>= fun e => gsets r ds e) = .ok env' := h
      cases h1 : gset g d env with
      | no => rw [h1] at h; cases h
      | exc c => rw [h1] at h; cases h
      | ok env1 =>
        rw [h1] at h
        refine ⟨v, vs, rfl, gset_ok st g d v env env1 σ _ k1 h1 p fun σ1 p1 w1 => ?_⟩
        refine gsets_ok st r ds vs env1 env' σ1 Q k2 h p1 fun σ2 p2 w2 => q σ2 p2 fun us hu => ?_
        exact (w2 us fun i hi => hu i (by simp only [gsslots, List.mem_append]; exact .inr hi)).trans (w1 us fun i hi => hu i (by simp only [gsslots, List.mem_append]; exact .inl hi))
theorem gsets_len : ∀ (gs : Gs) (ds : List D) (env env' : Ev), gsets gs ds env = .ok env' → ds.length = gs.len
  | .nil, [], _, _, _ => rfl
  | .nil, _ :: _, _, _, h => by cases h
  | .cons g r, [], _, _, h => by cases h
  | .cons g r, d :: ds, env, env', h => by
    have h : (gset g d env >>= fun e => gsets r ds e) = .ok env' := h
    cases h1 : gset g d env with
    | no => rw [h1] at h; cases h
    | exc c => rw [h1] at h; cases h
    | ok env1 =>
      rw [h1] at h
      show ds.length + 1 = r.len + 1
      rw [gsets_len r ds env1 env' h]
theorem wipe_set {σ : L2.St} {i : Nat} {v : Option V} : ∀ {vs : List Nat}, i ∈ vs → wipe (σ.set i v) vs = wipe σ vs
  | u :: vs, h => by
    unfold wipe
    by_cases e : i ∈ vs
    · rw [wipe_set e]
    · have e2 : i = u := by
        rcases List.mem_cons.mp h with z | z
        · exact z
        · exact absurd z e
      subst e2
      apply List.ext_getElem?
      intro j
      by_cases hj : j = i
      · subst hj
        simp only [List.getElem?_set, wipe_length, List.length_set, if_true]
      · rw [List.getElem?_set_ne (Ne.symm hj), List.getElem?_set_ne (Ne.symm hj)]
        by_cases hv : j ∈ vs
        · have w0 : ∀ (τ : L2.St), j < τ.length → (wipe τ vs)[j]? = some none := fun τ ht => wipe_in hv ht
          by_cases hl : j < σ.length
          · rw [w0 _ (by rw [List.length_set]; exact hl), w0 _ hl]
          · rw [List.getElem?_eq_none (by rw [wipe_length, List.length_set]; omega), List.getElem?_eq_none (by rw [wipe_length]; omega)]
        · rw [wipe_out hv, wipe_out hv, List.getElem?_set_ne (Ne.symm hj)]
theorem wipe_in {σ : L2.St} {j : Nat} : ∀ {vs : List Nat}, j ∈ vs → j < σ.length → (wipe σ vs)[j]? = some none
  | u :: vs, h, hl => by
    unfold wipe
    by_cases e : j = u
    · subst e
      rw [List.getElem?_set_self (by rw [wipe_length]; exact hl)]
    · rw [List.getElem?_set_ne (Ne.symm e)]
      rcases List.mem_cons.mp h with z | z
      · exact absurd z e
      · exact wipe_in z hl
end

theorem wipe_twice (σ : L2.St) (vs : List Nat) : wipe (wipe σ vs) vs = wipe σ vs := by
  apply List.ext_getElem?
  intro j
  by_cases h : j ∈ vs
  · by_cases hl : j < σ.length
    · rw [wipe_in h (by rw [wipe_length]; exact hl), wipe_in h hl]
    · rw [List.getElem?_eq_none (by rw [wipe_length, wipe_length]; omega), List.getElem?_eq_none (by rw [wipe_length]; omega)]
  · rw [wipe_out h]
/-! a comprehension -/
def goC (f : D → R (Option D)) : List D → List D → R (List D)
  | [], acc => .ok acc
  | x :: r, acc => match f x with
    | .ok (some d) => if acc.length < 16777216 then goC f r (acc ++ [d]) else .no
    | .ok none => goC f r acc
    | _ => .no
def wipeE (env : Ev) : List Nat → Ev
  | [] => env
  | i :: r => put (wipeE env r) i none
theorem wipeE_len (env : Ev) : ∀ ws, (wipeE env ws).length = env.length
  | [] => rfl
  | i :: r => by
    show (put (wipeE env r) i none).length = _
    rw [put_len, wipeE_len env r]
theorem EnvR.wipe {H : Hp} {O : Addr → Bool} {Γ : Nat → Own} {env : Ev} {σ : L2.St} (e : EnvR H O Γ env σ) : ∀ ws : List Nat, EnvR H O Γ (wipeE env ws) (L2.wipe σ ws)
  | [] => e
  | i :: r => fun j d b hj => by
    have hj : lk (Pv.put (wipeE env r) i none) j = some (d, b) := hj
    rw [lk_put] at hj
    by_cases h : j = i
    · rw [if_pos h] at hj
      split at hj <;> cases hj
    · rw [if_neg h] at hj
      obtain ⟨v, hv, q⟩ := EnvR.wipe e r j d b hj
      refine ⟨v, ?_, q⟩
      show ((L2.wipe σ r).set i none)[j]? = _
      rw [List.getElem?_set_ne (Ne.symm h)]
      exact hv
def step (g : G) (ws : List Nat) (ft : Ev → R Bool) (fe : Ev → R D) (env : Ev) (x : D) : R (Option D) :=
  match gset g x (wipeE env ws) with
  | .ok env1 => match ft env1 with
    | .ok true => match fe env1 with
      | .ok d => .ok (some d)
      | _ => .no
    | .ok false => .ok none
    | _ => .no
  | _ => .no
def ctxB (c : Ctx) : Ctx := { c with W := fun _ _ => False }
section
variable {X : Cx} {c : Ctx}
theorem RpA.snoc {K : PySem.W.Frag} {H : Hp} {O : Addr → Bool} {vs : List V} {ds : List D} {o : Own} {A : List Addr} {v : V} {d : D} {B : List Addr} (hr : Rp K H O v d o B) : RpA K H O vs ds o A → RpA K H O (vs ++ [v]) (ds ++ [d]) o (A ++ B)
  | .nil => by
    have := RpA.cons hr (RpA.nil (K := K) (H := H) (O := O) (o := o))
    rw [List.append_nil] at this
    exact this
  | .cons h1 h2 => by
    rw [List.append_assoc]
    exact .cons h1 (RpA.snoc hr h2)
theorem comp_read {wi : TI} {g : G} {tt : TT} {te : TE} {ws : List Nat} {fi : Ev → R (List D)} {ft : Ev → R Bool} {fe : Ev → R D} {o : Own} (hw : wi = tI c true fi) (ht : tt = tT (ctxB c) ft) (he : te = tE (ctxB c) fe o) (hfz : fz o = true) (hs : ∀ i ∈ gslots g, i ∈ ws) {K : PySem.W.Frag} {σ : L2.St} {H0 : Hp} {Q : VK}
    (h : tE c (fun env => fi env >>= fun items => goC (step g ws ft fe env) items [] >>= fun ds => .ok (.list ds)) (.lst o) σ H0 Q) : tLc wi (tgG K g) tt te ws σ H0 Q := by
  subst hw ht he
  obtain ⟨env, O, a, h⟩ := h
  have h : AnsP c.W H0 (fi env >>= fun items => goC (step g ws ft fe env) items [] >>= fun ds => .ok (.list ds)) (Gv O (.lst o) Q) := h
  refine ⟨env, O, a, ?_⟩
  cases hfi : fi env with
  | no => rw [hfi] at h; exact h
  | exc x => rw [hfi] at h; exact h
  | ok items =>
    rw [hfi] at h
    have h : AnsP c.W H0 (goC (step g ws ft fe env) items [] >>= fun ds => .ok (.list ds)) (Gv O (.lst o) Q) := h
    intro J H1 s01 hJ D hD
    refine ⟨fun i m H => m = items.length - i ∧ i ≤ items.length ∧ ∃ vs ds A, H D = some (.lst vs) ∧ Same H1 H ∧ A.Nodup ∧ D ∉ A ∧ (∀ b ∈ A, H1 b = none ∧ ∃ xs, H b = some (.lst xs)) ∧ RpA [] H (add O (D :: A)) vs ds o A ∧
        AnsP c.W H0 (goC (step g ws ft fe env) (items.drop i) ds >>= fun ds => .ok (.list ds)) (Gv O (.lst o) Q), ⟨items.length, rfl, Nat.zero_le _, [], [], [], upd_same, same_new hD, List.nodup_nil, (fun z => nomatch z), (fun b z => nomatch z), .nil, h⟩, ?_⟩
    rintro i m H ⟨rfl, hi, vs, ds, A, hHD, s1, nd, hDA, hA, hr, hans⟩
    have dom : Dom H (add O (D :: A)) := fun b hb => by
      rcases add_true.mp hb with z | z
      · exact (a.dom.mono (s01.trans s1)) b z
      · rcases List.mem_cons.mp z with z | z
        · rw [z]; exact ⟨vs, hHD⟩
        · exact (hA b z).2
    have newO : ∀ b, add O (D :: A) b = true → O b = true ∨ H1 b = none := fun b hb => by
      rcases add_true.mp hb with z | z
      · exact .inl z
      · rcases List.mem_cons.mp z with z | z
        · rw [z]; exact .inr hD
        · exact .inr (hA b z).1
    obtain ⟨go, stop⟩ := hJ i H (add O (D :: A)) dom s1 (mask_mono s1 newO)
    by_cases hlt : i < items.length
    · have hd : items.drop i = items[i] :: items.drop (i + 1) := List.drop_eq_getElem_cons hlt
      obtain ⟨g1, yl⟩ := go items[i] (List.getElem?_eq_getElem hlt)
      rw [hd] at hans
      refine .inr ⟨g1, fun H' => ∃ vs ds A, H' D = some (.lst vs) ∧ Same H1 H' ∧ A.Nodup ∧ D ∉ A ∧ (∀ b ∈ A, H1 b = none ∧ ∃ xs, H' b = some (.lst xs)) ∧ RpA [] H' (add O (D :: A)) vs ds o A ∧
        AnsP c.W H0 (goC (step g ws ft fe env) (items.drop (i + 1)) ds >>= fun ds => .ok (.list ds)) (Gv O (.lst o) Q), fun H' n => ⟨items.length - (i + 1), by omega, rfl, by omega, n⟩, fun x H2 y => ?_⟩
      obtain ⟨s2, kx⟩ := yl x H2 y
      have at2 : At (ctxB c) H2 (add O (D :: A)) (wipeE env ws) (L2.wipe σ ws) := by
        refine ⟨dom.mono s2, EnvR.wipe (a.er.mono (s01.trans (s1.trans s2)) (fun b hb => ?_) fun b hb => add_true.mpr (.inl hb)) ws, by rw [wipeE_len, L2.wipe_length]; exact a.len⟩
        rcases newO b hb with z | z
        · exact .inl z
        · exact .inr (s01.free z)
      -- what is asked of the turn
      unfold goC at hans
      cases hg : gset g items[i] (wipeE env ws) with
      | no => simp only [step, hg] at hans; exact hans.elim
      | exc z => simp only [step, hg] at hans; exact hans.elim
      | ok env1 =>
        refine gset_ok (P := fun e τ => At (ctxB c) H2 (add O (D :: A)) e τ) (fun e τ j d v p k => ⟨p.dom, EnvR.put p.er p.len k, by rw [put_len, List.length_set]; exact p.len⟩) g _ x _ env1 _ _ kx hg at2 fun σ2 p2 w2 => ⟨(w2 ws hs).trans (wipe_twice σ ws), ?_⟩
        refine ⟨env1, _, p2, ?_⟩
        cases hft : ft env1 with
        | no => simp only [step, hg, hft] at hans; exact hans.elim
        | exc z => simp only [step, hg, hft] at hans; exact hans.elim
        | ok b =>
          intro H3 s3
          cases b with
          | false =>
            simp only [step, hg, hft] at hans
            refine (if_neg (by decide)).mpr ?_
            have s13 : Same H H3 := s2.trans s3
            exact ⟨vs, ds, A, s13 _ _ hHD, s1.trans s13, nd, hDA, fun b hb => ⟨(hA b hb).1, let ⟨xs, e⟩ := (hA b hb).2; ⟨xs, s13 _ _ e⟩⟩, RpA.mono s13 (fun b hb => .inl hb) (fun b hb => add_true.mpr (.inr (List.mem_cons_of_mem _ hb))) hr, hans⟩
          | true =>
            refine (if_pos rfl).mpr ⟨env1, _, p2.later s3, ?_⟩
            cases hfe : fe env1 with
            | no => simp only [step, hg, hft, hfe] at hans; exact hans.elim
            | exc z => simp only [step, hg, hft, hfe] at hans; exact hans.elim
            | ok d =>
              simp only [step, hg, hft, hfe] at hans
              intro y H4 B s4 fr ry
              have s14 : Same H H4 := (s2.trans s3).trans s4
              split at hans
              · rename_i hsz
                have hl : vs.length = ds.length := DpAll.length hr.dp
                refine ⟨vs, s14 _ _ hHD, by rw [hl, ← sz]; exact hsz, vs ++ [y], ds ++ [d], A ++ B, upd_same, fun b z e => ?_, ?_, ?_, fun b hb => ?_, ?_, hans⟩
                · have hb : b ≠ D := ne_of_none e hD
                  rw [upd_ne hb]
                  exact s14 _ _ (s1 _ _ e)
                · refine List.nodup_append.mpr ⟨nd, fr.nd, fun p hp q hq e => ?_⟩
                  subst e
                  obtain ⟨xs, e⟩ := (hA p hp).2
                  have := (s2.trans s3) _ _ e
                  rw [fr.new p hq] at this
                  cases this
                · intro z
                  rcases List.mem_append.mp z with z | z
                  · exact hDA z
                  · have := (s2.trans s3) _ _ hHD
                    rw [fr.new D z] at this
                    cases this
                · have hbD : b ≠ D := fun e => by
                    subst e
                    rcases List.mem_append.mp hb with z | z
                    · exact hDA z
                    · have := (s2.trans s3) _ _ hHD
                      rw [fr.new b z] at this
                      cases this
                  rw [upd_ne hbD]
                  rcases List.mem_append.mp hb with z | z
                  · exact ⟨(hA b z).1, let ⟨xs, e⟩ := (hA b z).2; ⟨xs, s14 _ _ e⟩⟩
                  · exact ⟨Same.free (s1.trans (s2.trans s3)) (fr.new b z), fr.lst b z⟩
                · have d3 : Dom H3 (add O (D :: A)) := dom.mono (s2.trans s3)
                  have d4 : Dom H4 (add (add O (D :: A)) B) := d3.add s4 fr
                  have kp : ∀ (b : Addr) (z : HO), b ≠ D → H4 b = some z → (upd H4 D (.lst (vs ++ [y]))) b = some z := fun b z hb e => by rw [upd_ne hb]; exact e
                  have oD : ∀ b, add (add O (D :: A)) B b = false → b ≠ D := fun b hb e => by
                    subst e
                    have : add (add O (b :: A)) B b = true := add_true.mpr (.inl (add_true.mpr (.inr List.mem_cons_self)))
                    rw [hb] at this
                    cases this
                  have oo : ∀ b, add O (D :: (A ++ B)) b = true → add (add O (D :: A)) B b = true := fun b hb => by
                    rcases add_true.mp hb with z | z
                    · exact add_true.mpr (.inl (add_true.mpr (.inl z)))
                    · rcases List.mem_cons.mp z with z | z
                      · exact add_true.mpr (.inl (add_true.mpr (.inr (by rw [z]; exact List.mem_cons_self))))
                      · rcases List.mem_append.mp z with z | z
                        · exact add_true.mpr (.inl (add_true.mpr (.inr (List.mem_cons_of_mem _ z))))
                        · exact add_true.mpr (.inr z)
                  have hr4 : RpA [] H4 (add (add O (D :: A)) B) vs ds o A := RpA.mono s14 (fun b hb => (add_true.mp hb).elim .inl fun z => .inr (Same.free (s2.trans s3) (fr.new b z))) (fun b hb => add_true.mpr (.inl (add_true.mpr (.inr (List.mem_cons_of_mem _ hb))))) hr
                  refine RpA.snoc (Rp.keep d4 (fun b z e q => kp b z ?_ e) (fun b hb => .inl (oo b hb)) (fun b hb => add_true.mpr (.inr (List.mem_cons_of_mem _ (List.mem_append_right _ hb)))) hfz ry)
                    (RpA.keep d4 (fun b z e q => kp b z ?_ e) (fun b hb => .inl (oo b hb)) (fun b hb => add_true.mpr (.inr (List.mem_cons_of_mem _ (List.mem_append_left _ hb)))) hfz hr4)
                  · rcases q with q | q
                    · exact oD b q
                    · intro e
                      subst e
                      have := (s2.trans s3) _ _ hHD
                      rw [fr.new b q] at this
                      cases this
                  · rcases q with q | q
                    · exact oD b q
                    · exact fun e => hDA (e ▸ q)
              · exact hans.elim
    · have hn : i = items.length := by omega
      refine .inl ⟨stop (by omega), ?_⟩
      rw [hn, List.drop_length] at hans
      have hans : Gv O (.lst o) Q H0 (.list ds) := hans
      refine hans _ H (D :: A) (s01.trans s1) ⟨List.nodup_cons.mpr ⟨hDA, nd⟩, fun b hb => ?_, fun b hb => ?_⟩ (.lst hHD (add_true.mpr (.inr List.mem_cons_self)) hr)
      · rcases List.mem_cons.mp hb with z | z
        · rw [z]; exact s01.free hD
        · exact s01.free (hA b z).1
      · rcases List.mem_cons.mp hb with z | z
        · rw [z]; exact ⟨vs, hHD⟩
        · exact (hA b z).2
end
end Pv

namespace Pv
open PySem PySem.Spec PyProof.Rows L2

/-! calls of the text's own defs -/
structure Fn where
  name : Str
  n : Nat
  own : Own
  sem : List D → R D
def noX : R D → R D
  | .ok d => .ok d
  | _ => .no
def spF (fn : Fn) : Sp := fun vs H Q _ => ∃ O ds, Dom H O ∧ ds.length = fn.n ∧ DpAll [] (mask H O) vs ds ∧ AnsP (fun _ _ => False) H (fn.sem ds) (Gv O fn.own Q)
mutual
def noL : D → Bool
  | .list _ => false
  | .tuple ds => noLs ds
  | .dict _ => false
  | _ => true
def noLs : List D → Bool
  | [] => true
  | d :: ds => noL d && noLs ds
end
mutual
def cln : Own → D → Bool
  | .lst o, .list ds => clnA o ds
  | .tc o r, .tuple ds => clnS (.tc o r) ds
  | _, d => noL d
def clnA : Own → List D → Bool
  | _, [] => true
  | o, d :: ds => cln o d && clnA o ds
def clnS : Own → List D → Bool
  | .tc o r, d :: ds => cln o d && clnS r ds
  | _, _ => true
end
mutual
theorem noL_mask {H : Hp} {O O' : Addr → Bool} (hd : Dom H O) : ∀ (d : D) (v : V), noL d = true → Dp [] (mask H O') v d → Dp [] (mask H O) v d
  | .none, _, _, h => by cases h; exact .non
  | .bool _, _, _, h => by cases h; exact .bl _
  | .int _, _, _, h => by cases h; exact .int _
  | .str _, _, _, h => by cases h; exact .str _
  | .list _, _, n, _ => by cases n
  | .dict _, _, n, _ => by cases n
  | .tuple ds, _, n, h => by
    cases h with
    | tup h1 h2 => exact .tup (.inl (rd_mask hd (rdT_of (Same.seqT mask_le h1)))) (noLs_mask hd ds _ n h2)
theorem noLs_mask {H : Hp} {O O' : Addr → Bool} (hd : Dom H O) : ∀ (ds : List D) (vs : List V), noLs ds = true → DpAll [] (mask H O') vs ds → DpAll [] (mask H O) vs ds
  | [], _, _, h => by cases h; exact .nil
  | d :: ds, _, n, h => by
    have n' := Bool.and_eq_true_iff.mp n
    cases h with
    | cons h1 h2 => exact .cons (noL_mask hd d _ n'.1 h1) (noLs_mask hd ds _ n'.2 h2)
end
/-! a clean answer leans on nothing that was there -/
mutual
theorem cln_rp {H : Hp} {O O' : Addr → Bool} (hd : Dom H O) {A0 : List Addr} (hA : ∀ a ∈ A0, O a = true) {v : V} {d : D} {o : Own} {A : List Addr} (hs : ∀ a ∈ A, a ∈ A0) (hf : fz o = true) (hc : cln o d = true) : Rp [] H O' v d o A → Rp [] H O v d o A
  | .bw h => by cases hf
  | .sh h => .sh (noL_mask hd _ _ (by cases h <;> first | exact hc | rfl) h)
  | .flat f h => .flat f h
  | .itmL h1 h2 => by cases hf
  | .itmT h1 h2 => by cases hf
  | .lst h1 h3 h2 => .lst h1 (hA _ (hs _ List.mem_cons_self)) (clnA_rp hd hA (fun a z => hs a (List.mem_cons_of_mem _ z)) hf hc h2)
  | .tup h1 h2 => .tup h1 (clnS_rp hd hA hs hf hc h2)
theorem clnA_rp {H : Hp} {O O' : Addr → Bool} (hd : Dom H O) {A0 : List Addr} (hA : ∀ a ∈ A0, O a = true) {v : List V} {d : List D} {o : Own} {A : List Addr} (hs : ∀ a ∈ A, a ∈ A0) (hf : fz o = true) (hc : clnA o d = true) : RpA [] H O' v d o A → RpA [] H O v d o A
  | .nil => .nil
  | .cons h1 h2 => by
    have hc' := Bool.and_eq_true_iff.mp hc
    exact .cons (cln_rp hd hA (fun a z => hs a (List.mem_append_left _ z)) hf hc'.1 h1) (clnA_rp hd hA (fun a z => hs a (List.mem_append_right _ z)) hf hc'.2 h2)
theorem clnS_rp {H : Hp} {O O' : Addr → Bool} (hd : Dom H O) {A0 : List Addr} (hA : ∀ a ∈ A0, O a = true) {v : List V} {d : List D} {o : Own} {A : List Addr} (hs : ∀ a ∈ A, a ∈ A0) (hf : fz o = true) (hc : clnS o d = true) : RpS [] H O' v d o A → RpS [] H O v d o A
  | .nil => .nil
  | .cons h1 h2 => by
    have hc' := Bool.and_eq_true_iff.mp hc
    have hf' := Bool.and_eq_true_iff.mp hf
    exact .cons (cln_rp hd hA (fun a z => hs a (List.mem_append_left _ z)) hf'.1 hc'.1 h1) (clnS_rp hd hA (fun a z => hs a (List.mem_append_right _ z)) hf'.2 hc'.2 h2)
end
def evFn (fn : Fn) (k : Bool) (ds : List D) : R D :=
  if ds.length = fn.n then
    match fn.sem ds with
    | .ok d => if k = true then (if cln fn.own d = true then .ok d else .no) else .ok d
    | _ => .no
  else .no
section
variable {X : Cx} {c : Ctx}
structure FnIs (X : Cx) (fn : Fn) : Prop where
  is : ∃ (f : Addr) (fd : FuncData) (ps : List Str) (k : Nat), FnOk X.prog X.w X.K X.mg X.base CX0 k f fd ps (spF fn) ∧ Room k X.A ∧ X.mg fn.name = some (.ref f) ∧ PySem.W.keepIn X.K (.ref f) = true ∧ Binds X.K fd ps []
def fzs : Own → Bool
  | .tn => true
  | .tc o r => fz o && fzs r
  | _ => false
theorem fzs_fz : ∀ {os : Own}, fzs os = true → fz os = true
  | .tn, _ => rfl
  | .tc o r, h => by
    have h' := Bool.and_eq_true_iff.mp h
    show (fz o && fz r) = true
    rw [h'.1, fzs_fz h'.2]
    rfl
/-- the callee's promise from the caller's side -/
theorem sp_of {fn : Fn} {k : Bool} {H0 H : Hp} {O : Addr → Bool} {A : List Addr} {os : Own} {vs : List V} {ds : List D} {Q : VK} {W : Nat → Hp → Prop} (hk : k = true ∨ fzs os = true) (hfz : fz fn.own = true) (s : Same H0 H) (hd0 : Dom H0 O) (fr : Fresh H0 H A) (r : RpS [] H (add O A) vs ds os A)
    (h : AnsP W H0 (evFn fn k ds) (Gv O fn.own Q)) (E : XK) : spF fn vs H Q E := by
  have hd : Dom H O := hd0.mono s
  unfold evFn at h
  split at h
  · rename_i hn
    cases k with
    | false =>
      have hfs : fzs os = true := hk.elim (fun z => by cases z) id
      refine ⟨O, ds, hd, hn, r.freeze hd (fun a z => add_true.mpr (.inl z)) (fr.disj hd0) (fzs_fz hfs), ?_⟩
      cases hs : fn.sem ds with
      | no => rw [hs] at h; exact h.elim
      | exc x => rw [hs] at h; exact h.elim
      | ok d =>
        rw [hs] at h
        exact Gv.up _ _ _ s h
    | true =>
      refine ⟨fun _ => false, ds, (fun a z => nomatch z), hn, by rw [mask_none fun _ => rfl]; exact r.dp, ?_⟩
      cases hs : fn.sem ds with
      | no => rw [hs] at h; exact h.elim
      | exc x => rw [hs] at h; exact h.elim
      | ok d =>
        rw [hs] at h
        dsimp only at h
        rw [if_pos rfl] at h
        split at h
        · rename_i hcl
          intro v H' B s' f' rr
          refine h v H' B (s.trans s') (f'.elder s) ?_
          exact cln_rp ((hd.add s' f')) (fun a z => add_true.mpr (.inr z)) (fun a z => z) hfz hcl rr
        · exact h.elim
  · exact h.elim
theorem pe_fn {fn : Fn} {k : Bool} {F : Ev → R (List D)} {os : Own} {e : Expr} {es : List Expr} {p pos : Pos} (hF : FnIs X fn) (hk : k = true ∨ fzs os = true) (hfz : fz fn.own = true) (hg : Gl X fn.name) (ha : PA X (e :: es) (tA c F os))
    (hdb : (fn.name == ("__debug__" : Str)) = false) (he : starEach (e :: es) X.env = (false, eval e X.env) :: starEach es X.env) (hpl : (backTo pos (starEach es X.env)).any (·.1) = false) :
    PE X (.Call (.Name fn.name p) (e :: es) [] pos) (tE c (fun env => F env >>= evFn fn k) fn.own) := by
  obtain ⟨f, fd, ps, kk, ok, hr, hm, kp, hb⟩ := hF.is
  refine PE.imp (pe_call ok hr hg hm kp hb .nil pass0 ha hdb he hpl) fun σ H Q ⟨env, O, a, h⟩ => ?_
  have h : AnsP c.W H (F env >>= evFn fn k) (Gv O fn.own Q) := h
  refine ⟨env, O, a, ?_⟩
  cases hf : F env with
  | no => rw [hf] at h; exact h
  | exc x => rw [hf] at h; exact h
  | ok ds =>
    rw [hf] at h
    intro vs H1 A s fr r
    rw [List.append_nil]
    exact sp_of hk hfz s a.dom fr r h _
theorem pe_fn0 {fn : Fn} {p pos : Pos} (hF : FnIs X fn) (hfz : fz fn.own = true) (hg : Gl X fn.name) (hdb : (fn.name == ("__debug__" : Str)) = false) :
    PE X (.Call (.Name fn.name p) [] [] pos) (tE c (fun _ => evFn fn true []) fn.own) := by
  obtain ⟨f, fd, ps, kk, ok, hr, hm, kp, hb⟩ := hF.is
  refine PE.imp (pe_call0 ok hr hg hm kp hb .nil pass0 hdb) fun σ H Q ⟨env, O, a, h⟩ => ?_
  exact sp_of (A := []) (os := .tn) (.inl rfl) hfz (Same.refl _) a.dom Fresh.nil .nil h E0

/-! arguments -/
theorem pa_n : PA X [] (tA c (fun _ => .ok []) .tn) := PA.imp pa_nil fun σ H Q ⟨env, O, a, h⟩ => h [] H [] (Same.refl _) Fresh.nil .nil
theorem pa_c {e : Expr} {es : List Expr} {f : Ev → R D} {o : Own} {F : Ev → R (List D)} {os : Own} (h1 : PE X e (tE c f o)) (h2 : PA X es (tA c F os)) (hs : starEach (e :: es) X.env = (false, eval e X.env) :: starEach es X.env) :
    PA X (e :: es) (tA c (fun env => f env >>= fun d => F env >>= fun ds => .ok (d :: ds)) (.tc o os)) := by
  refine PA.imp (pa_cons h1 h2 hs) fun σ H Q ⟨env, O, a, h⟩ => ?_
  refine tE_own a h fun d v H1 A hf s1 f1 r1 h1 => ?_
  have a1 := a.add s1 f1
  refine ⟨env, _, a1, ?_⟩
  cases hF : F env with
  | no => rw [hF] at h1; exact h1
  | exc x =>
    rw [hF] at h1
    exact fun H' s' => h1 H' (s1.trans s')
  | ok ds =>
    rw [hF] at h1
    intro vs H2 B s2 f2 r2
    refine h1 (v :: vs) H2 (A ++ B) (s1.trans s2) (f1.add s1 s2 f2) (.cons ?_ ?_)
    · refine Rp.mono s2 (fun b hb => ?_) (fun b hb => add_true.mpr (.inr (List.mem_append_left _ hb))) r1
      rcases add_true.mp hb with z | z
      · exact .inl (add_true.mpr (.inl z))
      · rcases List.mem_append.mp z with z | z
        · exact .inl (add_true.mpr (.inr z))
        · exact .inr (f2.new b z)
    · refine RpS.mono (Same.refl _) (fun b hb => ?_) (fun b hb => add_true.mpr (.inr (List.mem_append_right _ hb))) r2
      rcases add_true.mp hb with z | z
      · exact .inl (add_true.mpr (.inl (add_true.mpr (.inl z))))
      · rcases List.mem_append.mp z with z | z
        · exact .inl (add_true.mpr (.inl (add_true.mpr (.inr z))))
        · exact .inl (add_true.mpr (.inr z))

/-! the forms of expressions -/
def evVar (i : Nat) (m : Bool) (env : Ev) : R D :=
  match lk env i with
  | some (d, b) => if m = true then (if b = true then .ok d else .no) else .ok d
  | none => .no
def nown : Own → Bool
  | .sh | .tn => true
  | .tc o r => nown o && nown r
  | _ => false
def bty : Own → Own
  | .lst o => if nown o = true then .itm else .bw
  | .sh => .sh
  | _ => .bw
mutual
theorem nown_rp {K : PySem.W.Frag} {H : Hp} {O : Addr → Bool} {v : V} {d : D} {o : Own} {A : List Addr} (h : nown o = true) : Rp K H O v d o A → A = []
  | .bw _ => rfl
  | .sh _ => rfl
  | .flat _ _ => rfl
  | .itmL _ _ => rfl
  | .itmT _ _ => rfl
  | .lst _ _ _ => by cases h
  | .tup _ h2 => nown_rpS h h2
theorem nown_rpA {K : PySem.W.Frag} {H : Hp} {O : Addr → Bool} {v : List V} {d : List D} {o : Own} {A : List Addr} (h : nown o = true) : RpA K H O v d o A → A = []
  | .nil => rfl
  | .cons h1 h2 => by rw [nown_rp h h1, nown_rpA h h2]; rfl
theorem nown_rpS {K : PySem.W.Frag} {H : Hp} {O : Addr → Bool} {v : List V} {d : List D} {o : Own} {A : List Addr} (h : nown o = true) : RpS K H O v d o A → A = []
  | .nil => rfl
  | .cons h1 h2 => by
    have h' := Bool.and_eq_true_iff.mp h
    rw [nown_rp h'.1 h1, nown_rpS h'.2 h2]
    rfl
end
theorem nown_fz : ∀ {o : Own}, nown o = true → fz o = true
  | .sh, _ => rfl
  | .tn, _ => rfl
  | .tc o r, h => by
    have h' := Bool.and_eq_true_iff.mp h
    show (fz o && fz r) = true
    rw [nown_fz h'.1, nown_fz h'.2]
    rfl
theorem rp_bty {H : Hp} {O : Addr → Bool} {v : V} {d : D} {o : Own} {A : List Addr} (hd : Dom H O) (r : Rp [] H O v d o A) : Rp [] H O v d (bty o) [] := by
  cases o with
  | lst o =>
    show Rp [] H O v d (if nown o = true then .itm else .bw) []
    split
    · rename_i hn
      cases r with
      | flat f h => exact .flat f h
      | lst h1 h3 h2 =>
        have e := nown_rpA hn h2
        subst e
        exact .itmL (.inl (.inl h1)) (h2.freeze hd (fun _ z => z) (by intro a z; cases z) (nown_fz hn))
    · exact .bw r.dp
  | sh =>
    cases r with
    | sh h => exact .sh h
    | flat f h => exact .flat f h
  | bw => exact .bw r.dp
  | itm => exact .bw r.dp
  | tn => exact .bw r.dp
  | tc o r' => exact .bw r.dp
theorem sh_bty {H : Hp} {O : Addr → Bool} {v : V} {d : D} {o : Own} (r : Dp [] (mask H O) v d) : Rp [] H O v d (bty o) [] := by
  cases o with
  | lst o =>
    show Rp [] H O v d (if nown o = true then .itm else .bw) []
    split
    · cases r with
      | non => exact .flat rfl .non
      | bl b => exact .flat rfl (.bl b)
      | int b => exact .flat rfl (.int b)
      | str b => exact .flat rfl (.str b)
      | lst k1 k2 => exact .itmL (Same.seq mask_le k1) k2
      | tup k1 k2 => exact .itmT (Same.seqT mask_le k1) k2
    · exact .bw (dp_mono mask_le _ _ r)
  | sh => exact .sh r
  | bw => exact .bw (dp_mono mask_le _ _ r)
  | itm => exact .bw (dp_mono mask_le _ _ r)
  | tn => exact .bw (dp_mono mask_le _ _ r)
  | tc o r' => exact .bw (dp_mono mask_le _ _ r)
theorem pe_v {i : Nat} {m : Bool} {x : Str} {pos : Pos} (hN : X.N[i]? = some x) (hv : Vis X.env.scope x) (hd : (x == ("__debug__" : Str)) = false) (hcd : (x == ("__classdict__" : Str)) = false) :
    PE X (.Name x pos) (tE c (evVar i m) (if m = true then .sh else bty (c.Γ i))) := by
  refine PE.imp (pe_var hN hv hd hcd) fun σ H Q ⟨env, O, a, h⟩ => ?_
  unfold evVar at h
  split at h
  · rename_i d b hl
    obtain ⟨v, hs, q⟩ := a.er i d b hl
    refine ⟨v, hs, ?_⟩
    cases m with
    | true =>
      cases b with
      | true => exact Gv.give h (Same.refl _) (.sh q)
      | false => exact h.elim
    | false =>
      refine Gv.give h (Same.refl _) ?_
      cases b with
      | true => exact sh_bty q
      | false =>
        obtain ⟨A, _, r⟩ := q
        exact rp_bty a.dom r
  · exact h.elim
theorem flat_sh {H : Hp} {O : Addr → Bool} {v : V} {d : D} {o : Own} (f : flatD d = true) (h : Dp [] H v d) : Rp [] H O v d o [] := .flat f h
theorem pe_k {v : V} {d : D} {e : Expr} (he : PE X e (tC v)) (f : flatD d = true) (h : ∀ H, Dp [] H v d) : PE X e (tE c (fun _ => .ok d) .sh) :=
  PE.imp he fun σ H Q ⟨env, O, a, q⟩ => Gv.flat q f (h H)
def evNeg : D → R D
  | .int i => .ok (.int (-i))
  | _ => .no
theorem pe_neg {a : Expr} {pos : Pos} {f : Ev → R D} {o : Own} (ha : PE X a (tE c f o)) : PE X (.UnaryOp .USub a pos) (tE c (fun env => f env >>= evNeg) .sh) := by
  refine PE.imp (pe_un un_neg ha) fun σ H Q ⟨env, O, at_, h⟩ => tE_bind at_ Gv.up h fun d v H1 _ s1 a1 t h1 => ?_
  unfold evNeg at h1
  split at h1
  · exact ⟨_, dpInt t.dp, flat_out h1⟩
  · exact h1.elim
theorem pe_bin {op : BOp} {o oa ob : Own} {a b : Expr} {pos : Pos} {fa fb : Ev → R D} (ha : PE X a (tE c fa oa)) (hb : PE X b (tE c fb ob)) (h0 : newO o = true) (h1 : itmb oa = true) (h2 : itmb ob = true) :
    PE X (.BinOp a op.op b pos) (tE c (fun env => fa env >>= fun x => fb env >>= fun y => evBin op o x y) o) := by
  refine PE.imp (pe_op (opr_bin h0) ha hb) fun σ H Q ⟨env, O, at_, h⟩ => tE_bind at_ Gv.up h fun d v H1 _ s1 a1 t g1 => tE_bind a1 Gv.up g1 fun e u H2 _ s2 a2 t2 g2 => ?_
  cases hz : evBin op o d e with
  | no => rw [hz] at g2; exact g2.elim
  | exc x =>
    exfalso
    unfold evBin at hz
    split at hz <;> first | cases hz | (split at hz <;> cases hz)
  | ok z =>
    rw [hz] at g2
    exact ⟨d, e, z, O, a2.dom, (t.later s2).its a2.dom h1, t2.its a2.dom h2, hz, g2⟩
theorem evIn_exc {x y : D} {z : Nat} : evIn x y ≠ .exc z := by
  intro h
  unfold evIn at h
  split at h
  · split at h <;> cases h
  · split at h <;> cases h
  · split at h <;> cases h
  · cases h
theorem evCmp_exc {op : COp} {x y : D} {z : Nat} : evCmp op x y ≠ .exc z := by
  intro h
  cases op <;> unfold evCmp at h <;> dsimp only at h
  case isin => exact evIn_exc h
  case notin =>
    cases e : evIn x y with
    | no => rw [e] at h; cases h
    | exc w => exact evIn_exc e
    | ok b => rw [e] at h; cases h
  all_goals (split at h <;> cases h)
theorem pe_cm {op : COp} {oa ob : Own} {a b : Expr} {pos : Pos} {fa fb : Ev → R D} (hu : X.A.units + 65 < cLine) (ha : PE X a (tE c fa oa)) (hb : PE X b (tE c fb ob)) (hm : behindInMarks op.op b = false) :
    PE X (.Compare a [op.op] [b] pos) (tE c (fun env => fa env >>= fun x => fb env >>= fun y => evCmp op x y >>= fun b => .ok (.bool b)) .sh) := by
  refine PE.imp (pe_cmpR (opr_cmp hu) ha hb hm) fun σ H Q ⟨env, O, at_, h⟩ => tE_bind at_ Gv.up h fun d v H1 _ s1 a1 t g1 => tE_bind a1 Gv.up g1 fun e u H2 _ s2 a2 t2 g2 => ?_
  cases hz : evCmp op d e with
  | no => rw [hz] at g2; exact g2.elim
  | exc x => exact (evCmp_exc hz).elim
  | ok z =>
    rw [hz] at g2
    exact ⟨d, e, z, (t.later s2).dp, t2.dp, hz, Gv.flat g2 rfl (.bl z)⟩
theorem pt_cm {op : COp} {oa ob : Own} {a b : Expr} {pos : Pos} {fa fb : Ev → R D} (hu : X.A.units + 65 < cLine) (ha : PE X a (tE c fa oa)) (hb : PE X b (tE c fb ob)) (hm : behindInMarks op.op b = false) :
    PT X (.Compare a [op.op] [b] pos) (tT c (fun env => fa env >>= fun x => fb env >>= fun y => evCmp op x y)) := by
  refine PT.imp (pt_cmpR (opr_cmp hu) ha hb hm) fun σ H Q ⟨env, O, at_, h⟩ => tE_bind at_ Gb.up h fun d v H1 _ s1 a1 t g1 => tE_bind a1 Gb.up g1 fun e u H2 _ s2 a2 t2 g2 => ?_
  cases hz : evCmp op d e with
  | no => rw [hz] at g2; exact g2.elim
  | exc x => exact (evCmp_exc hz).elim
  | ok z =>
    rw [hz] at g2
    exact ⟨d, e, z, (t.later s2).dp, t2.dp, hz, z, rfl, g2 _ (Same.refl _)⟩
/-- a < b < c -/
theorem pe_ch {op op' : COp} {oa ob oc : Own} {a b d : Expr} {pos : Pos} {fa fb fc : Ev → R D} (hu : X.A.units + 65 < cLine) (ha : PE X a (tE c fa oa)) (hb : PE X b (tE c fb ob)) (hc : PE X d (tE c fc oc)) (hm : lastMarks [op.op, op'.op] [b, d] = false) :
    PE X (.Compare a [op.op, op'.op] [b, d] pos) (tE c (fun env => fa env >>= fun x => fb env >>= fun y => evCmp op x y >>= fun r => if r = true then (fc env >>= fun z => evCmp op' y z >>= fun q => .ok (.bool q)) else .ok (.bool false)) .sh) := by
  refine PE.imp (pe_chain (opr_cmp hu) (opr_cmp hu) ha hb hc hm) fun σ H Q ⟨env, O, at_, h⟩ => tE_bind at_ Gv.up h fun x v H1 _ s1 a1 t1 g1 => tE_bind a1 Gv.up g1 fun y u H2 _ s2 a2 t2 g2 => ?_
  cases hz : evCmp op x y with
  | no => rw [hz] at g2; exact g2.elim
  | exc x => exact (evCmp_exc hz).elim
  | ok r =>
    rw [hz] at g2
    refine ⟨x, y, r, (t1.later s2).dp, t2.dp, hz, r, rfl, ?_⟩
    cases r with
    | false =>
      have g2 : AnsP c.W H2 (.ok (.bool false)) (Gv O .sh Q) := g2
      exact Gv.flat g2 rfl (.bl false)
    | true =>
      have g2 : AnsP c.W H2 (fc env >>= fun z => evCmp op' y z >>= fun q => .ok (.bool q)) (Gv O .sh Q) := g2
      refine tE_bind a2 Gv.up g2 fun z w H3 _ s3 a3 t3 g3 => ?_
      cases hq : evCmp op' y z with
      | no => rw [hq] at g3; exact g3.elim
      | exc x => exact (evCmp_exc hq).elim
      | ok q =>
        rw [hq] at g3
        exact ⟨y, z, q, (t2.later s3).dp, t3.dp, hq, Gv.flat g3 rfl (.bl q)⟩
theorem pt_ch {op op' : COp} {oa ob oc : Own} {a b d : Expr} {pos : Pos} {fa fb fc : Ev → R D} (hu : X.A.units + 65 < cLine) (ha : PE X a (tE c fa oa)) (hb : PE X b (tE c fb ob)) (hc : PE X d (tE c fc oc)) (hm : lastMarks [op.op, op'.op] [b, d] = false) :
    PT X (.Compare a [op.op, op'.op] [b, d] pos) (tT c (fun env => fa env >>= fun x => fb env >>= fun y => evCmp op x y >>= fun r => if r = true then (fc env >>= fun z => evCmp op' y z) else .ok false)) := by
  refine PT.imp (pt_chain (opr_cmp hu) (opr_cmp hu) ha hb hc hm) fun σ H Q ⟨env, O, at_, h⟩ => tE_bind at_ Gb.up h fun x v H1 _ s1 a1 t1 g1 => tE_bind a1 Gb.up g1 fun y u H2 _ s2 a2 t2 g2 => ?_
  cases hz : evCmp op x y with
  | no => rw [hz] at g2; exact g2.elim
  | exc x => exact (evCmp_exc hz).elim
  | ok r =>
    rw [hz] at g2
    refine ⟨x, y, r, (t1.later s2).dp, t2.dp, hz, r, rfl, ?_⟩
    cases r with
    | false =>
      have g2 : AnsP c.W H2 (.ok false) (Gb Q) := g2
      exact ⟨false, rfl, g2 _ (Same.refl _)⟩
    | true =>
      have g2 : AnsP c.W H2 (fc env >>= fun z => evCmp op' y z) (Gb Q) := g2
      refine tE_bind a2 Gb.up g2 fun z w H3 _ s3 a3 t3 g3 => ?_
      cases hq : evCmp op' y z with
      | no => rw [hq] at g3; exact g3.elim
      | exc x => exact (evCmp_exc hq).elim
      | ok q =>
        rw [hq] at g3
        exact ⟨y, z, q, (t2.later s3).dp, t3.dp, hq, q, rfl, g3 _ (Same.refl _)⟩
/-! truth -/
theorem truthD_exc {d : D} {z : Nat} : truthD d ≠ .exc z := by
  intro h
  cases d <;> first | cases h | (unfold truthD at h; dsimp only at h; split at h <;> cases h)
theorem pt_tr {a : Expr} {f : Ev → R D} {o : Own} (ha : PE X a (tE c f o)) (he : ∀ whole, isTrue a X.env whole = (do let v ← whole; standAt a.pos; holding [v] (truthy v))) : PT X a (tT c fun env => f env >>= truthD) := by
  refine PT.imp (pt_truth ha he) fun σ H Q ⟨env, O, at_, h⟩ => tE_bind at_ Gb.up h fun d v H1 _ s1 a1 t g1 => ?_
  cases hz : truthD d with
  | no => rw [hz] at g1; exact g1.elim
  | exc x => exact (truthD_exc hz).elim
  | ok b =>
    rw [hz] at g1
    exact ⟨b, tru_of t.dp hz, g1 _ (Same.refl _)⟩
theorem pt_n {a : Expr} {pos : Pos} {f : Ev → R Bool} (ha : PT X a (tT c f)) : PT X (.UnaryOp .Not a pos) (tT c fun env => f env >>= fun b => .ok (!b)) := by
  refine PT.imp (pt_not ha) fun σ H Q ⟨env, O, at_, h⟩ => tT_bind at_ Gb.up h fun b H1 _ s1 a1 g1 => g1 _ (Same.refl _)
theorem pe_n {a : Expr} {pos : Pos} {f : Ev → R D} {o : Own} (ha : PE X a (tE c f o)) : PE X (.UnaryOp .Not a pos) (tE c (fun env => f env >>= fun d => truthD d >>= fun b => .ok (.bool (!b))) .sh) := by
  refine PE.imp (pe_notT ha) fun σ H Q ⟨env, O, at_, h⟩ => tE_bind at_ Gv.up h fun d v H1 _ s1 a1 t g1 => ?_
  cases hz : truthD d with
  | no => rw [hz] at g1; exact g1.elim
  | exc x => exact (truthD_exc hz).elim
  | ok b =>
    rw [hz] at g1
    exact ⟨b, tru_of t.dp hz, Gv.flat g1 rfl (.bl _)⟩
/-! and, or: values -/
theorem pe_an1 {op : BoolOp} {a : Expr} {pos : Pos} {t : TE} (h : PE X a t) : PE X (.BoolOp op [a] pos) t := pe_one h
theorem pe_an {a b : Expr} {rest : List Expr} {pos : Pos} {fa fb : Ev → R D} {o : Own} (ho : o = .sh) (ha : PE X a (tE c fa o)) (hb : PE X (.BoolOp .And (b :: rest) pos) (tE c fb .sh)) :
    PE X (.BoolOp .And (a :: b :: rest) pos) (tE c (fun env => fa env >>= fun x => truthD x >>= fun r => if r = true then fb env else .ok x) .sh) := by
  subst ho
  refine PE.imp (pe_andT ha hb) fun σ H Q ⟨env, O, at_, h⟩ => tE_bind at_ Gv.up h fun d v H1 _ s1 a1 t g1 => ?_
  cases hz : truthD d with
  | no => rw [hz] at g1; exact g1.elim
  | exc x => exact (truthD_exc hz).elim
  | ok b =>
    rw [hz] at g1
    refine ⟨b, tru_of t.dp hz, ?_⟩
    cases b with
    | true => exact ⟨env, O, a1, g1⟩
    | false =>
      have g1 : AnsP c.W H1 (.ok d) (Gv O .sh Q) := g1
      exact Gv.give g1 (Same.refl _) (.sh (t.fz a1.dom rfl))
theorem pe_or {a b : Expr} {rest : List Expr} {pos : Pos} {fa fb : Ev → R D} {o : Own} (ho : o = .sh) (ha : PE X a (tE c fa o)) (hb : PE X (.BoolOp .Or (b :: rest) pos) (tE c fb .sh)) :
    PE X (.BoolOp .Or (a :: b :: rest) pos) (tE c (fun env => fa env >>= fun x => truthD x >>= fun r => if r = true then .ok x else fb env) .sh) := by
  subst ho
  refine PE.imp (pe_orT ha hb) fun σ H Q ⟨env, O, at_, h⟩ => tE_bind at_ Gv.up h fun d v H1 _ s1 a1 t g1 => ?_
  cases hz : truthD d with
  | no => rw [hz] at g1; exact g1.elim
  | exc x => exact (truthD_exc hz).elim
  | ok b =>
    rw [hz] at g1
    refine ⟨b, tru_of t.dp hz, ?_⟩
    cases b with
    | false => exact ⟨env, O, a1, g1⟩
    | true =>
      have g1 : AnsP c.W H1 (.ok d) (Gv O .sh Q) := g1
      exact Gv.give g1 (Same.refl _) (.sh (t.fz a1.dom rfl))
/-! .. tests -/
theorem pw_a1 {a : Expr} {pos : Pos} {f : Ev → R Bool} (ha : PT X a (tT c f)) : PW X (.BoolOp .And [a] pos) (tT c f) := pw_and1 ha
theorem pw_o1 {a : Expr} {pos : Pos} {f : Ev → R Bool} (ha : PT X a (tT c f)) : PW X (.BoolOp .Or [a] pos) (tT c f) := pw_or1 ha
theorem pw_a {a b : Expr} {rest : List Expr} {pos : Pos} {fa fb : Ev → R Bool} (ha : PT X a (tT c fa)) (hb : PW X (.BoolOp .And (b :: rest) pos) (tT c fb)) :
    PW X (.BoolOp .And (a :: b :: rest) pos) (tT c fun env => fa env >>= fun r => if r = true then fb env else .ok false) := by
  refine PW.imp (pw_and ha hb) fun σ H Q ⟨env, O, at_, h⟩ => tT_bind at_ Gb.up h fun b H1 _ s1 a1 g1 => ?_
  cases b with
  | true => exact ⟨env, O, a1, g1⟩
  | false =>
    have g1 : AnsP c.W H1 (.ok false) (Gb Q) := g1
    exact g1 _ (Same.refl _)
theorem pw_o {a b : Expr} {rest : List Expr} {pos : Pos} {fa fb : Ev → R Bool} (ha : PT X a (tT c fa)) (hb : PW X (.BoolOp .Or (b :: rest) pos) (tT c fb)) :
    PW X (.BoolOp .Or (a :: b :: rest) pos) (tT c fun env => fa env >>= fun r => if r = true then .ok true else fb env) := by
  refine PW.imp (pw_or ha hb) fun σ H Q ⟨env, O, at_, h⟩ => tT_bind at_ Gb.up h fun b H1 _ s1 a1 g1 => ?_
  cases b with
  | false => exact ⟨env, O, a1, g1⟩
  | true =>
    have g1 : AnsP c.W H1 (.ok true) (Gb Q) := g1
    exact g1 _ (Same.refl _)
/-! a if t else b -/
theorem pe_it {t a b : Expr} {pos : Pos} {ft : Ev → R Bool} {fa fb : Ev → R D} {o : Own} (ht : PT X t (tT c ft)) (ha : PE X a (tE c fa o)) (hb : PE X b (tE c fb o)) :
    PE X (.IfExp t a b pos) (tE c (fun env => ft env >>= fun r => if r = true then fa env else fb env) o) := by
  refine PE.imp (pe_ifExp ht ha hb) fun σ H Q ⟨env, O, at_, h⟩ => tT_bind at_ Gv.up h fun b H1 _ s1 a1 g1 => ?_
  cases b with
  | true => exact ⟨env, O, a1, g1⟩
  | false => exact ⟨env, O, a1, g1⟩
/-! subscripts, slices -/
theorem evIdx_exc {x y : D} {z : Nat} : evIdx x y ≠ .exc z := by
  intro h
  unfold evIdx at h
  split at h
  · split at h <;> cases h
  · split at h <;> cases h
  · split at h
    · split at h <;> cases h
    · cases h
  · cases h
theorem pe_id {a b : Expr} {pos : Pos} {fa fb : Ev → R D} {oa ob : Own} (ha : PE X a (tE c fa oa)) (hb : PE X b (tE c fb ob)) (hs : PlainIx b) :
    PE X (.Subscript a b pos) (tE c (fun env => fa env >>= fun x => fb env >>= fun y => evIdx x y) (if itmb oa = true then .sh else .bw)) := by
  have ho : (if itmb oa = true then Own.sh else .bw) = .sh ∨ (if itmb oa = true then Own.sh else .bw) = .bw := by split <;> simp
  refine PE.imp (pe_ix (ixr ho) ha hb hs) fun σ H Q ⟨env, O, at_, h⟩ => tE_bind at_ Gv.up h fun d v H1 _ s1 a1 t g1 => tE_bind a1 Gv.up g1 fun e u H2 _ s2 a2 t2 g2 => ?_
  cases hz : evIdx d e with
  | no => rw [hz] at g2; exact g2.elim
  | exc x => exact (evIdx_exc hz).elim
  | ok z =>
    rw [hz] at g2
    refine ⟨d, e, z, O, a2.dom, (t.later s2).dp, fun q => ?_, t2.dp, hz, g2⟩
    split at q
    · rename_i hi
      exact (t.later s2).its a2.dom hi
    · cases q
def evPart (f : Option (Ev → R D)) (env : Ev) : R (Option Int) :=
  match f with
  | none => .ok none
  | some f => f env >>= fun d => match d with
    | .int i => .ok (some i)
    | _ => .no
def tO (c : Ctx) (f : Ev → R (Option Int)) : TO := fun σ H Q => ∃ env O, At c H O env σ ∧ AnsP c.W H (f env) (fun H i => ∀ H', Same H H' → Q i H')
theorem PO.imp {e : Option Expr} {t t' : TO} (h : PO X e t) (i : ∀ σ H Q, t' σ H Q → t σ H Q) : PO X e t' := ⟨fun pins s σ H Q I q => h.run pins s σ H Q I (i _ _ _ q)⟩
theorem up_o {Q : Option Int → Hp → Prop} : Up (fun H i => ∀ H', Same H H' → Q i H') := fun _ _ _ s h H' s' => h H' (s.trans s')
theorem po_n : PO X none (tO c (evPart none)) := PO.imp po_none fun σ H Q ⟨env, O, at_, h⟩ => h H (Same.refl _)
theorem po_s {e : Expr} {f : Ev → R D} {o : Own} (he : PE X e (tE c f o)) : PO X (some e) (tO c (evPart (some f))) := by
  refine PO.imp (po_some he) fun σ H Q ⟨env, O, at_, h⟩ => ?_
  refine tE_bind at_ up_o h fun d v H1 _ s1 a1 t g1 => ?_
  split at g1
  · exact ⟨_, dpInt t.dp, g1 _ (Same.refl _)⟩
  · exact g1.elim
theorem tO_bind {α : Type} {f : Ev → R (Option Int)} {g : Option Int → R α} {σ : L2.St} {H : Hp} {P : Hp → α → Prop} {Q' : Option Int → Hp → Prop}
    {env : Ev} {O : Addr → Bool} (a : At c H O env σ) (u : Up P) (h : AnsP c.W H (f env >>= g) P)
    (k : ∀ d H1, Same H H1 → At c H1 O env σ → AnsP c.W H1 (g d) P → Q' d H1) : tO c f σ H Q' := by
  refine ⟨env, O, a, ?_⟩
  cases hf : f env with
  | no => rw [hf] at h; exact h
  | exc x => rw [hf] at h; exact h
  | ok d =>
    rw [hf] at h
    exact fun H1 s => k d H1 s (a.later s) (AnsP.later u s h)
theorem evSl_exc {o : Own} {x : D} {lo hi : Option Int} {z : Nat} : evSl o x lo hi ≠ .exc z := by
  intro h
  unfold evSl at h
  split at h
  · cases h
  · split at h <;> cases h
  · split at h <;> cases h
  · cases h
theorem pe_sl {a : Expr} {lo hi : Option Expr} {p2 pos : Pos} {fa : Ev → R D} {fl fh : Ev → R (Option Int)} {o oa : Own} (ho : newO o = true) (hi' : itmb oa = true) (ha : PE X a (tE c fa oa)) (hl : PO X lo (tO c fl)) (hh : PO X hi (tO c fh)) :
    PE X (.Subscript a (.Slice lo hi none p2) pos) (tE c (fun env => fa env >>= fun x => fl env >>= fun l => fh env >>= fun h => evSl o x l h) o) := by
  refine PE.imp (pe_slice (slr ho) ha hl hh) fun σ H Q ⟨env, O, at_, h⟩ => tE_bind at_ Gv.up h fun d v H1 _ s1 a1 t g1 => tO_bind a1 Gv.up g1 fun l H2 s2 a2 g2 => tO_bind a2 Gv.up g2 fun r H3 s3 a3 g3 => ?_
  cases hz : evSl o d l r with
  | no => rw [hz] at g3; exact g3.elim
  | exc x => exact (evSl_exc hz).elim
  | ok z =>
    rw [hz] at g3
    exact ⟨d, z, O, a3.dom, ((t.later s2).later s3).its a3.dom hi', hz, g3⟩
/-! displays -/
theorem RpS.length {K : PySem.W.Frag} {H : Hp} {O : Addr → Bool} {vs : List V} {ds : List D} {o : Own} {A : List Addr} (h : RpS K H O vs ds o A) : vs.length = ds.length := DpAll.length h.dp
def evTup (ds : List D) : R D := if ds.length ≤ 16777216 then .ok (.tuple ds) else .no
def evLst (ds : List D) : R D := if ds.length ≤ 16777216 then .ok (.list ds) else .no
def isTc : Own → Bool
  | .tc _ _ => true
  | _ => false
theorem pe_tu {es : List Expr} {k : Nat} {pos : Pos} {F : Ev → R (List D)} {os : Own} (ht : isTc os = true) (h : PA X es (tA c F os)) : PE X (.Tuple es k pos) (tE c (fun env => F env >>= evTup) os) := by
  refine PE.imp (L2.pe_tup h) fun σ H Q ⟨env, O, at_, h⟩ => tA_bind at_ h fun ds vs H1 A _ s1 fr r g1 => ?_
  unfold evTup at g1
  split at g1
  · rename_i hz
    refine ⟨by rw [r.length, ← sz]; exact hz, fun p hp => ?_⟩
    have sn : Same H1 (upd H1 p (.tup vs)) := same_new hp
    have g1 : Gv O os Q H (.tuple ds) := g1
    refine g1 _ _ A (s1.trans sn) ⟨fr.nd, fr.new, fun a ha => let ⟨xs, e⟩ := fr.lst a ha; ⟨xs, sn _ _ e⟩⟩ ?_
    match os, ht with
    | .tc o r', _ => exact .tup upd_same (RpS.mono sn (fun b hb => .inl hb) (fun b hb => add_true.mpr (.inr hb)) r)
  · exact g1.elim
/-- all of one kind -/
def allO (o : Own) : Own → Bool
  | .tn => true
  | .tc o' r => decide (o' = o) && allO o r
  | _ => false
theorem rpA_of {K : PySem.W.Frag} {H : Hp} {O : Addr → Bool} {o : Own} : ∀ {vs : List V} {ds : List D} {os : Own} {A : List Addr}, allO o os = true → RpS K H O vs ds os A → RpA K H O vs ds o A
  | _, _, _, _, _, .nil => .nil
  | _, _, _, _, h, .cons h1 h2 => by
    have h' := Bool.and_eq_true_iff.mp h
    have e := of_decide_eq_true h'.1
    subst e
    exact .cons h1 (rpA_of h'.2 h2)
theorem pe_li {es : List Expr} {pos : Pos} {F : Ev → R (List D)} {o os : Own} (ho : allO o os = true) (h : PA X es (tA c F os)) : PE X (.List es pos) (tE c (fun env => F env >>= evLst) (.lst o)) := by
  refine PE.imp (L2.pe_lst h) fun σ H Q ⟨env, O, at_, h⟩ => tA_bind at_ h fun ds vs H1 A _ s1 fr r g1 => ?_
  unfold evLst at g1
  split at g1
  · rename_i hz
    refine ⟨by rw [r.length, ← sz]; exact hz, fun p hp => ?_⟩
    have sn : Same H1 (upd H1 p (.lst vs)) := same_new hp
    have g1 : Gv O (.lst o) Q H (.list ds) := g1
    have hpA : p ∉ A := fun z => by
      obtain ⟨xs, e⟩ := fr.lst p z
      rw [hp] at e
      cases e
    refine g1 _ _ (p :: A) (s1.trans sn) ⟨List.nodup_cons.mpr ⟨hpA, fr.nd⟩, fun a ha => ?_, fun a ha => ?_⟩ (.lst upd_same (add_true.mpr (.inr List.mem_cons_self)) (rpA_of ho (RpS.mono sn (fun b hb => ?_) (fun b hb => add_true.mpr (.inr (List.mem_cons_of_mem _ hb))) r)))
    · rcases List.mem_cons.mp ha with z | z
      · rw [z]; exact s1.free hp
      · exact fr.new a z
    · rcases List.mem_cons.mp ha with z | z
      · rw [z]; exact ⟨vs, upd_same⟩
      · exact let ⟨xs, e⟩ := fr.lst a z; ⟨xs, sn _ _ e⟩
    · rcases add_true.mp hb with z | z
      · exact .inl (add_true.mpr (.inl z))
      · rcases List.mem_cons.mp z with z | z
        · rw [z]; exact .inr hp
        · exact .inl (add_true.mpr (.inr z))
  · exact g1.elim
/-! built-in functions -/
theorem evBi_exc {b : Bi} {o : Own} {ds : List D} {z : Nat} : evBi b o ds ≠ .exc z := by
  intro h
  unfold evBi at h
  split at h <;> first | cases h | (split at h <;> cases h)
def itm1 : Own → Bool
  | .tc o _ => itmb o
  | _ => false
theorem rps_it {H : Hp} {O : Addr → Bool} {vs : List V} {ds : List D} {os : Own} {A : List Addr} (hd : Dom H O) (hA : ∀ a ∈ A, O a = false) (h1 : itm1 os = true) (r : RpS [] H (add O A) vs ds os A) : ∀ v d, vs = [v] → ds = [d] → Itm [] H O v d := by
  rintro v d rfl rfl
  cases r with
  | cons r1 r2 => exact r1.its hd (fun a h => add_true.mpr (.inl h)) (fun a h => hA a (List.mem_append_left _ h)) h1
theorem pe_bf {b : Bi} {o : Own} {e : Expr} {es : List Expr} {p pos : Pos} {F : Ev → R (List D)} {os : Own} (ho : newO o = true) (hc : X.calm = true) (hi : itms b = true → itm1 os = true) (hg : Gl X b.nm) (hm : X.mg b.nm = none) (ha : PA X (e :: es) (tA c F os))
    (he : starEach (e :: es) X.env = (false, eval e X.env) :: starEach es X.env) (hpl : (backTo pos (starEach es X.env)).any (·.1) = false) :
    PE X (.Call (.Name b.nm p) (e :: es) [] pos) (tE c (fun env => F env >>= evBi b o) o) := by
  have go : PE X (.Call (.Name b.nm p) (e :: es) [] pos) (tCB (rF b o) (tA c F os)) := by
    have hcr := cr_bi (X := X) (b := b) (o := o) ho hc
    have hb := b.boot
    have hn : b.nm ≠ "__name__" := by cases b <;> decide +kernel
    have hd : (b.nm == ("__debug__" : Str)) = false := by cases b <;> decide +kernel
    cases b
    case int => exact pe_callTy hcr hg hm hb ha hn hd he hpl
    case list => exact pe_callTy hcr hg hm hb ha hn hd he hpl
    case tuple => exact pe_callTy hcr hg hm hb ha hn hd he hpl
    all_goals exact pe_callB hcr hg hm hb ha hn hd he hpl
  refine PE.imp go fun σ H Q ⟨env, O, at_, h⟩ => tA_bind at_ h fun ds vs H1 A _ s1 fr r g1 => ?_
  have g1 := AnsP.later Gv.up s1 g1
  cases hz : evBi b o ds with
  | no => rw [hz] at g1; exact g1.elim
  | exc x => exact (evBi_exc hz).elim
  | ok z =>
    rw [hz] at g1
    exact ⟨ds, z, O, at_.dom.mono s1, r.dp, fun hb => rps_it (at_.dom.mono s1) (fr.disj at_.dom) (hi hb) r, hz, g1⟩
/-! isinstance -/
inductive Ty where
  | int | bool | str | list | tuple
  deriving DecidableEq
def Ty.s : Ty → String
  | .int => "int" | .bool => "bool" | .str => "str" | .list => "list" | .tuple => "tuple"
def Ty.nm (t : Ty) : Str := Str.ofString t.s
def isD (t : Ty) (d : D) : Bool :=
  match t, d with
  | .int, .int _ | .int, .bool _ | .bool, .bool _ | .str, .str _ | .list, .list _ | .tuple, .tuple _ => true
  | _, _ => false
def dTy : D → String
  | .none => "NoneType" | .bool _ => "bool" | .int _ => "int" | .str _ => "str" | .list _ => "list" | .tuple _ => "tuple" | .dict _ => "dict"
theorem kit_is (t : Ty) (d : D) (h : ∀ z, d ≠ .dict z) : kitB (dTy d) t.s = some (isD t d) := by
  cases d <;> cases t <;> first | exact absurd rfl (h _) | (simp only [dTy, Ty.s, isD]; decide +kernel)
theorem tyx {K : PySem.W.Frag} {H : Hp} {v : V} {d : D} (h : Dp [] H v d) : TyX K H v (.type (dTy d)) := by
  cases h with
  | non => exact .base .non
  | bl b => exact .base (.bl b)
  | int b => exact .base (.int b)
  | str b => exact .base (.str b)
  | lst k1 k2 =>
    rcases rd_of k1 with k | ⟨o, k⟩
    · exact .base (.lst k)
    · exact .base (.frz k)
  | tup k1 k2 =>
    rcases rdT_of k1 with k | ⟨o, k⟩
    · exact .base (.tup k)
    · exact .fTuple k
theorem pe_is {t : Ty} {a : Expr} {p p' pos : Pos} {f : Ev → R D} {o : Own} (hg : Gl X "isinstance") (hm : X.mg "isinstance" = none) (hg2 : Gl X t.nm) (hm2 : X.mg t.nm = none) (ha : PE X a (tE c f o))
    (he : starEach [a, .Name t.nm p'] X.env = (false, eval a X.env) :: starEach [.Name t.nm p'] X.env) :
    PE X (.Call (.Name "isinstance" p) [a, .Name t.nm p'] [] pos) (tE c (fun env => f env >>= fun d => .ok (.bool (isD t d))) .sh) := by
  have hb : bootBuiltins t.nm = some (.type t.s) := by cases t <;> decide +kernel
  have hn : t.nm ≠ "__name__" := by cases t <;> decide +kernel
  have hd : (t.nm == ("__debug__" : Str)) = false := by cases t <;> decide +kernel
  have pt : PE X (.Name t.nm p') (tC (.ty t.s)) := pe_bltn hg2 hm2 hb rfl hn hd
  refine PE.imp (pe_callB call_isi hg hm (by decide +kernel) (pa_cons ha (pa_cons pt pa_nil) he) (by decide +kernel) (by decide +kernel) he rfl) fun σ H Q ⟨env, O, at_, h⟩ => ?_
  refine tE_bind at_ Gv.up h fun d v H1 _ s1 a1 t1 g1 => ?_
  have hnd : ∀ z, d ≠ .dict z := fun z e => by
    subst e
    have := t1.dp
    cases this
  exact ⟨v, .ty t.s, .type (dTy d), .type t.s, isD t d, rfl, .ty _, tyx t1.dp, kit_ty (kit_is t d hnd), Gv.flat g1 rfl (.bl _)⟩
/-! coercions -/
theorem pe_fz {e : Expr} {f : Ev → R D} {o : Own} (hf : fz o = true) (h : PE X e (tE c f o)) : PE X e (tE c f .sh) := by
  refine PE.imp h fun σ H Q ⟨env, O, at_, h⟩ => ⟨env, O, at_, AnsP.imp h fun d _ g v H' A s fr r => ?_⟩
  exact Gv.give g s (.sh (r.freeze (at_.dom.mono s) (fun a z => add_true.mpr (.inl z)) (fr.disj at_.dom) hf))
def evFl (d : D) : R D := if flatD d = true then .ok d else .no
theorem pe_fl {e : Expr} {f : Ev → R D} {o : Own} (h : PE X e (tE c f o)) : PE X e (tE c (fun env => f env >>= evFl) .sh) := by
  refine PE.imp h fun σ H Q ⟨env, O, at_, h⟩ => tE_bind at_ Gv.up h fun d v H1 _ s1 a1 t g1 => ?_
  unfold evFl at g1
  split at g1
  · rename_i hf
    exact Gv.flat g1 hf t.dp
  · exact g1.elim
end
end Pv

/-! special forms -/
namespace Pv
open PySem PySem.Spec PyProof.Rows L2
inductive X1 where
  | rev
  deriving DecidableEq
inductive X3 where
  | lr1 | lr2
  deriving DecidableEq
def evX1 (k : X1) (o : Own) (d : D) : R D :=
  match k with
  | .rev => match d with
    | .list xs => .ok (.list xs.reverse)
    | _ => .no
def rngCk (a b : Int) : Bool := decide (-4611686018427387904 ≤ a) && decide (a < 4611686018427387904) && decide (-4611686018427387904 ≤ b) && decide (b < 4611686018427387904) && decide ((b - a).toNat ≤ 16777216)
def evX3 (k : X3) (o : Own) (ds : List D) : R D :=
  match k with
  | .lr1 => match ds with
    | [.int j] => if rngCk 0 j = true then .ok (.list (rngD 0 j.toNat)) else .no
    | _ => .no
  | .lr2 => match ds with
    | [.int i, .int j] => if rngCk i j = true then .ok (.list (rngD i (j - i).toNat)) else .no
    | _ => .no
theorem dpAll_rev {K : PySem.W.Frag} {H : Hp} {vs : List V} {ds : List D} (h : DpAll K H vs ds) : DpAll K H vs.reverse ds.reverse := by
  induction h using DpAll.rec (motive_1 := fun _ _ _ => True) with
  | nil => exact .nil
  | cons h1 h2 _ ih =>
    rw [List.reverse_cons, List.reverse_cons]
    exact DpAll.append ih (.cons h1 .nil)
  | _ => trivial
theorem rgCk_of {a b : Int} (h : rngCk a b = true) : RgOk a b := by
  unfold rngCk at h
  simp only [Bool.and_eq_true, decide_eq_true_eq] at h
  unfold RgOk
  omega
theorem rgV_dp {H : Hp} (a b : Int) : DpAll [] H (rgV a b) (rngD a (b - a).toNat) := by
  unfold rgV rngD
  induction List.range (b - a).toNat with
  | nil => exact .nil
  | cons x r ih => exact .cons (.int _) ih
section
variable {X : Cx} {c : Ctx}
theorem pe_rev {e : Expr} {k : Nat} {p1 p2 p3 pos : Pos} {f : Ev → R D} {o oa : Own} (ho : newO o = true) (hi : itmb oa = true) (he : PE X e (tE c f oa)) :
    PE X (.Subscript e (.Slice none none (some (.UnaryOp .USub (.Constant (.int 1) k p1) p2)) p3) pos) (tE c (fun env => f env >>= evX1 .rev o) o) := by
  refine PE.imp (pe_revL he) fun σ H Q ⟨env, O, at_, h⟩ => tE_bind at_ Gv.up h fun d v H1 _ s1 a1 t g1 => ?_
  cases d with
  | list xs =>
    have it := t.its a1.dom hi
    rcases it with ⟨z, _⟩ | ⟨a, vs, ds, rfl, e0, h1, h2⟩ | ⟨a, vs, ds, rfl, e0, _, _⟩
    · cases z
    · cases e0
      refine ⟨a, vs, rfl, .inl (rd_of h1), fun p hp => ?_⟩
      exact Gv.newList ho a1.dom (Same.refl _) g1 (dpAll_rev h2) hp
    · cases e0
  | none => exact g1.elim
  | bool _ => exact g1.elim
  | int _ => exact g1.elim
  | str _ => exact g1.elim
  | tuple _ => exact g1.elim
  | dict _ => exact g1.elim
theorem pe_lr1 {a : Expr} {p q pos pos' : Pos} {f : Ev → R D} {oa o : Own} (ho : newO o = true) (hc : X.calm = true) (hg : Gl X "list") (hm : X.mg "list" = none) (hg2 : Gl X "range") (hm2 : X.mg "range" = none) (ha : PE X a (tE c f oa)) (na : starEach [a] X.env = (false, eval a X.env) :: starEach [] X.env) :
    PE X (.Call (.Name "list" p) [.Call (.Name "range" q) [a] [] pos'] [] pos) (tE c (fun env => f env >>= fun d => evX3 .lr1 o [d]) o) := by
  refine PE.imp (pe_listRg hc hg hm (prg_1 hg2 hm2 ha na)) fun σ H Q ⟨env, O, at_, h⟩ => tE_bind at_ Gv.up h fun d v H1 _ s1 a1 t g1 => ?_
  cases d with
  | int j =>
    have hv := t.dp
    cases hv
    unfold evX3 at g1
    dsimp only at g1
    split at g1
    · rename_i hk
      refine ⟨j, rfl, rgCk_of hk, fun q hq => ?_⟩
      have hd := rgV_dp (H := mask H1 O) 0 j
      rw [Int.sub_zero] at hd
      exact Gv.newList ho a1.dom (Same.refl _) g1 hd hq
    · exact g1.elim
  | none => exact g1.elim
  | bool _ => exact g1.elim
  | list _ => exact g1.elim
  | str _ => exact g1.elim
  | tuple _ => exact g1.elim
  | dict _ => exact g1.elim
theorem pe_lr2 {a b : Expr} {p q pos pos' : Pos} {fa fb : Ev → R D} {oa ob o : Own} (ho : newO o = true) (hc : X.calm = true) (hg : Gl X "list") (hm : X.mg "list" = none) (hg2 : Gl X "range") (hm2 : X.mg "range" = none) (ha : PE X a (tE c fa oa)) (hb : PE X b (tE c fb ob))
    (na : starEach [a, b] X.env = (false, eval a X.env) :: starEach [b] X.env) (nb : starEach [b] X.env = (false, eval b X.env) :: starEach [] X.env) (hp : (backTo pos' (starEach [b] X.env)).any (·.1) = false) :
    PE X (.Call (.Name "list" p) [.Call (.Name "range" q) [a, b] [] pos'] [] pos) (tE c (fun env => fa env >>= fun d => fb env >>= fun e => evX3 .lr2 o [d, e]) o) := by
  refine PE.imp (pe_listRg hc hg hm (prg_2 hg2 hm2 ha hb na nb hp)) fun σ H Q ⟨env, O, at_, h⟩ => tE_bind at_ Gv.up h fun d v H1 _ s1 a1 t g1 => tE_bind a1 Gv.up g1 fun e u H2 _ s2 a2 t2 g2 => ?_
  cases d with
  | int i =>
    cases e with
    | int j =>
      have hv := t.dp
      have hu := t2.dp
      cases hv
      cases hu
      unfold evX3 at g2
      dsimp only at g2
      split at g2
      · rename_i hk
        refine ⟨i, j, rfl, rfl, rgCk_of hk, fun q hq => ?_⟩
        exact Gv.newList ho a2.dom (Same.refl _) g2 (rgV_dp i j) hq
      · exact g2.elim
    | none => exact g2.elim
    | bool _ => exact g2.elim
    | list _ => exact g2.elim
    | str _ => exact g2.elim
    | tuple _ => exact g2.elim
    | dict _ => exact g2.elim
  | none => exact g2.elim
  | bool _ => exact g2.elim
  | list _ => exact g2.elim
  | str _ => exact g2.elim
  | tuple _ => exact g2.elim
  | dict _ => exact g2.elim
end
end Pv

namespace Pv
open PySem PySem.Spec PyProof.Rows L2

/-! the plain language -/
mutual
inductive E where
  | var (i : Nat) (m : Bool)
  | cst (d : D)
  | gl (i : Nat)
  | neg (a : E)
  | bin (op : BOp) (o : Own) (a b : E)
  | cmp (op : COp) (a b : E)
  | chn (op op' : COp) (a b c : E)
  | nt (a : E)
  | an (es : Es)
  | orr (es : Es)
  | ite (c a b : E)
  | idx (a b : E)
  | sl (o : Own) (a : E) (lo hi : Eo)
  | tup (es : Es)
  | lst (o : Own) (es : Es)
  | bi (b : Bi) (o : Own) (es : Es)
  | isi (t : Ty) (a : E)
  | fn (f : Nat) (k : Bool) (es : Es)
  | comp (o : Own) (elt : E) (g : G) (it : I) (c : Es) (ws : List Nat)
  | frz (a : E)
  | fl (a : E)
  | rv (o : Own) (a : E)
  | lr1 (o : Own) (a : E)
  | lr2 (o : Own) (a b : E)
inductive Es where
  | nil
  | cons (e : E) (r : Es)
inductive Eo where
  | no
  | sm (e : E)
inductive I where
  | seq (e : E)
  | r1 (es : Es)
  | r2 (es : Es)
  | r3 (es : Es)
  | en (es : Es)
  | zp (es : Es)
end

structure Sg where
  fns : List Fn
  gls : List (Str × D)
  Γ : List Own
def Sg.own (S : Sg) (i : Nat) : Own := S.Γ.getD i .sh
def evGl (S : Sg) (i : Nat) : R D :=
  match S.gls[i]? with
  | some p => .ok p.2
  | none => .no
def evF (S : Sg) (f : Nat) (k : Bool) (ds : List D) : R D :=
  match S.fns[f]? with
  | some fn => evFn fn k ds
  | none => .no
mutual
def ev (S : Sg) : E → Ev → R D
  | .var i m, env => evVar i m env
  | .cst d, _ => .ok d
  | .gl i, _ => evGl S i
  | .neg a, env => ev S a env >>= evNeg
  | .bin op o a b, env => ev S a env >>= fun x => ev S b env >>= fun y => evBin op o x y
  | .cmp op a b, env => ev S a env >>= fun x => ev S b env >>= fun y => evCmp op x y >>= fun b => .ok (.bool b)
  | .chn op op' a b d, env => ev S a env >>= fun x => ev S b env >>= fun y => evCmp op x y >>= fun r => if r = true then (ev S d env >>= fun z => evCmp op' y z >>= fun q => .ok (.bool q)) else .ok (.bool false)
  | .nt a, env => ev S a env >>= fun d => truthD d >>= fun b => .ok (.bool (!b))
  | .an es, env => evAn S es env
  | .orr es, env => evOr S es env
  | .ite t a b, env => ev S t env >>= fun d => truthD d >>= fun r => if r = true then ev S a env else ev S b env
  | .idx a b, env => ev S a env >>= fun x => ev S b env >>= fun y => evIdx x y
  | .sl o a lo hi, env => ev S a env >>= fun x => evo S lo env >>= fun l => evo S hi env >>= fun h => evSl o x l h
  | .tup es, env => evs S es env >>= evTup
  | .lst _ es, env => evs S es env >>= evLst
  | .bi b o es, env => evs S es env >>= evBi b o
  | .isi t a, env => ev S a env >>= fun d => .ok (.bool (isD t d))
  | .fn f k es, env => evs S es env >>= evF S f k
  | .comp _ elt g it t ws, env => evi S it env >>= fun items => goC (step g ws (evc S t) (ev S elt) env) items [] >>= fun ds => .ok (.list ds)
  | .frz a, env => ev S a env
  | .fl a, env => ev S a env >>= evFl
  | .rv o a, env => ev S a env >>= evX1 .rev o
  | .lr1 o a, env => ev S a env >>= fun d => evX3 .lr1 o [d]
  | .lr2 o a b, env => ev S a env >>= fun d => ev S b env >>= fun e => evX3 .lr2 o [d, e]
def evs (S : Sg) : Es → Ev → R (List D)
  | .nil, _ => .ok []
  | .cons e r, env => ev S e env >>= fun d => evs S r env >>= fun ds => .ok (d :: ds)
def evAn (S : Sg) : Es → Ev → R D
  | .nil, _ => .no
  | .cons e r, env => match r with
    | .nil => ev S e env
    | .cons _ _ => ev S e env >>= fun x => truthD x >>= fun b => if b = true then evAn S r env else .ok x
def evOr (S : Sg) : Es → Ev → R D
  | .nil, _ => .no
  | .cons e r, env => match r with
    | .nil => ev S e env
    | .cons _ _ => ev S e env >>= fun x => truthD x >>= fun b => if b = true then .ok x else evOr S r env
def evo (S : Sg) : Eo → Ev → R (Option Int)
  | .no, _ => .ok none
  | .sm e, env => ev S e env >>= fun d => match d with
    | .int i => .ok (some i)
    | _ => .no
def evc (S : Sg) : Es → Ev → R Bool
  | .nil, _ => .ok true
  | .cons e _, env => ev S e env >>= truthD
def evi (S : Sg) : I → Ev → R (List D)
  | .seq e, env => ev S e env >>= seqD
  | .r1 es, env => evs S es env >>= rng1D
  | .r2 es, env => evs S es env >>= rng2D
  | .r3 es, env => evs S es env >>= rngnD
  | .en es, env => evs S es env >>= enum1D
  | .zp es, env => evs S es env >>= zip2D
end
mutual
def ty (S : Sg) : E → Own
  | .var i m => if m = true then .sh else bty (S.own i)
  | .bin _ o _ _ => o
  | .ite _ a _ => ty S a
  | .idx a _ => if itmb (ty S a) = true then .sh else .bw
  | .sl o _ _ _ => o
  | .tup es => tys S es
  | .lst o _ => .lst o
  | .bi _ o _ => o
  | .fn f _ _ => match S.fns[f]? with
    | some fn => fn.own
    | none => .sh
  | .comp o _ _ _ _ _ => .lst o
  | .rv o _ => o
  | .lr1 o _ => o
  | .lr2 o _ _ => o
  | _ => .sh
def tys (S : Sg) : Es → Own
  | .nil => .tn
  | .cons e r => .tc (ty S e) (tys S r)
end

/-! the text against the plain language -/
structure Cfg where
  N : List Str
  sc : Scope
  S : Sg
  bis : List Str
  cl : Str → Bool
def Cfg.look (g : Cfg) (x : Str) : Option NameKind := g.sc.names.lookup x
def visB (g : Cfg) (x : Str) : Bool := match g.look x with
  | some .local | some .cell | some .free => true
  | _ => false
def glB (g : Cfg) (x : Str) : Bool := match g.look x with
  | some .globalImplicit => true
  | _ => false
def locB (g : Cfg) (x : Str) : Bool := match g.look x with
  | some .local => true
  | some .cell => g.cl x
  | _ => false
def nmB (x : Str) : Bool := !(x == ("__debug__" : Str)) && !(x == ("__classdict__" : Str))
def biB (g : Cfg) (x : Str) : Bool := glB g x && g.bis.any fun y => decide (y = x)
def cM : Const → D → Bool
  | .none, .none => true
  | .bool a, .bool b => a == b
  | .int a, .int b => a == b
  | .str a, .str b => decide (a = b)
  | _, _ => false
def nstar : Expr → Bool
  | .Starred _ _ => false
  | _ => true
def nslice : Expr → Bool
  | .Slice _ _ _ _ => false
  | _ => true
def nset : Expr → Bool
  | .Set _ _ _ => false
  | _ => true
def isTup : Expr → Bool
  | .Tuple _ _ _ => true
  | _ => false
def allSh : Own → Bool
  | .tc o r => decide (o = .sh) && (decide (r = .tn) || allSh r)
  | _ => false
mutual
def mG (g : Cfg) : G → Expr → Bool
  | .nm i, e => match e with
    | .Name x _ => decide (g.N[i]? = some x) && locB g x
    | _ => false
  | .tp gs, e => match e with
    | .Tuple as _ _ => mGs g gs as
    | _ => false
def mGs (g : Cfg) : Gs → List Expr → Bool
  | .nil, as => as.isEmpty
  | .cons t r, as => match as with
    | a :: as => mG g t a && nstar a && mGs g r as
    | [] => false
end
def ownW (g : Cfg) (ws : List Nat) : List (Str × Nat) := ws.map fun i => (g.N.getD i "", i)
def Cfg.blk (g : Cfg) (sc : Scope) : Cfg := { g with sc := relS sc g.sc, cl := fun x => sc.names.lookup x == some .cell }
mutual
def mE (g : Cfg) : E → Expr → Bool
  | .var i _, e => match e with
    | .Name x _ => decide (g.N[i]? = some x) && visB g x && nmB x
    | _ => false
  | .cst d, e => match e with
    | .Constant k _ _ => cM k d
    | _ => false
  | .gl i, e => match e with
    | .Name x _ => (match g.S.gls[i]? with
      | some p => decide (p.1 = x)
      | none => false) && glB g x && nmB x
    | _ => false
  | .neg a, e => match e with
    | .UnaryOp .USub l _ => mE g a l
    | _ => false
  | .bin op o a b, e => match e with
    | .BinOp l p r _ => decide (p = op.op) && mE g a l && mE g b r && newO o && itmb (ty g.S a) && itmb (ty g.S b)
    | _ => false
  | .cmp op a b, e => match e with
    | .Compare l [p] [r] _ => decide (p = op.op) && mE g a l && mE g b r && !(behindInMarks p r)
    | _ => false
  | .chn op op' a b d, e => match e with
    | .Compare l [p, p'] [r, q] _ => decide (p = op.op) && decide (p' = op'.op) && mE g a l && mE g b r && mE g d q && !(lastMarks [p, p'] [r, q])
    | _ => false
  | .nt a, e => match e with
    | .UnaryOp .Not l _ => mE g a l
    | _ => false
  | .an es, e => match e with
    | .BoolOp .And as _ => mL g es as && allSh (tys g.S es)
    | _ => false
  | .orr es, e => match e with
    | .BoolOp .Or as _ => mL g es as && allSh (tys g.S es)
    | _ => false
  | .ite t a b, e => match e with
    | .IfExp x l r _ => mE g t x && mE g a l && mE g b r && decide (ty g.S a = ty g.S b)
    | _ => false
  | .idx a b, e => match e with
    | .Subscript l r _ => mE g a l && mE g b r && nslice r
    | _ => false
  | .sl o a lo hi, e => match e with
    | .Subscript l (.Slice x y none _) _ => mE g a l && mO g lo x && mO g hi y && newO o && itmb (ty g.S a)
    | _ => false
  | .tup es, e => match e with
    | .Tuple as _ _ => mL g es as && isTc (tys g.S es)
    | _ => false
  | .lst o es, e => match e with
    | .List as _ => mL g es as && allO o (tys g.S es)
    | _ => false
  | .bi b o es, e => match e with
    | .Call (.Name x _) as [] _ => decide (x = b.nm) && biB g x && mL g es as && newO o && (!itms b || itm1 (tys g.S es)) && isTc (tys g.S es)
    | _ => false
  | .isi t a, e => match e with
    | .Call (.Name x _) [l, .Name y _] [] _ => decide (x = "isinstance") && decide (y = t.nm) && biB g x && biB g y && mE g a l && nstar l
    | _ => false
  | .fn f k es, e => match e with
    | .Call (.Name x _) as [] _ => (match g.S.fns[f]? with
      | some fn => decide (fn.name = x) && (k || fzs (tys g.S es)) && fz fn.own
      | none => false) && glB g x && nmB x && mL g es as && isTc (tys g.S es)
    | _ => false
  | .comp o elt t it q ws, e => match e with
    | .ListComp a [⟨tg, i, ifs, z⟩] sc _ => decide (z = 0) && mI g true it tg i && nset i && L2.blkC g.N g.sc sc (ownW g ws) && mG (g.blk sc) t tg && mC (g.blk sc) q ifs && mE (g.blk sc) elt a && decide (ty g.S elt = o) && fz o && (gslots t).all fun j => decide (j ∈ ws)
    | _ => false
  | .frz a, e => mE g a e && fz (ty g.S a)
  | .fl a, e => mE g a e
  | .rv o a, e => match e with
    | .Subscript l (.Slice none none (some (.UnaryOp .USub (.Constant (.int 1) _ _) _)) _) _ => mE g a l && newO o && itmb (ty g.S a)
    | _ => false
  | .lr1 o a, e => match e with
    | .Call (.Name x _) [.Call (.Name y _) [l] [] _] [] _ => decide (x = "list") && decide (y = "range") && biB g x && biB g y && mE g a l && nstar l && newO o
    | _ => false
  | .lr2 o a b, e => match e with
    | .Call (.Name x _) [.Call (.Name y _) [l, r] [] _] [] _ => decide (x = "list") && decide (y = "range") && biB g x && biB g y && mE g a l && mE g b r && nstar l && nstar r && newO o
    | _ => false
def mL (g : Cfg) : Es → List Expr → Bool
  | .nil, as => as.isEmpty
  | .cons x r, as => match as with
    | a :: as => mE g x a && nstar a && mL g r as
    | [] => false
def mO (g : Cfg) : Eo → Option Expr → Bool
  | .no, e => e.isNone
  | .sm x, e => match e with
    | some a => mE g x a
    | none => false
def mC (g : Cfg) : Es → List Expr → Bool
  | .nil, as => as.isEmpty
  | .cons x r, as => match as with
    | [a] => mE g x a && (match r with
      | .nil => true
      | _ => false)
    | _ => false
def mI (g : Cfg) (p : Bool) : I → Expr → Expr → Bool
  | .seq x, _, e => mE g x e && walkb p (ty g.S x)
  | .r1 es, _, e => match e with
    | .Call (.Name x _) [a] [] _ => decide (x = "range") && biB g x && mL g es [a]
    | _ => false
  | .r2 es, _, e => match e with
    | .Call (.Name x _) [a, b] [] _ => decide (x = "range") && biB g x && mL g es [a, b]
    | _ => false
  | .r3 es, _, e => match e with
    | .Call (.Name x _) [a, b, d] [] _ => decide (x = "range") && biB g x && mL g es [a, b, d]
    | _ => false
  | .en es, tg, e => match e with
    | .Call (.Name x _) [a] [] _ => decide (x = "enumerate") && biB g x && mL g es [a] && walks p (tys g.S es) && isTup tg
    | _ => false
  | .zp es, tg, e => match e with
    | .Call (.Name x _) [a, b] [] _ => decide (x = "zip") && biB g x && mL g es [a, b] && walks p (tys g.S es) && isTup tg
    | _ => false
end

structure Good (g : Cfg) (c : Ctx) (X : Cx) : Prop where
  N : X.N = g.N
  nd : g.N.Nodup
  sc : X.env.scope = g.sc
  calm : X.calm = true
  hu : X.A.units + 65 < cLine
  bi : ∀ x, (g.bis.any fun y => decide (y = x)) = true → X.mg x = none
  gls : ∀ (i : Nat) (p : Str × D), g.S.gls[i]? = some p → ∃ u v, X.mg p.1 = some u ∧ RelV v u ∧ flatD p.2 = true ∧ ∀ H, Dp [] H v p.2
  fns : ∀ (i : Nat) (fn : Fn), g.S.fns[i]? = some fn → FnIs X fn
  own : c.Γ = g.S.own
  cl : ∀ x, g.cl x = true → X.fn x = true

section
variable {g : Cfg} {c : Ctx} {X : Cx}
theorem Good.vis (G : Good g c X) {x : Str} (h : visB g x = true) : Vis X.env.scope x := by
  unfold Vis
  rw [G.sc]
  unfold visB Cfg.look at h
  split at h
  · rename_i e; exact .inl e
  · rename_i e; exact .inr (.inl e)
  · rename_i e; exact .inr (.inr e)
  · cases h
theorem Good.gl (G : Good g c X) {x : Str} (h : glB g x = true) : Gl X x := by
  show X.env.scope.names.lookup x = some .globalImplicit
  rw [G.sc]
  unfold glB Cfg.look at h
  split at h
  · rename_i e; exact e
  · cases h
theorem Good.bl (G : Good g c X) {x : Str} (h : biB g x = true) : Gl X x ∧ X.mg x = none :=
  have h' := Bool.and_eq_true_iff.mp h
  ⟨G.gl h'.1, G.bi x h'.2⟩
theorem Good.loc (G : Good g c X) {x : Str} (h : locB g x = true) : L2.Loc X.env.scope x ∧ (X.fn x = true ∨ X.env.scope.names.lookup x = some .local) := by
  unfold L2.Loc
  rw [G.sc]
  unfold locB Cfg.look at h
  split at h
  · rename_i e; exact ⟨.inl e, .inr e⟩
  · rename_i e; exact ⟨.inr e, .inl (G.cl x h)⟩
  · cases h
theorem nmB_of {x : Str} (h : nmB x = true) : (x == ("__debug__" : Str)) = false ∧ (x == ("__classdict__" : Str)) = false := by
  unfold nmB at h
  simpa using h
theorem star_of {a : Expr} {as : List Expr} {env : Env} (h : nstar a = true) : starEach (a :: as) env = (false, eval a env) :: starEach as env := by
  cases a <;> first | rfl | cases h
theorem back_of {pos : Pos} : ∀ {as : List Expr} {env : Env}, (as.all nstar) = true → (backTo pos (starEach as env)).any (·.1) = false
  | [], _, _ => rfl
  | a :: as, env, h => by
    rw [List.all_cons, Bool.and_eq_true] at h
    rw [star_of h.1]
    have ih := back_of (pos := pos) (env := env) h.2
    unfold backTo at ih ⊢
    rw [List.map_cons, List.any_cons, ih]
    rfl
theorem mL_star : ∀ {es : Es} {as : List Expr}, mL g es as = true → as.all nstar = true
  | .nil, as, h => by
    unfold mL at h
    cases as with
    | nil => rfl
    | cons a as => cases h
  | .cons x r, as, h => by
    unfold mL at h
    split at h
    · simp only [Bool.and_eq_true] at h
      rw [List.all_cons, h.1.2, mL_star h.2]
      rfl
    · cases h
theorem pix_of {r : Expr} (h : nslice r = true) : PlainIx r := by
  intro o i
  cases r <;> first | rfl | cases h
theorem fold_of {e : Expr} {env : Env} (h : nset e = true) : ∀ x, foldedSetIterable e env x = pure x := by
  intro x
  cases e <;> first | rfl | cases h
theorem Good.blk (G : Good g c X) {sc : Scope} {s : Shared} {H : Hp} {C : Addr} {cl : List (Str × Addr)} {fp : List Addr} : Good (g.blk sc) (ctxB c) (X.blk s H sc (compEnvC sc cl C X.env) fp) where
  N := G.N
  nd := G.nd
  sc := by
    show relS sc X.env.scope = relS sc g.sc
    rw [G.sc]
  calm := G.calm
  hu := G.hu
  bi := G.bi
  gls := G.gls
  fns := fun i fn h => let ⟨f, fd, ps, k, h1, h2, h3, h4, h5⟩ := (G.fns i fn h).is; ⟨f, fd, ps, k, h1, h2, h3, h4, h5⟩
  own := G.own
  cl := fun x h => h
mutual
theorem sG : ∀ (t : G) {g : Cfg} {c : Ctx} {X : Cx} {e : Expr}, Good g c X → mG g t e = true → PG X e (tgG X.K t)
  | .nm i, g, c, X, e, G, h => by
    unfold mG at h
    split at h
    · simp only [Bool.and_eq_true, decide_eq_true_eq] at h
      obtain ⟨l1, l2⟩ := G.loc h.2
      exact pg_name (i := i) (by rw [G.N]; exact G.nd) (by rw [G.N]; exact h.1) l1 l2
    · cases h
  | .tp gs, g, c, X, e, G, h => by
    unfold mG at h
    split at h
    · obtain ⟨p, hl, hs⟩ := sGs gs G h
      exact pg_tup G.calm p hl hs
    · cases h
theorem sGs : ∀ (t : Gs) {g : Cfg} {c : Ctx} {X : Cx} {es : List Expr}, Good g c X → mGs g t es = true → PGs X es (tgGs X.K t) ∧ (assignEach es X.env).length = t.len ∧ (assignEach es X.env).findIdx? (·.1) = none
  | .nil, g, c, X, es, G, h => by
    unfold mGs at h
    cases es with
    | nil => exact ⟨pgs_nil, rfl, rfl⟩
    | cons a as => cases h
  | .cons t r, g, c, X, es, G, h => by
    unfold mGs at h
    split at h
    · rename_i a as
      simp only [Bool.and_eq_true] at h
      obtain ⟨p, hl, hs⟩ := sGs r G h.2
      have he : assignEach (a :: as) X.env = (false, assign a X.env) :: assignEach as X.env := by
        have h0 := h.1.2
        cases a <;> first | rfl | cases h0
      refine ⟨pgs_cons (sG t G h.1.1) p (by rw [he]; rfl), ?_, ?_⟩
      · rw [he]
        show (assignEach as X.env).length + 1 = r.len + 1
        rw [hl]
      · rw [he, List.findIdx?_cons]
        simp [hs]
    · cases h
end
end
end Pv

namespace Pv
open PySem PySem.Spec PyProof.Rows L2

theorem R.assoc {α β γ : Type} (m : R α) (f : α → R β) (g : β → R γ) : (m >>= f >>= g) = (m >>= fun x => f x >>= g) := by cases m <;> rfl
theorem PE.cg {X : Cx} {c : Ctx} {e : Expr} {f g : Ev → R D} {o o' : Own} (h : PE X e (tE c f o)) (hf : ∀ env, f env = g env) (ho : o = o') : PE X e (tE c g o') := by
  subst ho
  have : f = g := funext hf
  subst this
  exact h
theorem PT.cg {X : Cx} {c : Ctx} {e : Expr} {f g : Ev → R Bool} (h : PT X e (tT c f)) (hf : ∀ env, f env = g env) : PT X e (tT c g) := by
  have : f = g := funext hf
  subst this
  exact h
theorem PW.cg {X : Cx} {c : Ctx} {e : Expr} {f g : Ev → R Bool} (h : PW X e (tT c f)) (hf : ∀ env, f env = g env) : PW X e (tT c g) := by
  have : f = g := funext hf
  subst this
  exact h
theorem PI.cg {X : Cx} {c : Ctx} {p : Bool} {tg e : Expr} {f g : Ev → R (List D)} (h : PI X tg e (tI c p f)) (hf : ∀ env, f env = g env) : PI X tg e (tI c p g) := by
  have : f = g := funext hf
  subst this
  exact h
theorem PA.cg {X : Cx} {c : Ctx} {es : List Expr} {f g : Ev → R (List D)} {o o' : Own} (h : PA X es (tA c f o)) (hf : ∀ env, f env = g env) (ho : o = o') : PA X es (tA c g o') := by
  subst ho
  have : f = g := funext hf
  subst this
  exact h
@[simp] theorem truthD_bool (b : Bool) : truthD (.bool b) = .ok b := rfl
theorem cmp_tr {op : COp} (x y : D) : ((evCmp op x y >>= fun b => (.ok (.bool b) : R D)) >>= truthD) = evCmp op x y := by cases evCmp op x y <;> rfl

theorem own_ix {g : Cfg} {ws : List Nat} : (ownW g ws).map (·.2) = ws := by
  unfold ownW
  rw [List.map_map]
  exact List.map_id _
theorem tc_len {S : Sg} : ∀ {es : Es}, isTc (tys S es) = true → ∃ e r, es = .cons e r
  | .nil, h => by cases h
  | .cons e r, _ => ⟨e, r, rfl⟩

theorem pt_it {X : Cx} {c : Ctx} {t a b : Expr} {pos : Pos} {ft fa fb : Ev → R Bool} (ht : PT X t (tT c ft)) (ha : PT X a (tT c fa)) (hb : PT X b (tT c fb)) :
    PT X (.IfExp t a b pos) (tT c fun env => ft env >>= fun r => if r = true then fa env else fb env) := by
  refine ⟨fun pins s σ H Q I ⟨env, O, at_, h⟩ => ?_⟩
  show wpAny _ _ (do if ← isTrue t X.env (eval t X.env) then isTrue a X.env (eval a X.env) else isTrue b X.env (eval b X.env)) _ _ _
  refine wpAny_bind (thn (ht.run pins s σ H _ I (tT_bind at_ Gb.up h fun b H1 _ s1 a1 g1 => (⟨env, O, a1, g1⟩ : tT c (fun env => if b = true then fa env else fb env) σ H1 Q))) fun r s1 ⟨H1, I1, q1⟩ => ?_)
  cases r with
  | true => exact ha.run pins s1 σ H1 Q I1 q1
  | false => exact hb.run pins s1 σ H1 Q I1 q1
mutual
theorem sE : ∀ (x : E) {g : Cfg} {c : Ctx} {X : Cx} {e : Expr}, Good g c X → mE g x e = true → PE X e (tE c (ev g.S x) (ty g.S x))
  | .var i m, g, c, X, e, G, h => by
    unfold mE at h
    split at h
    · simp only [Bool.and_eq_true, decide_eq_true_eq] at h
      obtain ⟨n1, n2⟩ := nmB_of h.2
      refine PE.cg (pe_v (c := c) (i := i) (m := m) (by rw [G.N]; exact h.1.1) (G.vis h.1.2) n1 n2) (fun env => by unfold ev; rfl) ?_
      rw [G.own]
      unfold ty
      rfl
    · cases h
  | .cst d, g, c, X, e, G, h => by
    unfold mE at h
    split at h
    · rename_i k _ _
      unfold cM at h
      split at h
      · exact PE.cg (pe_k (v := .non) (d := .none) pe_non rfl fun _ => .non) (fun env => by unfold ev; rfl) (by unfold ty; rfl)
      · rename_i a b
        have e1 := eq_of_beq h
        subst e1
        exact PE.cg (pe_k (v := .bl a) (d := .bool a) pe_bl rfl fun _ => .bl a) (fun env => by unfold ev; rfl) (by unfold ty; rfl)
      · rename_i a b
        have e1 := eq_of_beq h
        subst e1
        exact PE.cg (pe_k (v := .int a) (d := .int a) pe_int rfl fun _ => .int a) (fun env => by unfold ev; rfl) (by unfold ty; rfl)
      · rename_i a b
        have e1 := of_decide_eq_true h
        subst e1
        exact PE.cg (pe_k (v := .str a) (d := .str a) pe_str rfl fun _ => .str a) (fun env => by unfold ev; rfl) (by unfold ty; rfl)
      · cases h
    · cases h
  | .gl i, g, c, X, e, G, h => by
    unfold mE at h
    split at h
    · rename_i x _
      simp only [Bool.and_eq_true] at h
      obtain ⟨⟨h1, h2⟩, h3⟩ := h
      split at h1
      · rename_i p hp
        have e1 := of_decide_eq_true h1
        obtain ⟨u, v, m1, r1, f1, d1⟩ := G.gls i p hp
        rw [e1] at m1
        refine PE.cg (pe_k (v := v) (d := p.2) (pe_glob (G.gl h2) m1 r1 (nmB_of h3).1) f1 d1) (fun env => ?_) (by unfold ty; rfl)
        unfold ev evGl
        rw [hp]
      · cases h1
    · cases h
  | .neg a, g, c, X, e, G, h => by
    unfold mE at h
    split at h
    · exact PE.cg (pe_neg (sE a G h)) (fun env => by rw [ev]) (by unfold ty; rfl)
    · cases h
  | .bin op o a b, g, c, X, e, G, h => by
    unfold mE at h
    split at h
    · simp only [Bool.and_eq_true, decide_eq_true_eq] at h
      obtain ⟨⟨⟨⟨⟨h1, h2⟩, h3⟩, h4⟩, h5⟩, h6⟩ := h
      subst h1
      exact PE.cg (pe_bin (sE a G h2) (sE b G h3) h4 h5 h6) (fun env => by rw [ev]) (by unfold ty; rfl)
    · cases h
  | .cmp op a b, g, c, X, e, G, h => by
    unfold mE at h
    split at h
    · simp only [Bool.and_eq_true, decide_eq_true_eq, Bool.not_eq_true'] at h
      obtain ⟨⟨⟨h1, h2⟩, h3⟩, h4⟩ := h
      subst h1
      exact PE.cg (pe_cm G.hu (sE a G h2) (sE b G h3) h4) (fun env => by rw [ev]) (by unfold ty; rfl)
    · cases h
  | .chn op op' a b d, g, c, X, e, G, h => by
    unfold mE at h
    split at h
    · simp only [Bool.and_eq_true, decide_eq_true_eq, Bool.not_eq_true'] at h
      obtain ⟨⟨⟨⟨⟨h1, h1'⟩, h2⟩, h3⟩, h4⟩, h5⟩ := h
      subst h1
      subst h1'
      exact PE.cg (pe_ch G.hu (sE a G h2) (sE b G h3) (sE d G h4) h5) (fun env => by rw [ev]) (by unfold ty; rfl)
    · cases h
  | .nt a, g, c, X, e, G, h => by
    unfold mE at h
    split at h
    · exact PE.cg (pe_n (sE a G h)) (fun env => by rw [ev]) (by unfold ty; rfl)
    · cases h
  | .an es, g, c, X, e, G, h => by
    unfold mE at h
    split at h
    · simp only [Bool.and_eq_true] at h
      exact PE.cg (sAn es G h.1 h.2) (fun env => by rw [ev]) (by unfold ty; rfl)
    · cases h
  | .orr es, g, c, X, e, G, h => by
    unfold mE at h
    split at h
    · simp only [Bool.and_eq_true] at h
      exact PE.cg (sOr es G h.1 h.2) (fun env => by rw [ev]) (by unfold ty; rfl)
    · cases h
  | .ite t a b, g, c, X, e, G, h => by
    unfold mE at h
    split at h
    · simp only [Bool.and_eq_true, decide_eq_true_eq] at h
      obtain ⟨⟨⟨h1, h2⟩, h3⟩, h4⟩ := h
      refine PE.cg (pe_it (sT t G h1) (sE a G h2) (h4 ▸ sE b G h3)) (fun env => ?_) (by rw [ty])
      rw [ev, R.assoc]
    · cases h
  | .idx a b, g, c, X, e, G, h => by
    unfold mE at h
    split at h
    · simp only [Bool.and_eq_true] at h
      exact PE.cg (pe_id (sE a G h.1.1) (sE b G h.1.2) (pix_of h.2)) (fun env => by rw [ev]) (by rw [ty])
    · cases h
  | .sl o a lo hi, g, c, X, e, G, h => by
    unfold mE at h
    split at h
    · simp only [Bool.and_eq_true] at h
      obtain ⟨⟨⟨⟨h1, h2⟩, h3⟩, h4⟩, h5⟩ := h
      exact PE.cg (pe_sl h4 h5 (sE a G h1) (sO lo G h2) (sO hi G h3)) (fun env => by rw [ev]) (by rw [ty])
    · cases h
  | .tup es, g, c, X, e, G, h => by
    unfold mE at h
    split at h
    · simp only [Bool.and_eq_true] at h
      exact PE.cg (pe_tu h.2 (sL es G h.1)) (fun env => by rw [ev]) (by rw [ty])
    · cases h
  | .lst o es, g, c, X, e, G, h => by
    unfold mE at h
    split at h
    · simp only [Bool.and_eq_true] at h
      exact PE.cg (pe_li h.2 (sL es G h.1)) (fun env => by rw [ev]) (by rw [ty])
    · cases h
  | .bi b o es, g, c, X, e, G, h => by
    unfold mE at h
    split at h
    · simp only [Bool.and_eq_true, decide_eq_true_eq] at h
      obtain ⟨⟨⟨⟨⟨h1, h2⟩, h3⟩, h4⟩, h5⟩, h6⟩ := h
      subst h1
      obtain ⟨b1, b2⟩ := G.bl h2
      have hst := mL_star h3
      obtain ⟨x0, r0, rfl⟩ := tc_len h6
      have hL := sL (.cons x0 r0) G h3
      unfold mL at h3
      split at h3
      · rename_i a as
        rw [List.all_cons, Bool.and_eq_true] at hst
        refine PE.cg (pe_bf h4 G.calm (fun hb => ?_) b1 b2 hL (star_of hst.1) (back_of hst.2)) (fun env => by rw [ev]) (by rw [ty])
        rw [hb] at h5
        exact h5
      · cases h3
    · cases h
  | .isi t a, g, c, X, e, G, h => by
    unfold mE at h
    split at h
    · simp only [Bool.and_eq_true, decide_eq_true_eq] at h
      obtain ⟨⟨⟨⟨⟨h1, h2⟩, h3⟩, h4⟩, h5⟩, h6⟩ := h
      subst h1
      subst h2
      obtain ⟨b1, b2⟩ := G.bl h3
      obtain ⟨b3, b4⟩ := G.bl h4
      exact PE.cg (pe_is b1 b2 b3 b4 (sE a G h5) (star_of h6)) (fun env => by rw [ev]) (by unfold ty; rfl)
    · cases h
  | .fn f k es, g, c, X, e, G, h => by
    unfold mE at h
    split at h
    · simp only [Bool.and_eq_true] at h
      obtain ⟨⟨⟨⟨h1, h2⟩, h3⟩, h4⟩, h6⟩ := h
      split at h1
      · rename_i fn hfn
        simp only [Bool.and_eq_true, decide_eq_true_eq, Bool.or_eq_true] at h1
        obtain ⟨⟨k1, k2⟩, k3⟩ := h1
        subst k1
        have hst := mL_star h4
        obtain ⟨x0, r0, rfl⟩ := tc_len h6
        have hL := sL (.cons x0 r0) G h4
        unfold mL at h4
        split at h4
        · rename_i a as
          rw [List.all_cons, Bool.and_eq_true] at hst
          refine PE.cg (pe_fn (G.fns f fn hfn) k2 k3 (G.gl h2) hL (nmB_of h3).1 (star_of hst.1) (back_of hst.2)) (fun env => ?_) ?_
          · rw [ev]
            unfold evF
            rw [hfn]
          · rw [ty, hfn]
        · cases h4
      · cases h1
    · cases h
  | .comp o elt t it q ws, g, c, X, e, G, h => by
    unfold mE at h
    split at h
    · rename_i a tg i ifs z sc pos
      simp only [Bool.and_eq_true, decide_eq_true_eq, List.all_eq_true] at h
      obtain ⟨⟨⟨⟨⟨⟨⟨⟨⟨h1, h2⟩, h3⟩, h4⟩, h5⟩, h6⟩, h7⟩, h8⟩, h9⟩, h10⟩ := h
      subst h1
      have hsc : L2.blkC X.N X.env.scope sc (ownW g ws) = true := by rw [G.N, G.sc]; exact h4
      have hp := pe_lc (X := X) (g := tgG X.K t) (elt := a) (tg := tg) (iter := i) (ifs := ifs) (scope := sc) (own := ownW g ws) (pos := pos) G.calm (by rw [G.N]; exact G.nd) (sI it true G h2) (blkOk_by hsc)
        (fun s H C cl fp => sG t (G.blk (s := s) (H := H) (C := C) (cl := cl) (fp := fp)) h5) (fun s H C cl fp => sC q (G.blk (s := s) (H := H) (C := C) (cl := cl) (fp := fp)) h6)
        (fun s H C cl fp => h8 ▸ sE elt (G.blk (s := s) (H := H) (C := C) (cl := cl) (fp := fp)) h7) (fold_of h3)
      rw [own_ix] at hp
      refine PE.cg (PE.imp hp fun σ H Q hq => comp_read (g := t) (ws := ws) (fi := evi g.S it) (ft := evc g.S q) (fe := ev g.S elt) (o := o) rfl rfl rfl h9 (fun j hj => h10 j hj) hq) (fun env => by rw [ev]) (by rw [ty])
    · cases h
  | .frz a, g, c, X, e, G, h => by
    unfold mE at h
    simp only [Bool.and_eq_true] at h
    exact PE.cg (pe_fz h.2 (sE a G h.1)) (fun env => by rw [ev]) (by unfold ty; rfl)
  | .rv o a, g, c, X, e, G, h => by
    unfold mE at h
    split at h
    · simp only [Bool.and_eq_true] at h
      exact PE.cg (pe_rev (o := o) h.1.2 h.2 (sE a G h.1.1)) (fun env => by rw [ev]) (by rw [ty])
    · cases h
  | .lr1 o a, g, c, X, e, G, h => by
    unfold mE at h
    split at h
    · simp only [Bool.and_eq_true, decide_eq_true_eq] at h
      obtain ⟨⟨⟨⟨⟨⟨h1, h2⟩, h3⟩, h4⟩, h5⟩, h6⟩, h7⟩ := h
      subst h1
      subst h2
      exact PE.cg (pe_lr1 (o := o) h7 G.calm (G.bl h3).1 (G.bl h3).2 (G.bl h4).1 (G.bl h4).2 (sE a G h5) (star_of h6)) (fun env => by rw [ev]) (by rw [ty])
    · cases h
  | .lr2 o a b, g, c, X, e, G, h => by
    unfold mE at h
    split at h
    · simp only [Bool.and_eq_true, decide_eq_true_eq] at h
      obtain ⟨⟨⟨⟨⟨⟨⟨⟨h1, h2⟩, h3⟩, h4⟩, h5⟩, h6⟩, h7⟩, h8⟩, h9⟩ := h
      subst h1
      subst h2
      refine PE.cg (pe_lr2 (o := o) h9 G.calm (G.bl h3).1 (G.bl h3).2 (G.bl h4).1 (G.bl h4).2 (sE a G h5) (sE b G h6) (star_of h7) (star_of h8) ?_) (fun env => by rw [ev]) (by rw [ty])
      exact back_of (by simp [h8])
    · cases h
  | .fl a, g, c, X, e, G, h => by
    unfold mE at h
    exact PE.cg (pe_fl (sE a G h)) (fun env => by rw [ev]) (by unfold ty; rfl)
theorem sT : ∀ (x : E) {g : Cfg} {c : Ctx} {X : Cx} {e : Expr}, Good g c X → mE g x e = true → PT X e (tT c fun env => ev g.S x env >>= truthD)
  | .cmp op a b, g, c, X, e, G, h => by
    unfold mE at h
    split at h
    · simp only [Bool.and_eq_true, decide_eq_true_eq, Bool.not_eq_true'] at h
      obtain ⟨⟨⟨h1, h2⟩, h3⟩, h4⟩ := h
      subst h1
      refine PT.cg (pt_cm G.hu (sE a G h2) (sE b G h3) h4) fun env => ?_
      rw [ev, R.assoc]
      congr 1
      funext x
      rw [R.assoc]
      congr 1
      funext y
      rw [cmp_tr]
    · cases h
  | .chn op op' a b d, g, c, X, e, G, h => by
    unfold mE at h
    split at h
    · simp only [Bool.and_eq_true, decide_eq_true_eq, Bool.not_eq_true'] at h
      obtain ⟨⟨⟨⟨⟨h1, h1'⟩, h2⟩, h3⟩, h4⟩, h5⟩ := h
      subst h1
      subst h1'
      refine PT.cg (pt_ch G.hu (sE a G h2) (sE b G h3) (sE d G h4) h5) fun env => ?_
      rw [ev, R.assoc]
      congr 1
      funext x
      rw [R.assoc]
      congr 1
      funext y
      rw [R.assoc]
      congr 1
      funext r
      cases r with
      | false => rfl
      | true =>
        show (ev g.S d env >>= fun z => evCmp op' y z) = ((ev g.S d env >>= fun z => evCmp op' y z >>= fun q => .ok (.bool q)) >>= truthD)
        rw [R.assoc]
        congr 1
        funext z
        rw [cmp_tr]
    · cases h
  | .nt a, g, c, X, e, G, h => by
    unfold mE at h
    split at h
    · refine PT.cg (pt_n (sT a G h)) fun env => ?_
      rw [ev, R.assoc, R.assoc]
      congr 1
      funext d
      cases truthD d <;> rfl
    · cases h
  | .an es, g, c, X, e, G, h => by
    unfold mE at h
    split at h
    · simp only [Bool.and_eq_true] at h
      exact PT.cg (PW.pt (sWAn es G h.1 h.2)) fun env => by rw [ev]
    · cases h
  | .orr es, g, c, X, e, G, h => by
    unfold mE at h
    split at h
    · simp only [Bool.and_eq_true] at h
      exact PT.cg (PW.pt (sWOr es G h.1 h.2)) fun env => by rw [ev]
    · cases h
  | .var i m, g, c, X, e, G, h => by
    have hp := sE (.var i m) G h
    unfold mE at h
    split at h
    · exact pt_tr hp fun _ => rfl
    · cases h
  | .cst d, g, c, X, e, G, h => by
    have hp := sE (.cst d) G h
    unfold mE at h
    split at h
    · exact pt_tr hp fun _ => rfl
    · cases h
  | .gl i, g, c, X, e, G, h => by
    have hp := sE (.gl i) G h
    unfold mE at h
    split at h
    · exact pt_tr hp fun _ => rfl
    · cases h
  | .neg a, g, c, X, e, G, h => by
    have hp := sE (.neg a) G h
    unfold mE at h
    split at h
    · exact pt_tr hp fun _ => rfl
    · cases h
  | .bin op o a b, g, c, X, e, G, h => by
    have hp := sE (.bin op o a b) G h
    unfold mE at h
    split at h
    · exact pt_tr hp fun _ => rfl
    · cases h
  | .ite t a b, g, c, X, e, G, h => by
    unfold mE at h
    split at h
    · simp only [Bool.and_eq_true, decide_eq_true_eq] at h
      obtain ⟨⟨⟨h1, h2⟩, h3⟩, h4⟩ := h
      refine PT.cg (pt_it (sT t G h1) (sT a G h2) (sT b G h3)) fun env => ?_
      rw [ev, R.assoc, R.assoc]
      congr 1
      funext d
      cases truthD d with
      | no => rfl
      | exc z => rfl
      | ok r => cases r <;> rfl
    · cases h
  | .idx a b, g, c, X, e, G, h => by
    have hp := sE (.idx a b) G h
    unfold mE at h
    split at h
    · exact pt_tr hp fun _ => rfl
    · cases h
  | .sl o a lo hi, g, c, X, e, G, h => by
    have hp := sE (.sl o a lo hi) G h
    unfold mE at h
    split at h
    · exact pt_tr hp fun _ => rfl
    · cases h
  | .tup es, g, c, X, e, G, h => by
    have hp := sE (.tup es) G h
    unfold mE at h
    split at h
    · exact pt_tr hp fun _ => rfl
    · cases h
  | .lst o es, g, c, X, e, G, h => by
    have hp := sE (.lst o es) G h
    unfold mE at h
    split at h
    · exact pt_tr hp fun _ => rfl
    · cases h
  | .bi b o es, g, c, X, e, G, h => by
    have hp := sE (.bi b o es) G h
    unfold mE at h
    split at h
    · exact pt_tr hp fun _ => rfl
    · cases h
  | .isi t a, g, c, X, e, G, h => by
    have hp := sE (.isi t a) G h
    unfold mE at h
    split at h
    · exact pt_tr hp fun _ => rfl
    · cases h
  | .fn f k es, g, c, X, e, G, h => by
    have hp := sE (.fn f k es) G h
    unfold mE at h
    split at h
    · exact pt_tr hp fun _ => rfl
    · cases h
  | .comp o elt t it q ws, g, c, X, e, G, h => by
    have hp := sE (.comp o elt t it q ws) G h
    unfold mE at h
    split at h
    · exact pt_tr hp fun _ => rfl
    · cases h
  | .frz a, g, c, X, e, G, h => by
    unfold mE at h
    simp only [Bool.and_eq_true] at h
    exact PT.cg (sT a G h.1) fun env => by rw [ev]
  | .rv o a, g, c, X, e, G, h => by
    have hp := sE (.rv o a) G h
    unfold mE at h
    split at h
    · exact pt_tr hp fun _ => rfl
    · cases h
  | .lr1 o a, g, c, X, e, G, h => by
    have hp := sE (.lr1 o a) G h
    unfold mE at h
    split at h
    · exact pt_tr hp fun _ => rfl
    · cases h
  | .lr2 o a b, g, c, X, e, G, h => by
    have hp := sE (.lr2 o a b) G h
    unfold mE at h
    split at h
    · exact pt_tr hp fun _ => rfl
    · cases h
  | .fl a, g, c, X, e, G, h => by
    unfold mE at h
    refine PT.imp (sT a G h) fun σ H Q ⟨env, O, at_, hh⟩ => ⟨env, O, at_, ?_⟩
    have hh : AnsP c.W H (ev g.S (.fl a) env >>= truthD) (Gb Q) := hh
    rw [ev, R.assoc] at hh
    show AnsP c.W H (ev g.S a env >>= truthD) (Gb Q)
    cases hd : ev g.S a env with
    | no => rw [hd] at hh; exact hh
    | exc z => rw [hd] at hh; exact hh
    | ok d =>
      rw [hd] at hh
      have hh : AnsP c.W H (evFl d >>= truthD) (Gb Q) := hh
      unfold evFl at hh
      split at hh
      · exact hh
      · exact hh.elim
theorem sL : ∀ (es : Es) {g : Cfg} {c : Ctx} {X : Cx} {as : List Expr}, Good g c X → mL g es as = true → PA X as (tA c (evs g.S es) (tys g.S es))
  | .nil, g, c, X, as, G, h => by
    unfold mL at h
    cases as with
    | nil => exact PA.cg pa_n (fun env => by rw [evs]) (by rw [tys])
    | cons a as => cases h
  | .cons x r, g, c, X, as, G, h => by
    unfold mL at h
    split at h
    · simp only [Bool.and_eq_true] at h
      exact PA.cg (pa_c (sE x G h.1.1) (sL r G h.2) (star_of h.1.2)) (fun env => by rw [evs]) (by rw [tys])
    · cases h
theorem sAn : ∀ (es : Es) {g : Cfg} {c : Ctx} {X : Cx} {as : List Expr} {pos : Pos}, Good g c X → mL g es as = true → allSh (tys g.S es) = true → PE X (.BoolOp .And as pos) (tE c (evAn g.S es) .sh)
  | .nil, g, c, X, as, pos, G, h, hs => by cases hs
  | .cons x .nil, g, c, X, as, pos, G, h, hs => by
    unfold mL at h
    split at h
    · rename_i a as
      simp only [Bool.and_eq_true] at h
      have h2 := h.2
      unfold mL at h2
      cases as with
      | cons _ _ => cases h2
      | nil =>
        rw [tys, allSh] at hs
        simp only [Bool.and_eq_true, decide_eq_true_eq] at hs
        exact PE.cg (pe_an1 (sE x G h.1.1)) (fun env => by rw [evAn]) hs.1
    · cases h
  | .cons x (.cons y r), g, c, X, as, pos, G, h, hs => by
    unfold mL at h
    split at h
    · rename_i a as
      simp only [Bool.and_eq_true] at h
      rw [tys, allSh] at hs
      simp only [Bool.and_eq_true, decide_eq_true_eq, Bool.or_eq_true] at hs
      have hs2 : allSh (tys g.S (.cons y r)) = true := hs.2.elim (fun z => by rw [tys] at z; cases z) id
      have ih := fun pos => sAn (.cons y r) (pos := pos) G h.2 hs2
      have h2 := h.2
      unfold mL at h2
      split at h2
      · rename_i b bs
        exact PE.cg (pe_an hs.1 (sE x G h.1.1) (ih pos)) (fun env => by rw [evAn]) rfl
      · cases h2
    · cases h
theorem sOr : ∀ (es : Es) {g : Cfg} {c : Ctx} {X : Cx} {as : List Expr} {pos : Pos}, Good g c X → mL g es as = true → allSh (tys g.S es) = true → PE X (.BoolOp .Or as pos) (tE c (evOr g.S es) .sh)
  | .nil, g, c, X, as, pos, G, h, hs => by cases hs
  | .cons x .nil, g, c, X, as, pos, G, h, hs => by
    unfold mL at h
    split at h
    · rename_i a as
      simp only [Bool.and_eq_true] at h
      have h2 := h.2
      unfold mL at h2
      cases as with
      | cons _ _ => cases h2
      | nil =>
        rw [tys, allSh] at hs
        simp only [Bool.and_eq_true, decide_eq_true_eq] at hs
        exact PE.cg (pe_an1 (sE x G h.1.1)) (fun env => by rw [evOr]) hs.1
    · cases h
  | .cons x (.cons y r), g, c, X, as, pos, G, h, hs => by
    unfold mL at h
    split at h
    · rename_i a as
      simp only [Bool.and_eq_true] at h
      rw [tys, allSh] at hs
      simp only [Bool.and_eq_true, decide_eq_true_eq, Bool.or_eq_true] at hs
      have hs2 : allSh (tys g.S (.cons y r)) = true := hs.2.elim (fun z => by rw [tys] at z; cases z) id
      have ih := fun pos => sOr (.cons y r) (pos := pos) G h.2 hs2
      have h2 := h.2
      unfold mL at h2
      split at h2
      · rename_i b bs
        exact PE.cg (pe_or hs.1 (sE x G h.1.1) (ih pos)) (fun env => by rw [evOr]) rfl
      · cases h2
    · cases h
theorem sWAn : ∀ (es : Es) {g : Cfg} {c : Ctx} {X : Cx} {as : List Expr} {pos : Pos}, Good g c X → mL g es as = true → allSh (tys g.S es) = true → PW X (.BoolOp .And as pos) (tT c fun env => evAn g.S es env >>= truthD)
  | .nil, g, c, X, as, pos, G, h, hs => by cases hs
  | .cons x .nil, g, c, X, as, pos, G, h, hs => by
    unfold mL at h
    split at h
    · rename_i a as
      simp only [Bool.and_eq_true] at h
      have h2 := h.2
      unfold mL at h2
      cases as with
      | cons _ _ => cases h2
      | nil => exact PW.cg (pw_a1 (sT x G h.1.1)) fun env => by rw [evAn]
    · cases h
  | .cons x (.cons y r), g, c, X, as, pos, G, h, hs => by
    unfold mL at h
    split at h
    · rename_i a as
      simp only [Bool.and_eq_true] at h
      rw [tys, allSh] at hs
      simp only [Bool.and_eq_true, decide_eq_true_eq, Bool.or_eq_true] at hs
      have hs2 : allSh (tys g.S (.cons y r)) = true := hs.2.elim (fun z => by rw [tys] at z; cases z) id
      have ih := fun pos => sWAn (.cons y r) (pos := pos) G h.2 hs2
      have h2 := h.2
      unfold mL at h2
      split at h2
      · rename_i b bs
        refine PW.cg (pw_a (sT x G h.1.1) (ih pos)) fun env => ?_
        rw [evAn, R.assoc, R.assoc]
        congr 1
        funext d
        cases hd : truthD d with
        | no => rfl
        | exc z => rfl
        | ok b =>
          cases b with
          | true => rfl
          | false =>
            show R.ok false = truthD d
            rw [hd]
      · cases h2
    · cases h
theorem sWOr : ∀ (es : Es) {g : Cfg} {c : Ctx} {X : Cx} {as : List Expr} {pos : Pos}, Good g c X → mL g es as = true → allSh (tys g.S es) = true → PW X (.BoolOp .Or as pos) (tT c fun env => evOr g.S es env >>= truthD)
  | .nil, g, c, X, as, pos, G, h, hs => by cases hs
  | .cons x .nil, g, c, X, as, pos, G, h, hs => by
    unfold mL at h
    split at h
    · rename_i a as
      simp only [Bool.and_eq_true] at h
      have h2 := h.2
      unfold mL at h2
      cases as with
      | cons _ _ => cases h2
      | nil => exact PW.cg (pw_o1 (sT x G h.1.1)) fun env => by rw [evOr]
    · cases h
  | .cons x (.cons y r), g, c, X, as, pos, G, h, hs => by
    unfold mL at h
    split at h
    · rename_i a as
      simp only [Bool.and_eq_true] at h
      rw [tys, allSh] at hs
      simp only [Bool.and_eq_true, decide_eq_true_eq, Bool.or_eq_true] at hs
      have hs2 : allSh (tys g.S (.cons y r)) = true := hs.2.elim (fun z => by rw [tys] at z; cases z) id
      have ih := fun pos => sWOr (.cons y r) (pos := pos) G h.2 hs2
      have h2 := h.2
      unfold mL at h2
      split at h2
      · rename_i b bs
        refine PW.cg (pw_o (sT x G h.1.1) (ih pos)) fun env => ?_
        rw [evOr, R.assoc, R.assoc]
        congr 1
        funext d
        cases hd : truthD d with
        | no => rfl
        | exc z => rfl
        | ok b =>
          cases b with
          | false => rfl
          | true =>
            show R.ok true = truthD d
            rw [hd]
      · cases h2
    · cases h
theorem sO : ∀ (x : Eo) {g : Cfg} {c : Ctx} {X : Cx} {e : Option Expr}, Good g c X → mO g x e = true → PO X e (tO c (evo g.S x))
  | .no, g, c, X, e, G, h => by
    unfold mO at h
    cases e with
    | none =>
      have : evo g.S .no = evPart none := by
        funext env
        rw [evo]
        rfl
      rw [this]
      exact po_n
    | some _ => cases h
  | .sm x, g, c, X, e, G, h => by
    unfold mO at h
    split at h
    · have : evo g.S (.sm x) = evPart (some (ev g.S x)) := by
        funext env
        rw [evo]
        rfl
      rw [this]
      exact po_s (sE x G h)
    · cases h
theorem sC : ∀ (x : Es) {g : Cfg} {c : Ctx} {X : Cx} {e : List Expr}, Good g c X → mC g x e = true → PTs X e (tT c (evc g.S x))
  | .nil, g, c, X, e, G, h => by
    unfold mC at h
    cases e with
    | nil =>
      refine ⟨fun pins s σ H Q I ⟨env, O, a, q⟩ => pts_nil.run pins s σ H Q I ?_⟩
      rw [evc] at q
      exact q H (Same.refl _)
    | cons _ _ => cases h
  | .cons x r, g, c, X, e, G, h => by
    unfold mC at h
    split at h
    · simp only [Bool.and_eq_true] at h
      have : evc g.S (.cons x r) = fun env => ev g.S x env >>= truthD := by
        funext env
        rw [evc]
      rw [this]
      exact pts_one (sT x G h.1)
    · cases h
theorem sI : ∀ (x : I) (p : Bool) {g : Cfg} {c : Ctx} {X : Cx} {tg e : Expr}, Good g c X → mI g p x tg e = true → PI X tg e (tI c p (evi g.S x))
  | .seq x, p, g, c, X, tg, e, G, h => by
    unfold mI at h
    simp only [Bool.and_eq_true] at h
    exact PI.cg (pi_seq (sE x G h.1) h.2) fun env => by rw [evi]
  | .r1 es, p, g, c, X, tg, e, G, h => by
    unfold mI at h
    split at h
    · simp only [Bool.and_eq_true, decide_eq_true_eq] at h
      obtain ⟨⟨h1, h2⟩, h3⟩ := h
      subst h1
      obtain ⟨b1, b2⟩ := G.bl h2
      have hst := mL_star h3
      rw [List.all_cons, Bool.and_eq_true] at hst
      exact PI.cg (pi_r1 b1 b2 (sL es G h3) (star_of hst.1)) fun env => by rw [evi]
    · cases h
  | .r2 es, p, g, c, X, tg, e, G, h => by
    unfold mI at h
    split at h
    · simp only [Bool.and_eq_true, decide_eq_true_eq] at h
      obtain ⟨⟨h1, h2⟩, h3⟩ := h
      subst h1
      obtain ⟨b1, b2⟩ := G.bl h2
      have hst := mL_star h3
      rw [List.all_cons, Bool.and_eq_true, List.all_cons, Bool.and_eq_true] at hst
      exact PI.cg (pi_r2 b1 b2 (sL es G h3) (by rw [star_of hst.1, star_of hst.2.1]; rfl) (star_of hst.2.1)) fun env => by rw [evi]
    · cases h
  | .r3 es, p, g, c, X, tg, e, G, h => by
    unfold mI at h
    split at h
    · simp only [Bool.and_eq_true, decide_eq_true_eq] at h
      obtain ⟨⟨h1, h2⟩, h3⟩ := h
      subst h1
      obtain ⟨b1, b2⟩ := G.bl h2
      have hst := mL_star h3
      rw [List.all_cons, Bool.and_eq_true] at hst
      exact PI.cg (pi_r3 b1 b2 (sL es G h3) (star_of hst.1) (back_of hst.2)) fun env => by rw [evi]
    · cases h
  | .en es, p, g, c, X, tg, e, G, h => by
    unfold mI at h
    split at h
    · simp only [Bool.and_eq_true, decide_eq_true_eq] at h
      obtain ⟨⟨⟨⟨h1, h2⟩, h3⟩, h4⟩, h5⟩ := h
      subst h1
      obtain ⟨b1, b2⟩ := G.bl h2
      have hst := mL_star h3
      rw [List.all_cons, Bool.and_eq_true] at hst
      cases tg <;> first | exact PI.cg (pi_en b1 b2 (sL es G h3) h4 (star_of hst.1)) fun env => by rw [evi] | cases h5
    · cases h
  | .zp es, p, g, c, X, tg, e, G, h => by
    unfold mI at h
    split at h
    · simp only [Bool.and_eq_true, decide_eq_true_eq] at h
      obtain ⟨⟨⟨⟨h1, h2⟩, h3⟩, h4⟩, h5⟩ := h
      subst h1
      obtain ⟨b1, b2⟩ := G.bl h2
      have hst := mL_star h3
      rw [List.all_cons, Bool.and_eq_true] at hst
      cases tg <;> first | exact PI.cg (pi_zp b1 b2 (sL es G h3) h4 (star_of hst.1) (back_of hst.2)) fun env => by rw [evi] | cases h5
    · cases h
end
end Pv

namespace Pv
open PySem PySem.Spec PyProof.Rows L2

/-! who owns a list: nobody, one who stands outside (0), the slot i (i + 1) -/
abbrev Om := Addr → Option Nat
def ow (ω : Om) : Addr → Bool := fun a => (ω a).isSome
theorem ow_true {ω : Om} {a : Addr} : ow ω a = true ↔ ∃ i, ω a = some i := by
  unfold ow
  exact Option.isSome_iff_exists
theorem ow_false {ω : Om} {a : Addr} : ow ω a = false ↔ ω a = none := by
  unfold ow
  cases ω a <;> simp

structure AtS (c : Ctx) (H : Hp) (ω : Om) (env : Ev) (σ : L2.St) : Prop where
  dom : Dom H (ow ω)
  er : ∀ i d b, lk env i = some (d, b) → ∃ v, σ[i]? = some (some v) ∧ (if b = true then Dp [] (mask H (ow ω)) v d else ∃ A, A.Nodup ∧ (∀ a ∈ A, ω a = some (i + 1)) ∧ Rp [] H (ow ω) v d (c.Γ i) A)
  len : env.length = σ.length
structure Eff (H : Hp) (ω : Om) (H' : Hp) (ω' : Om) : Prop where
  keep : ∀ a o, H a = some o → (∀ i, ω a ≠ some (i + 1)) → H' a = some o
  own : ∀ a i, ω' a = some (i + 1) → (∃ j, ω a = some (j + 1)) ∨ H a = none
  out : ∀ a, ω' a = some 0 ↔ ω a = some 0
  there : ∀ a, H' a = none → H a = none
theorem Eff.refl {H : Hp} {ω : Om} : Eff H ω H ω := ⟨fun _ _ h _ => h, fun _ i h => .inl ⟨i, h⟩, fun _ => Iff.rfl, fun _ h => h⟩
theorem Eff.trans {H H1 H2 : Hp} {ω ω1 ω2 : Om} (a : Eff H ω H1 ω1) (b : Eff H1 ω1 H2 ω2) : Eff H ω H2 ω2 where
  keep := fun x o e h => b.keep x o (a.keep x o e h) fun i q => by
    rcases a.own x i q with ⟨j, z⟩ | z
    · exact h j z
    · rw [z] at e; cases e
  own := fun x i q => by
    rcases b.own x i q with ⟨j, z⟩ | z
    · exact a.own x j z
    · exact .inr (a.there x z)
  out := fun x => (b.out x).trans (a.out x)
  there := fun x h => a.there x (b.there x h)
theorem Eff.same {H H' : Hp} {ω : Om} (s : Same H H') : Eff H ω H' ω := ⟨fun a o e _ => s a o e, fun _ i h => .inl ⟨i, h⟩, fun _ => Iff.rfl, fun _ h => s.free h⟩
/-- what was free of owners is so, and as it was -/
theorem Eff.mask {H H' : Hp} {ω ω' : Om} (e : Eff H ω H' ω') : Same (mask H (ow ω)) (mask H' (ow ω')) := fun a o h => by
  obtain ⟨h0, h1⟩ := mask_some.mp h
  have w0 := ow_false.mp h0
  have k := e.keep a o h1 fun i q => by rw [w0] at q; cases q
  refine mask_of (ow_false.mpr ?_) k
  cases q : ω' a with
  | none => rfl
  | some n =>
    cases n with
    | zero =>
      have := (e.out a).mp q
      rw [w0] at this
      cases this
    | succ i =>
      rcases e.own a i q with ⟨j, z⟩ | z
      · rw [w0] at z; cases z
      · rw [h1] at z; cases z
theorem AtS.at {c : Ctx} {H : Hp} {ω : Om} {env : Ev} {σ : L2.St} (a : AtS c H ω env σ) : At c H (ow ω) env σ :=
  ⟨a.dom, fun i d b h => by
    obtain ⟨v, hv, q⟩ := a.er i d b h
    refine ⟨v, hv, ?_⟩
    cases b with
    | true => exact q
    | false =>
      obtain ⟨A, _, hA, r⟩ := q
      exact ⟨A, fun x hx => ow_true.mpr ⟨_, hA x hx⟩, r⟩, a.len⟩
theorem AtS.later {c : Ctx} {H H' : Hp} {ω : Om} {env : Ev} {σ : L2.St} (a : AtS c H ω env σ) (s : Same H H') : AtS c H' ω env σ :=
  ⟨a.dom.mono s, fun i d b h => by
    obtain ⟨v, hv, q⟩ := a.er i d b h
    refine ⟨v, hv, ?_⟩
    cases b with
    | true => exact dp_mono (mask_mono s fun _ z => .inl z) _ _ q
    | false =>
      obtain ⟨A, nd, hA, r⟩ := q
      exact ⟨A, nd, hA, Rp.mono s (fun _ z => .inl z) (fun x hx => ow_true.mpr ⟨_, hA x hx⟩) r⟩, a.len⟩

/-! where a statement may end -/
inductive Fl where
  | nx (env : Ev)
  | rt (d : D)
  | bk (env : Ev)
  | ct (env : Ev)
structure Lnd (c : Ctx) (own : Own) (H : Hp) (ω : Om) (d : D) (v : V) (H' : Hp) : Prop where
  is : ∃ (ω' : Om) (A : List Addr), Eff H ω H' ω' ∧ A.Nodup ∧ (∀ a ∈ A, ∃ i, ω' a = some (i + 1)) ∧ Dom H' (ow ω') ∧ Rp [] H' (ow ω') v d own A
def Gs' (c : Ctx) (own : Own) (H : Hp) (ω : Om) (K : Ends) : Fl → Prop
  | .nx env => ∀ σ' H' ω', AtS c H' ω' env σ' → Eff H ω H' ω' → K.nx σ' H'
  | .rt d => ∀ v H', Lnd c own H ω d v H' → K.rt v H'
  | .bk env => ∀ σ' H' ω', AtS c H' ω' env σ' → Eff H ω H' ω' → K.bk σ' H'
  | .ct env => ∀ σ' H' ω', AtS c H' ω' env σ' → Eff H ω H' ω' → K.ct σ' H'
def AnsS (c : Ctx) (own : Own) (H : Hp) (ω : Om) (r : R Fl) (K : Ends) : Prop :=
  match r with
  | .ok f => Gs' c own H ω K f
  | .exc x => ∀ H' ω', Eff H ω H' ω' → c.W x H'
  | .no => False
theorem Lnd.elder {c : Ctx} {own : Own} {H H1 : Hp} {ω ω1 : Om} {d : D} {v : V} {H' : Hp} (e : Eff H ω H1 ω1) (l : Lnd c own H1 ω1 d v H') : Lnd c own H ω d v H' := by
  obtain ⟨ω', A, e', r⟩ := l.is
  exact ⟨ω', A, e.trans e', r⟩
theorem AnsS.later {c : Ctx} {own : Own} {H H1 : Hp} {ω ω1 : Om} {r : R Fl} {K : Ends} (e : Eff H ω H1 ω1) (h : AnsS c own H ω r K) : AnsS c own H1 ω1 r K := by
  cases r with
  | no => exact h
  | exc x => exact fun H' ω' e' => h H' ω' (e.trans e')
  | ok f =>
    cases f with
    | nx env => exact fun σ' H' ω' a e' => h σ' H' ω' a (e.trans e')
    | rt d => exact fun v H' l => h v H' (l.elder e)
    | bk env => exact fun σ' H' ω' a e' => h σ' H' ω' a (e.trans e')
    | ct env => exact fun σ' H' ω' a e' => h σ' H' ω' a (e.trans e')
def tS (c : Ctx) (own : Own) (f : Ev → R Fl) : TS := fun K σ H => ∃ env ω, AtS c H ω env σ ∧ AnsS c own H ω (f env) K
/-- a statement's own expression first -/
theorem AnsS.val {α : Type} {c : Ctx} {own : Own} {H : Hp} {ω : Om} {r : R α} {g : α → R Fl} {K : Ends} {P : Hp → α → Prop} (h : AnsS c own H ω (r >>= g) K) (k : ∀ a, r = .ok a → AnsS c own H ω (g a) K → P H a) : AnsP c.W H r P := by
  cases r with
  | no => exact h
  | exc x => exact fun H' s => h H' ω (.same s)
  | ok a => exact k a rfl h

/-! owners changed -/
/-- the slot's lists become nobody's -/
def drp (ω : Om) (i : Nat) : Om := fun a => if ω a = some (i + 1) then none else ω a
theorem drp_ow {ω : Om} {i : Nat} {a : Addr} (h : ow (drp ω i) a = true) : ow ω a = true ∧ ω a ≠ some (i + 1) := by
  obtain ⟨j, e⟩ := ow_true.mp h
  unfold drp at e
  split at e
  · cases e
  · rename_i hn
    exact ⟨ow_true.mpr ⟨j, e⟩, hn⟩
theorem drp_of {ω : Om} {i : Nat} {a : Addr} {n : Nat} (h : ω a = some n) (hn : n ≠ i + 1) : drp ω i a = some n := by
  unfold drp
  rw [if_neg (by rw [h]; simpa using hn)]
  exact h
theorem Eff.drp {H : Hp} {ω : Om} {i : Nat} : Eff H ω H (drp ω i) := by
  refine ⟨fun _ _ h _ => h, fun a j h => ?_, fun a => ?_, fun _ h => h⟩
  · obtain ⟨k, e⟩ := ow_true.mp (drp_ow (ow_true.mpr ⟨_, h⟩)).1
    unfold Pv.drp at h
    split at h
    · cases h
    · exact .inl ⟨j, h⟩
  · constructor
    · intro h
      unfold Pv.drp at h
      split at h
      · cases h
      · exact h
    · exact fun h => drp_of h (by omega)
/-- freezing a slot -/
def frzE (env : Ev) (i : Nat) : Ev :=
  match lk env i with
  | some (d, _) => put env i (some (d, true))
  | none => env
theorem AtS.freeze {c : Ctx} {H : Hp} {ω : Om} {env : Ev} {σ : L2.St} (a : AtS c H ω env σ) {i : Nat} (hf : fz (c.Γ i) = true) : AtS c H (drp ω i) (frzE env i) σ := by
  have dom : Dom H (ow (drp ω i)) := fun x h => a.dom x (drp_ow h).1
  have mm : Same (mask H (ow ω)) (mask H (ow (drp ω i))) := mask_mono (Same.refl _) fun x h => .inl (drp_ow h).1
  have oth : ∀ (j : Nat) (d : D) (v : V) (A : List Addr), j ≠ i → A.Nodup → (∀ x ∈ A, ω x = some (j + 1)) → Rp [] H (ow ω) v d (c.Γ j) A → ∃ A, A.Nodup ∧ (∀ x ∈ A, drp ω i x = some (j + 1)) ∧ Rp [] H (ow (drp ω i)) v d (c.Γ j) A := fun j d v A hj nd hA r => by
    have h1 : ∀ x ∈ A, drp ω i x = some (j + 1) := fun x hx => drp_of (hA x hx) (by omega)
    exact ⟨A, nd, h1, Rp.mono (Same.refl _) (fun x h => .inl (drp_ow h).1) (fun x hx => ow_true.mpr ⟨_, h1 x hx⟩) r⟩
  refine ⟨dom, fun j d b h => ?_, ?_⟩
  · unfold frzE at h
    split at h
    · rename_i d0 b0 hi
      rw [lk_put] at h
      by_cases hj : j = i
      · rw [if_pos hj] at h
        split at h
        · cases h
          subst hj
          obtain ⟨v, hv, q⟩ := a.er j d b0 hi
          refine ⟨v, hv, ?_⟩
          cases b0 with
          | true => exact dp_mono mm _ _ q
          | false =>
            obtain ⟨A, nd, hA, r⟩ := q
            refine r.freeze dom (fun x h => (drp_ow h).1) (fun x hx => ?_) hf
            refine ow_false.mpr ?_
            unfold drp
            rw [if_pos (hA x hx)]
        · cases h
      · rw [if_neg hj] at h
        obtain ⟨v, hv, q⟩ := a.er j d b h
        refine ⟨v, hv, ?_⟩
        cases b with
        | true => exact dp_mono mm _ _ q
        | false =>
          obtain ⟨A, nd, hA, r⟩ := q
          exact oth j d v A hj nd hA r
    · rename_i hi
      obtain ⟨v, hv, q⟩ := a.er j d b h
      refine ⟨v, hv, ?_⟩
      have hj : j ≠ i := fun e => by subst e; rw [h] at hi; cases hi
      cases b with
      | true => exact dp_mono mm _ _ q
      | false =>
        obtain ⟨A, nd, hA, r⟩ := q
        exact oth j d v A hj nd hA r
  · unfold frzE
    split
    · rw [put_len]; exact a.len
    · exact a.len
/-- a frozen value stored -/
theorem AtS.put {c : Ctx} {H : Hp} {ω : Om} {env : Ev} {σ : L2.St} (a : AtS c H ω env σ) {i : Nat} {d : D} {v : V} (k : Dp [] (mask H (ow ω)) v d) : AtS c H ω (put env i (some (d, true))) (σ.set i (some v)) := by
  refine ⟨a.dom, fun j d' b hj => ?_, by rw [put_len, List.length_set]; exact a.len⟩
  rw [lk_put] at hj
  by_cases h : j = i
  · rw [if_pos h] at hj
    split at hj
    · rename_i hi
      cases hj
      subst h
      have hl := a.len
      exact ⟨v, by rw [List.getElem?_set_self (by omega)], k⟩
    · cases hj
  · rw [if_neg h] at hj
    obtain ⟨w, hw, q⟩ := a.er j d' b hj
    exact ⟨w, by rw [List.getElem?_set_ne (Ne.symm h)]; exact hw, q⟩
/-- the slot's new owned lists; what it had before is given up -/
def tkn (ω : Om) (i : Nat) (A : List Addr) : Om := fun a => if a ∈ A then some (i + 1) else if ω a = some (i + 1) then none else ω a
theorem tkn_in {ω : Om} {i : Nat} {A : List Addr} {a : Addr} (h : a ∈ A) : tkn ω i A a = some (i + 1) := by unfold tkn; rw [if_pos h]
theorem tkn_ow {ω : Om} {i : Nat} {A : List Addr} {a : Addr} (h : ow (tkn ω i A) a = true) : a ∈ A ∨ ow (drp ω i) a = true := by
  obtain ⟨j, e⟩ := ow_true.mp h
  unfold tkn at e
  split at e
  · exact .inl (by assumption)
  · refine .inr (ow_true.mpr ⟨j, ?_⟩)
    unfold drp
    exact e
theorem AtS.own {c : Ctx} {H H1 : Hp} {ω : Om} {env : Ev} {σ : L2.St} (a0 : AtS c H ω env σ) (s : Same H H1) {i : Nat} {d : D} {v : V} {A : List Addr} (fr : Fresh H H1 A) (r : Rp [] H1 (add (ow ω) A) v d (c.Γ i) A) :
    AtS c H1 (tkn ω i A) (Pv.put env i (some (d, false))) (σ.set i (some v)) ∧ Eff H ω H1 (tkn ω i A) := by
  have a := a0.later s
  have out : ∀ x ∈ A, ω x = none := fun x hx => ow_false.mp (fr.disj a0.dom x hx)
  have sub : ∀ x, ow (tkn ω i A) x = true → x ∈ A ∨ ow ω x = true := fun x hx => (tkn_ow hx).elim .inl fun z => .inr (drp_ow z).1
  have dom : Dom H1 (ow (tkn ω i A)) := fun x hx => (sub x hx).elim (fr.lst x) (a.dom x)
  have mm : Same (mask H (ow ω)) (mask H1 (ow (tkn ω i A))) := mask_mono s fun x hx => (sub x hx).elim (fun z => .inr (fr.new x z)) .inl
  refine ⟨⟨dom, fun j d' b hj => ?_, by rw [put_len, List.length_set]; exact a.len⟩, ⟨fun x o e _ => s x o e, fun x j h => ?_, fun x => ?_, fun x h => s.free h⟩⟩
  · rw [lk_put] at hj
    by_cases h : j = i
    · rw [if_pos h] at hj
      split at hj
      · rename_i hi
        cases hj
        subst h
        have hl := a.len
        refine ⟨v, by rw [List.getElem?_set_self (by omega)], A, fr.nd, fun x hx => tkn_in hx, ?_⟩
        exact Rp.mono (Same.refl _) (fun x hx => .inl ((sub x hx).elim (fun z => add_true.mpr (.inr z)) fun z => add_true.mpr (.inl z))) (fun x hx => ow_true.mpr ⟨_, tkn_in hx⟩) r
      · cases hj
    · rw [if_neg h] at hj
      obtain ⟨w, hw, q⟩ := a0.er j d' b hj
      refine ⟨w, by rw [List.getElem?_set_ne (Ne.symm h)]; exact hw, ?_⟩
      cases b with
      | true => exact dp_mono mm _ _ q
      | false =>
        obtain ⟨B, nd, hB, rb⟩ := q
        have h1 : ∀ x ∈ B, tkn ω i A x = some (j + 1) := fun x hx => by
          have e := hB x hx
          unfold tkn
          rw [if_neg (fun z => by rw [out x z] at e; cases e), if_neg (by rw [e]; simpa using h)]
          exact e
        exact ⟨B, nd, h1, Rp.mono s (fun x hx => (sub x hx).elim (fun z => .inr (fr.new x z)) .inl) (fun x hx => ow_true.mpr ⟨_, h1 x hx⟩) rb⟩
  · rcases sub x (ow_true.mpr ⟨_, h⟩) with z | z
    · exact .inr (fr.new x z)
    · unfold tkn at h
      split at h
      · exact .inr (fr.new x (by assumption))
      · split at h
        · cases h
        · exact .inl ⟨j, h⟩
  · constructor
    · intro h
      unfold tkn at h
      split at h
      · cases h
      · split at h
        · cases h
        · exact h
    · intro h
      unfold tkn
      rw [if_neg (fun z => by rw [out x z] at h; cases h), if_neg (by rw [h]; simp)]
      exact h

/-! a list at the end of a path changes -/
inductive Reach (H : Hp) : V → List Int → V → Prop
  | nil {v : V} : Reach H v [] v
  | cons {p : Addr} {xs : List V} {k : Int} {u w : V} {ks : List Int} : (SqL [] H p xs ∨ SqT [] H p xs) → atI xs k = some u → Reach H u ks w → Reach H (.ref p) (k :: ks) w
theorem Reach.mono {H H' : Hp} (s : Same H H') {w : V} : ∀ {v : V} {ks : List Int}, Reach H v ks w → Reach H' v ks w
  | _, _, .nil => .nil
  | _, _, .cons h1 h2 h3 => .cons (h1.elim (fun z => .inl (Same.seq s z)) fun z => .inr (Same.seqT s z)) h2 (Reach.mono s h3)
theorem Reach.snoc {H : Hp} {p : Addr} {xs : List V} {k : Int} {u : V} (h1 : SqL [] H p xs ∨ SqT [] H p xs) (h2 : atI xs k = some u) : ∀ {v : V} {ks : List Int}, Reach H v ks (.ref p) → Reach H v (ks ++ [k]) u
  | _, _, .nil => .cons h1 h2 .nil
  | _, _, .cons g1 g2 g3 => .cons g1 g2 (Reach.snoc h1 h2 g3)
theorem Reach.init {H : Hp} {u : V} {k : Int} : ∀ {v : V} {ks : List Int}, Reach H v (ks ++ [k]) u → ∃ p xs, Reach H v ks (.ref p) ∧ (SqL [] H p xs ∨ SqT [] H p xs) ∧ atI xs k = some u
  | _, [], .cons h1 h2 .nil => ⟨_, _, .nil, h1, h2⟩
  | _, j :: ks, .cons h1 h2 h3 => by
    obtain ⟨p, xs, g1, g2, g3⟩ := Reach.init h3
    exact ⟨p, xs, .cons h1 h2 g1, g2, g3⟩
def nthO : Own → Nat → Own
  | .tc o _, 0 => o
  | .tc _ r, n + 1 => nthO r n
  | _, _ => .bw
def updD (f : List D → R (List D)) : List Int → Own → D → R D
  | [], o, d => match o, d with
    | .lst .sh, .list ds => f ds >>= fun es => .ok (.list es)
    | _, _ => .no
  | k :: ks, o, d => match o, d with
    | .lst o', .list ds => match ixN ds.length k with
      | some j => match ds[j]? with
        | some x => updD f ks o' x >>= fun y => .ok (.list (ds.set j y))
        | none => .no
      | none => .no
    | .tc o' r', .tuple ds => match ixN ds.length k with
      | some j => match ds[j]? with
        | some x => updD f ks (nthO (.tc o' r') j) x >>= fun y => .ok (.tuple (ds.set j y))
        | none => .no
      | none => .no
    | _, _ => .no

section
variable {H : Hp} {O : Addr → Bool}
theorem sh_all {vs : List V} {ds : List D} {A : List Addr} (hd : Dom H O) (h : RpA [] H O vs ds .sh A) : A = [] ∧ DpAll [] (mask H O) vs ds := by
  have e := nown_rpA rfl h
  subst e
  exact ⟨rfl, h.freeze hd (fun _ z => z) (by intro a z; cases z) rfl⟩
theorem rpA_at : ∀ {vs : List V} {ds : List D} {o : Own} {A : List Addr} {j : Nat} {x : D}, RpA [] H O vs ds o A → ds[j]? = some x →
    ∃ v B C E, vs[j]? = some v ∧ A = B ++ C ++ E ∧ Rp [] H O v x o C ∧ ∀ (H' : Hp) (O' : Addr → Bool) v' x', (∀ (w : V) (y : D) (F : List Addr), (∀ a ∈ F, a ∈ B ∨ a ∈ E) → Rp [] H O w y o F → Rp [] H' O' w y o F) → Rp [] H' O' v' x' o C → RpA [] H' O' (vs.set j v') (ds.set j x') o A
  | _, _, _, _, 0, x, .cons (o := o) (A := A) (B := B) h1 h2, e => by
    simp at e
    subst e
    refine ⟨_, [], A, B, rfl, rfl, h1, fun H' O' v' x' k r => .cons r ?_⟩
    have go : ∀ {vs : List V} {ds : List D} {F : List Addr}, (∀ a ∈ F, a ∈ B) → RpA [] H O vs ds o F → RpA [] H' O' vs ds o F := by
      intro vs ds F hF h
      induction ds generalizing vs F with
      | nil => cases h; exact .nil
      | cons d ds ih =>
        cases h with
        | cons g1 g2 => exact .cons (k _ _ _ (fun a z => .inr (hF a (List.mem_append_left _ z))) g1) (ih (fun a z => hF a (List.mem_append_right _ z)) g2)
    exact go (fun _ z => z) h2
  | _, _, _, _, j + 1, x, .cons (A := A) (B := B) h1 h2, e => by
    simp at e
    obtain ⟨v, P, C, E, hv, eA, r, up⟩ := rpA_at h2 e
    refine ⟨v, A ++ P, C, E, by simpa using hv, by rw [eA]; simp only [List.append_assoc], r, fun H' O' v' x' k r' => .cons (k _ _ _ (fun a z => .inl (List.mem_append_left _ z)) h1) (up H' O' v' x' (fun w y F hF => k w y F fun a z => (hF a z).elim (fun q => .inl (List.mem_append_right _ q)) .inr) r')⟩
theorem rpS_at : ∀ {vs : List V} {ds : List D} {o : Own} {A : List Addr} {j : Nat} {x : D}, RpS [] H O vs ds o A → ds[j]? = some x →
    ∃ v B C E, vs[j]? = some v ∧ A = B ++ C ++ E ∧ Rp [] H O v x (nthO o j) C ∧ ∀ (H' : Hp) (O' : Addr → Bool) x', (∀ (w : V) (y : D) (o' : Own) (F : List Addr), (∀ a ∈ F, a ∈ B ∨ a ∈ E) → (fz o = true → fz o' = true) → Rp [] H O w y o' F → Rp [] H' O' w y o' F) → Rp [] H' O' v x' (nthO o j) C → RpS [] H' O' vs (ds.set j x') o A
  | _, _, _, _, 0, x, .cons (o := o) (r := rr) (A := A) (B := B) h1 h2, e => by
    simp at e
    subst e
    refine ⟨_, [], A, B, rfl, rfl, h1, fun H' O' x' k r => .cons r ?_⟩
    have go : ∀ {vs : List V} {ds : List D} {q : Own} {F : List Addr}, (∀ a ∈ F, a ∈ B) → (fz (.tc o rr) = true → fz q = true) → RpS [] H O vs ds q F → RpS [] H' O' vs ds q F := by
      intro vs ds q F hF hq h
      induction ds generalizing vs F q with
      | nil => cases h; exact .nil
      | cons d ds ih =>
        cases h with
        | cons g1 g2 => exact .cons (k _ _ _ _ (fun a z => .inr (hF a (List.mem_append_left _ z))) (fun z => (Bool.and_eq_true_iff.mp (hq z)).1) g1) (ih (fun a z => hF a (List.mem_append_right _ z)) (fun z => (Bool.and_eq_true_iff.mp (hq z)).2) g2)
    exact go (fun _ z => z) (fun z => (Bool.and_eq_true_iff.mp z).2) h2
  | _, _, _, _, j + 1, x, .cons (o := o) (r := rr) (A := A) (B := B) h1 h2, e => by
    simp at e
    obtain ⟨v, P, C, E, hv, eA, r, up⟩ := rpS_at h2 e
    refine ⟨v, A ++ P, C, E, by simpa using hv, by rw [eA]; simp only [List.append_assoc], r, fun H' O' x' k r' => .cons (k _ _ _ _ (fun a z => .inl (List.mem_append_left _ z)) (fun z => (Bool.and_eq_true_iff.mp z).1) h1) (up H' O' x' (fun w y o' F hF hq => k w y o' F (fun a z => (hF a z).elim (fun q => .inl (List.mem_append_right _ q)) .inr) fun z => hq (Bool.and_eq_true_iff.mp z).2) r')⟩
theorem set_same {α : Type} : ∀ {xs : List α} {j : Nat} {v : α}, xs[j]? = some v → xs.set j v = xs
  | [], _, _, h => by simp at h
  | x :: xs, 0, v, h => by simp at h; subst h; rfl
  | x :: xs, j + 1, v, h => by
    simp at h
    rw [List.set_cons_succ, set_same h]
def olen : Own → Nat
  | .tc _ r => olen r + 1
  | _ => 0
theorem dp_all_upd {l : Addr} {ys : List V} {zs : List V} {es : List D} (h3 : O l = true) (hy : DpAll [] (mask H O) zs es) : DpAll [] (mask (upd H l (.lst ys)) O) zs es := by
  refine dpAll_mono (fun b q e => ?_) _ _ hy
  obtain ⟨e0, e1⟩ := mask_some.mp e
  refine mask_of e0 ?_
  rw [upd_ne (fun z => by subst z; rw [h3] at e0; cases e0)]
  exact e1
theorem rpS_len : ∀ {vs : List V} {ds : List D} {o : Own} {A : List Addr}, RpS [] H O vs ds o A → ds.length ≤ olen o
  | _, _, _, _, .nil => Nat.zero_le _
  | _, _, _, _, .cons (ds := ds) (r := r) g1 g2 => by
    have := rpS_len g2
    show ds.length + 1 ≤ olen r + 1
    omega
theorem fz_nth : ∀ {o : Own} {j : Nat}, fz o = true → j < olen o → fz (nthO o j) = true
  | .tc o r, 0, h, hj => (Bool.and_eq_true_iff.mp h).1
  | .tc o r, j + 1, h, hj => fz_nth (o := r) (Bool.and_eq_true_iff.mp h).2 (by have : j + 1 < olen r + 1 := hj; omega)
  | .bw, _, h, hj => by cases h
  | .itm, _, h, hj => by cases h
  | .sh, _, h, hj => absurd hj (Nat.not_lt_zero _)
  | .tn, _, h, hj => absurd hj (Nat.not_lt_zero _)
  | .lst _, _, h, hj => absurd hj (Nat.not_lt_zero _)
theorem upd_rp (hd : Dom H O) (f : List D → R (List D)) : ∀ {ks : List Int} {v : V} {d d' : D} {o : Own} {A : List Addr}, fz o = true → A.Nodup → Rp [] H O v d o A → updD f ks o d = .ok d' →
    ∃ l xs ds es, Reach H v ks (.ref l) ∧ l ∈ A ∧ H l = some (.lst xs) ∧ DpAll [] (mask H O) xs ds ∧ f ds = .ok es ∧ ∀ ys, DpAll [] (mask H O) ys es → Rp [] (upd H l (.lst ys)) O v d' o A
  | [], v, d, d', o, A, hf, nd, r, h => by
    unfold updD at h
    split at h
    · rename_i ds
      cases hfd : f ds with
      | no => rw [hfd] at h; cases h
      | exc z => rw [hfd] at h; cases h
      | ok es =>
        rw [hfd] at h
        cases h
        cases r with
        | flat z _ => cases z
        | @lst l xs _ _ B h1 h3 h2 =>
          obtain ⟨e, k⟩ := sh_all hd h2
          subst e
          refine ⟨l, xs, ds, es, .nil, List.mem_cons_self, h1, k, hfd, fun ys hy => .lst upd_same h3 (rpA_sh ?_)⟩
          refine dp_all_upd h3 hy
    · cases h
  | k :: ks, v, d, d', o, A, hf, nd, r, h => by
    unfold updD at h
    split at h
    · rename_i o' ds
      split at h
      · rename_i j hj
        split at h
        · rename_i x hx
          cases hu : updD f ks o' x with
          | no => rw [hu] at h; cases h
          | exc z => rw [hu] at h; cases h
          | ok y =>
            rw [hu] at h
            cases h
            cases r with
            | flat z _ => cases z
            | @lst a xs _ _ B h1 h3 h2 =>
              obtain ⟨w, P, C, E, hw, eB, rw', up⟩ := rpA_at h2 hx
              have ndB := (List.nodup_cons.mp nd).2
              have ndC : C.Nodup := by
                rw [eB, List.append_assoc] at ndB
                exact (List.nodup_append.mp (List.nodup_append.mp ndB).2.1).1
              obtain ⟨l, zs, gs, es, re, lC, hl, kk, hfg, fin⟩ := upd_rp hd f (show fz o' = true from hf) ndC rw' hu
              have lB : l ∈ B := by rw [eB]; simp [lC]
              have la : a ≠ l := fun e => (List.nodup_cons.mp nd).1 (e ▸ lB)
              have disj : ∀ b, b ∈ P ∨ b ∈ E → b ≠ l := fun b hb e => by
                subst e
                rw [eB, List.append_assoc] at ndB
                obtain ⟨_, n2, n3⟩ := List.nodup_append.mp ndB
                obtain ⟨_, _, n4⟩ := List.nodup_append.mp n2
                rcases hb with hb | hb
                · exact n3 b hb b (List.mem_append_left _ lC) rfl
                · exact n4 b lC b hb rfl
              have ol : O l = true := (rw'.owned l lC).1
              have hat : atI xs k = some w := by
                unfold atI
                rw [DpAll.length h2.dp, hj]
                exact hw
              refine ⟨l, zs, gs, es, .cons (.inl (.inl (.inl h1))) hat re, List.mem_cons_of_mem _ lB, hl, kk, hfg, fun ys hy => ?_⟩
              have hset := up (upd H l (.lst ys)) O w y (fun u z F hF rr => Rp.keep hd (fun b q e hb => by
                have hne : b ≠ l := by
                  rcases hb with hb | hb
                  · intro e; subst e; rw [ol] at hb; cases hb
                  · exact disj b (hF b hb)
                rw [upd_ne hne]; exact e) (fun b hb => .inl hb) (fun b hb => (rr.owned b hb).1) (show fz o' = true from hf) rr) (fin ys hy)
              rw [set_same hw] at hset
              exact .lst (by rw [upd_ne la]; exact h1) h3 hset
        · cases h
      · cases h
    · rename_i o' r' ds
      split at h
      · rename_i j hj
        split at h
        · rename_i x hx
          cases hu : updD f ks (nthO (.tc o' r') j) x with
          | no => rw [hu] at h; cases h
          | exc z => rw [hu] at h; cases h
          | ok y =>
            rw [hu] at h
            cases h
            cases r with
            | flat z _ => cases z
            | @tup a xs _ _ _ B h1 h2 =>
              obtain ⟨w, P, C, E, hw, eB, rw', up⟩ := rpS_at h2 hx
              have ndC : C.Nodup := by
                rw [eB, List.append_assoc] at nd
                exact (List.nodup_append.mp (List.nodup_append.mp nd).2.1).1
              have hfn : fz (nthO (.tc o' r') j) = true := fz_nth hf (by
                obtain ⟨hlt, _⟩ := List.getElem?_eq_some_iff.mp hx
                have := rpS_len h2
                omega)
              obtain ⟨l, zs, gs, es, re, lC, hl, kk, hfg, fin⟩ := upd_rp hd f hfn ndC rw' hu
              have lB : l ∈ A := by rw [eB]; simp [lC]
              have la : a ≠ l := fun e => by subst e; rw [h1] at hl; cases hl
              have disj : ∀ b, b ∈ P ∨ b ∈ E → b ≠ l := fun b hb e => by
                subst e
                rw [eB, List.append_assoc] at nd
                obtain ⟨_, n2, n3⟩ := List.nodup_append.mp nd
                obtain ⟨_, _, n4⟩ := List.nodup_append.mp n2
                rcases hb with hb | hb
                · exact n3 b hb b (List.mem_append_left _ lC) rfl
                · exact n4 b lC b hb rfl
              have ol : O l = true := (rw'.owned l lC).1
              have hat : atI xs k = some w := by
                unfold atI
                rw [DpAll.length h2.dp, hj]
                exact hw
              refine ⟨l, zs, gs, es, .cons (.inr (.inl (.inl h1))) hat re, lB, hl, kk, hfg, fun ys hy => ?_⟩
              have hset := up (upd H l (.lst ys)) O y (fun u z q F hF hq rr => Rp.keep hd (fun b t e hb => by
                have hne : b ≠ l := by
                  rcases hb with hb | hb
                  · intro e; subst e; rw [ol] at hb; cases hb
                  · exact disj b (hF b hb)
                rw [upd_ne hne]; exact e) (fun b hb => .inl hb) (fun b hb => (rr.owned b hb).1) (hq hf) rr) (fin ys hy)
              exact .tup (by rw [upd_ne la]; exact h1) hset
        · cases h
      · cases h
    · cases h
end
end Pv

namespace Pv
open PySem PySem.Spec PyProof.Rows L2

/-! paths -/
inductive Pa where
  | nil
  | snoc (r : Pa) (e : E)
def toInt : R D → R Int
  | .ok (.int k) => .ok k
  | _ => .no
def evPa (S : Sg) : Pa → Ev → R (List Int)
  | .nil, _ => .ok []
  | .snoc r e, env => evPa S r env >>= fun ks => toInt (ev S e env) >>= fun k => .ok (ks ++ [k])
def mPa (g : Cfg) (i : Nat) : Pa → Expr → Bool
  | .nil, e => match e with
    | .Name x _ => decide (g.N[i]? = some x) && visB g x && nmB x && (x != "super")
    | _ => false
  | .snoc r k, e => match e with
    | .Subscript a b _ => mPa g i r a && mE g k b && nslice b
    | _ => false
def tPa (c : Ctx) (i : Nat) (f : Ev → R (List Int)) : TE := fun σ H Q => ∃ env O v0, At c H O env σ ∧ σ[i]? = some (some v0) ∧ AnsP c.W H (f env) (fun H1 ks => ∃ w, Reach H1 v0 ks w ∧ ∀ H', Same H1 H' → Q w H')
theorem toInt_ok {r : R D} {k : Int} (h : toInt r = .ok k) : r = .ok (.int k) := by
  unfold toInt at h
  split at h
  · cases h; rfl
  · cases h
theorem toInt_exc {r : R D} {z : Nat} : toInt r ≠ .exc z := by
  unfold toInt
  split <;> exact fun h => nomatch h
theorem evPa_exc {S : Sg} {env : Ev} {z : Nat} : ∀ {p : Pa}, evPa S p env ≠ .exc z
  | .nil => fun h => nomatch h
  | .snoc r e => fun h => by
    unfold evPa at h
    cases hr : evPa S r env with
    | no => rw [hr] at h; cases h
    | exc w => exact evPa_exc hr
    | ok ks =>
      rw [hr] at h
      have h : (toInt (ev S e env) >>= fun k => (R.ok (ks ++ [k]) : R (List Int))) = .exc z := h
      cases hk : toInt (ev S e env) with
      | no => rw [hk] at h; cases h
      | exc w => exact toInt_exc hk
      | ok k => rw [hk] at h; cases h
theorem up_pa {v0 : V} {Q : V → Hp → Prop} : Up (fun H1 (ks : List Int) => ∃ w, Reach H1 v0 ks w ∧ ∀ H', Same H1 H' → Q w H') := fun _ _ _ s ⟨w, r, q⟩ => ⟨w, r.mono s, fun H' s' => q H' (s.trans s')⟩
theorem sPa : ∀ (p : Pa) {i : Nat} {g : Cfg} {c : Ctx} {X : Cx} {e : Expr}, Good g c X → mPa g i p e = true → PE X e (tPa c i (evPa g.S p))
  | .nil, i, g, c, X, e, G, h => by
    unfold mPa at h
    split at h
    · simp only [Bool.and_eq_true, decide_eq_true_eq] at h
      obtain ⟨n1, n2⟩ := nmB_of h.1.2
      refine PE.imp (pe_var (i := i) (by rw [G.N]; exact h.1.1.1) (G.vis h.1.1.2) n1 n2) fun σ H Q ⟨env, O, v0, a, hs, q⟩ => ⟨v0, hs, ?_⟩
      obtain ⟨w, r, q⟩ := (show ∃ w, Reach H v0 [] w ∧ ∀ H', Same H H' → Q w H' from q)
      cases r
      exact q H (Same.refl _)
    · cases h
  | .snoc p k, i, g, c, X, e, G, h => by
    unfold mPa at h
    split at h
    · simp only [Bool.and_eq_true] at h
      refine PE.imp (pe_ix ix_seq (sPa p G h.1.1) (sE k G h.1.2) (pix_of h.2)) fun σ H Q ⟨env, O, v0, a, hs, q⟩ => ⟨env, O, v0, a, hs, ?_⟩
      have q : AnsP c.W H (evPa g.S p env >>= fun ks => toInt (ev g.S k env) >>= fun k => .ok (ks ++ [k])) (fun H1 ks => ∃ w, Reach H1 v0 ks w ∧ ∀ H', Same H1 H' → Q w H') := q
      cases hp : evPa g.S p env with
      | no => rw [hp] at q; exact q.elim
      | exc z => exact (evPa_exc hp).elim
      | ok ks =>
        rw [hp] at q
        have q : AnsP c.W H (toInt (ev g.S k env) >>= fun k => .ok (ks ++ [k])) (fun H1 ks => ∃ w, Reach H1 v0 ks w ∧ ∀ H', Same H1 H' → Q w H') := q
        cases hk : toInt (ev g.S k env) with
        | no => rw [hk] at q; exact q.elim
        | exc z => exact (toInt_exc hk).elim
        | ok n =>
          rw [hk] at q
          obtain ⟨w, r, q⟩ := (show ∃ w, Reach H v0 (ks ++ [n]) w ∧ ∀ H', Same H H' → Q w H' from q)
          obtain ⟨b, xs, r1, r2, r3⟩ := Reach.init r
          refine ⟨.ref b, r1, fun H1 s1 => ⟨env, O, a.later s1, ?_⟩⟩
          rw [toInt_ok hk]
          intro v H2 A s2 fr rv
          have s12 : Same H H2 := s1.trans s2
          have ev : v = .int n := dpInt rv.dp
          rcases r2 with r2 | r2
          · exact .inl ⟨b, xs, n, w, rfl, ev, seq_any (Same.seq s12 r2), r3, q H2 s12⟩
          · exact .inr (.inl ⟨b, xs, n, w, rfl, ev, seqT_any (Same.seqT s12 r2), r3, q H2 s12⟩)
    · cases h

section
variable {c : Ctx} {own : Own}
theorem ats_upd {H : Hp} {ω : Om} {env : Ev} {σ : L2.St} {i : Nat} {d d' : D} {ks : List Int} {f : List D → R (List D)} (hΓ : ∀ i, fz (c.Γ i) = true) (a : AtS c H ω env σ) (hl : lk env i = some (d, false)) (hu : updD f ks (c.Γ i) d = .ok d') :
    ∃ v0 l xs ds es, σ[i]? = some (some v0) ∧ Reach H v0 ks (.ref l) ∧ H l = some (.lst xs) ∧ DpAll [] (mask H (ow ω)) xs ds ∧ f ds = .ok es ∧
      ∀ ys, DpAll [] (mask H (ow ω)) ys es → AtS c (upd H l (.lst ys)) ω (put env i (some (d', false))) σ ∧ Eff H ω (upd H l (.lst ys)) ω := by
  obtain ⟨v0, hv, q⟩ := a.er i d false hl
  obtain ⟨A, nd, hA, r⟩ := (show ∃ A, A.Nodup ∧ (∀ a ∈ A, ω a = some (i + 1)) ∧ Rp [] H (ow ω) v0 d (c.Γ i) A from q)
  obtain ⟨l, xs, ds, es, re, lA, hl', kk, hf, up⟩ := upd_rp a.dom f (hΓ i) nd r hu
  have wl := hA l lA
  have ol : ow ω l = true := ow_true.mpr ⟨_, wl⟩
  refine ⟨v0, l, xs, ds, es, hv, re, hl', kk, hf, fun ys hy => ⟨⟨fun x hx => ?_, fun j d2 b hj => ?_, by rw [put_len]; exact a.len⟩, ⟨fun x o e hn => ?_, fun x j h => .inl ⟨j, h⟩, fun _ => Iff.rfl, fun x hx => ?_⟩⟩⟩
  · by_cases e : x = l
    · subst e; exact ⟨ys, upd_same⟩
    · obtain ⟨zs, hz⟩ := a.dom x hx
      exact ⟨zs, by rw [upd_ne e]; exact hz⟩
  · rw [lk_put] at hj
    by_cases h : j = i
    · rw [if_pos h] at hj
      split at hj
      · cases hj
        subst h
        exact ⟨v0, hv, A, nd, hA, up ys hy⟩
      · cases hj
    · rw [if_neg h] at hj
      obtain ⟨w, hw, q⟩ := a.er j d2 b hj
      refine ⟨w, hw, ?_⟩
      cases b with
      | true =>
        refine dp_mono (fun x o e => ?_) _ _ q
        obtain ⟨e0, e1⟩ := mask_some.mp e
        exact mask_of e0 (by rw [upd_ne (fun z => by subst z; rw [ol] at e0; cases e0)]; exact e1)
      | false =>
        obtain ⟨B, nd2, hB, rb⟩ := q
        refine ⟨B, nd2, hB, Rp.keep a.dom (fun x o e hx => ?_) (fun x hx => .inl hx) (fun x hx => ow_true.mpr ⟨_, hB x hx⟩) (hΓ j) rb⟩
        have hne : x ≠ l := by
          rintro rfl
          rcases hx with hx | hx
          · rw [ol] at hx; cases hx
          · have := hB x hx
            rw [wl] at this
            have := Option.some.inj this
            omega
        rw [upd_ne hne]
        exact e
  · rw [upd_ne (fun z => by subst z; exact hn i wl)]
    exact e
  · by_cases e : x = l
    · subst e
      rw [upd_same] at hx
      cases hx
    · rw [upd_ne e] at hx
      exact hx
end
end Pv

namespace Pv
open PySem PySem.Spec PyProof.Rows L2

/-! statements -/
inductive Q1 where
  | e (x : E)
  | mv (i : Nat)
inductive RT where
  | one (q : Q1)
  | tp (qs : List Q1)
  | nl
mutual
inductive S where
  | asg (t : G) (e : E)
  | own (i : Nat) (e : E)
  | aug (i : Nat) (op : BOp) (e : E)
  | drop (e : E)
  | app (i : Nat) (p : Pa) (e : E)
  | ins (i : Nat) (p : Pa) (k e : E)
  | pop (i : Nat) (p : Pa)
  | st (i : Nat) (p : Pa) (k e : E)
  | sau (i : Nat) (p : Pa) (k : E) (op : BOp) (e : E)
  | iff (t : E) (a b : Ss)
  | fr (t : G) (it : I) (b : Ss)
  | wh (t : E) (b : Ss)
  | ret (r : RT)
  | brk
  | cnt
  | pass
  | fzz (i : Nat) (s : S)
inductive Ss where
  | nil
  | cons (s : S) (r : Ss)
end

def evQ (S : Sg) (q : Q1) (env : Ev) : R D :=
  match q with
  | .e x => ev S x env
  | .mv i => match lk env i with
    | some (d, false) => .ok d
    | _ => .no
def evQs (S : Sg) : List Q1 → Ev → R (List D)
  | [], _ => .ok []
  | q :: r, env => evQ S q env >>= fun d => evQs S r env >>= fun ds => .ok (d :: ds)
def evR (S : Sg) (r : RT) (env : Ev) : R D :=
  match r with
  | .one q => evQ S q env
  | .tp qs => evQs S qs env >>= evTup
  | .nl => .ok .none
def mutE (S : Sg) (i : Nat) (ks : List Int) (f : List D → R (List D)) (env : Ev) : R Fl :=
  match lk env i with
  | some (d, false) => updD f ks (S.own i) d >>= fun d' => .ok (.nx (put env i (some (d', false))))
  | _ => .no
def fApp (d : D) (ds : List D) : R (List D) := if ds.length < 16777216 then .ok (ds ++ [d]) else .no
def fIns (k : Int) (d : D) (ds : List D) : R (List D) := if ds.length < 16777216 ∧ 0 ≤ k ∧ k < 9223372036854775808 then .ok (ds.take k.toNat ++ [d] ++ ds.drop k.toNat) else .no
def fPop (ds : List D) : R (List D) := if ds.length = 0 then .no else .ok ds.dropLast
def fSet (k : Int) (d : D) (ds : List D) : R (List D) := match ixN ds.length k with
  | some j => .ok (ds.set j d)
  | none => .no
def evAug (op : BOp) (x y : D) : R D :=
  match op with
  | .add | .sub | .mul | .fdiv | .mod => match x, y with
    | .int _, .int _ => evBin op .sh x y
    | _, _ => .no
  | _ => .no
def fAug (k : Int) (op : BOp) (y : D) (ds : List D) : R (List D) := match ixN ds.length k with
  | some j => match ds[j]? with
    | some x => evAug op x y >>= fun z => .ok (ds.set j z)
    | none => .no
  | none => .no
def evB (S : Sg) (t : E) (env : Ev) : R Bool := ev S t env >>= truthD
def loopF (f : D → Ev → R Fl) : List D → Ev → R Fl
  | [], env => .ok (.nx env)
  | x :: r, env => f x env >>= fun fl => match fl with
    | .nx e => loopF f r e
    | .ct e => loopF f r e
    | .bk e => .ok (.nx e)
    | .rt d => .ok (.rt d)
def loopW (t : Ev → R Bool) (f : Ev → R Fl) : Nat → Ev → R Fl
  | 0, _ => .no
  | n + 1, env => t env >>= fun b => if b = true then (f env >>= fun fl => match fl with
    | .nx e => loopW t f n e
    | .ct e => loopW t f n e
    | .bk e => .ok (.nx e)
    | .rt d => .ok (.rt d)) else .ok (.nx env)
def fuel : Nat := 1000000
mutual
def evS (T : Sg) : S → Ev → R Fl
  | .asg t e, env => ev T e env >>= fun d => gset t d env >>= fun e' => .ok (.nx e')
  | .own i e, env => ev T e env >>= fun d => .ok (.nx (put env i (some (d, false))))
  | .aug i op e, env => evVar i false env >>= fun x => ev T e env >>= fun y => evAug op x y >>= fun z => .ok (.nx (put env i (some (z, true))))
  | .drop e, env => ev T e env >>= fun _ => .ok (.nx env)
  | .app i p e, env => evPa T p env >>= fun ks => noX (ev T e env) >>= fun d => mutE T i ks (fApp d) env
  | .ins i p k e, env => evPa T p env >>= fun ks => toInt (ev T k env) >>= fun n => noX (ev T e env) >>= fun d => mutE T i ks (fIns n d) env
  | .pop i p, env => evPa T p env >>= fun ks => mutE T i ks fPop env
  | .st i p k e, env => ev T e env >>= fun d => evPa T p env >>= fun ks => toInt (ev T k env) >>= fun n => mutE T i ks (fSet n d) env
  | .sau i p k op e, env => evPa T p env >>= fun ks => toInt (ev T k env) >>= fun n => noX (ev T e env) >>= fun d => mutE T i ks (fAug n op d) env
  | .iff t a b, env => evB T t env >>= fun r => if r = true then evSs T a env else evSs T b env
  | .fr t it b, env => evi T it env >>= fun items => loopF (fun x e => gset t x e >>= fun e' => evSs T b e') items env
  | .wh t b, env => loopW (evB T t) (evSs T b) fuel env
  | .ret r, env => evR T r env >>= fun d => .ok (.rt d)
  | .brk, env => .ok (.bk env)
  | .cnt, env => .ok (.ct env)
  | .pass, env => .ok (.nx env)
  | .fzz i s, env => evS T s (frzE env i)
def evSs (T : Sg) : Ss → Ev → R Fl
  | .nil, env => .ok (.nx env)
  | .cons s r, env => evS T s env >>= fun fl => match fl with
    | .nx e => evSs T r e
    | f => .ok f
end

/-! the text against it -/
def isComp : Expr → Bool
  | .ListComp _ _ _ _ | .SetComp _ _ _ _ | .DictComp _ _ _ _ _ => true
  | _ => false
def coreC : E → Bool
  | .comp _ _ _ _ _ _ => true
  | .frz a => match a with
    | .comp _ _ _ _ _ _ => true
    | _ => false
  | _ => false
def asgB (t : G) (tg : Expr) (x : E) (v : Expr) : Bool :=
  match t with
  | .nm _ => !(isComp v) || coreC x
  | .tp _ => !(isComp v) && !(isTup v) && isTup tg
def tyQ (S : Sg) : Q1 → Own
  | .e x => ty S x
  | .mv i => S.own i
def tyQs (S : Sg) : List Q1 → Own
  | [] => .tn
  | q :: r => .tc (tyQ S q) (tyQs S r)
def mQ (g : Cfg) : Q1 → Expr → Bool
  | .e x, e => mE g x e && fz (ty g.S x)
  | .mv i, e => match e with
    | .Name x _ => decide (g.N[i]? = some x) && visB g x && nmB x
    | _ => false
def mQs (g : Cfg) : List Q1 → List Expr → Bool
  | [], as => as.isEmpty
  | q :: r, as => match as with
    | a :: as => mQ g q a && nstar a && mQs g r as
    | [] => false
def mvs : List Q1 → List Nat
  | [] => []
  | .mv i :: r => i :: mvs r
  | .e _ :: r => mvs r
def tyR (S : Sg) : RT → Own
  | .one q => tyQ S q
  | .tp qs => tyQs S qs
  | .nl => .sh
def isFlE : E → Bool
  | .fl _ => true
  | _ => false
def isFlQ : Q1 → Bool
  | .e x => isFlE x
  | .mv _ => false
theorem isFlQ_of {q : Q1} (h : isFlQ q = true) : ∃ y, q = .e (.fl y) := by
  cases q with
  | mv i => cases h
  | e x => cases x <;> first | exact ⟨_, rfl⟩ | cases h
def mR (g : Cfg) (own : Own) : RT → Option Expr → Bool
  | .one q, e => match e with
    | some a => mQ g q a && (decide (tyQ g.S q = own) || isFlQ q)
    | none => false
  | .tp qs, e => match e with
    | some (.Tuple as _ _) => mQs g qs as && decide (tyQs g.S qs = own) && isTc own && decide (mvs qs).Nodup && (mvs qs).all fun j => decide (j < 1000000)
    | _ => false
  | .nl, e => e.isNone
def mMeth (m : Str) (e : Expr) : Option (Expr × List Expr) :=
  match e with
  | .Call (.Attribute b a ap) as [] cp => if a = m ∧ (ap.endLine == cp.line) = true then some (b, as) else none
  | _ => none
def pathB (S : Sg) (i : Nat) : Bool := fz (S.own i)
mutual
def mS (g : Cfg) (own : Own) : S → Stmt → Bool
  | .asg t x, s => match s with
    | .Assign [tg] v _ => mG g t tg && mE g x v && fz (ty g.S x) && asgB t tg x v
    | _ => false
  | .own i x, s => match s with
    | .Assign [tg] v _ => mG g (.nm i) tg && mE g x v && decide (ty g.S x = g.S.own i) && asgB (.nm i) tg x v
    | _ => false
  | .aug i op x, s => match s with
    | .AugAssign (.Name y _) p v _ => decide (p = op.op) && decide (g.N[i]? = some y) && locB g y && mE g x v
    | _ => false
  | .drop x, s => match s with
    | .Expr v _ => mE g x v && !(isComp v)
    | _ => false
  | .app i p x, s => match s with
    | .Expr (.Call (.Attribute b a ap) [v] [] cp) _ => decide (a = "append") && (ap.endLine == cp.line) && mPa g i p b && mE g x v && nstar v && fz (ty g.S x)
    | _ => false
  | .ins i p k x, s => match s with
    | .Expr (.Call (.Attribute b a ap) [u, v] [] cp) _ => decide (a = "insert") && (ap.endLine == cp.line) && mPa g i p b && mE g k u && mE g x v && nstar u && nstar v && fz (ty g.S x)
    | _ => false
  | .pop i p, s => match s with
    | .Expr (.Call (.Attribute b a ap) [] [] cp) _ => decide (a = "pop") && (ap.endLine == cp.line) && mPa g i p b
    | _ => false
  | .st i p k x, s => match s with
    | .Assign [.Subscript b u _] v _ => mPa g i p b && mE g k u && mE g x v && fz (ty g.S x) && !(isComp v) && nslice u
    | _ => false
  | .sau i p k op x, s => match s with
    | .AugAssign (.Subscript b u _) q v _ => decide (q = op.op) && mPa g i p b && mE g k u && mE g x v && nslice u
    | _ => false
  | .iff t a b, s => match s with
    | .If c x y _ => mE g t c && mSs g own a x && mSs g own b y
    | _ => false
  | .fr t it b, s => match s with
    | .For tg i body [] _ => mG g t tg && mI g false it tg i && nset i && mSs g own b body
    | _ => false
  | .wh t b, s => match s with
    | .While c body [] _ => mE g t c && mSs g own b body
    | _ => false
  | .ret r, s => match s with
    | .Return e _ => mR g own r e
    | _ => false
  | .brk, s => match s with
    | .Break _ => true
    | _ => false
  | .cnt, s => match s with
    | .Continue _ => true
    | _ => false
  | .pass, s => match s with
    | .Pass _ => true
    | .Expr (.Constant (.str _) _ _) _ => true
    | _ => false
  | .fzz _ s', s => mS g own s' s
def mSs (g : Cfg) (own : Own) : Ss → List Stmt → Bool
  | .nil, l => l.isEmpty
  | .cons s r, l => match l with
    | x :: l => mS g own s x && mSs g own r l
    | [] => false
end

structure GoodS (g : Cfg) (c : Ctx) (X : Cx) : Prop where
  E : Good g c X
  po : PassesOwn (model X.prog X.w) X.A X.env X.xe
  kd : g.sc.kind = .function
  fz : ∀ i, fz (g.S.own i) = true

section
variable {g : Cfg} {c : Ctx} {X : Cx} {own : Own}
theorem GoodS.fzΓ (G : GoodS g c X) : ∀ i, Pv.fz (c.Γ i) = true := fun i => by rw [G.E.own]; exact G.fz i
theorem swaps_no {v : Expr} {t : Option Expr} {l : Nat} {env : Env} (h : isComp v = false) : swapsWith v t l env = pure false := by
  cases v <;> first | rfl | cases h
/-! assignment to a name -/
theorem te_fz {f : Ev → R D} {o : Own} (hf : Pv.fz o = true) {σ : L2.St} {H : Hp} {Q : VK} (h : tE c f .sh σ H Q) : tE c f o σ H Q := by
  obtain ⟨env, O, at_, h⟩ := h
  exact ⟨env, O, at_, AnsP.imp h fun d _ g v H' A s fr r => Gv.give g s (.sh (r.freeze (at_.dom.mono s) (fun a z => add_true.mpr (.inl z)) (fr.disj at_.dom) hf))⟩
theorem sAsComp {o : Own} {elt : E} {t : G} {it : I} {q : Es} {ws : List Nat} {i : Nat} {y : Str} {py spos : Pos} {v : Expr} (G : GoodS g c X) (h : mE g (.comp o elt t it q ws) v = true) (hy : g.N[i]? = some y) (hl : locB g y = true) :
    PS X (.Assign [.Name y py] v spos) (tAsg (tE c (ev g.S (.comp o elt t it q ws)) (.lst o)) (gName i)) := by
  have hp := sE (.comp o elt t it q ws) G.E h
  obtain ⟨l1, l2⟩ := G.E.loc hl
  unfold mE at h
  split at h
  · rename_i a tg iter ifs z sc pos
    simp only [Bool.and_eq_true, decide_eq_true_eq, List.all_eq_true] at h
    obtain ⟨⟨⟨⟨⟨⟨⟨⟨⟨h1, h2⟩, h3⟩, h4⟩, h5⟩, h6⟩, h7⟩, h8⟩, h9⟩, h10⟩ := h
    subst h1
    have hk : X.env.scope.kind = .function := by rw [G.E.sc]; exact G.kd
    have hb : X.env.blockKind = .function := by unfold Env.blockKind; rw [hk]; rfl
    cases hsw : (X.env.blockKind == .function && X.env.kindOf y == some .local && py.line == pos.line && !(sc.names.any fun (n, k) => n == y && (k == .local || k == .cell))) with
    | false =>
      have hs : swapsWith (.ListComp a [⟨tg, iter, ifs, 0⟩] sc pos) (some (.Name y py)) spos.line X.env = pure false := by
        show (pure (X.env.blockKind == .function && X.env.kindOf y == some .local && py.line == pos.line && !(sc.names.any fun (n, k) => n == y && (k == .local || k == .cell))) : Sem Bool) = pure false
        rw [hsw]
      have hp' : PE X (.ListComp a [⟨tg, iter, ifs, 0⟩] sc pos) (tE c (ev g.S (.comp o elt t it q ws)) (.lst o)) := PE.cg hp (fun _ => rfl) (by rw [ty])
      exact ps_set (by rw [G.E.N]; exact G.E.nd) (by rw [G.E.N]; exact hy) l1 hp' hs l2
    | true =>
      have hs : swapsWith (.ListComp a [⟨tg, iter, ifs, 0⟩] sc pos) (some (.Name y py)) spos.line X.env = pure true := by
        show (pure (X.env.blockKind == .function && X.env.kindOf y == some .local && py.line == pos.line && !(sc.names.any fun (n, k) => n == y && (k == .local || k == .cell))) : Sem Bool) = pure true
        rw [hsw]
      have hloc : X.env.scope.names.lookup y = some .local := by
        simp only [Bool.and_eq_true] at hsw
        exact eq_of_beq hsw.1.1.2
      have hsc : L2.blkC X.N X.env.scope sc (ownW g ws) = true := by rw [G.E.N, G.E.sc]; exact h4
      have hq := ps_setLc (i := i) (y := y) (py := py) (spos := spos) (X := X) (g := tgG X.K t) (elt := a) (tg := tg) (iter := iter) (ifs := ifs) (scope := sc) (own := ownW g ws) (pos := pos) G.E.calm (by rw [G.E.N]; exact G.E.nd) (by rw [G.E.N]; exact hy) hloc hs (sI it true G.E h2) (blkOk_by hsc)
        (fun s H C cl fp => sG t (G.E.blk (s := s) (H := H) (C := C) (cl := cl) (fp := fp)) h5) (fun s H C cl fp => sC q (G.E.blk (s := s) (H := H) (C := C) (cl := cl) (fp := fp)) h6)
        (fun s H C cl fp => h8 ▸ sE elt (G.E.blk (s := s) (H := H) (C := C) (cl := cl) (fp := fp)) h7) (fold_of h3)
      rw [own_ix] at hq
      refine PS.imp hq fun K σ H hh => ?_
      refine comp_read (g := t) (ws := ws) (fi := evi g.S it) (ft := evc g.S q) (fe := ev g.S elt) (o := o) rfl rfl rfl h9 (fun j hj => h10 j hj) ?_
      obtain ⟨env, O, at_, ha⟩ := hh
      refine ⟨env, O, at_, ?_⟩
      rw [ev] at ha
      exact ha
  · cases h
theorem sAs {x : E} {i : Nat} {y : Str} {py spos : Pos} {v : Expr} (G : GoodS g c X) (h : mE g x v = true) (hy : g.N[i]? = some y) (hl : locB g y = true) (hc : (!(isComp v) || coreC x) = true) :
    PS X (.Assign [.Name y py] v spos) (tAsg (tE c (ev g.S x) (ty g.S x)) (gName i)) := by
  by_cases hv : isComp v = true
  · rw [hv] at hc
    cases x with
    | comp o elt t it q ws =>
      refine PS.imp (sAsComp (py := py) (spos := spos) G h hy hl) fun K σ H hh => ?_
      rw [ty] at hh
      exact hh
    | frz a =>
      cases a with
      | comp o elt t it q ws =>
        unfold mE at h
        simp only [Bool.and_eq_true] at h
        refine PS.imp (sAsComp (py := py) (spos := spos) G h.1 hy hl) fun K σ H hh => ?_
        have h2 := h.2
        rw [ty] at h2
        have hh : tE c (ev g.S (.frz (.comp o elt t it q ws))) .sh σ H (fun x H1 => K.nx (σ.set i (some x)) H1) := hh
        rw [show ev g.S (.frz (.comp o elt t it q ws)) = ev g.S (.comp o elt t it q ws) from by funext env; conv => lhs; rw [ev]] at hh
        exact te_fz h2 hh
      | _ => cases hc
    | _ => cases hc
  · obtain ⟨l1, l2⟩ := G.E.loc hl
    exact ps_set (by rw [G.E.N]; exact G.E.nd) (by rw [G.E.N]; exact hy) l1 (sE x G.E h) (swaps_no (by simpa using hv)) l2
/-! what a name's store reaches -/
theorem tE_st {f : Ev → R D} {o : Own} {σ : L2.St} {H : Hp} {Q' : V → Hp → Prop} {env : Ev} {ω : Om} {K : Ends} {k : D → R Fl} (a : AtS c H ω env σ) (h : AnsS c own H ω (f env >>= k) K)
    (q : ∀ d v H1 A, f env = .ok d → Same H H1 → Fresh H H1 A → Rp [] H1 (add (ow ω) A) v d o A → AnsS c own H ω (k d) K → Q' v H1) : tE c f o σ H Q' :=
  ⟨env, ow ω, a.at, AnsS.val h fun d hd hk v H1 A s fr r => q d v H1 A hd s fr r hk⟩
/-- .. a temporary -/
theorem tE_stT {f : Ev → R D} {o : Own} {σ : L2.St} {H : Hp} {Q' : V → Hp → Prop} {env : Ev} {ω : Om} {K : Ends} {k : D → R Fl} (a : AtS c H ω env σ) (h : AnsS c own H ω (f env >>= k) K)
    (q : ∀ d v H1, f env = .ok d → AtS c H1 ω env σ → Eff H ω H1 ω → Tmp H1 (ow ω) v d o → AnsS c own H1 ω (k d) K → Q' v H1) : tE c f o σ H Q' :=
  tE_st a h fun d v H1 A hd s fr r hk => q d v H1 hd (a.later s) (.same s) ⟨A, fr.disj a.dom, r⟩ (hk.later (.same s))
theorem tT_st {f : Ev → R Bool} {σ : L2.St} {H : Hp} {Q' : Bool → Hp → Prop} {env : Ev} {ω : Om} {K : Ends} {k : Bool → R Fl} (a : AtS c H ω env σ) (h : AnsS c own H ω (f env >>= k) K)
    (q : ∀ d H1, f env = .ok d → AtS c H1 ω env σ → Eff H ω H1 ω → AnsS c own H1 ω (k d) K → Q' d H1) : tT c f σ H Q' :=
  ⟨env, ow ω, a.at, AnsS.val h fun d hd hk H1 s => q d H1 hd (a.later s) (.same s) (hk.later (.same s))⟩
theorem tup_of {e : Expr} (h : isTup e = true) : ∃ as k p, e = .Tuple as k p := by
  cases e <;> first | exact ⟨_, _, _, rfl⟩ | cases h
theorem ps_tp {t : Gs} {tg v : Expr} {pos : Pos} {f : Ev → R D} {o : Own} (hf : Pv.fz o = true) (he : PE X v (tE c f o)) (hg : PG X tg (tgG X.K (.tp t))) (hc : isComp v = false) (ht : isTup v = false) (htg : isTup tg = true) :
    PS X (.Assign [tg] v pos) (tS c own fun env => f env >>= fun d => gset (.tp t) d env >>= fun e => .ok (.nx e)) := by
  have h1 : (assignEach [tg] X.env).map (·.2) = [assign tg X.env] := by cases tg <;> first | rfl | cases htg
  have h2 : swapsWithSole [tg] v pos.line X.env = pure false := swaps_no hc
  have h3 : swappedStores [tg] v X.env = pure none := by
    obtain ⟨as, kk, pp, rfl⟩ := tup_of htg
    cases v <;> first | rfl | cases ht
  refine PS.imp (ps_asg he hg h2 h3 h1) fun K σ H ⟨env, ω, a, h⟩ => ?_
  refine tE_stT a h fun d x H1 _ a1 e1 t1 k1 => ?_
  have kx := t1.fz a1.dom hf
  cases hgs : gset (.tp t) d env with
  | no => rw [hgs] at k1; exact k1.elim
  | exc z => exact (gset_exc _ hgs).elim
  | ok env1 =>
    rw [hgs] at k1
    exact gset_ok (P := fun e τ => AtS c H1 ω e τ) (fun e τ j d v p k => AtS.put p k) (.tp t) d x env env1 σ _ kx hgs a1 fun σ' p' _ => k1 σ' H1 ω p' .refl
where
  gset_exc : ∀ (t : G) {d : D} {env : Ev} {z : Nat}, gset t d env ≠ .exc z
    | .nm _, _, _, _ => fun h => nomatch h
    | .tp gs, d, env, z => fun h => by
      cases d with
      | tuple ds => exact gsets_exc gs ds env h
      | _ => cases h
  gsets_exc : ∀ (t : Gs) (ds : List D) (env : Ev) {z : Nat}, gsets t ds env ≠ .exc z
    | .nil, [], _, _ => fun h => nomatch h
    | .nil, _ :: _, _, _ => fun h => nomatch h
    | .cons _ _, [], _, _ => fun h => nomatch h
    | .cons t r, d :: ds, env, z => fun h => by
      have h : (gset t d env >>= fun e => gsets r ds e) = .exc z := h
      cases hq : gset t d env with
      | no => rw [hq] at h; cases h
      | exc w => exact gset_exc t hq
      | ok e =>
        rw [hq] at h
        exact gsets_exc r ds e h
end
end Pv

namespace Pv
open PySem PySem.Spec PyProof.Rows L2

/-! what is handed back -/
def mk : Nat := 1000001
structure Ext (H : Hp) (ω ω' : Om) : Prop where
  is : ∀ a, ω' a = ω a ∨ (H a = none ∧ ω' a = some mk)
theorem Ext.refl {H : Hp} {ω : Om} : Ext H ω ω := ⟨fun _ => .inl rfl⟩
theorem Ext.trans {H H1 : Hp} {ω ω1 ω2 : Om} (s : Same H H1) (a : Ext H ω ω1) (b : Ext H1 ω1 ω2) : Ext H ω ω2 := ⟨fun x => by
  rcases b.is x with e | ⟨e1, e2⟩
  · rw [e]; exact a.is x
  · exact .inr ⟨s.free e1, e2⟩⟩
theorem Ext.eff {H H' : Hp} {ω ω' : Om} (hd : Dom H (ow ω)) (s : Same H H') (x : Ext H ω ω') : Eff H ω H' ω' := by
  refine ⟨fun a o e _ => s a o e, fun a i h => ?_, fun a => ?_, fun a h => s.free h⟩
  · rcases x.is a with e | ⟨e, _⟩
    · exact .inl ⟨i, by rw [← e]; exact h⟩
    · exact .inr e
  · rcases x.is a with e | ⟨e1, e2⟩
    · rw [e]
    · constructor
      · intro h
        rw [e2] at h
        cases h
      · intro h
        obtain ⟨xs, q⟩ := hd a (ow_true.mpr ⟨_, h⟩)
        rw [e1] at q
        cases q
def ext (ω : Om) (A : List Addr) : Om := fun a => if a ∈ A then some mk else ω a
theorem ext_ow {ω : Om} {A : List Addr} {a : Addr} : ow (ext ω A) a = true ↔ add (ow ω) A a = true := by
  rw [add_true]
  unfold ext
  by_cases h : a ∈ A
  · constructor
    · exact fun _ => .inr h
    · intro _
      show (if a ∈ A then some mk else ω a).isSome = true
      rw [if_pos h]
      rfl
  · constructor
    · intro q
      have q : (if a ∈ A then some mk else ω a).isSome = true := q
      rw [if_neg h] at q
      exact .inl q
    · intro q
      show (if a ∈ A then some mk else ω a).isSome = true
      rw [if_neg h]
      exact q.elim id fun z => absurd z h
theorem AtS.ext {c : Ctx} {H H1 : Hp} {ω : Om} {env : Ev} {σ : L2.St} {A : List Addr} (a : AtS c H ω env σ) (s : Same H H1) (fr : Fresh H H1 A) : AtS c H1 (ext ω A) env σ ∧ Ext H ω (Pv.ext ω A) := by
  have keep : ∀ x, ω x ≠ none → Pv.ext ω A x = ω x := fun x h => by
    unfold Pv.ext
    rw [if_neg (fun z => h (ow_false.mp (fr.disj a.dom x z)))]
  refine ⟨⟨fun x hx => ?_, fun i d b h => ?_, a.len⟩, ⟨fun x => ?_⟩⟩
  · rcases add_true.mp (ext_ow.mp hx) with z | z
    · exact (a.dom.mono s) x z
    · exact fr.lst x z
  · obtain ⟨v, hv, q⟩ := a.er i d b h
    refine ⟨v, hv, ?_⟩
    have nn : ∀ x, ow (Pv.ext ω A) x = true → ow ω x = true ∨ H x = none := fun x hx => add_new fr x (ext_ow.mp hx)
    cases b with
    | true => exact dp_mono (mask_mono s nn) _ _ q
    | false =>
      obtain ⟨B, nd, hB, r⟩ := q
      have h1 : ∀ x ∈ B, Pv.ext ω A x = some (i + 1) := fun x hx => by rw [keep x (by rw [hB x hx]; exact fun z => nomatch z)]; exact hB x hx
      exact ⟨B, nd, h1, Rp.mono s nn (fun x hx => ow_true.mpr ⟨_, h1 x hx⟩) r⟩
  · by_cases h : x ∈ A
    · exact .inr ⟨fr.new x h, by unfold Pv.ext; rw [if_pos h]⟩
    · exact .inl (by unfold Pv.ext; rw [if_neg h])
def mvQ : Q1 → List Nat
  | .mv i => [i]
  | .e _ => []
def Fr (ω : Om) (H : Hp) (ω' : Om) (H' : Hp) (ms : List Nat) (A : List Addr) : Prop := A.Nodup ∧ ∀ a ∈ A, (∃ xs, H' a = some (.lst xs)) ∧ ((H a = none ∧ ω' a = some mk) ∨ ∃ j ∈ ms, ω a = some (j + 1))
def Pq (c : Ctx) (env : Ev) (σ : L2.St) (ω : Om) (o : Own) (ms : List Nat) (Q : V → Hp → Prop) : Hp → D → Prop := fun H d => ∀ v H' ω' A, AtS c H' ω' env σ → Same H H' → Ext H ω ω' → Fr ω H ω' H' ms A → Rp [] H' (ow ω') v d o A → Q v H'
def tQ (c : Ctx) (f : Ev → R D) (o : Own) (ms : List Nat) : TE := fun σ H Q => ∃ env ω, AtS c H ω env σ ∧ AnsP c.W H (f env) (Pq c env σ ω o ms Q)
def Pqs (c : Ctx) (env : Ev) (σ : L2.St) (ω : Om) (o : Own) (ms : List Nat) (Q : List V → Hp → Prop) : Hp → List D → Prop := fun H ds => ∀ vs H' ω' A, AtS c H' ω' env σ → Same H H' → Ext H ω ω' → Fr ω H ω' H' ms A → RpS [] H' (ow ω') vs ds o A → Q vs H'
def tQs (c : Ctx) (f : Ev → R (List D)) (o : Own) (ms : List Nat) : TA := fun σ H Q => ∃ env ω, AtS c H ω env σ ∧ AnsP c.W H (f env) (Pqs c env σ ω o ms Q)
section
variable {g : Cfg} {c : Ctx} {X : Cx} {own : Own}
theorem sQ {q : Q1} {e : Expr} (G : GoodS g c X) (h : mQ g q e = true) : PE X e (tQ c (evQ g.S q) (tyQ g.S q) (mvQ q)) := by
  cases q with
  | e x =>
    dsimp only [mQ] at h
    simp only [Bool.and_eq_true] at h
    refine PE.imp (sE x G.E h.1) fun σ H Q ⟨env, ω, a, hh⟩ => ⟨env, ow ω, a.at, AnsP.imp hh fun d _ p v H' A s fr r => ?_⟩
    obtain ⟨a', x'⟩ := a.ext s fr
    refine p v H' (ext ω A) A a' s x' ⟨fr.nd, fun b hb => ⟨fr.lst b hb, .inl ⟨fr.new b hb, by unfold ext; rw [if_pos hb]⟩⟩⟩ ?_
    exact Rp.mono (Same.refl _) (fun b hb => .inl (ext_ow.mp hb)) (fun b hb => ext_ow.mpr (add_true.mpr (.inr hb))) r
  | mv i =>
    dsimp only [mQ] at h
    split at h
    · simp only [Bool.and_eq_true, decide_eq_true_eq] at h
      obtain ⟨n1, n2⟩ := nmB_of h.2
      refine PE.imp (pe_var (i := i) (by rw [G.E.N]; exact h.1.1) (G.E.vis h.1.2) n1 n2) fun σ H Q ⟨env, ω, a, hh⟩ => ?_
      unfold evQ at hh
      dsimp only at hh
      split at hh
      · rename_i d hl
        obtain ⟨v, hv, q⟩ := a.er i d false hl
        obtain ⟨A, nd, hA, r⟩ := (show ∃ A, A.Nodup ∧ (∀ a ∈ A, ω a = some (i + 1)) ∧ Rp [] H (ow ω) v d (c.Γ i) A from q)
        rw [G.E.own] at r
        exact ⟨v, hv, hh v H ω A a (Same.refl _) .refl ⟨nd, fun b hb => ⟨(r.owned b hb).2, .inr ⟨i, List.mem_singleton.mpr rfl, hA b hb⟩⟩⟩ r⟩
      · exact hh.elim
    · cases h
theorem sQs : ∀ {qs : List Q1} {es : List Expr}, GoodS g c X → mQs g qs es = true → (mvs qs).Nodup → (∀ j ∈ mvs qs, j < 1000000) → PA X es (tQs c (evQs g.S qs) (tyQs g.S qs) (mvs qs))
  | [], es, G, h, _, _ => by
    unfold mQs at h
    cases es with
    | nil => exact PA.imp pa_nil fun σ H Q ⟨env, ω, a, hh⟩ => hh [] H ω [] a (Same.refl _) .refl ⟨List.nodup_nil, fun _ z => (nomatch z)⟩ .nil
    | cons _ _ => cases h
  | q :: r, es, G, h, nd, lt => by
    unfold mQs at h
    split at h
    · simp only [Bool.and_eq_true] at h
      have em : mvs (q :: r) = mvQ q ++ mvs r := by cases q <;> rfl
      rw [em] at nd lt
      obtain ⟨nd1, nd2, nd3⟩ := List.nodup_append.mp nd
      refine PA.imp (pa_cons (sQ G h.1.1) (sQs G h.2 nd2 fun j hj => lt j (List.mem_append_right _ hj)) (star_of h.1.2)) fun σ H Q ⟨env, ω, a, hh⟩ => ⟨env, ω, a, ?_⟩
      unfold evQs at hh
      cases h1 : evQ g.S q env with
      | no => rw [h1] at hh; exact hh
      | exc z => rw [h1] at hh; exact hh
      | ok d =>
        rw [h1] at hh
        intro v H1 ω1 A a1 s1 x1 f1 r1
        refine ⟨env, ω1, a1, ?_⟩
        cases h2 : evQs g.S r env with
        | no => rw [h2] at hh; exact hh
        | exc z => rw [h2] at hh; exact fun H' s' => hh H' (s1.trans s')
        | ok ds =>
          rw [h2] at hh
          intro vs H2 ω2 B a2 s2 x2 f2 r2
          have key : ∀ b ∈ A, ω1 b = some mk ∨ ∃ j ∈ mvQ q, ω1 b = some (j + 1) := fun b hb => by
            rcases (f1.2 b hb).2 with ⟨_, e⟩ | ⟨j, hj, e⟩
            · exact .inl e
            · rcases x1.is b with z | ⟨z, _⟩
              · exact .inr ⟨j, hj, z.trans e⟩
              · obtain ⟨xs, q⟩ := a.dom b (ow_true.mpr ⟨_, e⟩)
                rw [z] at q
                cases q
          have keep : ∀ b ∈ A, ω2 b = ω1 b := fun b hb => by
            rcases x2.is b with z | ⟨z, _⟩
            · exact z
            · obtain ⟨xs, q⟩ := (f1.2 b hb).1
              rw [z] at q
              cases q
          refine hh (v :: vs) H2 ω2 (A ++ B) a2 (s1.trans s2) (x1.trans s1 x2) ⟨List.nodup_append.mpr ⟨f1.1, f2.1, fun b hb b' hb' e => ?_⟩, fun b hb => ?_⟩ (.cons ?_ r2)
          · subst e
            rcases (f2.2 b hb').2 with ⟨e, _⟩ | ⟨j, hj, e⟩
            · obtain ⟨xs, q⟩ := (f1.2 b hb).1
              rw [e] at q
              cases q
            · rcases key b hb with z | ⟨i, hi, z⟩
              · rw [e] at z
                have z := Option.some.inj z
                have := lt j (List.mem_append_right _ hj)
                unfold mk at z
                omega
              · rw [e] at z
                have z := Option.some.inj z
                have z : i = j := by omega
                subst z
                exact nd3 i hi i hj rfl
          · rcases List.mem_append.mp hb with hb | hb
            · obtain ⟨⟨xs, e⟩, w⟩ := f1.2 b hb
              refine ⟨⟨xs, s2 _ _ e⟩, ?_⟩
              rw [em]
              rcases w with ⟨w1, w2⟩ | ⟨j, hj, w⟩
              · exact .inl ⟨w1, (keep b hb).trans w2⟩
              · exact .inr ⟨j, List.mem_append_left _ hj, w⟩
            · obtain ⟨e, w⟩ := f2.2 b hb
              refine ⟨e, ?_⟩
              rw [em]
              rcases w with ⟨w1, w2⟩ | ⟨j, hj, w⟩
              · exact .inl ⟨s1.free w1, w2⟩
              · rcases x1.is b with z | ⟨z1, z2⟩
                · exact .inr ⟨j, List.mem_append_right _ hj, z.symm.trans w⟩
                · rw [w] at z2
                  have z2 := Option.some.inj z2
                  have := lt j (List.mem_append_right _ hj)
                  unfold mk at z2
                  omega
          · refine Rp.mono s2 (fun b hb => ?_) (fun b hb => ?_) r1
            · obtain ⟨n, e⟩ := ow_true.mp hb
              rcases x2.is b with z | ⟨z, _⟩
              · exact .inl (ow_true.mpr ⟨n, by rw [← z]; exact e⟩)
              · exact .inr z
            · rw [ow_true]
              rcases key b hb with z | ⟨j, _, z⟩
              · exact ⟨_, (keep b hb).trans z⟩
              · exact ⟨_, (keep b hb).trans z⟩
    · cases h
theorem Fr.owned {ω : Om} {H : Hp} {ω' : Om} {H' : Hp} {ms : List Nat} {A : List Addr} (hd : Dom H (ow ω)) (x : Ext H ω ω') (f : Fr ω H ω' H' ms A) : ∀ a ∈ A, ∃ i, ω' a = some (i + 1) := fun a ha => by
  rcases (f.2 a ha).2 with ⟨_, e⟩ | ⟨j, _, e⟩
  · exact ⟨1000000, e⟩
  · rcases x.is a with z | ⟨z, _⟩
    · exact ⟨j, z.trans e⟩
    · obtain ⟨xs, q⟩ := hd a (ow_true.mpr ⟨_, e⟩)
      rw [z] at q
      cases q
theorem sR {r : RT} {e : Option Expr} {pos : Pos} (G : GoodS g c X) (h : mR g own r e = true) : PS X (.Return e pos) (tS c own fun env => evR g.S r env >>= fun d => .ok (.rt d)) := by
  cases r with
  | nl =>
    dsimp only [mR] at h
    cases e with
    | none =>
      refine PS.imp ps_retN fun K σ H ⟨env, ω, a, hh⟩ => ?_
      exact hh .non H ⟨ω, [], .refl, List.nodup_nil, (fun _ z => (nomatch z)), a.dom, .flat rfl .non⟩
    | some _ => cases h
  | one q =>
    dsimp only [mR] at h
    split at h
    · simp only [Bool.and_eq_true, Bool.or_eq_true, decide_eq_true_eq] at h
      refine PS.imp (ps_ret (sQ G h.1)) fun K σ H ⟨env, ω, a, hh⟩ => ⟨env, ω, a, ?_⟩
      have hh : AnsS c own H ω (evQ g.S q env >>= fun d => .ok (.rt d)) K := hh
      refine AnsS.val hh fun d hd hk v H' ω' A a' s' x' f' r' => ?_
      refine hk v H' ⟨ω', A, x'.eff a.dom s', f'.1, f'.owned a.dom x', a'.dom, ?_⟩
      rcases h.2 with e | e
      · rw [← e]; exact r'
      · obtain ⟨y, rfl⟩ := isFlQ_of e
        have hd : ev g.S (.fl y) env = .ok d := hd
        rw [ev] at hd
        have fl : flatD d = true := by
          cases hy : ev g.S y env with
          | no => rw [hy] at hd; cases hd
          | exc z => rw [hy] at hd; cases hd
          | ok w =>
            rw [hy] at hd
            have hd : evFl w = .ok d := hd
            unfold evFl at hd
            split at hd
            · cases hd; assumption
            · cases hd
        have k := r'.dp
        have hA : A = [] := nown_rp (o := .sh) rfl r'
        subst hA
        exact .flat fl k
    · cases h
  | tp qs =>
    dsimp only [mR] at h
    split at h
    · simp only [Bool.and_eq_true, decide_eq_true_eq, List.all_eq_true] at h
      obtain ⟨⟨⟨⟨h1, h2⟩, h3⟩, h4⟩, h5⟩ := h
      subst h2
      refine PS.imp (ps_ret (L2.pe_tup (sQs G h1 h4 h5))) fun K σ H ⟨env, ω, a, hh⟩ => ⟨env, ω, a, ?_⟩
      have hh : AnsS c (tyQs g.S qs) H ω ((evQs g.S qs env >>= evTup) >>= fun d => .ok (.rt d)) K := hh
      rw [R.assoc] at hh
      refine AnsS.val hh fun ds hd hk vs H' ω' A a' s' x' f' r' => ?_
      unfold evTup at hk
      split at hk
      · rename_i hz
        refine ⟨by rw [RpS.length r', ← sz]; exact hz, fun p hp => ?_⟩
        have sn : Same H' (upd H' p (.tup vs)) := same_new hp
        refine hk (.ref p) _ ⟨ω', A, x'.eff a.dom (s'.trans sn), f'.1, f'.owned a.dom x', a'.dom.mono sn, ?_⟩
        have r2 := RpS.mono sn (fun b hb => .inl hb) (fun b hb => (r'.owned b hb).1) r'
        generalize tyQs g.S qs = o at h3 r2
        match o, h3 with
        | .tc o r', _ => exact .tup upd_same r2
      · exact hk.elim
    · cases h
end
end Pv

namespace Pv
open PySem PySem.Spec PyProof.Rows L2

theorem rd_inj {H : Hp} {a : Addr} {xs ys : List V} (h : Rd H a (.lst xs)) (g : Rd H a (.lst ys)) : xs = ys := by
  rcases h with h | ⟨o, h⟩ <;> rcases g with g | ⟨o', g⟩ <;> (rw [h] at g; cases g) <;> rfl
theorem rdT_inj {H : Hp} {a : Addr} {xs ys : List V} (h : Rd H a (.tup xs)) (g : Rd H a (.tup ys)) : xs = ys := by
  rcases h with h | ⟨o, h⟩ <;> rcases g with g | ⟨o', g⟩ <;> (rw [h] at g; cases g) <;> rfl
theorem rd_no {H : Hp} {a : Addr} {xs ys : List V} (h : Rd H a (.lst xs)) (g : Rd H a (.tup ys)) : False := by
  rcases h with h | ⟨o, h⟩ <;> rcases g with g | ⟨o', g⟩ <;> (rw [h] at g; cases g)
theorem Reach.uniq {H : Hp} : ∀ {v w w' : V} {ks : List Int}, Reach H v ks w → Reach H v ks w' → w = w'
  | _, _, _, _, .nil, .nil => rfl
  | _, _, _, _, .cons h1 h2 h3, .cons g1 g2 g3 => by
    have e : _ = _ := (show _ = _ from by
      rcases h1 with h1 | h1 <;> rcases g1 with g1 | g1
      · exact rd_inj (rd_of h1) (rd_of g1)
      · exact (rd_no (rd_of h1) (rdT_of g1)).elim
      · exact (rd_no (rd_of g1) (rdT_of h1)).elim
      · exact rdT_inj (rdT_of h1) (rdT_of g1))
    rw [e] at h2
    rw [h2] at g2
    have e2 := Option.some.inj g2
    rw [e2] at h3
    exact Reach.uniq h3 g3
theorem updD_exc {f : List D → R (List D)} (hf : ∀ ds z, f ds ≠ .exc z) : ∀ {ks : List Int} {o : Own} {d : D} {z : Nat}, updD f ks o d ≠ .exc z
  | [], o, d, z => fun h => by
    unfold updD at h
    split at h
    · cases hd : f _ with
      | no => rw [hd] at h; cases h
      | exc w => exact hf _ _ hd
      | ok es => rw [hd] at h; cases h
    · cases h
  | k :: ks, o, d, z => fun h => by
    unfold updD at h
    split at h
    · split at h
      · split at h
        · cases hd : updD f ks _ _ with
          | no => rw [hd] at h; cases h
          | exc w => exact updD_exc hf hd
          | ok es => rw [hd] at h; cases h
        · cases h
      · cases h
    · split at h
      · split at h
        · cases hd : updD f ks _ _ with
          | no => rw [hd] at h; cases h
          | exc w => exact updD_exc hf hd
          | ok es => rw [hd] at h; cases h
        · cases h
      · cases h
    · cases h
theorem noX_ok {r : R D} {d : D} (h : noX r = .ok d) : r = .ok d := by
  cases r <;> first | exact h | cases h
theorem noX_exc {r : R D} {z : Nat} : noX r ≠ .exc z := by
  cases r <;> exact fun h => nomatch h
section
variable {g : Cfg} {c : Ctx} {X : Cx} {own : Own}
/-- a written slot: the list reached, and what its change brings about at any later heap -/
theorem mut_go {H : Hp} {ω : Om} {env : Ev} {σ : L2.St} {i : Nat} {ks : List Int} {f : List D → R (List D)} {K : Ends} (G : GoodS g c X) (hf : ∀ ds z, f ds ≠ .exc z) (a : AtS c H ω env σ) (h : AnsS c own H ω (mutE g.S i ks f env) K) :
    ∃ v0 l, σ[i]? = some (some v0) ∧ Reach H v0 ks (.ref l) ∧ ∀ H1, Same H H1 → ∃ xs ds es, H1 l = some (.lst xs) ∧ DpAll [] (mask H1 (ow ω)) xs ds ∧ f ds = .ok es ∧ ∀ ys, DpAll [] (mask H1 (ow ω)) ys es → K.nx σ (upd H1 l (.lst ys)) := by
  unfold mutE at h
  split at h
  · rename_i d hl
    cases hu : updD f ks (g.S.own i) d with
    | no => rw [hu] at h; exact h.elim
    | exc z => exact (updD_exc hf hu).elim
    | ok d' =>
      rw [hu] at h
      have hu' : updD f ks (c.Γ i) d = .ok d' := by rw [G.E.own]; exact hu
      obtain ⟨v0, l, xs, ds, es, hv, re, _⟩ := ats_upd G.fzΓ a hl hu'
      refine ⟨v0, l, hv, re, fun H1 s1 => ?_⟩
      obtain ⟨v1, l1, xs1, ds1, es1, hv1, re1, hl1, k1, f1, u1⟩ := ats_upd G.fzΓ (a.later s1) hl hu'
      rw [hv] at hv1
      cases hv1
      have e : l = l1 := V.ref.inj (Reach.uniq (re.mono s1) re1)
      subst e
      refine ⟨xs1, ds1, es1, hl1, k1, f1, fun ys hy => ?_⟩
      obtain ⟨a', e'⟩ := u1 ys hy
      exact h σ _ ω a' ((Eff.same s1).trans e')
  · exact h.elim
theorem base_of {b : Expr} {m : Str} {i : Nat} {p : Pa} (h : mPa g i p b = true) : attributeBase b m X.env (eval b X.env) = eval b X.env := by
  cases p with
  | nil =>
    unfold mPa at h
    split at h
    · simp only [Bool.and_eq_true] at h
      unfold attributeBase
      simp only [h.2, Bool.true_or, if_true]
    · cases h
  | snoc r k =>
    unfold mPa at h
    split at h
    · rfl
    · cases h
theorem few_of {v : Expr} {cp : Pos} {env : Env} (h : nstar v = true) : ((backTo cp (starEach [v] env)).all (fun x => !x.1) && (backToKw cp (keywordEach [] env)).all (fun x => x.1.isSome) && decide (([v] : List Expr).length + ([] : List Keyword).length + (if ([] : List Keyword).isEmpty then 0 else 1) < 30)) = true := by
  rw [star_of h]
  rfl
theorem few_of2 {u v : Expr} {cp : Pos} {env : Env} (h : nstar u = true) (h' : nstar v = true) : ((backTo cp (starEach [u, v] env)).all (fun x => !x.1) && (backToKw cp (keywordEach [] env)).all (fun x => x.1.isSome) && decide (([u, v] : List Expr).length + ([] : List Keyword).length + (if ([] : List Keyword).isEmpty then 0 else 1) < 30)) = true := by
  rw [star_of h, star_of h']
  rfl
theorem pa_at {σ : L2.St} {H : Hp} {Q : VK} {env : Ev} {O : Addr → Bool} {i : Nat} {p : Pa} {ks : List Int} {v0 : V} {l : Addr} (a : At c H O env σ) (hk : evPa g.S p env = .ok ks) (hv : σ[i]? = some (some v0)) (re : Reach H v0 ks (.ref l)) (q : ∀ H', Same H H' → Q (.ref l) H') : tPa c i (evPa g.S p) σ H Q :=
  ⟨env, O, v0, a, hv, by rw [hk]; exact ⟨.ref l, re, q⟩⟩
theorem te_at {f : Ev → R D} {o : Own} {σ : L2.St} {H : Hp} {Q : VK} {env : Ev} {ω : Om} {d : D} (hf : Pv.fz o = true) (a : AtS c H ω env σ) (hd : f env = .ok d) (q : ∀ v H', Same H H' → Dp [] (mask H' (ow ω)) v d → Q v H') : tE c f o σ H Q :=
  ⟨env, ow ω, a.at, by
    rw [hd]
    intro v H' A s fr r
    exact q v H' s (r.freeze (a.dom.mono s) (fun b z => add_true.mpr (.inl z)) (fr.disj a.dom) hf)⟩
theorem te_int {f : Ev → R D} {o : Own} {σ : L2.St} {H : Hp} {Q : VK} {env : Ev} {ω : Om} {n : Int} (a : AtS c H ω env σ) (hd : f env = .ok (.int n)) (q : ∀ H', Same H H' → Q (.int n) H') : tE c f o σ H Q :=
  ⟨env, ow ω, a.at, by
    rw [hd]
    intro v H' A s fr r
    have := dpInt r.dp
    subst this
    exact q H' s⟩
theorem te_dp {f : Ev → R D} {o : Own} {σ : L2.St} {H : Hp} {Q : VK} {env : Ev} {ω : Om} {d : D} (a : AtS c H ω env σ) (hd : f env = .ok d) (q : ∀ v H', Same H H' → Dp [] H' v d → Q v H') : tE c f o σ H Q :=
  ⟨env, ow ω, a.at, by
    rw [hd]
    intro v H' A s fr r
    exact q v H' s r.dp⟩
theorem fApp_exc {d : D} : ∀ ds z, fApp d ds ≠ .exc z := fun ds z h => by
  unfold fApp at h
  split at h <;> cases h
theorem fIns_exc {n : Int} {d : D} : ∀ ds z, fIns n d ds ≠ .exc z := fun ds z h => by
  unfold fIns at h
  split at h <;> cases h
theorem fPop_exc : ∀ ds z, fPop ds ≠ .exc z := fun ds z h => by
  unfold fPop at h
  split at h <;> cases h
theorem fSet_exc {n : Int} {d : D} : ∀ ds z, fSet n d ds ≠ .exc z := fun ds z h => by
  unfold fSet at h
  split at h <;> cases h
theorem evBin_exc {op : BOp} {o : Own} {x y : D} {z : Nat} : evBin op o x y ≠ .exc z := by
  intro h
  unfold evBin at h
  split at h <;> first | cases h | (split at h <;> cases h)
theorem evAug_exc {op : BOp} {x y : D} {z : Nat} : evAug op x y ≠ .exc z := by
  intro h
  unfold evAug at h
  split at h <;> first | cases h | (split at h <;> first | exact evBin_exc h | cases h)
theorem fAug_exc {n : Int} {op : BOp} {d : D} : ∀ ds z, fAug n op d ds ≠ .exc z := fun ds z h => by
  unfold fAug at h
  split at h
  · split at h
    · cases hz : evAug op _ d with
      | no => rw [hz] at h; cases h
      | exc w => exact evAug_exc hz
      | ok w => rw [hz] at h; cases h
    · cases h
  · cases h
theorem sApp {i : Nat} {p : Pa} {x : E} {b v : Expr} {ap cp pos : Pos} (G : GoodS g c X) (hl : (ap.endLine == cp.line) = true) (hp : mPa g i p b = true) (hx : mE g x v = true) (hs : nstar v = true) (hf : Pv.fz (ty g.S x) = true) :
    PS X (.Expr (.Call (.Attribute b "append" ap) [v] [] cp) pos) (tS c own (evS g.S (.app i p x))) := by
  refine PS.imp (ps_expr (pe_bm PySem.F.plainAttrs_list PySem.F.slot_list_append PySem.F.type_list_append mt_append (sPa p G.E hp) (pa_cons (sE x G.E hx) pa_nil (star_of hs)) (base_of hp) (few_of hs) hl (star_of hs) rfl) rfl) fun K σ H ⟨env, ω, a, h⟩ => ?_
  rw [evS] at h
  cases hk : evPa g.S p env with
  | no => rw [hk] at h; exact h.elim
  | exc z => exact (evPa_exc hk).elim
  | ok ks =>
    rw [hk] at h
    have h : AnsS c own H ω (noX (ev g.S x env) >>= fun d => mutE g.S i ks (fApp d) env) K := h
    cases hd : noX (ev g.S x env) with
    | no => rw [hd] at h; exact h.elim
    | exc z => exact (noX_exc hd).elim
    | ok d =>
      rw [hd] at h
      obtain ⟨v0, l, hv, re, go⟩ := mut_go G fApp_exc a h
      refine pa_at a.at hk hv re fun H1 s1 => ?_
      obtain ⟨xs, _, _, hxs, _⟩ := go H1 s1
      refine ⟨.inl ⟨rfl, xs, SqL.of hxs⟩, te_at hf (a.later s1) (noX_ok hd) fun y H2 s2 ky => ?_⟩
      obtain ⟨xs, ds, es, hxs, kx, hfe, fin⟩ := go H2 (s1.trans s2)
      unfold fApp at hfe
      split at hfe
      · rename_i hz
        cases hfe
        exact ⟨l, xs, y, rfl, rfl, hxs, by rw [DpAll.length kx, ← sz]; exact hz, fin _ (DpAll.append kx (.cons ky .nil))⟩
      · cases hfe
theorem sIns {i : Nat} {p : Pa} {k x : E} {b u v : Expr} {ap cp pos : Pos} (G : GoodS g c X) (hl : (ap.endLine == cp.line) = true) (hp : mPa g i p b = true) (hk' : mE g k u = true) (hx : mE g x v = true) (hs' : nstar u = true) (hs : nstar v = true) (hf : Pv.fz (ty g.S x) = true) :
    PS X (.Expr (.Call (.Attribute b "insert" ap) [u, v] [] cp) pos) (tS c own (evS g.S (.ins i p k x))) := by
  refine PS.imp (ps_expr (pe_bm PySem.F.plainAttrs_list PySem.F.slot_list_insert PySem.F.type_list_insert mt_insert (sPa p G.E hp) (pa_cons (sE k G.E hk') (pa_cons (sE x G.E hx) pa_nil (star_of hs)) (star_of hs')) (base_of hp) (few_of2 hs' hs) hl (star_of hs') (back_of (by rw [List.all_cons, hs]; rfl))) rfl) fun K σ H ⟨env, ω, a, h⟩ => ?_
  rw [evS] at h
  cases hk : evPa g.S p env with
  | no => rw [hk] at h; exact h.elim
  | exc z => exact (evPa_exc hk).elim
  | ok ks =>
    rw [hk] at h
    have h : AnsS c own H ω (toInt (ev g.S k env) >>= fun n => noX (ev g.S x env) >>= fun d => mutE g.S i ks (fIns n d) env) K := h
    cases hn : toInt (ev g.S k env) with
    | no => rw [hn] at h; exact h.elim
    | exc z => exact (toInt_exc hn).elim
    | ok n =>
      rw [hn] at h
      have h : AnsS c own H ω (noX (ev g.S x env) >>= fun d => mutE g.S i ks (fIns n d) env) K := h
      cases hd : noX (ev g.S x env) with
      | no => rw [hd] at h; exact h.elim
      | exc z => exact (noX_exc hd).elim
      | ok d =>
        rw [hd] at h
        obtain ⟨v0, l, hv, re, go⟩ := mut_go G fIns_exc a h
        refine pa_at a.at hk hv re fun H1 s1 => ?_
        obtain ⟨xs, _, _, hxs, _⟩ := go H1 s1
        refine ⟨.inl ⟨rfl, xs, SqL.of hxs⟩, te_int (a.later s1) (toInt_ok hn) fun H2 s2 => te_at hf (a.later (s1.trans s2)) (noX_ok hd) fun y H3 s3 ky => ?_⟩
        obtain ⟨xs, ds, es, hxs, kx, hfe, fin⟩ := go H3 ((s1.trans s2).trans s3)
        unfold fIns at hfe
        split at hfe
        · rename_i hz
          cases hfe
          exact ⟨l, xs, n, y, rfl, rfl, hxs, by rw [DpAll.length kx, ← sz]; exact hz.1, hz.2.1, by omega, fin _ (DpAll.append (DpAll.append (DpAll.take _ kx) (.cons ky .nil)) (DpAll.drop _ kx))⟩
        · cases hfe
theorem DpAll.dropLast {K : PySem.W.Frag} {H : Hp} {ds : List D} {vs : List V} (h : DpAll K H vs ds) : DpAll K H vs.dropLast ds.dropLast := by
  rw [List.dropLast_eq_take, List.dropLast_eq_take, DpAll.length h]
  exact DpAll.take _ h
theorem sPop {i : Nat} {p : Pa} {b : Expr} {ap cp pos : Pos} (G : GoodS g c X) (hl : (ap.endLine == cp.line) = true) (hp : mPa g i p b = true) :
    PS X (.Expr (.Call (.Attribute b "pop" ap) [] [] cp) pos) (tS c own (evS g.S (.pop i p))) := by
  refine PS.imp (ps_expr (pe_bm0 PySem.F.plainAttrs_list PySem.F.slot_list_pop PySem.F.type_list_pop mt_pop (sPa p G.E hp) (base_of hp) hl) rfl) fun K σ H ⟨env, ω, a, h⟩ => ?_
  rw [evS] at h
  cases hk : evPa g.S p env with
  | no => rw [hk] at h; exact h.elim
  | exc z => exact (evPa_exc hk).elim
  | ok ks =>
    rw [hk] at h
    obtain ⟨v0, l, hv, re, go⟩ := mut_go G fPop_exc a h
    refine pa_at a.at hk hv re fun H1 s1 => ?_
    obtain ⟨xs, ds, es, hxs, kx, hfe, fin⟩ := go H1 s1
    refine ⟨.inl ⟨rfl, xs, SqL.of hxs⟩, ?_⟩
    unfold fPop at hfe
    split at hfe
    · cases hfe
    · rename_i hz
      cases hfe
      have hlen := DpAll.length kx
      have hlt : xs.length - 1 < xs.length := by omega
      exact ⟨l, xs, xs[xs.length - 1], rfl, rfl, hxs, List.getElem?_eq_getElem hlt, fin _ (DpAll.dropLast kx)⟩
theorem asg_sub {o i : Expr} {pos : Pos} {env : Env} (h : nslice i = true) : ∀ v, assign (.Subscript o i pos) env v = (do
      let ov ← holding [v] (eval o env)
      let iv ← holding [v, ov] (eval i env)
      standAt pos
      holding [v, ov, iv] (setItem ov iv v)
      release [v, ov, iv] []) := by
  intro v
  cases i <;> first | rfl | cases h
theorem DpAll.set {K : PySem.W.Frag} {H : Hp} : ∀ {ds : List D} {vs : List V} {d : D} {v : V} (j : Nat), DpAll K H vs ds → Dp K H v d → DpAll K H (vs.set j v) (ds.set j d)
  | [], _, _, _, _, h, _ => by cases h; exact .nil
  | _ :: _, _, _, _, 0, h, k => by
    cases h with
    | cons h1 h2 => exact .cons k h2
  | _ :: _, _, _, _, j + 1, h, k => by
    cases h with
    | cons h1 h2 => exact .cons h1 (DpAll.set j h2 k)
theorem sSt {i : Nat} {p : Pa} {k x : E} {b u v : Expr} {sp pos : Pos} (G : GoodS g c X) (hp : mPa g i p b = true) (hk' : mE g k u = true) (hx : mE g x v = true) (hf : Pv.fz (ty g.S x) = true) (hc : isComp v = false) (hs : nslice u = true) :
    PS X (.Assign [.Subscript b u sp] v pos) (tS c own (evS g.S (.st i p k x))) := by
  refine PS.imp (ps_asg (sE x G.E hx) (pg_sub (sPa p G.E hp) (sE k G.E hk') set_list (asg_sub hs)) (swaps_no (t := some (.Subscript b u sp)) (l := pos.line) (env := X.env) hc) rfl rfl) fun K σ H ⟨env, ω, a, h⟩ => ?_
  rw [evS] at h
  refine tE_stT a h fun d y H1 hd a1 e1 t1 h => ?_
  have ky := t1.fz a1.dom hf
  cases hk : evPa g.S p env with
  | no => rw [hk] at h; exact h.elim
  | exc z => exact (evPa_exc hk).elim
  | ok ks =>
    rw [hk] at h
    have h : AnsS c own H1 ω (toInt (ev g.S k env) >>= fun n => mutE g.S i ks (fSet n d) env) K := h
    cases hn : toInt (ev g.S k env) with
    | no => rw [hn] at h; exact h.elim
    | exc z => exact (toInt_exc hn).elim
    | ok n =>
      rw [hn] at h
      obtain ⟨v0, l, hv, re, go⟩ := mut_go G fSet_exc a1 h
      refine pa_at a1.at hk hv re fun H2 s2 => te_int (a1.later s2) (toInt_ok hn) fun H3 s3 => ?_
      have s23 := s2.trans s3
      obtain ⟨xs, ds, es, hxs, kx, hfe, fin⟩ := go H3 s23
      unfold fSet at hfe
      split at hfe
      · rename_i j hj
        cases hfe
        exact ⟨l, xs, n, j, rfl, rfl, hxs, by rw [DpAll.length kx]; exact hj, fin _ (DpAll.set j kx (dp_mono (mask_mono s23 fun _ z => .inl z) _ _ ky))⟩
      · cases hfe
/-! op= -/
def rAug (op : BOp) : TIp := fun x y H Q => ∃ d e z, Dp [] H x d ∧ Dp [] H y e ∧ evAug op d e = .ok z ∧ ∀ v, flatD z = true → Dp [] H v z → Q v H
theorem ipAug {op : BOp} : PIp X op.op (rAug op) := by
  intro pins s σ H x y v u Q I rx ry ⟨d, e, z, hx, hy, hz, q⟩
  have go : ∀ i j, d = .int i → e = .int j → x = .int i ∧ y = .int j := fun i j h1 h2 => by
    subst h1
    subst h2
    exact ⟨dpInt hx, dpInt hy⟩
  unfold evAug at hz
  split at hz
  · split at hz
    · obtain ⟨rfl, rfl⟩ := go _ _ rfl rfl
      cases hz
      exact iop_add pins s σ H _ _ v u Q I rx ry ⟨_, _, rfl, rfl, q _ rfl (.int _)⟩
    · cases hz
  · split at hz
    · obtain ⟨rfl, rfl⟩ := go _ _ rfl rfl
      cases hz
      exact iop_sub pins s σ H _ _ v u Q I rx ry ⟨_, _, rfl, rfl, q _ rfl (.int _)⟩
    · cases hz
  · split at hz
    · obtain ⟨rfl, rfl⟩ := go _ _ rfl rfl
      unfold evBin at hz
      dsimp only at hz
      split at hz
      · rename_i hm
        cases hz
        refine iop_mul pins s σ H _ _ v u Q I rx ry ⟨_, _, rfl, rfl, ?_, q _ rfl (.int _)⟩
        unfold mulOk at hm
        simp only [Bool.or_eq_true, Bool.and_eq_true, decide_eq_true_eq] at hm
        rcases hm with hm | hm
        · exact .inl (by omega)
        · exact .inr (by omega)
      · cases hz
    · cases hz
  · split at hz
    · obtain ⟨rfl, rfl⟩ := go _ _ rfl rfl
      unfold evBin at hz
      dsimp only at hz
      split at hz
      · rename_i hm
        cases hz
        exact iop_fdiv pins s σ H _ _ v u Q I rx ry ⟨_, _, rfl, rfl, hm, q _ rfl (.int _)⟩
      · cases hz
    · cases hz
  · split at hz
    · obtain ⟨rfl, rfl⟩ := go _ _ rfl rfl
      unfold evBin at hz
      dsimp only at hz
      split at hz
      · rename_i hm
        cases hz
        exact iop_mod pins s σ H _ _ v u Q I rx ry ⟨_, _, rfl, rfl, hm, q _ rfl (.int _)⟩
      · cases hz
    · cases hz
  · cases hz
theorem evBin_int {op : BOp} {i j : Int} {z : D} (hz : evBin op .sh (.int i) (.int j) = .ok z) : flatD z = true := by
  cases op <;> unfold evBin at hz <;> dsimp only at hz <;> (try split at hz) <;> cases hz <;> rfl
theorem evAug_flat {op : BOp} {d e z : D} (hz : evAug op d e = .ok z) : flatD z = true := by
  cases op <;> unfold evAug at hz <;> dsimp only at hz <;> (try split at hz) <;> first | exact evBin_int hz | cases hz
theorem sAug {i : Nat} {op : BOp} {x : E} {y : Str} {v : Expr} {py pos : Pos} (G : GoodS g c X) (hy : g.N[i]? = some y) (hl : locB g y = true) (hx : mE g x v = true) :
    PS X (.AugAssign (.Name y py) op.op v pos) (tS c own (evS g.S (.aug i op x))) := by
  obtain ⟨l1, l2⟩ := G.E.loc hl
  refine PS.imp (ps_aug (i := i) (by rw [G.E.N]; exact G.E.nd) (by rw [G.E.N]; exact hy) l1 (sE x G.E hx) ipAug l2) fun K σ H ⟨env, ω, a, h⟩ => ?_
  rw [evS] at h
  unfold evVar at h
  cases hli : lk env i with
  | none => rw [hli] at h; exact h.elim
  | some pr =>
    obtain ⟨d, b⟩ := pr
    rw [hli] at h
    have h : AnsS c own H ω (ev g.S x env >>= fun y => evAug op d y >>= fun z => .ok (.nx (put env i (some (z, true))))) K := h
    obtain ⟨v0, hv, q⟩ := a.er i d b hli
    have kd : Dp [] H v0 d := by
      cases b with
      | true => exact dp_mono mask_le _ _ q
      | false =>
        obtain ⟨A, _, _, r⟩ := q
        exact r.dp
    refine ⟨v0, hv, tE_stT a h fun e w H1 he a1 e1 t1 h => ?_⟩
    cases hz : evAug op d e with
    | no => rw [hz] at h; exact h.elim
    | exc z => exact (evAug_exc hz).elim
    | ok z =>
      rw [hz] at h
      have kd1 : Dp [] H1 v0 d := by
        obtain ⟨v1, hv1, q1⟩ := a1.er i d b hli
        rw [hv] at hv1
        cases hv1
        cases b with
        | true => exact dp_mono mask_le _ _ q1
        | false =>
          obtain ⟨A, _, _, r⟩ := q1
          exact r.dp
      exact ⟨d, e, z, kd1, t1.dp, hz, fun u fu ku => h _ H1 ω (a1.put (dp_flat fu ku)) .refl⟩
def rGet : R2 := fun o i H Q => ∃ p xs k v, o = .ref p ∧ i = .int k ∧ H p = some (.lst xs) ∧ atI xs k = some v ∧ Q v H
theorem pget : PGet X rGet := by
  rintro pins s σ H o i ov iv Q I ro ri ⟨p, xs, k, z, rfl, rfl, hp, he, q⟩
  cases ro
  obtain ⟨t, rfl⟩ := ri
  obtain ⟨its, r, pl, hz⟩ := I.list (SqL.of hp)
  obtain ⟨j, h1, h2, h3, h4, h5⟩ := atI_get he
  obtain ⟨w, ew, rw'⟩ := r.get h2
  have hl := r.length
  have hn := line63
  have fin : EP X pins σ Q w s := ⟨z, H, I, rw', q⟩
  by_cases h0 : 0 ≤ k
  · have hj : k.toNat = j := by
      rw [seqIndex_of h0 h5] at h1
      exact Option.some.inj h1
    exact wpAny_getItem_list pl.isList h0 (by omega) (by rw [hj]; simpa using ew) fin
  · have hj : (k + (its.toArray.size : Int)).toNat = j := by
      rw [seqIndex_neg (by omega) h4] at h1
      rw [List.size_toArray, ← hl]
      exact Option.some.inj h1
    exact wpAny_getItem_list_neg pl.isList (by omega) (by rw [List.size_toArray]; omega) (by omega) (by rw [hj]; simpa using ew) fin
theorem aug_sub {u : Expr} (h : nslice u = true) : ∀ ov iv new, augStore u ov iv new = (do holding [new, ov, iv] (setItem ov iv new); release [new, ov, iv] []; pure .next) := by
  intro ov iv new
  cases u <;> first | rfl | cases h
theorem sSau {i : Nat} {p : Pa} {k x : E} {op : BOp} {b u v : Expr} {sp pos : Pos} (G : GoodS g c X) (hp : mPa g i p b = true) (hk' : mE g k u = true) (hx : mE g x v = true) (hs : nslice u = true) :
    PS X (.AugAssign (.Subscript b u sp) op.op v pos) (tS c own (evS g.S (.sau i p k op x))) := by
  refine PS.imp (ps_augS (sPa p G.E hp) (sE k G.E hk') pget (sE x G.E hx) ipAug set_list (aug_sub hs)) fun K σ H ⟨env, ω, a, h⟩ => ?_
  rw [evS] at h
  cases hk : evPa g.S p env with
  | no => rw [hk] at h; exact h.elim
  | exc z => exact (evPa_exc hk).elim
  | ok ks =>
    rw [hk] at h
    have h : AnsS c own H ω (toInt (ev g.S k env) >>= fun n => noX (ev g.S x env) >>= fun d => mutE g.S i ks (fAug n op d) env) K := h
    cases hn : toInt (ev g.S k env) with
    | no => rw [hn] at h; exact h.elim
    | exc z => exact (toInt_exc hn).elim
    | ok n =>
      rw [hn] at h
      have h : AnsS c own H ω (noX (ev g.S x env) >>= fun d => mutE g.S i ks (fAug n op d) env) K := h
      cases hd : noX (ev g.S x env) with
      | no => rw [hd] at h; exact h.elim
      | exc z => exact (noX_exc hd).elim
      | ok d =>
        rw [hd] at h
        obtain ⟨v0, l, hv, re, go⟩ := mut_go G fAug_exc a h
        refine pa_at a.at hk hv re fun H1 s1 => te_int (a.later s1) (toInt_ok hn) fun H2 s2 => ?_
        have s12 := s1.trans s2
        obtain ⟨xs, ds, es, hxs, kx, hfe, _⟩ := go H2 s12
        unfold fAug at hfe
        split at hfe
        · rename_i j hj
          split at hfe
          · rename_i w hw
            obtain ⟨v1, hv1, k1⟩ := DpAll.get kx hw
            have hat : atI xs n = some v1 := by
              unfold atI
              rw [DpAll.length kx, hj]
              exact hv1
            refine ⟨l, xs, n, v1, rfl, rfl, hxs, hat, te_dp (a.later s12) (noX_ok hd) fun y H3 s3 ky => ?_⟩
            obtain ⟨xs3, ds3, es3, hxs3, kx3, hfe3, fin⟩ := go H3 (s12.trans s3)
            have exs : xs3 = xs := by
              have := s3 _ _ hxs
              rw [hxs3] at this
              injection this with this
              injection this
            subst exs
            unfold fAug at hfe3
            rw [← DpAll.length kx3, DpAll.length kx, hj] at hfe3
            dsimp only at hfe3
            split at hfe3
            · rename_i w3 hw3
              obtain ⟨v3, hv3, k3⟩ := DpAll.get kx3 hw3
              rw [hv1] at hv3
              cases hv3
              cases hz : evAug op w3 d with
              | no => rw [hz] at hfe3; cases hfe3
              | exc q => exact (evAug_exc hz).elim
              | ok z =>
                rw [hz] at hfe3
                cases hfe3
                refine ⟨w3, d, z, dp_mono mask_le _ _ k3, ky, hz, fun u fu ku => ⟨l, xs3, n, j, rfl, rfl, hxs3, by rw [DpAll.length kx]; exact hj, fin _ (DpAll.set j kx3 (dp_flat fu ku))⟩⟩
            · cases hfe3
          · cases hfe
        · cases hfe
end
end Pv

namespace Pv
open PySem PySem.Spec PyProof.Rows L2

section
variable {g : Cfg} {c : Ctx} {X : Cx} {own : Own}
theorem PS.cg {st : Stmt} {f h : Ev → R Fl} (p : PS X st (tS c own f)) (e : ∀ env, f env = h env) : PS X st (tS c own h) := by
  have : f = h := funext e
  subst this
  exact p
theorem AnsS.seq {H : Hp} {ω : Om} {r : R Fl} {K : Ends} {N : L2.St → Hp → Prop} {k : Ev → R Fl} (h : AnsS c own H ω (r >>= fun fl => match fl with | .nx e => k e | f => .ok f) K)
    (hn : ∀ e σ' H' ω', AtS c H' ω' e σ' → Eff H ω H' ω' → AnsS c own H' ω' (k e) K → N σ' H') : AnsS c own H ω r { K with nx := N } := by
  cases r with
  | no => exact h
  | exc x => exact h
  | ok f =>
    cases f with
    | nx e =>
      have h : AnsS c own H ω (k e) K := h
      exact fun σ' H' ω' a x => hn e σ' H' ω' a x (h.later x)
    | rt d => exact h
    | bk e => exact h
    | ct e => exact h
theorem AnsS.turn {H : Hp} {ω : Om} {r : R Fl} {K : Ends} {N : L2.St → Hp → Prop} {k : Ev → R Fl} (h : AnsS c own H ω (r >>= fun fl => match fl with | .nx e => k e | .ct e => k e | .bk e => .ok (.nx e) | .rt d => .ok (.rt d)) K)
    (hn : ∀ e σ' H' ω', AtS c H' ω' e σ' → Eff H ω H' ω' → AnsS c own H' ω' (k e) K → N σ' H') : AnsS c own H ω r { K with nx := N, ct := N, bk := K.nx } := by
  cases r with
  | no => exact h
  | exc x => exact h
  | ok f =>
    cases f with
    | nx e =>
      have h : AnsS c own H ω (k e) K := h
      exact fun σ' H' ω' a x => hn e σ' H' ω' a x (h.later x)
    | ct e =>
      have h : AnsS c own H ω (k e) K := h
      exact fun σ' H' ω' a x => hn e σ' H' ω' a x (h.later x)
    | rt d => exact h
    | bk e => exact h
theorem for_read {t : G} {fi : Ev → R (List D)} {fb : Ev → R Fl} : ∀ K σ H, tS c own (fun env => fi env >>= fun items => loopF (fun x e => gset t x e >>= fun e' => fb e') items env) K σ H → tFor (tI c false fi) (tgG X.K t) (tS c own fb) K σ H := by
  rintro K σ H ⟨env, ω, a, h⟩
  refine ⟨env, ow ω, a.at, AnsS.val h fun items _ h J H1 s1 hJ => ?_⟩
  refine ⟨fun i m σ' H' => m = items.length - i ∧ i ≤ items.length ∧ ∃ env' ω', AtS c H' ω' env' σ' ∧ Eff H1 ω H' ω' ∧ AnsS c own H' ω' (loopF (fun x e => gset t x e >>= fun e' => fb e') (items.drop i) env') K, ⟨items.length, rfl, Nat.zero_le _, env, ω, a.later s1, .refl, h.later (.same s1)⟩, ?_⟩
  rintro i m σ' H' ⟨rfl, hi, env', ω', a', x', h'⟩
  obtain ⟨go, stop⟩ := hJ i H' (ow ω') a'.dom (fun b o e => mask_le _ _ (x'.mask _ _ e)) x'.mask
  by_cases hlt : i < items.length
  · have hd : items.drop i = items[i] :: items.drop (i + 1) := List.drop_eq_getElem_cons hlt
    obtain ⟨g1, yl⟩ := go items[i] (List.getElem?_eq_getElem hlt)
    rw [hd] at h'
    refine .inr ⟨g1, fun σ2 H2 => ∃ env' ω', AtS c H2 ω' env' σ2 ∧ Eff H1 ω H2 ω' ∧ AnsS c own H2 ω' (loopF (fun x e => gset t x e >>= fun e' => fb e') (items.drop (i + 1)) env') K, fun σ2 H2 n => ⟨items.length - (i + 1), by omega, rfl, by omega, n⟩, fun x H2 y => ?_⟩
    obtain ⟨s2, kx⟩ := yl x H2 y
    unfold loopF at h'
    rw [R.assoc] at h'
    cases hg : gset t items[i] env' with
    | no => rw [hg] at h'; exact h'.elim
    | exc z => exact (ps_tp.gset_exc _ hg).elim
    | ok e1 =>
      rw [hg] at h'
      refine gset_ok (P := fun e τ => AtS c H2 ω' e τ) (fun e τ j d v p k => AtS.put p k) t items[i] x env' e1 σ' _ kx hg (a'.later s2) fun σ2 p2 _ => ⟨e1, ω', p2, ?_⟩
      have h2 : AnsS c own H2 ω' (fb e1 >>= fun fl => match fl with | .nx e => loopF (fun x e => gset t x e >>= fun e' => fb e') (items.drop (i + 1)) e | .ct e => loopF (fun x e => gset t x e >>= fun e' => fb e') (items.drop (i + 1)) e | .bk e => .ok (.nx e) | .rt d => .ok (.rt d)) K := AnsS.later (.same s2) h'
      exact AnsS.turn h2 fun e σ3 H3 ω3 a3 x3 h3 => ⟨e, ω3, a3, (x'.trans (.same s2)).trans x3, h3⟩
  · have hn : i = items.length := by omega
    refine .inl ⟨stop (by omega), ?_⟩
    rw [hn, List.drop_length] at h'
    exact h' σ' H' ω' a' .refl
theorem while_read {ft : Ev → R Bool} {fb : Ev → R Fl} : ∀ (n : Nat) K σ H, tS c own (fun env => loopW ft fb n env) K σ H → tWhile (tT c ft) (tS c own fb) K σ H := by
  rintro n K σ H ⟨env, ω, a, h⟩
  refine ⟨fun m σ' H' => ∃ env' ω', AtS c H' ω' env' σ' ∧ AnsS c own H' ω' (loopW ft fb m env') K, ⟨n, env, ω, a, h⟩, ?_⟩
  rintro m σ' H' ⟨env', ω', a', h'⟩
  cases m with
  | zero => exact h'.elim
  | succ m =>
    unfold loopW at h'
    refine tT_st a' h' fun b H1 _ a1 x1 k1 => ?_
    cases b with
    | false =>
      have k1 : AnsS c own H1 ω' (.ok (.nx env')) K := k1
      exact k1 σ' H1 ω' a1 .refl
    | true =>
      refine ⟨fun σ2 H2 => ∃ env' ω', AtS c H2 ω' env' σ2 ∧ AnsS c own H2 ω' (loopW ft fb m env') K, fun σ2 H2 q => ⟨m, Nat.lt_succ_self m, q⟩, env', ω', a1, ?_⟩
      exact AnsS.turn (k := fun e => loopW ft fb m e) k1 fun e σ3 H3 ω3 a3 _ h3 => ⟨e, ω3, a3, h3⟩
end
mutual
theorem sS : ∀ (s : S) {g : Cfg} {c : Ctx} {X : Cx} {own : Own} {st : Stmt}, GoodS g c X → mS g own s st = true → PS X st (tS c own (evS g.S s))
  | .asg t x, g, c, X, own, st, G, h => by
    unfold mS at h
    split at h
    · simp only [Bool.and_eq_true] at h
      obtain ⟨⟨⟨h1, h2⟩, h3⟩, h4⟩ := h
      cases t with
      | nm i =>
        unfold mG at h1
        split at h1
        · simp only [Bool.and_eq_true, decide_eq_true_eq] at h1
          refine PS.imp (sAs G h2 h1.1 h1.2 h4) fun K σ H ⟨env, ω, a, h⟩ => ?_
          rw [evS] at h
          exact tE_stT a h fun d v H1 _ a1 e1 t1 k1 => k1 _ H1 ω (a1.put (t1.fz a1.dom h3)) .refl
        · cases h1
      | tp gs =>
        unfold asgB at h4
        simp only [Bool.and_eq_true, Bool.not_eq_true'] at h4
        exact PS.cg (ps_tp h3 (sE x G.E h2) (sG (.tp gs) G.E h1) h4.1.1 h4.1.2 h4.2) fun env => by rw [evS]
    · cases h
  | .own i x, g, c, X, own, st, G, h => by
    unfold mS at h
    split at h
    · simp only [Bool.and_eq_true, decide_eq_true_eq] at h
      obtain ⟨⟨⟨h1, h2⟩, h3⟩, h4⟩ := h
      unfold mG at h1
      split at h1
      · simp only [Bool.and_eq_true, decide_eq_true_eq] at h1
        refine PS.imp (sAs G h2 h1.1 h1.2 h4) fun K σ H ⟨env, ω, a, h⟩ => ?_
        rw [evS] at h
        refine tE_st a h fun d v H1 A _ s1 fr r k1 => ?_
        rw [h3, ← G.E.own] at r
        obtain ⟨a', e'⟩ := AtS.own a s1 fr r
        exact k1 _ H1 _ a' e'
      · cases h1
    · cases h
  | .aug i op x, g, c, X, own, st, G, h => by
    unfold mS at h
    split at h
    · simp only [Bool.and_eq_true, decide_eq_true_eq] at h
      obtain ⟨⟨⟨h1, h2⟩, h3⟩, h4⟩ := h
      subst h1
      exact sAug G h2 h3 h4
    · cases h
  | .drop x, g, c, X, own, st, G, h => by
    unfold mS at h
    split at h
    · simp only [Bool.and_eq_true, Bool.not_eq_true'] at h
      refine PS.imp (ps_expr (sE x G.E h.1) (swaps_no h.2)) fun K σ H ⟨env, ω, a, h⟩ => ?_
      rw [evS] at h
      exact tE_stT a h fun d v H1 _ a1 e1 t1 k1 => k1 σ H1 ω a1 .refl
    · cases h
  | .app i p x, g, c, X, own, st, G, h => by
    unfold mS at h
    split at h
    · simp only [Bool.and_eq_true, decide_eq_true_eq] at h
      obtain ⟨⟨⟨⟨⟨h1, h2⟩, h3⟩, h4⟩, h5⟩, h6⟩ := h
      subst h1
      exact sApp G h2 h3 h4 h5 h6
    · cases h
  | .ins i p k x, g, c, X, own, st, G, h => by
    unfold mS at h
    split at h
    · simp only [Bool.and_eq_true, decide_eq_true_eq] at h
      obtain ⟨⟨⟨⟨⟨⟨⟨h1, h2⟩, h3⟩, h4⟩, h5⟩, h6⟩, h7⟩, h8⟩ := h
      subst h1
      exact sIns G h2 h3 h4 h5 h6 h7 h8
    · cases h
  | .pop i p, g, c, X, own, st, G, h => by
    unfold mS at h
    split at h
    · simp only [Bool.and_eq_true, decide_eq_true_eq] at h
      obtain ⟨⟨h1, h2⟩, h3⟩ := h
      subst h1
      exact sPop G h2 h3
    · cases h
  | .st i p k x, g, c, X, own, st, G, h => by
    unfold mS at h
    split at h
    · simp only [Bool.and_eq_true, Bool.not_eq_true'] at h
      obtain ⟨⟨⟨⟨⟨h1, h2⟩, h3⟩, h4⟩, h5⟩, h6⟩ := h
      exact sSt G h1 h2 h3 h4 h5 h6
    · cases h
  | .sau i p k op x, g, c, X, own, st, G, h => by
    unfold mS at h
    split at h
    · simp only [Bool.and_eq_true, decide_eq_true_eq] at h
      obtain ⟨⟨⟨⟨h1, h2⟩, h3⟩, h4⟩, h5⟩ := h
      subst h1
      exact sSau G h2 h3 h4 h5
    · cases h
  | .iff t x y, g, c, X, own, st, G, h => by
    unfold mS at h
    split at h
    · simp only [Bool.and_eq_true] at h
      refine PS.imp (ps_if (sT t G.E h.1.1) (sSs x G h.1.2) (sSs y G h.2)) fun K σ H ⟨env, ω, a, h⟩ => ?_
      rw [evS] at h
      refine tT_st a h fun b H1 _ a1 e1 k1 => ?_
      cases b with
      | true => exact ⟨env, ω, a1, k1⟩
      | false => exact ⟨env, ω, a1, k1⟩
    · cases h
  | .fr t it b, g, c, X, own, st, G, h => by
    unfold mS at h
    split at h
    · simp only [Bool.and_eq_true] at h
      obtain ⟨⟨⟨h1, h2⟩, h3⟩, h4⟩ := h
      refine PS.imp (ps_for G.po G.E.calm (sI it false G.E h2) (sG t G.E h1) (sSs b G h4) (fold_of h3)) fun K σ H ⟨env, ω, a, h⟩ => ?_
      rw [evS] at h
      exact for_read K σ H ⟨env, ω, a, h⟩
    · cases h
  | .wh t b, g, c, X, own, st, G, h => by
    unfold mS at h
    split at h
    · simp only [Bool.and_eq_true] at h
      refine PS.imp (ps_while G.po (sT t G.E h.1) (sSs b G h.2)) fun K σ H ⟨env, ω, a, h⟩ => ?_
      rw [evS] at h
      exact while_read fuel K σ H ⟨env, ω, a, h⟩
    · cases h
  | .ret r, g, c, X, own, st, G, h => by
    unfold mS at h
    split at h
    · exact PS.cg (sR G h) fun env => by rw [evS]
    · cases h
  | .brk, g, c, X, own, st, G, h => by
    unfold mS at h
    split at h
    · refine PS.imp ps_break fun K σ H ⟨env, ω, a, h⟩ => ?_
      rw [evS] at h
      exact h σ H ω a .refl
    · cases h
  | .cnt, g, c, X, own, st, G, h => by
    unfold mS at h
    split at h
    · refine PS.imp ps_continue fun K σ H ⟨env, ω, a, h⟩ => ?_
      rw [evS] at h
      exact h σ H ω a .refl
    · cases h
  | .pass, g, c, X, own, st, G, h => by
    unfold mS at h
    split at h
    · refine PS.imp ps_pass fun K σ H ⟨env, ω, a, h⟩ => ?_
      rw [evS] at h
      exact h σ H ω a .refl
    · refine PS.imp ps_doc fun K σ H ⟨env, ω, a, h⟩ => ?_
      rw [evS] at h
      exact h σ H ω a .refl
    · cases h
  | .fzz i s, g, c, X, own, st, G, h => by
    unfold mS at h
    refine PS.imp (sS s G h) fun K σ H ⟨env, ω, a, h⟩ => ?_
    rw [evS] at h
    exact ⟨frzE env i, drp ω i, a.freeze (G.fzΓ i), h.later Eff.drp⟩
theorem sSs : ∀ (s : Ss) {g : Cfg} {c : Ctx} {X : Cx} {own : Own} {st : List Stmt}, GoodS g c X → mSs g own s st = true → PSs X st (tS c own (evSs g.S s))
  | .nil, g, c, X, own, st, G, h => by
    unfold mSs at h
    cases st with
    | nil =>
      refine PSs.imp pss_nil fun K σ H ⟨env, ω, a, h⟩ => ?_
      rw [evSs] at h
      exact h σ H ω a .refl
    | cons _ _ => cases h
  | .cons s r, g, c, X, own, st, G, h => by
    unfold mSs at h
    split at h
    · simp only [Bool.and_eq_true] at h
      refine PSs.imp (pss_cons (sS s G h.1) (sSs r G h.2)) fun K σ H ⟨env, ω, a, h⟩ => ⟨env, ω, a, ?_⟩
      rw [evSs] at h
      exact AnsS.seq (k := fun e => evSs g.S r e) h fun e σ' H' ω' a' x' h' => ⟨e, ω', a', h'⟩
    · cases h
end

/-! a def -/
def startE (n : Nat) (ds : List D) : Ev := ds.map (fun d => some (d, true)) ++ List.replicate (n - ds.length) none
def outF : R Fl → R D
  | .ok (.rt d) => .ok d
  | .ok (.nx _) => .ok .none
  | .ok _ => .no
  | .exc x => .exc x
  | .no => .no
def runF (S : Sg) (b : Ss) (n : Nat) (ds : List D) : R D := outF (evSs S b (startE n ds))
theorem lk_startE {n i : Nat} {d : D} {b : Bool} : ∀ {ds : List D}, lk (ds.map (fun d => some (d, true)) ++ List.replicate n none) i = some (d, b) → b = true ∧ ds[i]? = some d
  | [], h => by
    exfalso
    have : ∀ (m j : Nat), lk (List.replicate m none) j = none := fun m => by
      induction m with
      | zero => exact fun j => by cases j <;> rfl
      | succ m ih => exact fun j => by cases j with
        | zero => rfl
        | succ j => exact ih j
    rw [List.map_nil, List.nil_append, this] at h
    cases h
  | x :: ds, h => by
    cases i with
    | zero => cases h; exact ⟨rfl, rfl⟩
    | succ i => exact lk_startE (ds := ds) h
section
variable {P : Program} {w : World} {K : PySem.W.Frag} {mg : Str → Option Value} {base : Heap}
theorem fn_ok {x qual : Str} {st : Stmt} {f : Addr} {fd : FuncData} {ps : List Str} {k : Nat} {g : Cfg} {b : Ss} {own : Own} {nm : Str} (F : Fun K x qual st f fd) (hS : FnScope g.N ps (defScope st)) (hsc : g.sc = defScope st) (hm : mSs g own b (defBody st) = true)
    (hfz : (g.S.Γ.all fz) = true)
    (hbi : ∀ x, (g.bis.any fun y => decide (y = x)) = true → mg x = none)
    (hgl : ∀ (i : Nat) (p : Str × D), g.S.gls[i]? = some p → ∃ u v, mg p.1 = some u ∧ RelV v u ∧ flatD p.2 = true ∧ ∀ H, Dp [] H v p.2)
    (hfn : ∀ (i : Nat) (fn : Fn), g.S.fns[i]? = some fn → ∃ f fd ps, FnOk P w K mg base CX0 k f fd ps (spF fn) ∧ mg fn.name = some (.ref f) ∧ PySem.W.keepIn K (.ref f) = true ∧ Binds K fd ps []) :
    FnOk P w K mg base CX0 (k + 1) f fd ps (spF ⟨nm, ps.length, own, runF g.S b g.N.length⟩) := by
  refine F.ok hS (fun vs H Q E h => ?_) (fun cdv A outer s H vs Q E hr h => ?_)
  · obtain ⟨O, ds, _, hl, hv, _⟩ := h
    rw [DpAll.length hv]
    exact hl
  · obtain ⟨O, ds, hd, hl, hv, hans⟩ := h
    have hl : ds.length = ps.length := hl
    have hpl : ps.length ≤ g.N.length := by
      have := congrArg List.length hS.pre
      rw [List.length_take] at this
      omega
    let c : Ctx := ⟨fun _ _ => False, g.S.own⟩
    have hG : GoodS g c (cxOf CX0 P w K mg base g.N qual (defScope st) f cdv A outer s H E).nox := by
      refine ⟨⟨rfl, hS.nd, hsc.symm, rfl, ?_, hbi, hgl, fun i fn hi => ?_, rfl, fun _ _ => rfl⟩, PassesOwn.never, ?_, fun i => ?_⟩
      · have := hr.un
        show (A.deeper _).units + 65 < cLine
        omega
      · obtain ⟨f', fd', ps', h1, h2, h3, h4⟩ := hfn i fn hi
        exact ⟨f', fd', ps', k, h1, hr, h2, h3, h4⟩
      · rw [hsc]; exact hS.kind
      · unfold Sg.own
        rw [List.getD_eq_getElem?_getD]
        cases q : g.S.Γ[i]? with
        | none => rfl
        | some o => exact List.all_eq_true.mp hfz o (List.mem_of_getElem? q)
    refine ⟨_, sSs b hG hm, startE g.N.length ds, fun a => if O a = true then some 0 else none, ?_, ?_⟩
    · have eo : ow (fun a => if O a = true then some 0 else none) = O := by
        funext a
        unfold ow
        dsimp only
        cases O a <;> rfl
      refine ⟨by rw [eo]; exact hd, fun i d b hi => ?_, ?_⟩
      · obtain ⟨hb, he⟩ := lk_startE hi
        subst hb
        obtain ⟨v, hv', kv⟩ := DpAll.get hv he
        refine ⟨v, ?_, by rw [eo]; exact kv⟩
        unfold L2.start
        have hil : i < vs.length := (List.getElem?_eq_some_iff.mp hv').1
        rw [List.getElem?_append_left (by rw [List.length_map]; exact hil), List.getElem?_map, hv']
        rfl
      · unfold startE L2.start
        have := DpAll.length hv
        simp only [List.length_append, List.length_map, List.length_replicate]
        omega
    · have hans : AnsP (fun _ _ => False) H (outF (evSs g.S b (startE g.N.length ds))) (Gv O own Q) := hans
      have sm : ∀ {H' : Hp} {ω' : Om}, Eff H (fun a => if O a = true then some 0 else none) H' ω' → Same H H' := fun {H' ω'} e a o h => e.keep a o h fun i q => by
        have q : (if O a = true then some 0 else none) = some (i + 1) := q
        split at q <;> cases q
      cases hr2 : evSs g.S b (startE g.N.length ds) with
      | no => rw [hr2] at hans; exact hans.elim
      | exc z => rw [hr2] at hans; exact fun H' ω' e => hans H' (sm e)
      | ok fl =>
        rw [hr2] at hans
        cases fl with
        | bk e => exact hans.elim
        | ct e => exact hans.elim
        | nx e =>
          intro σ' H' ω' a' x'
          have hans : Gv O own Q H .none := hans
          exact Gv.give hans (sm x') (.flat rfl .non)
        | rt d =>
          intro v H' l
          have hans : Gv O own Q H d := hans
          obtain ⟨ω', A, x', nd, hA, dm, r⟩ := l.is
          refine hans v H' A (sm x') ⟨nd, fun a ha => ?_, fun a ha => (r.owned a ha).2⟩ (Rp.mono (Same.refl _) (fun a ha => ?_) (fun a ha => add_true.mpr (.inr ha)) r)
          · obtain ⟨i, hi⟩ := hA a ha
            rcases x'.own a i hi with ⟨j, z⟩ | z
            · have z : (if O a = true then some 0 else none) = some (j + 1) := z
              split at z <;> cases z
            · exact z
          · refine .inl ?_
            rcases add_true.mp ha with z | z
            · have := (x'.out a).mpr (show (if O a = true then some 0 else none) = some 0 from if_pos z)
              exact ow_true.mpr ⟨_, this⟩
            · obtain ⟨i, hi⟩ := hA a z
              exact ow_true.mpr ⟨_, hi⟩
end
end Pv

/-! part N: defs by name; the end of a row -/
namespace Pv
open PySem PySem.Spec PyProof.Rows L2
def nlO (o : Obj) : Bool := match o.cls with
  | .type n => !decide (n = "list")
  | _ => true
def noList (K : PySem.W.Frag) : Bool := K.all fun x => nlO x.2
theorem mem_look {K : PySem.W.Frag} {a : Addr} {o : Obj} : K.lookup a = some o → ∃ b, (b, o) ∈ K := by
  induction K with
  | nil => intro h; cases h
  | cons x K ih =>
    intro h
    obtain ⟨b, p⟩ := x
    rw [List.lookup_cons] at h
    split at h
    · cases h
      exact ⟨b, .head _⟩
    · obtain ⟨c, hc⟩ := ih h
      exact ⟨c, .tail _ hc⟩
theorem noList_rd {K : PySem.W.Frag} (h : noList K = true) {H : Hp} {a : Addr} {xs : List V} (s : SqL K H a xs) : Rd H a (.lst xs) := by
  rcases s with s | ⟨o, its, n, hl, hc, _⟩
  · exact s
  · obtain ⟨b, hb⟩ := mem_look hl
    have z := List.all_eq_true.mp h _ hb
    unfold nlO at z
    dsimp only at z
    rw [hc] at z
    simp at z
/-- a def of the text, found by its name -/
def FunE (K : PySem.W.Frag) (mg : Str → Option Value) (x : Str) (st : Stmt) (ps : List Str) : Prop :=
  ∃ f fd, Fun K x x st f fd ∧ mg x = some (.ref f) ∧ PySem.W.keepIn K (.ref f) = true ∧ Binds K fd ps [] ∧ ∀ (s : Shared) (us : List Value), us.length = ps.length → BindsTo s fd ⟨us, []⟩ (ps.zip us)
theorem fun_ex {K : PySem.W.Frag} {h : Heap} {mg : Str → Option Value} (X : K.In h) (G : h.Ns mainGlobals mg) {x : Str} {st : Stmt} {ps : List Str} {f : Addr} {oc : Value} {od an : Option Addr} {osl : Array (Option Value)} {kV dc pm cd ct : Value}
    (a : PySem.W.nsIn K mainGlobals x = some (some (.ref f))) (l : K.lookup f = some ⟨oc, od, .func (PySem.W.fnOf x x (defArgs st) (defBody st) (defScope st) .none kV dc pm an cd ct), osl⟩)
    (c : PySem.W.codeIn K cd x = true) (k : PySem.W.keepIn K (.ref f) = true)
    (hb : ∀ (kV doc pm : Value) (an : Option Addr) (cdv ct : Value) (us : List Value), us.length = ps.length → bindArgs (PySem.W.fnOf x x (defArgs st) (defBody st) (defScope st) .none kV doc pm an cdv ct) ⟨us, []⟩ = pure (ps.zip us)) : FunE K mg x st ps :=
  have F := fun_mk (st := st) l c k
  ⟨f, _, F, PySem.W.mg_of X G a, k, F.binds hb, fun _ us hl => .of_eq (hb _ _ _ _ _ _ us hl)⟩
/-- a def that may be called by its name -/
def CalE (P : Program) (w : World) (K : PySem.W.Frag) (mg : Str → Option Value) (base : Heap) (k : Nat) (fn : Fn) : Prop :=
  ∃ f fd ps, FnOk P w K mg base CX0 k f fd ps (spF fn) ∧ mg fn.name = some (.ref f) ∧ PySem.W.keepIn K (.ref f) = true ∧ Binds K fd ps []
def CalEs (P : Program) (w : World) (K : PySem.W.Frag) (mg : Str → Option Value) (base : Heap) (k : Nat) : List Fn → Prop
  | [] => True
  | fn :: r => CalE P w K mg base k fn ∧ CalEs P w K mg base k r
def BisE (mg : Str → Option Value) : List Str → Prop
  | [] => True
  | x :: r => mg x = none ∧ BisE mg r
def GlsE (mg : Str → Option Value) : List (Str × D) → Prop
  | [] => True
  | p :: r => (∃ u v, mg p.1 = some u ∧ RelV v u ∧ flatD p.2 = true ∧ ∀ H, Dp [] H v p.2) ∧ GlsE mg r
section
variable {P : Program} {w : World} {K : PySem.W.Frag} {mg : Str → Option Value} {base : Heap}
theorem CalE.mono {j k : Nat} {fn : Fn} (c : CalE P w K mg base j fn) (h : j ≤ k) : CalE P w K mg base k fn := by
  obtain ⟨f, fd, ps, F, r⟩ := c
  exact ⟨f, fd, ps, F.mono h, r⟩
theorem cals_at : ∀ {fns : List Fn} {k : Nat}, CalEs P w K mg base k fns → ∀ (i : Nat) (fn : Fn), fns[i]? = some fn → CalE P w K mg base k fn
  | [], _, _, i, fn, h => by simp at h
  | a :: r, _, c, 0, fn, h => by
    have e : a = fn := Option.some.inj h
    exact e ▸ c.1
  | a :: r, _, c, i + 1, fn, h => cals_at c.2 i fn h
theorem bis_at : ∀ {bs : List Str}, BisE mg bs → ∀ x, (bs.any fun y => decide (y = x)) = true → mg x = none
  | [], _, x, h => by cases h
  | y :: r, b, x, h => by
    rw [List.any_cons] at h
    by_cases e : y = x
    · exact e ▸ b.1
    · rw [decide_eq_false e] at h
      exact bis_at b.2 x h
theorem gls_at : ∀ {gs : List (Str × D)}, GlsE mg gs → ∀ (i : Nat) (p : Str × D), gs[i]? = some p → ∃ u v, mg p.1 = some u ∧ RelV v u ∧ flatD p.2 = true ∧ ∀ H, Dp [] H v p.2
  | [], _, i, p, h => by simp at h
  | a :: r, g, 0, p, h => by
    have e : a = p := Option.some.inj h
    exact e ▸ g.1
  | a :: r, g, i + 1, p, h => gls_at g.2 i p h
/-- THE RULE for a def of this text -/
theorem cal_ok {x : Str} {st : Stmt} {N ps : List Str} {k : Nat} {T : Sg} {bis : List Str} {b : Ss} {own : Own} (F : FunE K mg x st ps) (hS : FnScope N ps (defScope st))
    (hm : mSs ⟨N, defScope st, T, bis, fun _ => true⟩ own b (defBody st) = true) (hfz : (T.Γ.all fz) = true) (hb : BisE mg bis) (hg : GlsE mg T.gls) (hf : CalEs P w K mg base k T.fns) {n : Nat} (hn : ps.length = n) {m : Nat} (hN : N.length = m) :
    CalE P w K mg base (k + 1) ⟨x, n, own, runF T b m⟩ := by
  obtain ⟨f, fd, F, hmg, hk, hbi, _⟩ := F
  subst hn
  subst hN
  exact ⟨f, fd, ps, fn_ok (g := ⟨N, defScope st, T, bis, fun _ => true⟩) F hS rfl hm hfz (bis_at hb) (gls_at hg) fun i fn h => cals_at hf i fn h, hmg, hk, hbi⟩
theorem cal_no {x : Str} {st : Stmt} {ps : List Str} {own : Own} (F : FunE K mg x st ps) {n : Nat} (hn : ps.length = n) : CalE P w K mg base 0 ⟨x, n, own, fun _ => .no⟩ := by
  obtain ⟨f, fd, F, hmg, hk, hbi, _⟩ := F
  subst hn
  refine ⟨f, fd, ps, ⟨fun vs H Q E h => ?_, fun A outer s H args us vs Q E _ _ _ _ h => ?_⟩, hmg, hk, hbi⟩
  · obtain ⟨O, ds, _, hl, hv, _⟩ := h
    rw [DpAll.length hv]
    exact hl
  · obtain ⟨O, ds, _, _, _, h⟩ := h
    exact h.elim
/-- the law's own def -/
theorem law_ok {x y : Str} {st : Stmt} {N : List Str} {k : Nat} {T : Sg} {bis : List Str} {b : Ss} {own : Own} (F : FunE K mg x st [y]) (hS : FnScope N [y] (defScope st))
    (hm : mSs ⟨N, defScope st, T, bis, fun _ => true⟩ own b (defBody st) = true) (hfz : (T.Γ.all fz) = true) (hb : BisE mg bis) (hg : GlsE mg T.gls) {m : Nat} (hN : N.length = m) {fa : Addr} (hfa : mg x = some (.ref fa)) :
    ∃ fd : FuncData, (∀ (s : Shared) (v : Value), BindsTo s fd ⟨[v], []⟩ [(y, v)]) ∧ ∀ base : Heap, CalEs P w K mg base k T.fns → FnOk P w K mg base CX0 (k + 1) fa fd [y] (spF ⟨x, 1, own, runF T b m⟩) := by
  obtain ⟨f, fd, F, hmg, hk, hbi, hbt⟩ := F
  have e := hfa.symm.trans hmg
  cases e
  subst hN
  exact ⟨fd, fun s v => hbt s [v] rfl, fun base hf => fn_ok (ps := [y]) (g := ⟨N, defScope st, T, bis, fun _ => true⟩) F hS rfl hm hfz (bis_at hb) (gls_at hg) fun i fn h => cals_at hf i fn h⟩
end
theorem ints_dp {H : Hp} : ∀ ns : List Int, DpAll [] H (ns.map V.int) (ns.map PyData.int)
  | [] => .nil
  | i :: r => .cons (.int i) (ints_dp r)
/-- the end: what the law's def answers -/
theorem ends {K : PySem.W.Frag} (hK : noList K = true) {H : Hp} {a : Addr} {ns : List Int} (s : SqL K H a (ns.map V.int)) {fn : Fn} (hn : fn.n = 1) (ho : fn.own = .sh) (h : fn.sem [.list (ns.map PyData.int)] = .ok (.bool true)) {E : XK} :
    spF fn [.ref a] H (fun v _ => v = .bl true) E := by
  have hdom : Dom H (fun _ => false) := fun a z => Bool.noConfusion z
  refine ⟨fun _ => false, [.list (ns.map PyData.int)], hdom, hn.symm, ?_, ?_⟩
  · refine .cons (.lst (.inl ?_) (ints_dp ns)) .nil
    exact noList_rd (K := K) hK (by
      have e : mask H (fun _ => false) = H := funext fun a => if_neg (fun z => Bool.noConfusion z)
      rw [e]
      exact s)
  · rw [h]
    show Gv _ fn.own _ H (.bool true)
    rw [ho]
    intro v H' A _ _ r
    have d := r.dp
    cases d
    rfl
end Pv

/-! part O: rules for the plain law -/
namespace Pv
open PySem PySem.Spec PyProof.Rows L2
def W {α : Type} (r : R α) (K : α → Prop) : Prop := ∃ a, r = .ok a ∧ K a
@[simp] theorem W_ok {α : Type} {a : α} {K : α → Prop} : W (.ok a) K ↔ K a := ⟨fun ⟨b, h, k⟩ => by cases h; exact k, fun k => ⟨a, rfl, k⟩⟩
@[simp] theorem W_no {α : Type} {K : α → Prop} : W (.no : R α) K ↔ False := by
  constructor
  · rintro ⟨b, h, _⟩
    cases h
  · intro k
    exact k.elim
theorem W_bind {α β : Type} {r : R α} {f : α → R β} {K : β → Prop} : W (r >>= f) K ↔ W r fun a => W (f a) K := by
  cases r with
  | ok a => simp
  | exc c =>
    constructor
    · rintro ⟨b, h, _⟩
      cases h
    · rintro ⟨b, h, _⟩
      cases h
  | no => simp
theorem W.imp {α : Type} {r : R α} {K K' : α → Prop} (h : W r K) (i : ∀ a, K a → K' a) : W r K' := by
  obtain ⟨a, e, k⟩ := h
  exact ⟨a, e, i a k⟩
theorem W_eq {α : Type} {r : R α} {a : α} (h : r = .ok a) {K : α → Prop} (k : K a) : W r K := ⟨a, h, k⟩
theorem W_ite {α : Type} {c : Prop} [Decidable c] {a b : R α} {K : α → Prop} (h1 : c → W a K) (h2 : ¬ c → W b K) : W (if c then a else b) K := by
  by_cases h : c
  · rw [if_pos h]; exact h1 h
  · rw [if_neg h]; exact h2 h
/-- an end of a def's body -/
def KD (P : D → Prop) : Fl → Prop
  | .rt d => P d
  | .nx _ => P .none
  | _ => False
theorem run_of {T : Sg} {b : Ss} {n : Nat} {ds : List D} {d : D} (h : W (evSs T b (startE n ds)) (KD fun z => z = d)) : runF T b n ds = .ok d := by
  obtain ⟨fl, e, k⟩ := h
  unfold runF
  rw [e]
  cases fl with
  | nx _ => show R.ok PyData.none = _; rw [show PyData.none = d from k]
  | rt z => show R.ok z = _; rw [show z = d from k]
  | bk _ => exact k.elim
  | ct _ => exact k.elim
/-- what a def's end asks -/
structure Rn (P : D → Prop) (K : Fl → Prop) : Prop where
  rt : ∀ d, P d → K (.rt d)
  nx : P .none → ∀ e, K (.nx e)
theorem run_W {T : Sg} {b : Ss} {n : Nat} {ds : List D} {P : D → Prop} (h : ∀ K, Rn P K → W (evSs T b (startE n ds)) K) : ∃ d, runF T b n ds = .ok d ∧ P d := by
  obtain ⟨fl, e, k⟩ := h (KD P) ⟨fun _ p => p, fun p _ => p⟩
  unfold runF
  rw [e]
  cases fl with
  | nx _ => exact ⟨_, rfl, k⟩
  | rt z => exact ⟨_, rfl, k⟩
  | bk _ => exact k.elim
  | ct _ => exact k.elim
theorem run_eq {T : Sg} {b : Ss} {n : Nat} {ds : List D} {d : D} (h : ∀ K, Rn (fun z => z = d) K → W (evSs T b (startE n ds)) K) : runF T b n ds = .ok d := by
  obtain ⟨z, e, rfl⟩ := run_W h
  exact e
/-- what stands behind a statement -/
def KS (T : Sg) (r : Ss) (K : Fl → Prop) : Fl → Prop
  | .nx e => W (evSs T r e) K
  | f => K f
section
variable {T : Sg} {env : Ev} {K : Fl → Prop} {r : Ss}
@[simp] theorem KS_nx {e : Ev} : KS T r K (.nx e) ↔ W (evSs T r e) K := Iff.rfl
@[simp] theorem KS_rt {d : D} : KS T r K (.rt d) ↔ K (.rt d) := Iff.rfl
@[simp] theorem KS_bk {e : Ev} : KS T r K (.bk e) ↔ K (.bk e) := Iff.rfl
@[simp] theorem KS_ct {e : Ev} : KS T r K (.ct e) ↔ K (.ct e) := Iff.rfl
theorem W_nil (h : K (.nx env)) : W (evSs T .nil env) K := ⟨_, rfl, h⟩
theorem W_cons {s : S} (h : W (evS T s env) (KS T r K)) : W (evSs T (.cons s r) env) K := by
  obtain ⟨fl, e, k⟩ := h
  show W (evS T s env >>= _) K
  rw [e]
  cases fl with
  | nx e' => exact k
  | rt d => exact ⟨_, rfl, k⟩
  | bk _ => exact ⟨_, rfl, k⟩
  | ct _ => exact ⟨_, rfl, k⟩
theorem W_asg {t : G} {e : E} (h : W (ev T e env) fun d => W (gset t d env) fun e' => W (evSs T r e') K) : W (evSs T (.cons (.asg t e) r) env) K := by
  refine W_cons ?_
  obtain ⟨d, h1, e', h2, h3⟩ := h
  exact ⟨.nx e', by show (ev T e env >>= _) = _; rw [h1, R.ok_bind, h2]; rfl, h3⟩
theorem W_nm {i : Nat} {e : E} (h : W (ev T e env) fun d => W (evSs T r (put env i (some (d, true)))) K) : W (evSs T (.cons (.asg (.nm i) e) r) env) K := W_asg (h.imp fun d k => ⟨_, rfl, k⟩)
theorem W_own {i : Nat} {e : E} (h : W (ev T e env) fun d => W (evSs T r (put env i (some (d, false)))) K) : W (evSs T (.cons (.own i e) r) env) K := by
  refine W_cons ?_
  obtain ⟨d, h1, h3⟩ := h
  exact ⟨.nx _, by show (ev T e env >>= _) = _; rw [h1]; rfl, h3⟩
theorem W_fzz {i : Nat} {s : S} (h : W (evSs T (.cons s r) (frzE env i)) K) : W (evSs T (.cons (.fzz i s) r) env) K := h
theorem W_ret {q : RT} (h : W (evR T q env) fun d => K (.rt d)) : W (evSs T (.cons (.ret q) r) env) K := by
  refine W_cons ?_
  obtain ⟨d, h1, h3⟩ := h
  exact ⟨.rt d, by show (evR T q env >>= _) = _; rw [h1]; rfl, h3⟩
theorem W_one {e : E} (h : W (ev T e env) fun d => K (.rt d)) : W (evSs T (.cons (.ret (.one (.e e))) r) env) K := W_ret h
theorem W_mv {i : Nat} {d : D} (h : lk env i = some (d, false)) (k : K (.rt d)) : W (evSs T (.cons (.ret (.one (.mv i))) r) env) K := by
  refine W_ret ⟨d, ?_, k⟩
  show (match lk env i with | some (d, false) => R.ok d | _ => .no) = _
  rw [h]
theorem W_if {t : E} {a b : Ss} (h : W (ev T t env) fun d => W (truthD d) fun c => (c = true → W (evSs T a env) (KS T r K)) ∧ (c = false → W (evSs T b env) (KS T r K))) : W (evSs T (.cons (.iff t a b) r) env) K := by
  refine W_cons ?_
  obtain ⟨d, h1, c, h2, h3, h4⟩ := h
  have e : evS T (.iff t a b) env = if c = true then evSs T a env else evSs T b env := by
    show (evB T t env >>= _) = _
    unfold evB
    rw [h1, R.ok_bind, h2, R.ok_bind]
  rw [e]
  cases c with
  | true => exact h3 rfl
  | false => exact h4 rfl
/-- what a branch asks -/
structure Jn (M : Ev → Prop) (K K' : Fl → Prop) : Prop where
  nx : ∀ e, M e → K' (.nx e)
  ct : ∀ e, K (.ct e) → K' (.ct e)
  bk : ∀ e, K (.bk e) → K' (.bk e)
  rt : ∀ d, K (.rt d) → K' (.rt d)
theorem W_ifM {t : E} {a b : Ss} (M : Ev → Prop) (h : ∀ K', Jn M K K' → W (ev T t env) fun d => W (truthD d) fun c => (c = true → W (evSs T a env) K') ∧ (c = false → W (evSs T b env) K')) (hM : ∀ e, M e → W (evSs T r e) K) : W (evSs T (.cons (.iff t a b) r) env) K :=
  W_if (h (KS T r K) ⟨hM, fun _ h => h, fun _ h => h, fun _ h => h⟩)
theorem W_aug {i : Nat} {op : BOp} {e : E} (h : W (evVar i false env) fun x => W (ev T e env) fun y => W (evAug op x y) fun z => W (evSs T r (put env i (some (z, true)))) K) : W (evSs T (.cons (.aug i op e) r) env) K := by
  refine W_cons ?_
  obtain ⟨x, h1, y, h2, z, h3, h4⟩ := h
  exact ⟨.nx _, by show (evVar i false env >>= _) = _; rw [h1, R.ok_bind, h2, R.ok_bind, h3]; rfl, h4⟩
theorem W_app {i : Nat} {ds : List D} {e : E} (hl : lk env i = some (.list ds, false)) (ho : T.own i = .lst .sh) (hs : ds.length < 16777216) (h : W (ev T e env) fun d => W (evSs T r (put env i (some (.list (ds ++ [d]), false)))) K) : W (evSs T (.cons (.app i .nil e) r) env) K := by
  refine W_cons ?_
  obtain ⟨d, h1, h2⟩ := h
  refine ⟨.nx _, ?_, h2⟩
  show (evPa T .nil env >>= _) = _
  show (noX (ev T e env) >>= _) = _
  rw [h1]
  show mutE T i [] (fApp d) env = _
  unfold mutE
  rw [hl, ho]
  show (fApp d ds >>= _) >>= _ = _
  unfold fApp
  rw [if_pos hs]
  rfl
theorem W_appM {α : Type} {f : α → D} {i : Nat} {xs : List α} {e : E} (hl : lk env i = some (.list (xs.map f), false)) (ho : T.own i = .lst .sh) (hs : xs.length < 16777216) (h : W (ev T e env) fun d => ∃ y, d = f y ∧ W (evSs T r (put env i (some (.list ((xs ++ [y]).map f), false)))) K) : W (evSs T (.cons (.app i .nil e) r) env) K := by
  refine W_app hl ho (by simpa using hs) (h.imp fun d ⟨y, e, k⟩ => ?_)
  subst e
  rw [List.map_append] at k
  exact k
theorem W_st {i : Nat} {ds : List D} {k e : E} (hl : lk env i = some (.list ds, false)) (ho : T.own i = .lst .sh) (h : W (ev T e env) fun d => W (toInt (ev T k env)) fun n => ∃ j, ixN ds.length n = some j ∧ W (evSs T r (put env i (some (.list (ds.set j d), false)))) K) : W (evSs T (.cons (.st i .nil k e) r) env) K := by
  refine W_cons ?_
  obtain ⟨d, h1, n, h2, j, h3, h4⟩ := h
  refine ⟨.nx _, ?_, h4⟩
  show (ev T e env >>= _) = _
  rw [h1]
  show (toInt (ev T k env) >>= _) = _
  rw [h2]
  show mutE T i [] (fSet n d) env = _
  unfold mutE
  rw [hl, ho]
  show (fSet n d ds >>= _) >>= _ = _
  unfold fSet
  rw [h3]
  rfl
theorem W_sau {i : Nat} {ds : List D} {k e : E} {op : BOp} (hl : lk env i = some (.list ds, false)) (ho : T.own i = .lst .sh) (h : W (toInt (ev T k env)) fun n => W (ev T e env) fun y => ∃ j x, ixN ds.length n = some j ∧ ds[j]? = some x ∧ W (evAug op x y) fun z => W (evSs T r (put env i (some (.list (ds.set j z), false)))) K) : W (evSs T (.cons (.sau i .nil k op e) r) env) K := by
  refine W_cons ?_
  obtain ⟨n, h2, y, h1, j, x, h3, h5, z, h6, h4⟩ := h
  refine ⟨.nx _, ?_, h4⟩
  show (toInt (ev T k env) >>= _) = _
  rw [h2]
  show (noX (ev T e env) >>= _) = _
  rw [h1]
  show mutE T i [] (fAug n op y) env = _
  unfold mutE
  rw [hl, ho]
  show (fAug n op y ds >>= _) >>= _ = _
  unfold fAug
  rw [h3]
  show ((match ds[j]? with | some x => evAug op x y >>= fun z => R.ok (ds.set j z) | none => .no) >>= _) >>= _ = _
  rw [h5]
  show ((evAug op x y >>= _) >>= _) >>= _ = _
  rw [h6]
  rfl
/-- what a loop's turn leaves -/
def KL (I : Ev → Prop) (K : Fl → Prop) : Fl → Prop
  | .nx e => I e
  | .ct e => I e
  | .bk e => K (.nx e)
  | .rt d => K (.rt d)
@[simp] theorem KL_nx {I : Ev → Prop} {e : Ev} : KL I K (.nx e) ↔ I e := Iff.rfl
@[simp] theorem KL_ct {I : Ev → Prop} {e : Ev} : KL I K (.ct e) ↔ I e := Iff.rfl
@[simp] theorem KL_bk {I : Ev → Prop} {e : Ev} : KL I K (.bk e) ↔ K (.nx e) := Iff.rfl
@[simp] theorem KL_rt {I : Ev → Prop} {d : D} : KL I K (.rt d) ↔ K (.rt d) := Iff.rfl
theorem W_loop {α : Type} {enc : α → D} {f : D → Ev → R Fl} (I : List α → Ev → Prop) : ∀ {xs done : List α} {env : Ev}, I done env → (∀ a x b e, done ++ xs = a ++ x :: b → I a e → W (f (enc x) e) (KL (I (a ++ [x])) K)) → (∀ e, I (done ++ xs) e → K (.nx e)) → W (loopF f (xs.map enc) env) K
  | [], done, env, h0, _, hk => by
    rw [List.append_nil] at hk
    exact ⟨.nx env, rfl, hk env h0⟩
  | x :: xs, done, env, h0, hs, hk => by
    obtain ⟨fl, e, k⟩ := hs done x xs env rfl h0
    have ea : done ++ x :: xs = (done ++ [x]) ++ xs := by simp
    show W (f (enc x) env >>= _) K
    rw [e, R.ok_bind]
    cases fl with
    | nx e' => exact W_loop I k (ea ▸ hs) (ea ▸ hk)
    | ct e' => exact W_loop I k (ea ▸ hs) (ea ▸ hk)
    | bk e' => exact ⟨_, rfl, k⟩
    | rt d => exact ⟨_, rfl, k⟩
/-- what a turn of a loop asks -/
structure Tn (I : Ev → Prop) (K K' : Fl → Prop) : Prop where
  nx : ∀ e, I e → K' (.nx e)
  ct : ∀ e, I e → K' (.ct e)
  bk : ∀ e, K (.nx e) → K' (.bk e)
  rt : ∀ d, K (.rt d) → K' (.rt d)
theorem Tn.self {I : Ev → Prop} {K : Fl → Prop} : Tn I K (KL I K) := ⟨fun _ h => h, fun _ h => h, fun _ h => h, fun _ h => h⟩
theorem W_for {α : Type} {enc : α → D} {t : G} {it : I} {b : Ss} {xs : List α} (I : List α → Ev → Prop) (hi : evi T it env = .ok (xs.map enc)) (h0 : I [] env) (hs : ∀ a x c e, xs = a ++ x :: c → I a e → ∀ K', Tn (I (a ++ [x])) (KS T r K) K' → W (gset t (enc x) e) fun e' => W (evSs T b e') K') (hk : ∀ e, I xs e → W (evSs T r e) K) : W (evSs T (.cons (.fr t it b) r) env) K := by
  refine W_cons ?_
  show W (evi T it env >>= _) _
  rw [hi, R.ok_bind]
  refine W_loop I h0 (fun a x c e h1 h2 => ?_) hk
  rw [List.nil_append] at h1
  exact W_bind.mpr (hs a x c e h1 h2 _ Tn.self)
theorem range_split {n k : Nat} {a c : List Nat} (h : List.range n = a ++ k :: c) : k = a.length ∧ a = List.range k ∧ k < n := by
  have h1 := congrArg (fun l => l[a.length]?) h
  simp only [List.getElem?_append_right (Nat.le_refl _), Nat.sub_self, List.getElem?_cons_zero] at h1
  have hl := congrArg List.length h
  simp only [List.length_range, List.length_append, List.length_cons] at hl
  rw [List.getElem?_range (by omega)] at h1
  have e : k = a.length := (Option.some.inj h1).symm
  refine ⟨e, ?_, by omega⟩
  have h2 := congrArg (List.take a.length) h
  rw [List.take_left, List.take_range, Nat.min_eq_left (by omega)] at h2
  rw [e, h2]
theorem W_idx {t : G} {it : Pv.I} {b : Ss} {n : Nat} {g : Nat → D} (I : Nat → Ev → Prop) (hi : evi T it env = .ok ((List.range n).map g)) (h0 : I 0 env) (hs : ∀ k e, k < n → I k e → ∀ K', Tn (I (k + 1)) (KS T r K) K' → W (gset t (g k) e) fun e' => W (evSs T b e') K') (hk : ∀ e, I n e → W (evSs T r e) K) : W (evSs T (.cons (.fr t it b) r) env) K := by
  refine W_for (enc := g) (xs := List.range n) (fun l e => I l.length e) hi h0 (fun a x c e h1 h2 K' hT => ?_) (fun e h => hk e (by simpa using h))
  obtain ⟨e1, _, hn⟩ := range_split h1
  subst e1
  exact hs _ e hn h2 K' ⟨fun e h => hT.nx e (by simpa using h), fun e h => hT.ct e (by simpa using h), hT.bk, hT.rt⟩
theorem W_rng {t : G} {it : Pv.I} {b : Ss} {lo : Int} {n : Nat} (I : Nat → Ev → Prop) (hi : evi T it env = .ok (rngD lo n)) (h0 : I 0 env) (hs : ∀ k e, k < n → I k e → ∀ K', Tn (I (k + 1)) (KS T r K) K' → W (gset t (.int (lo + k)) e) fun e' => W (evSs T b e') K') (hk : ∀ e, I n e → W (evSs T r e) K) : W (evSs T (.cons (.fr t it b) r) env) K := by
  refine W_for (enc := fun k : Nat => PyData.int (lo + k)) (xs := List.range n) (fun l e => l = List.range l.length ∧ I l.length e) hi ⟨rfl, h0⟩ (fun a x c e h1 h2 K' hT => ?_) (fun e h => hk e (by simpa using h.2))
  have hx : x = a.length ∧ a.length < n := by
    have := congrArg (fun l => l[a.length]?) h1
    simp only [List.getElem?_append_right (Nat.le_refl _), Nat.sub_self, List.getElem?_cons_zero] at this
    have hl := congrArg List.length h1
    simp only [List.length_range, List.length_append, List.length_cons] at hl
    rw [List.getElem?_range (by omega)] at this
    exact ⟨(Option.some.inj this).symm, by omega⟩
  obtain ⟨rfl, hn⟩ := hx
  have hr : a ++ [a.length] = List.range (a ++ [a.length]).length := by
    rw [List.length_append, List.length_singleton, List.range_succ, ← h2.1]
  refine hs _ e hn h2.2 K' ⟨fun e h => hT.nx e ⟨hr, by simpa using h⟩, fun e h => hT.ct e ⟨hr, by simpa using h⟩, hT.bk, hT.rt⟩
theorem W_loopW {tc : Ev → R Bool} {f : Ev → R Fl} {K1 : Fl → Prop} (N : Nat) (I : Nat → Ev → Prop) (hs : ∀ k e, I k e → ∀ K', Tn (I (k + 1)) K1 K' → W (tc e) fun b => (b = true → W (f e) K') ∧ (b = false → K1 (.nx e))) (hb : ∀ k e, I k e → k ≤ N) : ∀ (m k : Nat) (e : Ev), I k e → N < m + k → W (loopW tc f m e) K1
  | 0, k, e, hI, hm => absurd (hb k e hI) (by omega)
  | m + 1, k, e, hI, hm => by
    obtain ⟨b, h1, h2, h3⟩ := hs k e hI _ Tn.self
    show W (tc e >>= _) _
    rw [h1, R.ok_bind]
    cases b with
    | true =>
      obtain ⟨fl, e1, k1⟩ := h2 rfl
      rw [if_pos rfl, e1, R.ok_bind]
      cases fl with
      | nx e' => exact W_loopW N I hs hb m (k + 1) e' k1 (by omega)
      | ct e' => exact W_loopW N I hs hb m (k + 1) e' k1 (by omega)
      | bk e' => exact ⟨_, rfl, k1⟩
      | rt d => exact ⟨_, rfl, k1⟩
    | false =>
      rw [if_neg (by decide)]
      exact ⟨_, rfl, h3 rfl⟩
theorem W_wh {t : E} {b : Ss} (N : Nat) (I : Nat → Ev → Prop) (h0 : I 0 env) (hb : ∀ k e, I k e → k ≤ N) (hs : ∀ k e, I k e → ∀ K', Tn (I (k + 1)) (KS T r K) K' → W (ev T t e) fun d => W (truthD d) fun c => (c = true → W (evSs T b e) K') ∧ (c = false → W (evSs T r e) K)) (hN : N < 1000000 := by decide) : W (evSs T (.cons (.wh t b) r) env) K := by
  refine W_cons ?_
  show W (loopW (evB T t) (evSs T b) fuel env) _
  refine W_loopW N I (fun k e hI K' hT => ?_) hb fuel 0 env h0 (by unfold fuel; omega)
  exact W_bind.mpr (hs k e hI K' hT)
end
/-! comprehensions -/
theorem goC_map {α : Type} {enc : α → D} {f : D → R (Option D)} {g : α → Option D} : ∀ {xs : List α} {acc : List D}, (∀ x ∈ xs, f (enc x) = .ok (g x)) → acc.length + xs.length ≤ 16777216 → goC f (xs.map enc) acc = .ok (acc ++ xs.filterMap g)
  | [], acc, _, _ => by simp [goC]
  | x :: xs, acc, h, hl => by
    have e := h x (.head _)
    simp only [List.length_cons] at hl
    simp only [List.map_cons, goC, e]
    cases hg : g x with
    | none =>
      simp only [hg]
      rw [goC_map (fun y hy => h y (.tail _ hy)) (by omega)]
      simp [hg]
    | some d =>
      simp only [hg]
      rw [if_pos (by omega), goC_map (fun y hy => h y (.tail _ hy)) (by simp only [List.length_append, List.length_singleton]; omega)]
      simp [hg]
theorem goC_all {α : Type} {enc : α → D} {f : D → R (Option D)} {g : α → D} {xs : List α} (h : ∀ x ∈ xs, f (enc x) = .ok (some (g x))) (hl : xs.length ≤ 16777216) : goC f (xs.map enc) [] = .ok (xs.map g) := by
  rw [goC_map (g := fun x => some (g x)) h (by simpa using hl)]
  simp
theorem goC_rng {lo : Int} {n : Nat} {f : D → R (Option D)} {g : Nat → Option D} (h : ∀ k < n, f (.int (lo + k)) = .ok (g k)) (hl : n ≤ 16777216) : goC f (rngD lo n) [] = .ok ((List.range n).filterMap g) := by
  unfold rngD
  rw [goC_map (enc := fun k : Nat => PyData.int (lo + k)) (g := g) (fun x hx => h x (List.mem_range.mp hx)) (by simpa using hl)]
  rfl
theorem goC_rngA {lo : Int} {n : Nat} {f : D → R (Option D)} {g : Nat → D} (h : ∀ k < n, f (.int (lo + k)) = .ok (some (g k))) (hl : n ≤ 16777216) : goC f (rngD lo n) [] = .ok ((List.range n).map g) := by
  rw [goC_rng (g := fun x => some (g x)) h hl]
  simp
/-! subscripts -/
theorem ixN_nn {n : Nat} {i : Int} (h0 : 0 ≤ i) (h1 : i < n) : ixN n i = some i.toNat := by
  unfold ixN
  rw [if_pos h0, if_pos h1]
theorem atI_nn {α : Type} {xs : List α} {i : Int} (h0 : 0 ≤ i) (h1 : i < xs.length) : atI xs i = xs[i.toNat]? := by
  unfold atI
  rw [ixN_nn h0 h1]
  rfl
theorem atI_map {α β : Type} {xs : List α} {f : α → β} {i : Int} (d : α) (h0 : 0 ≤ i) (h1 : i < xs.length) : atI (xs.map f) i = some (f (xs.getD i.toNat d)) := by
  rw [atI_nn h0 (by simpa using h1), List.getElem?_map]
  have : i.toNat < xs.length := by omega
  simp [List.getElem?_eq_getElem this, List.getD_eq_getElem?_getD]
end Pv

/-! part P: the evaluator's equations -/
namespace Pv
open PySem PySem.Spec PyProof.Rows L2
theorem okb {α β : Type} (a : α) (f : α → R β) : (R.ok a >>= f) = f a := id rfl
section
variable {T : Sg} {env : Ev}
@[simp] theorem ev_var {i m} : ev T (.var i m) env = evVar i m env := id rfl
@[simp] theorem ev_cst {d} : ev T (.cst d) env = .ok d := id rfl
@[simp] theorem ev_gl {i} : ev T (.gl i) env = evGl T i := id rfl
@[simp] theorem ev_neg {a} : ev T (.neg a) env = ev T a env >>= evNeg := id rfl
@[simp] theorem ev_bin {op o a b} : ev T (.bin op o a b) env = ev T a env >>= fun x => ev T b env >>= fun y => evBin op o x y := id rfl
@[simp] theorem ev_cmp {op a b} : ev T (.cmp op a b) env = ev T a env >>= fun x => ev T b env >>= fun y => evCmp op x y >>= fun b => .ok (.bool b) := id rfl
@[simp] theorem ev_chn {op op' a b d} : ev T (.chn op op' a b d) env = ev T a env >>= fun x => ev T b env >>= fun y => evCmp op x y >>= fun r => if r = true then (ev T d env >>= fun z => evCmp op' y z >>= fun q => .ok (.bool q)) else .ok (.bool false) := id rfl
@[simp] theorem ev_nt {a} : ev T (.nt a) env = ev T a env >>= fun d => truthD d >>= fun b => .ok (.bool (!b)) := id rfl
@[simp] theorem ev_an {es} : ev T (.an es) env = evAn T es env := id rfl
@[simp] theorem ev_or {es} : ev T (.orr es) env = evOr T es env := id rfl
@[simp] theorem ev_ite {t a b} : ev T (.ite t a b) env = ev T t env >>= fun d => truthD d >>= fun r => if r = true then ev T a env else ev T b env := id rfl
@[simp] theorem ev_idx {a b} : ev T (.idx a b) env = ev T a env >>= fun x => ev T b env >>= fun y => evIdx x y := id rfl
@[simp] theorem ev_sl {o a lo hi} : ev T (.sl o a lo hi) env = ev T a env >>= fun x => evo T lo env >>= fun l => evo T hi env >>= fun h => evSl o x l h := id rfl
@[simp] theorem ev_tup {es} : ev T (.tup es) env = evs T es env >>= evTup := id rfl
@[simp] theorem ev_lst {o es} : ev T (.lst o es) env = evs T es env >>= evLst := id rfl
@[simp] theorem ev_bi {b o es} : ev T (.bi b o es) env = evs T es env >>= evBi b o := id rfl
@[simp] theorem ev_isi {t a} : ev T (.isi t a) env = ev T a env >>= fun d => .ok (.bool (isD t d)) := id rfl
@[simp] theorem ev_fn {f k es} : ev T (.fn f k es) env = evs T es env >>= evF T f k := id rfl
@[simp] theorem ev_comp {o elt g it t ws} : ev T (.comp o elt g it t ws) env = evi T it env >>= fun items => goC (step g ws (evc T t) (ev T elt) env) items [] >>= fun ds => .ok (.list ds) := id rfl
@[simp] theorem ev_frz {a} : ev T (.frz a) env = ev T a env := id rfl
@[simp] theorem ev_fl {a} : ev T (.fl a) env = ev T a env >>= evFl := id rfl
@[simp] theorem ev_rv {o a} : ev T (.rv o a) env = ev T a env >>= evX1 .rev o := id rfl
@[simp] theorem ev_lr1 {o a} : ev T (.lr1 o a) env = ev T a env >>= fun d => evX3 .lr1 o [d] := id rfl
@[simp] theorem ev_lr2 {o a b} : ev T (.lr2 o a b) env = ev T a env >>= fun d => ev T b env >>= fun e => evX3 .lr2 o [d, e] := id rfl
@[simp] theorem evX1_rev {o xs} : evX1 .rev o (.list xs) = .ok (.list xs.reverse) := id rfl
@[simp] theorem evX3_lr1 {o} {j : Int} (h : 0 ≤ j) (h1 : j ≤ 16777216) : evX3 .lr1 o [.int j] = .ok (.list (rngD 0 j.toNat)) := if_pos (by unfold rngCk; simp; omega)
@[simp] theorem evX3_lr2 {o} {i j : Int} (h : -1000000000 ≤ i) (h1 : i ≤ 1000000000) (h2 : -1000000000 ≤ j) (h3 : j ≤ 1000000000) (h4 : j - i ≤ 16777216) : evX3 .lr2 o [.int i, .int j] = .ok (.list (rngD i (j - i).toNat)) := if_pos (by unfold rngCk; simp; omega)
@[simp] theorem evs_nil : evs T .nil env = .ok [] := id rfl
@[simp] theorem evs_cons {e r} : evs T (.cons e r) env = ev T e env >>= fun d => evs T r env >>= fun ds => .ok (d :: ds) := id rfl
@[simp] theorem evAn_one {e} : evAn T (.cons e .nil) env = ev T e env := id rfl
@[simp] theorem evAn_cons {e e' r} : evAn T (.cons e (.cons e' r)) env = ev T e env >>= fun x => truthD x >>= fun b => if b = true then evAn T (.cons e' r) env else .ok x := id rfl
@[simp] theorem evOr_one {e} : evOr T (.cons e .nil) env = ev T e env := id rfl
@[simp] theorem evOr_cons {e e' r} : evOr T (.cons e (.cons e' r)) env = ev T e env >>= fun x => truthD x >>= fun b => if b = true then .ok x else evOr T (.cons e' r) env := id rfl
@[simp] theorem evo_no : evo T .no env = .ok none := id rfl
@[simp] theorem evo_sm {e} : evo T (.sm e) env = ev T e env >>= fun d => match d with | .int i => .ok (some i) | _ => .no := id rfl
@[simp] theorem evc_nil : evc T .nil env = .ok true := id rfl
@[simp] theorem evc_cons {e r} : evc T (.cons e r) env = ev T e env >>= truthD := id rfl
@[simp] theorem evi_seq {e} : evi T (.seq e) env = ev T e env >>= seqD := id rfl
@[simp] theorem evi_r1 {es} : evi T (.r1 es) env = evs T es env >>= rng1D := id rfl
@[simp] theorem evi_r2 {es} : evi T (.r2 es) env = evs T es env >>= rng2D := id rfl
@[simp] theorem evi_r3 {es} : evi T (.r3 es) env = evs T es env >>= rngnD := id rfl
@[simp] theorem evi_en {es} : evi T (.en es) env = evs T es env >>= enum1D := id rfl
@[simp] theorem evi_zp {es} : evi T (.zp es) env = evs T es env >>= zip2D := id rfl
@[simp] theorem lk_zero {x : Option (D × Bool)} {r : Ev} : lk (x :: r) 0 = x := id rfl
@[simp] theorem lk_succ {x : Option (D × Bool)} {r : Ev} {n : Nat} : lk (x :: r) (n + 1) = lk r n := id rfl
@[simp] theorem put_zero {x v : Option (D × Bool)} {r : Ev} : put (x :: r) 0 v = v :: r := id rfl
@[simp] theorem put_succ {x v : Option (D × Bool)} {r : Ev} {n : Nat} : put (x :: r) (n + 1) v = x :: put r n v := id rfl
@[simp] theorem evVar_eq {i : Nat} {m : Bool} : evVar i m env = (match lk env i with | some (d, b) => if m = true then (if b = true then .ok d else .no) else .ok d | none => .no) := id rfl
@[simp] theorem gset_nm {i : Nat} {d : D} : gset (.nm i) d env = .ok (put env i (some (d, true))) := id rfl
@[simp] theorem gset_tp {gs : Gs} {ds : List D} : gset (.tp gs) (.tuple ds) env = gsets gs ds env := id rfl
@[simp] theorem gsets_nil : gsets .nil [] env = .ok env := id rfl
@[simp] theorem gsets_cons {g : G} {r : Gs} {d : D} {ds : List D} : gsets (.cons g r) (d :: ds) env = gset g d env >>= fun e => gsets r ds e := id rfl
@[simp] theorem wipeE_nil : wipeE env [] = env := id rfl
@[simp] theorem wipeE_cons {i : Nat} {r : List Nat} : wipeE env (i :: r) = put (wipeE env r) i none := id rfl
end
section
variable {o : Own} {i j : Int}
@[simp] theorem evBin_add : evBin .add o (.int i) (.int j) = .ok (.int (i + j)) := id rfl
@[simp] theorem evBin_sub : evBin .sub o (.int i) (.int j) = .ok (.int (i - j)) := id rfl
theorem mulOk_of (h : (-18446744073709551616 < i ∧ i < 18446744073709551616) ∨ (-18446744073709551616 < j ∧ j < 18446744073709551616)) : mulOk i j = true := by
  unfold mulOk
  simpa using h
@[simp] theorem evBin_mul (h : (-18446744073709551616 < i ∧ i < 18446744073709551616) ∨ (-18446744073709551616 < j ∧ j < 18446744073709551616)) : evBin .mul o (.int i) (.int j) = .ok (.int (i * j)) := if_pos (mulOk_of h)
@[simp] theorem evBin_mod (h : 0 < j) : evBin .mod o (.int i) (.int j) = .ok (.int (i % j)) := if_pos h
@[simp] theorem evBin_fdiv (h : 0 < j ∧ j < 1073741824) : evBin .fdiv o (.int i) (.int j) = .ok (.int (i / j)) := if_pos h
@[simp] theorem evBin_pow (h0 : 0 ≤ j) (h1 : j ≤ 1000000) (h2 : i.natAbs < 18446744073709551616) : evBin .pow o (.int i) (.int j) = .ok (.int (i ^ j.toNat)) := if_pos (by unfold powOk; simp [h0, h1, h2])
@[simp] theorem evBin_cat {xs ys : List D} (h : xs.length + ys.length ≤ 16777216) : evBin .add o (.list xs) (.list ys) = .ok (.list (xs ++ ys)) := if_pos h
@[simp] theorem evBin_rep {xs : List D} {k : Int} (h : -9223372036854775808 ≤ k ∧ k < 9223372036854775808 ∧ xs.length * k.toNat ≤ 16777216) : evBin .mul o (.list xs) (.int k) = .ok (.list (List.replicate k.toNat xs).flatten) := if_pos h
@[simp] theorem evNeg_int : evNeg (.int i) = .ok (.int (-i)) := id rfl
@[simp] theorem evCmp_lt : evCmp .lt (.int i) (.int j) = .ok (decide (i < j)) := id rfl
@[simp] theorem evCmp_le : evCmp .le (.int i) (.int j) = .ok (decide (i ≤ j)) := id rfl
@[simp] theorem evCmp_gt : evCmp .gt (.int i) (.int j) = .ok (decide (j < i)) := id rfl
@[simp] theorem evCmp_ge : evCmp .ge (.int i) (.int j) = .ok (decide (j ≤ i)) := id rfl
theorem eqv_int {i j : Int} : PyData.eqv (.int i) (.int j) = decide (i = j) := by
  by_cases h : i = j
  · subst h; simp [PyData.eqv]
  · simp [PyData.eqv, h]
@[simp] theorem evCmp_eqi : evCmp .eq (.int i) (.int j) = .ok (decide (i = j)) := by
  show (if SeqAt.shaped (.int i) = true ∧ SeqAt.shaped (.int j) = true then R.ok (PyData.eqv (.int i) (.int j)) else .no) = _
  rw [if_pos ⟨rfl, rfl⟩, eqv_int]
@[simp] theorem evCmp_nei : evCmp .ne (.int i) (.int j) = .ok (!decide (i = j)) := by
  show (if SeqAt.shaped (.int i) = true ∧ SeqAt.shaped (.int j) = true then R.ok (!PyData.eqv (.int i) (.int j)) else .no) = _
  rw [if_pos ⟨rfl, rfl⟩, eqv_int]
end
@[simp] theorem truthD_int {i : Int} : truthD (.int i) = .ok (i != 0) := id rfl
@[simp] theorem truthD_list {xs : List D} : truthD (.list xs) = .ok (!xs.isEmpty) := id rfl
@[simp] theorem evTup_eq {ds : List D} (h : ds.length ≤ 16777216) : evTup ds = .ok (.tuple ds) := if_pos (by first | exact h | omega)
@[simp] theorem evLst_eq {ds : List D} (h : ds.length ≤ 16777216) : evLst ds = .ok (.list ds) := if_pos (by first | exact h | omega)
@[simp] theorem evBi_len {o : Own} {xs : List D} : evBi .len o [.list xs] = .ok (.int xs.length) := id rfl
@[simp] theorem evBi_lenT {o : Own} {xs : List D} : evBi .len o [.tuple xs] = .ok (.int xs.length) := id rfl
@[simp] theorem evBi_int {o : Own} {i : Int} : evBi .int o [.int i] = .ok (.int i) := id rfl
@[simp] theorem evBi_intb {o : Own} {b : Bool} : evBi .int o [.bool b] = .ok (.int (if b = true then 1 else 0)) := id rfl
@[simp] theorem evBi_sum {o : Own} {ns : List Int} : evBi .sum o [.list (ns.map PyData.int)] = .ok (.int ns.sum) := by
  show (match intsOf _ with | some ns => R.ok (PyData.int ns.sum) | none => .no) = _
  rw [intsOf_map]
@[simp] theorem evBi_min2 {o : Own} {i j : Int} : evBi .min o [.int i, .int j] = .ok (.int (min i j)) := by
  show R.ok (PyData.int (if j < i then j else i)) = _
  congr 2
  omega
@[simp] theorem evBi_max2 {o : Own} {i j : Int} : evBi .max o [.int i, .int j] = .ok (.int (max i j)) := by
  show R.ok (PyData.int (if j > i then j else i)) = _
  congr 2
  omega
@[simp] theorem evBi_sorted {o : Own} {ns : List Int} : evBi .sorted o [.list (ns.map PyData.int)] = .ok (.list ((sortI ns).map PyData.int)) := by
  show (match intsOf _ with | some ns => R.ok (PyData.list ((sortI ns).map PyData.int)) | none => .no) = _
  rw [intsOf_map]
@[simp] theorem evBi_list {o : Own} {xs : List D} : evBi .list o [.list xs] = .ok (.list xs) := id rfl
@[simp] theorem evBi_listT {o : Own} {xs : List D} : evBi .list o [.tuple xs] = .ok (.list xs) := id rfl
@[simp] theorem evBi_all {o : Own} {bs : List Bool} : evBi .all o [.list (bs.map PyData.bool)] = .ok (.bool (bs.all id)) := by
  show (match blsOf _ with | some bs => R.ok (PyData.bool (bs.all id)) | none => .no) = _
  rw [blsOf_map]
@[simp] theorem evBi_any {o : Own} {bs : List Bool} : evBi .any o [.list (bs.map PyData.bool)] = .ok (.bool (bs.any id)) := by
  show (match blsOf _ with | some bs => R.ok (PyData.bool (bs.any id)) | none => .no) = _
  rw [blsOf_map]
@[simp] theorem evBi_anyf {α : Type} {o : Own} {p : α → Bool} {xs : List α} : evBi .any o [.list (xs.map fun x => PyData.bool (p x))] = .ok (.bool (xs.any p)) := by
  have h := evBi_any (o := o) (bs := xs.map p)
  rw [List.map_map, List.any_map] at h
  exact h
@[simp] theorem evBi_allf {α : Type} {o : Own} {p : α → Bool} {xs : List α} : evBi .all o [.list (xs.map fun x => PyData.bool (p x))] = .ok (.bool (xs.all p)) := by
  have h := evBi_all (o := o) (bs := xs.map p)
  rw [List.map_map, List.all_map] at h
  exact h
@[simp] theorem evBi_abs {o : Own} {i : Int} : evBi .abs o [.int i] = .ok (.int (i.natAbs : Int)) := by
  show R.ok (PyData.int (if i < 0 then -i else i)) = _
  congr 2
  omega
@[simp] theorem evCmp_isnone {x : D} : evCmp .isn x .none = .ok (isNone x) := id rfl
@[simp] theorem evCmp_notnone {x : D} : evCmp .notn x .none = .ok (!isNone x) := id rfl
@[simp] theorem isNone_n : isNone .none = true := id rfl
@[simp] theorem isNone_i {i : Int} : isNone (.int i) = false := id rfl
@[simp] theorem isNone_b {b : Bool} : isNone (.bool b) = false := id rfl
@[simp] theorem isNone_s {s : Str} : isNone (.str s) = false := id rfl
@[simp] theorem isNone_l {xs : List D} : isNone (.list xs) = false := id rfl
@[simp] theorem isNone_t {xs : List D} : isNone (.tuple xs) = false := id rfl
/-- an item of a list, by a subscript that is not below 0 -/
def ix {α : Type} [Inhabited α] (xs : List α) (i : Int) : α := xs.getD i.toNat default
@[simp] theorem evIdx_map {α : Type} [Inhabited α] {f : α → D} {xs : List α} {i : Int} (h0 : 0 ≤ i) (h1 : i < xs.length) : evIdx (.list (xs.map f)) (.int i) = .ok (f (ix xs i)) := by
  show (match atI (xs.map f) i with | some d => R.ok d | none => .no) = _
  rw [atI_map default h0 h1]
  rfl
@[simp] theorem evIdx_mapT {α : Type} [Inhabited α] {f : α → D} {xs : List α} {i : Int} (h0 : 0 ≤ i) (h1 : i < xs.length) : evIdx (.tuple (xs.map f)) (.int i) = .ok (f (ix xs i)) := by
  show (match atI (xs.map f) i with | some d => R.ok d | none => .no) = _
  rw [atI_map default h0 h1]
  rfl
/-- a subscript of a display -/
@[simp] theorem evIdx_t0 {a : D} {r : List D} : evIdx (.tuple (a :: r)) (.int 0) = .ok a := by
  show (match atI (a :: r) ((0 : Nat) : Int) with | some d => R.ok d | none => .no) = _
  rw [atI_nat (v := a) rfl]
@[simp] theorem evIdx_l0 {a : D} {r : List D} : evIdx (.list (a :: r)) (.int 0) = .ok a := by
  show (match atI (a :: r) ((0 : Nat) : Int) with | some d => R.ok d | none => .no) = _
  rw [atI_nat (v := a) rfl]
@[simp] theorem evIdx_t1 {a b : D} {r : List D} : evIdx (.tuple (a :: b :: r)) (.int 1) = .ok b := by
  show (match atI (a :: b :: r) ((1 : Nat) : Int) with | some d => R.ok d | none => .no) = _
  rw [atI_nat (v := b) rfl]
@[simp] theorem evIdx_l1 {a b : D} {r : List D} : evIdx (.list (a :: b :: r)) (.int 1) = .ok b := by
  show (match atI (a :: b :: r) ((1 : Nat) : Int) with | some d => R.ok d | none => .no) = _
  rw [atI_nat (v := b) rfl]
@[simp] theorem evIdx_t2 {a b c : D} {r : List D} : evIdx (.tuple (a :: b :: c :: r)) (.int 2) = .ok c := by
  show (match atI (a :: b :: c :: r) ((2 : Nat) : Int) with | some d => R.ok d | none => .no) = _
  rw [atI_nat (v := c) rfl]
@[simp] theorem evIdx_l2 {a b c : D} {r : List D} : evIdx (.list (a :: b :: c :: r)) (.int 2) = .ok c := by
  show (match atI (a :: b :: c :: r) ((2 : Nat) : Int) with | some d => R.ok d | none => .no) = _
  rw [atI_nat (v := c) rfl]
@[simp] theorem evIdx_t3 {a b c d : D} {r : List D} : evIdx (.tuple (a :: b :: c :: d :: r)) (.int 3) = .ok d := by
  show (match atI (a :: b :: c :: d :: r) ((3 : Nat) : Int) with | some d => R.ok d | none => .no) = _
  rw [atI_nat (v := d) rfl]
@[simp] theorem evIdx_l3 {a b c d : D} {r : List D} : evIdx (.list (a :: b :: c :: d :: r)) (.int 3) = .ok d := by
  show (match atI (a :: b :: c :: d :: r) ((3 : Nat) : Int) with | some d => R.ok d | none => .no) = _
  rw [atI_nat (v := d) rfl]
@[simp] theorem evIdx_t4 {a b c d e : D} {r : List D} : evIdx (.tuple (a :: b :: c :: d :: e :: r)) (.int 4) = .ok e := by
  show (match atI (a :: b :: c :: d :: e :: r) ((4 : Nat) : Int) with | some d => R.ok d | none => .no) = _
  rw [atI_nat (v := e) rfl]
@[simp] theorem evIdx_l4 {a b c d e : D} {r : List D} : evIdx (.list (a :: b :: c :: d :: e :: r)) (.int 4) = .ok e := by
  show (match atI (a :: b :: c :: d :: e :: r) ((4 : Nat) : Int) with | some d => R.ok d | none => .no) = _
  rw [atI_nat (v := e) rfl]
@[simp] theorem evIdx_t5 {a b c d e f : D} {r : List D} : evIdx (.tuple (a :: b :: c :: d :: e :: f :: r)) (.int 5) = .ok f := by
  show (match atI (a :: b :: c :: d :: e :: f :: r) ((5 : Nat) : Int) with | some d => R.ok d | none => .no) = _
  rw [atI_nat (v := f) rfl]
@[simp] theorem evIdx_l5 {a b c d e f : D} {r : List D} : evIdx (.list (a :: b :: c :: d :: e :: f :: r)) (.int 5) = .ok f := by
  show (match atI (a :: b :: c :: d :: e :: f :: r) ((5 : Nat) : Int) with | some d => R.ok d | none => .no) = _
  rw [atI_nat (v := f) rfl]
theorem evIdx_at {xs : List D} {i : Int} {d : D} (h : atI xs i = some d) : evIdx (.list xs) (.int i) = .ok d := by
  show (match atI xs _ with | some d => R.ok d | none => .no) = _
  rw [h]
@[simp] theorem seqD_list {xs : List D} : seqD (.list xs) = .ok xs := id rfl
@[simp] theorem seqD_tuple {xs : List D} : seqD (.tuple xs) = .ok xs := id rfl
@[simp] theorem rng1D_int {j : Int} (h0 : -4611686018427387904 ≤ j) (h1 : j < 4611686018427387904) : rng1D [.int j] = .ok (rngD 0 j.toNat) := if_pos (by unfold rngOk; simp [h0, h1])
@[simp] theorem rng2D_int {i j : Int} (h0 : -4611686018427387904 ≤ j) (h1 : j < 4611686018427387904) (h2 : -4611686018427387904 ≤ i) (h3 : i < 4611686018427387904) : rng2D [.int i, .int j] = .ok (rngD i (j - i).toNat) := if_pos (by unfold rngOk; simp [h0, h1, h2, h3])
@[simp] theorem enum1D_list {xs : List D} : enum1D [.list xs] = .ok (enumD 0 xs) := id rfl
@[simp] theorem zip2D_list {xs ys : List D} : zip2D [.list xs, .list ys] = .ok (zipD xs ys) := id rfl
@[simp] theorem evAug_add {i j : Int} : evAug .add (.int i) (.int j) = .ok (.int (i + j)) := id rfl
@[simp] theorem evAug_sub {i j : Int} : evAug .sub (.int i) (.int j) = .ok (.int (i - j)) := id rfl
@[simp] theorem toInt_ok' {i : Int} : toInt (.ok (.int i)) = .ok i := id rfl
@[simp] theorem isD_ii {i : Int} : isD .int (.int i) = true := id rfl
section
variable {T : Sg} {env : Ev} {K : Fl → Prop} {r : Ss}
theorem W_stM {α : Type} {f : α → D} {i : Nat} {xs : List α} {k e : E} (hl : lk env i = some (.list (xs.map f), false)) (ho : T.own i = .lst .sh)
    (h : W (ev T e env) fun d => W (toInt (ev T k env)) fun n => 0 ≤ n ∧ n < xs.length ∧ ∃ y, d = f y ∧ W (evSs T r (put env i (some (.list ((xs.set n.toNat y).map f), false)))) K) : W (evSs T (.cons (.st i .nil k e) r) env) K := by
  refine W_st hl ho (h.imp fun d h => h.imp fun n ⟨h0, h1, y, e, k⟩ => ⟨n.toNat, ixN_nn h0 (by simpa using h1), ?_⟩)
  subst e
  rw [List.map_set] at k
  exact k
theorem W_sauI {i : Nat} {xs : List Int} {k e : E} {op : BOp} (hl : lk env i = some (.list (xs.map PyData.int), false)) (ho : T.own i = .lst .sh)
    (h : W (toInt (ev T k env)) fun n => W (ev T e env) fun y => 0 ≤ n ∧ n < xs.length ∧ W (evAug op (.int (ix xs n)) y) fun z => ∃ m, z = .int m ∧ W (evSs T r (put env i (some (.list ((xs.set n.toNat m).map PyData.int), false)))) K) : W (evSs T (.cons (.sau i .nil k op e) r) env) K := by
  refine W_sau hl ho (h.imp fun n h => h.imp fun y ⟨h0, h1, h⟩ => ⟨n.toNat, .int (ix xs n), ixN_nn h0 (by simpa using h1), ?_, h.imp fun z ⟨m, e, k⟩ => ?_⟩)
  · have := atI_map (f := PyData.int) default h0 h1
    rw [atI_nn h0 (by simpa using h1)] at this
    exact this
  · subst e
    rw [List.map_set] at k
    exact k
theorem W_app1 {i : Nat} {ds es : List D} {k e : E} {n : Int} {j : Nat} (hl : lk env i = some (.list ds, false)) (ho : T.own i = .lst (.lst .sh)) (hk : ev T k env = .ok (.int n)) (hj : ixN ds.length n = some j) (hd : ds[j]? = some (.list es)) (hs : es.length < 16777216)
    (h : W (ev T e env) fun d => W (evSs T r (put env i (some (.list (ds.set j (.list (es ++ [d]))), false)))) K) : W (evSs T (.cons (.app i (.snoc .nil k) e) r) env) K := by
  refine W_cons ?_
  obtain ⟨d, h1, h2⟩ := h
  refine ⟨.nx _, ?_, h2⟩
  show (evPa T (.snoc .nil k) env >>= _) = _
  have hp : evPa T (.snoc .nil k) env = .ok [n] := by
    show (R.ok [] >>= fun ks => toInt (ev T k env) >>= fun k => R.ok (ks ++ [k])) = _
    rw [R.ok_bind, hk]
    rfl
  rw [hp, R.ok_bind, h1]
  show mutE T i [n] (fApp d) env = _
  unfold mutE
  rw [hl, ho]
  simp [updD, hj, hd, fApp, hs]
end
end Pv

/-! part Q: what every law's text holds: cells, numbers, same -/
namespace Pv
open PySem PySem.Spec PyProof.Rows L2
def N_law_cell : List Str := ["script", "k"]
def T_law_cell : Sg := ⟨[], [], [.sh, .sh]⟩
def b_law_cell : Ss := (.cons (.iff (.cmp .lt (.var 1 true) (.bi .len .sh (.cons (.var 0 true) .nil))) (.cons (.ret (.one (.e (.bi .int .sh (.cons (.idx (.var 0 true) (.var 1 true)) .nil))))) .nil) .nil) (.cons (.ret (.one (.e (.cst (.int 0))))) .nil))
def f_law_cell : Fn := ⟨"_law_cell", 2, .sh, runF T_law_cell b_law_cell 2⟩
def N_law_numbers : List Str := ["cell", "count", "limit", "found", "k", "mixed"]
def T_law_numbers : Sg := ⟨[], [], [.sh, .sh, .sh, (.lst .sh), .sh, .sh]⟩
def b_law_numbers : Ss := (.cons (.own 3 (.lst .sh .nil)) (.cons (.iff (.cmp .ge (.var 0 true) (.bin .pow .sh (.cst (.int 10)) (.cst (.int 18)))) (.cons (.fr (.nm 4) (.r1 (.cons (.var 1 true) .nil)) (.cons (.app 3 .nil (.bin .mod .sh (.bi .int .sh (.cons (.var 0 true) .nil)) (.var 2 true))) (.cons (.asg (.nm 0) (.bin .fdiv .sh (.bi .int .sh (.cons (.var 0 true) .nil)) (.var 2 true))) .nil))) (.cons (.ret (.one (.mv 3))) .nil)) .nil) (.cons (.fr (.nm 4) (.r1 (.cons (.var 1 true) .nil)) (.cons (.asg (.nm 5) (.bin .mod .sh (.bi .int .sh (.cons (.bin .add .sh (.bin .add .sh (.bin .mul .sh (.var 0 true) (.cst (.int 48271))) (.bin .mul .sh (.var 4 true) (.cst (.int 69621)))) (.cst (.int 7))) .nil)) (.cst (.int 2147483647)))) (.cons (.asg (.nm 5) (.bin .mod .sh (.bi .int .sh (.cons (.bin .add .sh (.bin .add .sh (.bin .add .sh (.bin .mul .sh (.var 5 true) (.var 5 true)) (.bin .mul .sh (.var 5 true) (.cst (.int 40692)))) (.bin .mul .sh (.var 4 true) (.cst (.int 16807)))) (.cst (.int 11))) .nil)) (.cst (.int 2147483399)))) (.cons (.app 3 .nil (.bin .mod .sh (.bi .int .sh (.cons (.bin .fdiv .sh (.var 5 true) (.cst (.int 32))) .nil)) (.var 2 true))) .nil)))) (.cons (.ret (.one (.mv 3))) .nil))))
def f_law_numbers : Fn := ⟨"_law_numbers", 3, (.lst .sh), runF T_law_numbers b_law_numbers 6⟩
def N_law_same : List Str := ["told", "due", "k"]
def T_law_same (r : Fn) : Sg := ⟨[r], [], [.sh, .sh, .sh]⟩
def b_law_same : Ss := (.cons (.iff (.isi .list (.var 1 true)) (.cons (.iff (.orr (.cons (.nt (.isi .list (.var 0 true))) (.cons (.cmp .ne (.bi .len .sh (.cons (.var 0 true) .nil)) (.bi .len .sh (.cons (.var 1 true) .nil))) .nil))) (.cons (.ret (.one (.e (.cst (.bool false))))) .nil) .nil) .nil) (.cons (.iff (.isi .tuple (.var 1 true)) (.cons (.iff (.orr (.cons (.nt (.isi .tuple (.var 0 true))) (.cons (.cmp .ne (.bi .len .sh (.cons (.var 0 true) .nil)) (.bi .len .sh (.cons (.var 1 true) .nil))) .nil))) (.cons (.ret (.one (.e (.cst (.bool false))))) .nil) .nil) .nil) (.cons (.iff (.cmp .isn (.var 1 true) (.cst .none)) (.cons (.ret (.one (.e (.cmp .isn (.var 0 true) (.cst .none))))) .nil) (.cons (.iff (.isi .bool (.var 1 true)) (.cons (.ret (.one (.e (.an (.cons (.isi .bool (.var 0 true)) (.cons (.cmp .eq (.var 0 true) (.var 1 true)) .nil)))))) .nil) (.cons (.iff (.isi .int (.var 1 true)) (.cons (.ret (.one (.e (.an (.cons (.isi .int (.var 0 true)) (.cons (.nt (.isi .bool (.var 0 true))) (.cons (.cmp .eq (.var 0 true) (.var 1 true)) .nil))))))) .nil) (.cons (.ret (.one (.e (.an (.cons (.isi .str (.var 0 true)) (.cons (.cmp .eq (.var 0 true) (.var 1 true)) .nil)))))) .nil)) .nil)) .nil)) .nil)) .nil)) (.cons (.fr (.nm 2) (.r1 (.cons (.bi .len .sh (.cons (.var 1 true) .nil)) .nil)) (.cons (.iff (.nt (.fn 0 false (.cons (.idx (.var 0 true) (.var 2 true)) (.cons (.idx (.var 1 true) (.var 2 true)) .nil)))) (.cons (.ret (.one (.e (.cst (.bool false))))) .nil) .nil) .nil)) (.cons (.ret (.one (.e (.cst (.bool true))))) .nil)))
def f_law_same : Nat → Fn
  | 0 => ⟨"_law_same", 2, .sh, fun _ => .no⟩
  | k + 1 => ⟨"_law_same", 2, .sh, runF (T_law_same (f_law_same k)) b_law_same 3⟩
theorem ix_nat {α : Type} [Inhabited α] {xs : List α} {k : Nat} : ix xs (k : Int) = xs.getD k default := rfl
theorem cell_ok (ns : List Int) (k : Nat) : f_law_cell.sem [.list (ns.map PyData.int), .int k] = .ok (.int (ns.getD k 0)) := by
  refine run_eq fun K hK => ?_
  refine W_if ?_
  simp (disch := first | omega | (simp; done) | (simp; omega)) [okb, -R.ok_bind, -List.map_append, -List.map_set, -List.map_map, startE]
  refine ⟨fun h => ?_, fun h => ?_⟩
  · refine W_one ?_
    simp (disch := first | omega | (simp; done) | (simp; omega)) [okb, -R.ok_bind, -List.map_append, -List.map_set, -List.map_map, h, ix_nat]
    exact hK.rt _ (by simp [h])
  · refine W_nil ?_
    refine W_one ?_
    simp (disch := first | omega | (simp; done) | (simp; omega)) [okb, -R.ok_bind, -List.map_append, -List.map_set, -List.map_map, h]
    exact hK.rt _ (by simp [h])
theorem numbers_ok (cell : Int) (count : Nat) (limit : Int) (hc : count ≤ 1000) (h0 : 0 < limit) (h1 : limit < 1073741824) :
    ∃ ds : List Int, f_law_numbers.sem [.int cell, .int count, .int limit] = .ok (.list (ds.map PyData.int)) ∧ ds.length = count ∧ ∀ d ∈ ds, 0 ≤ d ∧ d < limit := by
  have key : ∃ d, f_law_numbers.sem [.int cell, .int count, .int limit] = .ok d ∧ ∃ ds : List Int, d = .list (ds.map PyData.int) ∧ ds.length = count ∧ ∀ d ∈ ds, 0 ≤ d ∧ d < limit := by
    refine run_W fun K hK => ?_
    refine W_own ?_
    simp (disch := first | omega | (simp; done) | (simp; omega)) [okb, -R.ok_bind, -List.map_append, -List.map_set, -List.map_map, startE]
    refine W_if ?_
    simp (disch := first | omega | (simp; done) | (simp; omega)) [okb, -R.ok_bind, -List.map_append, -List.map_set, -List.map_map]
    refine ⟨fun h => ?_, fun h => ?_⟩
    · refine W_rng (lo := 0) (n := count) (fun k e => ∃ (c : Int) (ds : List Int) (x4 x5 : Option (D × Bool)), e = [some (.int c, true), some (.int count, true), some (.int limit, true), some (.list (ds.map PyData.int), false), x4, x5] ∧ ds.length = k ∧ ∀ d ∈ ds, 0 ≤ d ∧ d < limit) (by simp (disch := first | omega | (simp; done) | (simp; omega)) [okb, -R.ok_bind, -List.map_append, -List.map_set, -List.map_map]) ⟨_, [], _, _, rfl, rfl, by simp⟩ ?_ ?_
      · rintro k e hk ⟨c, ds, x4, x5, rfl, hl, hd⟩ K' hT
        simp (disch := first | omega | (simp; done) | (simp; omega)) [okb, -R.ok_bind, -List.map_append, -List.map_set, -List.map_map]
        refine W_appM (f := PyData.int) rfl rfl (by omega) ?_
        simp (disch := first | omega | (simp; done) | (simp; omega)) [okb, -R.ok_bind, -List.map_append, -List.map_set, -List.map_map]
        refine W_nm ?_
        simp (disch := first | omega | (simp; done) | (simp; omega)) [okb, -R.ok_bind, -List.map_append, -List.map_set, -List.map_map]
        refine W_nil (hT.nx _ ⟨_, ds ++ [c % limit], _, _, rfl, by simp [hl], ?_⟩)
        have := Int.emod_nonneg c (by omega : limit ≠ 0)
        have := Int.emod_lt_of_pos c h0
        intro d hd'
        rcases List.mem_append.mp hd' with z | z
        · exact hd d z
        · rw [List.mem_singleton.mp z]; omega
      · rintro e ⟨c, ds, x4, x5, rfl, hl, hd⟩
        exact W_mv rfl (hK.rt _ ⟨ds, rfl, hl, hd⟩)
    · refine W_nil ?_
      simp (disch := first | omega | (simp; done) | (simp; omega)) [okb, -R.ok_bind, -List.map_append, -List.map_set, -List.map_map]
      refine W_rng (lo := 0) (n := count) (fun k e => ∃ (ds : List Int) (x4 x5 : Option (D × Bool)), e = [some (.int cell, true), some (.int count, true), some (.int limit, true), some (.list (ds.map PyData.int), false), x4, x5] ∧ ds.length = k ∧ ∀ d ∈ ds, 0 ≤ d ∧ d < limit) (by simp (disch := first | omega | (simp; done) | (simp; omega)) [okb, -R.ok_bind, -List.map_append, -List.map_set, -List.map_map]) ⟨[], _, _, rfl, rfl, by simp⟩ ?_ ?_
      · rintro k e hk ⟨ds, x4, x5, rfl, hl, hd⟩ K' hT
        simp (disch := first | omega | (simp; done) | (simp; omega)) [okb, -R.ok_bind, -List.map_append, -List.map_set, -List.map_map]
        refine W_nm ?_
        simp (disch := first | omega | (simp; done) | (simp; omega)) [okb, -R.ok_bind, -List.map_append, -List.map_set, -List.map_map]
        have a1 := Int.emod_nonneg (cell * 48271 + k * 69621 + 7) (by omega : (2147483647 : Int) ≠ 0)
        have a2 := Int.emod_lt_of_pos (cell * 48271 + k * 69621 + 7) (by omega : (0 : Int) < 2147483647)
        generalize (cell * 48271 + k * 69621 + 7) % 2147483647 = m at a1 a2 ⊢
        refine W_nm ?_
        simp (disch := first | omega | (simp; done) | (simp; omega)) [okb, -R.ok_bind, -List.map_append, -List.map_set, -List.map_map]
        refine W_appM (f := PyData.int) rfl rfl (by omega) ?_
        simp (disch := first | omega | (simp; done) | (simp; omega)) [okb, -R.ok_bind, -List.map_append, -List.map_set, -List.map_map]
        refine W_nil (hT.nx _ ⟨ds ++ [_], _, _, rfl, by simp [hl], ?_⟩)
        intro d hd'
        rcases List.mem_append.mp hd' with z | z
        · exact hd d z
        · rw [List.mem_singleton.mp z]
          exact ⟨Int.emod_nonneg _ (by omega), Int.emod_lt_of_pos _ h0⟩
      · rintro e ⟨ds, x4, x5, rfl, hl, hd⟩
        exact W_mv rfl (hK.rt _ ⟨ds, rfl, hl, hd⟩)
  obtain ⟨_, h, ds, rfl, h2⟩ := key
  exact ⟨ds, h, h2⟩
/-- data that `same` goes through at this depth -/
def okN (d : Nat) (l : Nat) : Bool := decide (l < 4611686018427387904)
mutual
def okD : Nat → D → Bool
  | 0, _ => false
  | n + 1, d => match d with
    | .list ds => decide (ds.length < 4611686018427387904) && okL n ds
    | .tuple ds => decide (ds.length < 4611686018427387904) && okL n ds
    | .dict _ => false
    | .str s => SeqAt.shaped (.str s)
    | _ => true
def okL : Nat → List D → Bool
  | _, [] => true
  | n, d :: ds => okD n d && okL n ds
end
theorem okL_all {n : Nat} : ∀ {ds : List D}, okL n ds = true → ∀ d ∈ ds, okD n d = true
  | d :: ds, h, x, hx => by
    unfold okL at h
    have h' := Bool.and_eq_true_iff.mp h
    rcases List.mem_cons.mp hx with e | e
    · exact e ▸ h'.1
    · exact okL_all h'.2 x e
@[simp] theorem isD_list {t : Ty} {ds : List D} : isD t (.list ds) = decide (t = .list) := by cases t <;> rfl
@[simp] theorem isD_tuple {t : Ty} {ds : List D} : isD t (.tuple ds) = decide (t = .tuple) := by cases t <;> rfl
@[simp] theorem isD_none {t : Ty} : isD t .none = false := by cases t <;> rfl
@[simp] theorem isD_bool {t : Ty} {b : Bool} : isD t (.bool b) = decide (t = .bool ∨ t = .int) := by cases t <;> rfl
@[simp] theorem isD_int {t : Ty} {i : Int} : isD t (.int i) = decide (t = .int) := by cases t <;> rfl
@[simp] theorem isD_str {t : Ty} {s : Str} : isD t (.str s) = decide (t = .str) := by cases t <;> rfl
theorem evCmp_isn {x : D} : evCmp .isn x .none = .ok (isNone x) := rfl
theorem evCmp_eqb {b : Bool} : evCmp .eq (.bool b) (.bool b) = .ok true := by cases b <;> rfl
theorem evCmp_eqs {s : Str} (h : SeqAt.shaped (.str s) = true) : evCmp .eq (.str s) (.str s) = .ok true := by
  show (if SeqAt.shaped (.str s) = true ∧ SeqAt.shaped (.str s) = true then R.ok (PyData.eqv (.str s) (.str s)) else .no) = _
  rw [if_pos ⟨h, h⟩]
  simp [PyData.eqv]
theorem same_ok : ∀ (n : Nat) (d : D), okD n d = true → (f_law_same n).sem [d, d] = .ok (.bool true)
  | 0, d, h => by
    unfold okD at h
    cases h
  | n + 1, d, h => by
    have ih := same_ok n
    unfold f_law_same
    show runF (T_law_same (f_law_same n)) b_law_same 3 [d, d] = _
    refine run_eq fun K hK => ?_
    have loop : ∀ ds : List D, ds.length < 4611686018427387904 → okL n ds = true → (∀ k : Nat, k < ds.length → evIdx d (.int k) = .ok (ds.getD k .none)) → evBi .len .sh [d] = .ok (.int ds.length) →
        W (evSs (T_law_same (f_law_same n)) (.cons (.fr (.nm 2) (.r1 (.cons (.bi .len .sh (.cons (.var 1 true) .nil)) .nil)) (.cons (.iff (.nt (.fn 0 false (.cons (.idx (.var 0 true) (.var 2 true)) (.cons (.idx (.var 1 true) (.var 2 true)) .nil)))) (.cons (.ret (.one (.e (.cst (.bool false))))) .nil) .nil) .nil)) (.cons (.ret (.one (.e (.cst (.bool true))))) .nil)) [some (d, true), some (d, true), none]) K := by
      intro ds hl ho hi hn
      refine W_rng (lo := 0) (n := ds.length) (fun k e => ∃ x, e = [some (d, true), some (d, true), x]) (by simp (disch := first | omega | (simp; done) | (simp; omega)) [okb, -R.ok_bind, -List.map_append, -List.map_set, -List.map_map, hn]) ⟨_, rfl⟩ ?_ ?_
      · rintro k e hk ⟨x, rfl⟩ K' hT
        simp (disch := first | omega | (simp; done) | (simp; omega)) [okb, -R.ok_bind, -List.map_append, -List.map_set, -List.map_map]
        refine W_if ?_
        have hf : evF (T_law_same (f_law_same n)) 0 false [ds.getD k .none, ds.getD k .none] = .ok (.bool true) := by
          show evFn (f_law_same n) false _ = _
          unfold evFn
          rw [if_pos (by cases n <;> rfl), ih]
          · rfl
          · refine okL_all ho _ ?_
            rw [List.getD_eq_getElem?_getD, List.getElem?_eq_getElem hk]
            exact List.getElem_mem hk
        have hk' := hi k hk
        generalize ds.getD k .none = z at hf hk'
        simp (disch := first | omega | (simp; done) | (simp; omega)) [okb, -R.ok_bind, -List.map_append, -List.map_set, -List.map_map, hk', hf]
        exact W_nil (W_nil (hT.nx _ ⟨_, rfl⟩))
      · rintro e ⟨x, rfl⟩
        refine W_one ?_
        simp (disch := first | omega | (simp; done) | (simp; omega)) [okb, -R.ok_bind, -List.map_append, -List.map_set, -List.map_map]
        exact hK.rt _ rfl
    refine W_if ?_
    simp (disch := first | omega | (simp; done) | (simp; omega)) [okb, -R.ok_bind, -List.map_append, -List.map_set, -List.map_map, startE]
    cases d with
    | list ds =>
      have h' := Bool.and_eq_true_iff.mp (show (decide (ds.length < 4611686018427387904) && okL n ds) = true from h)
      simp (disch := first | omega | (simp; done) | (simp; omega)) [okb, -R.ok_bind, -List.map_append, -List.map_set, -List.map_map]
      refine W_if ?_
      simp (disch := first | omega | (simp; done) | (simp; omega)) [okb, -R.ok_bind, -List.map_append, -List.map_set, -List.map_map]
      exact W_nil (W_nil (loop ds (of_decide_eq_true h'.1) h'.2 (fun k hk => evIdx_at (atI_nat (by rw [List.getD_eq_getElem?_getD, List.getElem?_eq_getElem hk]; rfl))) rfl))
    | tuple ds =>
      have h' := Bool.and_eq_true_iff.mp (show (decide (ds.length < 4611686018427387904) && okL n ds) = true from h)
      simp (disch := first | omega | (simp; done) | (simp; omega)) [okb, -R.ok_bind, -List.map_append, -List.map_set, -List.map_map]
      refine W_if ?_
      simp (disch := first | omega | (simp; done) | (simp; omega)) [okb, -R.ok_bind, -List.map_append, -List.map_set, -List.map_map]
      refine W_if ?_
      simp (disch := first | omega | (simp; done) | (simp; omega)) [okb, -R.ok_bind, -List.map_append, -List.map_set, -List.map_map]
      refine W_nil (W_nil (W_nil (loop ds (of_decide_eq_true h'.1) h'.2 (fun k hk => ?_) rfl)))
      show (match atI ds _ with | some d => R.ok d | none => .no) = _
      rw [atI_nat (v := ds.getD k .none) (by rw [List.getD_eq_getElem?_getD, List.getElem?_eq_getElem hk]; rfl)]
    | dict _ => cases h
    | none =>
      simp (disch := first | omega | (simp; done) | (simp; omega)) [okb, -R.ok_bind, -List.map_append, -List.map_set, -List.map_map]
      refine W_if ?_
      simp (disch := first | omega | (simp; done) | (simp; omega)) [okb, -R.ok_bind, -List.map_append, -List.map_set, -List.map_map]
      refine W_if ?_
      simp (disch := first | omega | (simp; done) | (simp; omega)) [okb, -R.ok_bind, -List.map_append, -List.map_set, -List.map_map]
      refine W_one ?_
      simp (disch := first | omega | (simp; done) | (simp; omega)) [okb, -R.ok_bind, -List.map_append, -List.map_set, -List.map_map]
      exact hK.rt _ rfl
    | bool b =>
      simp (disch := first | omega | (simp; done) | (simp; omega)) [okb, -R.ok_bind, -List.map_append, -List.map_set, -List.map_map]
      refine W_if ?_
      simp (disch := first | omega | (simp; done) | (simp; omega)) [okb, -R.ok_bind, -List.map_append, -List.map_set, -List.map_map]
      refine W_if ?_
      simp (disch := first | omega | (simp; done) | (simp; omega)) [okb, -R.ok_bind, -List.map_append, -List.map_set, -List.map_map]
      refine W_if ?_
      simp (disch := first | omega | (simp; done) | (simp; omega)) [okb, -R.ok_bind, -List.map_append, -List.map_set, -List.map_map]
      refine W_one ?_
      simp (disch := first | omega | (simp; done) | (simp; omega)) [okb, -R.ok_bind, -List.map_append, -List.map_set, -List.map_map, evCmp_eqb]
      exact hK.rt _ rfl
    | int i =>
      simp (disch := first | omega | (simp; done) | (simp; omega)) [okb, -R.ok_bind, -List.map_append, -List.map_set, -List.map_map]
      refine W_if ?_
      simp (disch := first | omega | (simp; done) | (simp; omega)) [okb, -R.ok_bind, -List.map_append, -List.map_set, -List.map_map]
      refine W_if ?_
      simp (disch := first | omega | (simp; done) | (simp; omega)) [okb, -R.ok_bind, -List.map_append, -List.map_set, -List.map_map]
      refine W_if ?_
      simp (disch := first | omega | (simp; done) | (simp; omega)) [okb, -R.ok_bind, -List.map_append, -List.map_set, -List.map_map]
      refine W_if ?_
      simp (disch := first | omega | (simp; done) | (simp; omega)) [okb, -R.ok_bind, -List.map_append, -List.map_set, -List.map_map]
      refine W_one ?_
      simp (disch := first | omega | (simp; done) | (simp; omega)) [okb, -R.ok_bind, -List.map_append, -List.map_set, -List.map_map]
      exact hK.rt _ rfl
    | str s =>
      simp (disch := first | omega | (simp; done) | (simp; omega)) [okb, -R.ok_bind, -List.map_append, -List.map_set, -List.map_map]
      refine W_if ?_
      simp (disch := first | omega | (simp; done) | (simp; omega)) [okb, -R.ok_bind, -List.map_append, -List.map_set, -List.map_map]
      refine W_if ?_
      simp (disch := first | omega | (simp; done) | (simp; omega)) [okb, -R.ok_bind, -List.map_append, -List.map_set, -List.map_map]
      refine W_if ?_
      simp (disch := first | omega | (simp; done) | (simp; omega)) [okb, -R.ok_bind, -List.map_append, -List.map_set, -List.map_map]
      refine W_if ?_
      simp (disch := first | omega | (simp; done) | (simp; omega)) [okb, -R.ok_bind, -List.map_append, -List.map_set, -List.map_map]
      refine W_one ?_
      simp (disch := first | omega | (simp; done) | (simp; omega)) [okb, -R.ok_bind, -List.map_append, -List.map_set, -List.map_map, evCmp_eqs (show SeqAt.shaped (.str s) = true from h)]
      exact hK.rt _ rfl
end Pv

/-! part R: types that data bear -/
namespace Pv
open PySem PySem.Spec PyProof.Rows L2
class Enc (α : Type) where
  enc : α → D
  dep : Nat
  lay : ∀ a, PyData.canLay0 (enc a) = true
  depth : ∀ a, PyData.depth (enc a) ≤ dep
  inj : ∀ a b, PyData.eqv (enc a) (enc b) = true ↔ a = b
open Enc (enc)
@[reducible] instance : Enc Int := ⟨PyData.int, 0, fun _ => rfl, fun _ => Nat.le_refl _, fun a b => by rw [eqv_int]; simp⟩
@[reducible] instance : Enc Bool := ⟨PyData.bool, 0, fun _ => rfl, fun _ => Nat.le_refl _, fun a b => by cases a <;> cases b <;> simp [PyData.eqv]⟩
section
variable {α β γ δ : Type} [Enc α] [Enc β] [Enc γ] [Enc δ]
theorem layAll : ∀ xs : List α, PyData.canLayAll0 (xs.map enc) = true
  | [] => rfl
  | x :: xs => by
    show (PyData.canLay0 (enc x) && PyData.canLayAll0 (xs.map enc)) = true
    rw [Enc.lay, layAll xs]; rfl
theorem depAll : ∀ xs : List α, PyData.depthAll (xs.map enc) ≤ Enc.dep α
  | [] => Nat.zero_le _
  | x :: xs => by
    show max (PyData.depth (enc x)) (PyData.depthAll (xs.map enc)) ≤ _
    have := Enc.depth x
    have := depAll xs
    omega
theorem eqvAll_enc : ∀ xs ys : List α, PyData.eqvAll (xs.map enc) (ys.map enc) = true ↔ xs = ys
  | [], [] => by simp [PyData.eqvAll]
  | [], y :: ys => by simp [PyData.eqvAll]
  | x :: xs, [] => by simp [PyData.eqvAll]
  | x :: xs, y :: ys => by
    simp only [List.map_cons, PyData.eqvAll, Bool.and_eq_true, Enc.inj, eqvAll_enc xs ys, List.cons.injEq]
@[reducible] instance : Enc (List α) := ⟨fun xs => .list (xs.map enc), Enc.dep α + 1, fun xs => layAll xs, fun xs => by
  show PyData.depthAll _ + 1 ≤ _
  have := depAll xs
  omega, fun xs ys => by
  show PyData.eqvAll _ _ = true ↔ _
  exact eqvAll_enc xs ys⟩
class NN (α : Type) [Enc α] : Prop where
  l : ∀ a : α, PyData.eqv .none (enc a) = false
  r : ∀ a : α, PyData.eqv (enc a) .none = false
  n : ∀ a : α, isNone (enc a) = false
instance : NN Int := ⟨fun _ => rfl, fun _ => rfl, fun _ => rfl⟩
instance : NN (List α) := ⟨fun _ => rfl, fun _ => rfl, fun _ => rfl⟩
def encO : Option α → D
  | none => .none
  | some a => enc a
@[reducible] instance [NN α] : Enc (Option α) := ⟨encO, Enc.dep α, fun a => by cases a; rfl; exact Enc.lay _, fun a => by cases a; exact Nat.zero_le _; exact Enc.depth _, fun a b => by
  cases a <;> cases b
  · simp [encO, PyData.eqv]
  · simp [encO, NN.l]
  · simp [encO, NN.r]
  · simp [encO, Enc.inj]⟩
@[simp] theorem enc_none [NN α] : enc (none : Option α) = PyData.none := rfl
@[simp] theorem enc_some [NN α] (a : α) : enc (some a) = enc a := rfl
theorem isn_enc [NN α] (a : Option α) : evCmp .isn (enc a) .none = .ok (a.isNone) := by
  cases a with
  | none => rfl
  | some a => show R.ok (isNone (enc a)) = _; rw [NN.n]; rfl
theorem notn_enc [NN α] (a : Option α) : evCmp .notn (enc a) .none = .ok (a.isSome) := by
  cases a with
  | none => rfl
  | some a => show R.ok (!isNone (enc a)) = _; rw [NN.n]; rfl
theorem isNone_enc [NN α] (a : Option α) : isNone (enc a) = a.isNone := by
  cases a with
  | none => rfl
  | some a => show isNone (enc a) = _; rw [NN.n]; rfl
@[simp] theorem isNone_NN [NN α] (a : α) : isNone (enc a) = false := NN.n a
structure T2 (α β : Type) where
  a : α
  b : β
  deriving DecidableEq, Inhabited
structure T3 (α β γ : Type) where
  a : α
  b : β
  c : γ
  deriving DecidableEq, Inhabited
structure T4 (α β γ δ : Type) where
  a : α
  b : β
  c : γ
  d : δ
  deriving DecidableEq, Inhabited
@[simp] theorem enc_int : (enc : Int → D) = PyData.int := rfl
@[simp] theorem enc_bool : (enc : Bool → D) = PyData.bool := rfl
@[simp] theorem enc_list (xs : List α) : enc xs = PyData.list (xs.map enc) := id rfl
theorem layC {x : D} {xs : List D} (h : PyData.canLay0 x = true) (h' : PyData.canLayAll0 xs = true) : PyData.canLayAll0 (x :: xs) = true := by
  show (PyData.canLay0 x && PyData.canLayAll0 xs) = true
  rw [h, h']; rfl
theorem depC {x : D} {xs : List D} {n : Nat} (h : PyData.depth x ≤ n) (h' : PyData.depthAll xs ≤ n) : PyData.depthAll (x :: xs) ≤ n := by
  show max (PyData.depth x) (PyData.depthAll xs) ≤ _
  omega
@[reducible] instance : Enc (T2 α β) := ⟨fun p => .tuple [enc p.a, enc p.b], max (Enc.dep α) (Enc.dep β) + 1,
  fun p => layC (Enc.lay _) (layC (Enc.lay _) rfl),
  fun p => Nat.succ_le_succ (depC (Nat.le_trans (Enc.depth p.a) (by omega)) (depC (Nat.le_trans (Enc.depth p.b) (by omega)) (Nat.zero_le _))),
  fun ⟨a, b⟩ ⟨a', b'⟩ => by
    show PyData.eqvAll _ _ = true ↔ _
    simp [PyData.eqvAll, Enc.inj]⟩
@[reducible] instance : Enc (T3 α β γ) := ⟨fun p => .tuple [enc p.a, enc p.b, enc p.c], max (max (Enc.dep α) (Enc.dep β)) (Enc.dep γ) + 1,
  fun p => layC (Enc.lay _) (layC (Enc.lay _) (layC (Enc.lay _) rfl)),
  fun p => Nat.succ_le_succ (depC (Nat.le_trans (Enc.depth p.a) (by omega)) (depC (Nat.le_trans (Enc.depth p.b) (by omega)) (depC (Nat.le_trans (Enc.depth p.c) (by omega)) (Nat.zero_le _)))),
  fun ⟨a, b, c⟩ ⟨a', b', c'⟩ => by
    show PyData.eqvAll _ _ = true ↔ _
    simp [PyData.eqvAll, Enc.inj]⟩
@[simp] theorem enc_T2 (p : T2 α β) : enc p = PyData.tuple [enc p.a, enc p.b] := id rfl
@[simp] theorem enc_T3 (p : T3 α β γ) : enc p = PyData.tuple [enc p.a, enc p.b, enc p.c] := id rfl
instance : NN (T2 α β) := ⟨fun _ => rfl, fun _ => rfl, fun _ => rfl⟩
instance : NN (T3 α β γ) := ⟨fun _ => rfl, fun _ => rfl, fun _ => rfl⟩
theorem shaped_enc (h : Enc.dep α ≤ 64) (a : α) : SeqAt.shaped (enc a) = true := by
  unfold SeqAt.shaped
  rw [Enc.lay, decide_eq_true (Nat.le_trans (Enc.depth a) h)]
  rfl
theorem eq_enc [DecidableEq α] (a b : α) (h : Enc.dep α ≤ 64 := by decide) : evCmp .eq (enc a) (enc b) = .ok (decide (a = b)) := by
  show (if _ ∧ _ then R.ok (PyData.eqv (enc a) (enc b)) else .no) = _
  rw [if_pos ⟨shaped_enc h a, shaped_enc h b⟩]
  congr 1
  rw [Bool.eq_iff_iff, Enc.inj, decide_eq_true_iff]
theorem ne_enc [DecidableEq α] (a b : α) (h : Enc.dep α ≤ 64 := by decide) : evCmp .ne (enc a) (enc b) = .ok (!decide (a = b)) := by
  show (if _ ∧ _ then R.ok (!PyData.eqv (enc a) (enc b)) else .no) = _
  rw [if_pos ⟨shaped_enc h a, shaped_enc h b⟩]
  congr 2
  rw [Bool.eq_iff_iff, Enc.inj, decide_eq_true_iff]
theorem in_enc [DecidableEq α] (a : α) (xs : List α) (h : Enc.dep α ≤ 63 := by decide) : evCmp .isin (enc a) (enc xs) = .ok (decide (a ∈ xs)) := by
  have h2 : Enc.dep (List α) ≤ 64 := by show Enc.dep α + 1 ≤ 64; omega
  show (if SeqAt.shaped (enc a) = true ∧ SeqAt.shaped (enc xs) = true then R.ok ((xs.map enc).any fun z => PyData.eqv z (enc a)) else .no) = _
  rw [if_pos ⟨shaped_enc (by omega) a, shaped_enc h2 xs⟩]
  congr 1
  rw [Bool.eq_iff_iff, List.any_eq_true, decide_eq_true_iff]
  constructor
  · rintro ⟨z, hz, e⟩
    obtain ⟨x, hx, rfl⟩ := List.mem_map.mp hz
    have := (Enc.inj _ _).mp e
    exact this ▸ hx
  · intro h
    exact ⟨_, List.mem_map_of_mem h, (Enc.inj _ _).mpr rfl⟩
end
theorem enumD_map {α : Type} {f : α → D} : ∀ {xs : List α} {n : Nat}, enumD n (xs.map f) = (xs.zipIdx n).map fun p => PyData.tuple [.int p.2, f p.1]
  | [], _ => rfl
  | x :: xs, n => by
    show _ :: enumD (n + 1) (xs.map f) = _
    rw [enumD_map, List.zipIdx_cons]
    rfl
theorem zipD_map {α β : Type} {f : α → D} {g : β → D} : ∀ {xs : List α} {ys : List β}, zipD (xs.map f) (ys.map g) = (xs.zip ys).map fun p => PyData.tuple [f p.1, g p.2]
  | [], _ => rfl
  | _ :: _, [] => rfl
  | x :: xs, y :: ys => by
    show _ :: zipD (xs.map f) (ys.map g) = _
    rw [zipD_map]
    rfl
theorem step_eq {g : G} {ws : List Nat} {ft : Ev → R Bool} {fe : Ev → R D} {env : Ev} {x : D} : step g ws ft fe env x = (match gset g x (wipeE env ws) with
  | .ok env1 => match ft env1 with
    | .ok true => match fe env1 with
      | .ok d => .ok (some d)
      | _ => .no
    | .ok false => .ok none
    | _ => .no
  | _ => .no) := id rfl
theorem evF_ok {T : Sg} {i : Nat} {fn : Fn} {ds : List D} {d : D} (h : T.fns[i]? = some fn) (hs : fn.sem ds = .ok d) (hn : ds.length = fn.n := by rfl) : evF T i false ds = .ok d := by
  unfold evF
  rw [h]
  show evFn fn false ds = _
  unfold evFn
  rw [if_pos hn, hs]
  rfl
theorem evF_okC {T : Sg} {i : Nat} {fn : Fn} {ds : List D} {d : D} (h : T.fns[i]? = some fn) (hs : fn.sem ds = .ok d) (hc : cln fn.own d = true) (hn : ds.length = fn.n := by rfl) : evF T i true ds = .ok d := by
  unfold evF
  rw [h]
  show evFn fn true ds = _
  unfold evFn
  rw [if_pos hn, hs]
  show (if _ then _ else _) = _
  rw [if_pos rfl, if_pos hc]
theorem flatMap_filterMap_nil {α : Type} : ([] : List α) = [] := rfl
theorem ix_set {α : Type} [Inhabited α] {xs : List α} {i j : Int} {x : α} (h0 : 0 ≤ i) (h1 : i < xs.length) (h2 : 0 ≤ j) : ix (xs.set i.toNat x) j = if i = j then x else ix xs j := by
  unfold ix
  simp only [List.getD_eq_getElem?_getD, List.getElem?_set]
  by_cases e : i = j
  · subst e
    rw [if_pos rfl, if_pos rfl, if_pos (by omega)]
    rfl
  · rw [if_neg (by omega), if_neg e]
theorem sIx_nn {n d : Nat} {i : Int} (h : 0 ≤ i) : HT.sIx n d (some i) = min i.toNat n := if_neg (by omega)
theorem cut_nn {xs : List D} {i j : Int} (h0 : 0 ≤ i) (h1 : 0 ≤ j) : cutD xs (some i) (some j) = (xs.drop i.toNat).take (j.toNat - i.toNat) := by
  unfold cutD
  rw [sIx_nn h0, sIx_nn h1]
  by_cases h : i.toNat ≤ xs.length
  · rw [Nat.min_eq_left h]
    by_cases h2 : j.toNat ≤ xs.length
    · rw [Nat.min_eq_left h2]
    · rw [Nat.min_eq_right (by omega), List.take_of_length_le (by simp), List.take_of_length_le (by simp; omega)]
  · have e : min i.toNat xs.length = xs.length := by omega
    rw [e, List.drop_of_length_le (Nat.le_refl _), List.drop_of_length_le (by omega)]
    simp
theorem cut_nx {xs : List D} {i : Int} (h0 : 0 ≤ i) : cutD xs (some i) none = xs.drop i.toNat := by
  unfold cutD
  rw [sIx_nn h0, HT.sIx_none]
  by_cases h : i.toNat ≤ xs.length
  · rw [Nat.min_eq_left h, List.take_of_length_le (by simp)]
  · have e : min i.toNat xs.length = xs.length := by omega
    rw [e, List.drop_of_length_le (Nat.le_refl _), List.drop_of_length_le (by omega)]
    simp
theorem cut_xn {xs : List D} {j : Int} (h1 : 0 ≤ j) : cutD xs none (some j) = xs.take j.toNat := by
  unfold cutD
  rw [sIx_nn h1, HT.sIx_none]
  simp [← List.take_eq_take_min]
@[simp] theorem evSl_nn {o : Own} {xs : List D} {i j : Int} (h0 : 0 ≤ i) (h1 : 0 ≤ j) : evSl o (.list xs) (some i) (some j) = .ok (.list ((xs.drop i.toNat).take (j.toNat - i.toNat))) := by
  show R.ok (PyData.list (cutD xs (some i) (some j))) = _
  rw [cut_nn h0 h1]
@[simp] theorem evSl_nx {o : Own} {xs : List D} {i : Int} (h0 : 0 ≤ i) : evSl o (.list xs) (some i) none = .ok (.list (xs.drop i.toNat)) := by
  show R.ok (PyData.list (cutD xs (some i) none)) = _
  rw [cut_nx h0]
@[simp] theorem evSl_xn {o : Own} {xs : List D} {j : Int} (h1 : 0 ≤ j) : evSl o (.list xs) none (some j) = .ok (.list (xs.take j.toNat)) := by
  show R.ok (PyData.list (cutD xs none (some j))) = _
  rw [cut_xn h1]
theorem fm_none {α β : Type} {F : α → Option β} {a : List α} {p : α} (h : F p = none) : (a ++ [p]).filterMap F = a.filterMap F := by simp [List.filterMap_append, h]
theorem fm_some {α β : Type} {F : α → Option β} {a : List α} {p : α} {y : β} (h : F p = some y) : (a ++ [p]).filterMap F = a.filterMap F ++ [y] := by simp [List.filterMap_append, h]
theorem fm_snoc {α β : Type} {F : α → Option β} {a : List α} {p : α} : (a ++ [p]).filterMap F = a.filterMap F ++ (F p).toList := by
  cases h : F p <;> simp [List.filterMap_append, h]
theorem flatMap_snoc {α β : Type} (f : α → List β) (xs : List α) (x : α) : (xs ++ [x]).flatMap f = xs.flatMap f ++ f x := by simp
theorem flat_one {α : Type} (x : α) : ∀ n : Nat, (List.replicate n [x]).flatten = List.replicate n x
  | 0 => rfl
  | n + 1 => by rw [List.replicate_succ, List.replicate_succ, List.flatten_cons, flat_one x n]; rfl
theorem zip_range {α : Type} [Inhabited α] (xs : List α) : xs.zipIdx = (List.range xs.length).map fun k : Nat => (ix xs k, k) := by
  refine List.ext_getElem (by simp) fun i h1 h2 => ?_
  simp at h1
  simp [ix, List.getElem?_eq_getElem h1]
theorem enumD_rng {α : Type} [Inhabited α] {f : α → D} {xs : List α} : enumD 0 (xs.map f) = (List.range xs.length).map fun k : Nat => PyData.tuple [.int k, f (ix xs k)] := by
  rw [enumD_map, zip_range, List.map_map]
  rfl
theorem find_range {P : Nat → Bool} {n k : Nat} (hk : k < n) (h : P k = true) (hn : ∀ j, j < k → P j = false) : (List.range n).find? P = some k := by
  rw [List.find?_range_eq_some]
  exact ⟨h, List.mem_range.mpr hk, fun j hj => by rw [hn j hj]; rfl⟩
theorem find_none {P : Nat → Bool} {n : Nat} (hn : ∀ j, j < n → P j = false) : (List.range n).find? P = none := by
  rw [List.find?_range_eq_none]
  exact fun j hj => by rw [hn j hj]; rfl
@[simp] theorem evSl_xnT {xs : List D} {j : Int} (h1 : 0 ≤ j) : evSl .sh (.tuple xs) none (some j) = .ok (.tuple (xs.take j.toNat)) := by
  show (if Own.sh = .sh then R.ok (PyData.tuple (cutD xs none (some j))) else .no) = _
  rw [if_pos rfl, cut_xn h1]
@[simp] theorem evSl_nxT {xs : List D} {i : Int} (h0 : 0 ≤ i) : evSl .sh (.tuple xs) (some i) none = .ok (.tuple (xs.drop i.toNat)) := by
  show (if Own.sh = .sh then R.ok (PyData.tuple (cutD xs (some i) none)) else .no) = _
  rw [if_pos rfl, cut_nx h0]
@[simp] theorem evSl_nnT {xs : List D} {i j : Int} (h0 : 0 ≤ i) (h1 : 0 ≤ j) : evSl .sh (.tuple xs) (some i) (some j) = .ok (.tuple ((xs.drop i.toNat).take (j.toNat - i.toNat))) := by
  show (if Own.sh = .sh then R.ok (PyData.tuple (cutD xs (some i) (some j))) else .no) = _
  rw [if_pos rfl, cut_nn h0 h1]
theorem evIn_t2 {r a b : Int} : evIn (.int r) (.tuple [.int a, .int b]) = .ok (decide (r = a ∨ r = b)) := by
  show (if flatD (.int r) = true ∧ flats [.int a, .int b] = true then R.ok (List.any [PyData.int a, .int b] fun z => PyData.eqv z (.int r)) else .no) = _
  rw [if_pos ⟨rfl, rfl⟩]
  simp only [List.any_cons, List.any_nil, Bool.or_false, eqv_int]
  congr 1
  rw [Bool.eq_iff_iff]
  simp only [Bool.or_eq_true, decide_eq_true_eq]
  exact ⟨fun h => h.imp Eq.symm Eq.symm, fun h => h.imp Eq.symm Eq.symm⟩
@[simp] theorem evCmp_notin {x y : D} : evCmp .notin x y = evIn x y >>= fun b => .ok (!b) := id rfl
theorem evCmp_isin {x y : D} : evCmp .isin x y = evIn x y := id rfl
theorem ix_mem {α : Type} [Inhabited α] {xs : List α} {i : Int} (h0 : 0 ≤ i) (h1 : i < xs.length) : ix xs i ∈ xs := by
  have : i.toNat < xs.length := by omega
  simp [ix, List.getElem?_eq_getElem this]
theorem mem_ix {α : Type} [Inhabited α] {xs : List α} {x : α} (h : x ∈ xs) : ∃ i : Nat, i < xs.length ∧ ix xs (i : Int) = x := by
  obtain ⟨i, hi, e⟩ := List.getElem_of_mem h
  exact ⟨i, hi, by rw [← e]; simp [ix, List.getElem?_eq_getElem hi]⟩
theorem dr_bd {ds : List Int} {L : Int} (hL : 0 < L) (h : ∀ d ∈ ds, 0 ≤ d ∧ d < L) (i : Int) : 0 ≤ ix ds i ∧ ix ds i < L := by
  unfold ix
  rw [List.getD_eq_getElem?_getD]
  cases e : ds[i.toNat]? with
  | none => exact ⟨by simp, by simpa using hL⟩
  | some x => exact h x (List.mem_of_getElem? e)
theorem mod_wrap {x n : Int} (h0 : n ≤ x) (h1 : x < 2 * n) : x % n = x - n := by
  have : x = (x - n) + n := by omega
  rw [this, Int.add_emod_right, Int.emod_eq_of_lt (by omega) (by omega)]
  omega
theorem mod_turn {s q n : Int} (h0 : 0 ≤ s) (h1 : s < n) (h2 : 0 ≤ q) (h3 : q < n - 1) : 0 ≤ (s + 1 + q) % n ∧ (s + 1 + q) % n < n ∧ s ≠ (s + 1 + q) % n := by
  by_cases h : s + 1 + q < n
  · rw [Int.emod_eq_of_lt (by omega) h]
    omega
  · rw [mod_wrap (by omega) (by omega)]
    omega
theorem ne_refl {x : D} (h : SeqAt.shaped x = true) : evCmp .ne x x = .ok false := by
  show (if SeqAt.shaped x = true ∧ SeqAt.shaped x = true then R.ok (!PyData.eqv x x) else .no) = _
  rw [if_pos ⟨h, h⟩, SeqAt.eqv_refl x (SeqAt.canLay_of_shaped h)]
  rfl
theorem set_cut {α : Type} {xs : List α} {k : Nat} {x : α} (h : k < xs.length) : xs.take k ++ [x] ++ xs.drop (k + 1) = xs.set k x := by
  rw [List.set_eq_take_append_cons_drop, if_pos h, List.append_assoc]
  rfl
theorem W_any {α : Type} [Enc α] (P : α → Prop) {r : R D} {K : D → Prop} (h : ∃ x : α, r = .ok (enc x) ∧ P x) (k : ∀ x : α, P x → K (enc x)) : W r K := by
  obtain ⟨x, e, p⟩ := h
  exact ⟨_, e, k x p⟩
theorem enc_app {α : Type} [Enc α] (xs ys : List α) : enc (xs ++ ys) = PyData.list (xs.map enc ++ ys.map enc) := by
  rw [enc_list, List.map_append]
end Pv

namespace K51
open PySem PySem.Spec PyProof.Rows L2 Pv Pv.Enc
def topS (i : Nat) : Stmt := PySem.Challenge.pw_hallsemptied_k51_whole_first_beats_of_sm.main.body.getD i (.Pass ⟨0, 0, 0, 0⟩)
def B : List Str := ["enumerate", "len", "any", "all", "int", "range", "isinstance", "list", "tuple", "bool", "str"]
/-! other_room -/
abbrev s_other_room : Stmt := topS 1
def N_other_room : List Str := ["crack", "room"]
def T_other_room : Sg := ⟨[], [], [.sh, .sh]⟩
def b_other_room : Ss := (.cons (.ret (.one (.e (.ite (.cmp .eq (.idx (.var 0 true) (.cst (.int 0))) (.var 1 true)) (.idx (.var 0 true) (.cst (.int 1))) (.idx (.var 0 true) (.cst (.int 0))))))) .nil)
def f_other_room : Fn := ⟨"other_room", 2, .sh, runF T_other_room b_other_room 2⟩
theorem e_other_room (ds : List D) : f_other_room.sem ds = runF T_other_room b_other_room 2 ds := rfl
theorem sc_other_room : FnScope N_other_room ["crack", "room"] (defScope s_other_room) := ⟨rfl, rfl, rfl, by decide +kernel, rfl, by decide +kernel, by decide +kernel⟩
theorem m_other_room : mSs ⟨N_other_room, defScope s_other_room, T_other_room, B, fun _ => true⟩ .sh b_other_room (defBody s_other_room) = true := by decide +kernel
/-! first_beats -/
abbrev s_first_beats : Stmt := topS 2
def N_first_beats : List Str := ["rooms", "sources", "cracks", "found", "room", "beat", "grows", "one", "other", "beats", "start", "end", "later"]
def T_first_beats : Sg := ⟨[], [], [.sh, .sh, .sh, (.lst .sh), .sh, .sh, .sh, .sh, .sh, .sh, .sh, .sh, .sh]⟩
def b_first_beats : Ss := (.cons (.own 3 (.bin .mul (.lst .sh) (.lst .sh (.cons (.cst .none) .nil)) (.var 0 true))) (.cons (.fr (.tp (.cons (.nm 4) (.cons (.nm 5) .nil))) (.seq (.var 1 true)) (.cons (.iff (.orr (.cons (.cmp .isn (.idx (.var 3 false) (.var 4 true)) (.cst .none)) (.cons (.cmp .lt (.var 5 true) (.idx (.var 3 false) (.var 4 true))) .nil))) (.cons (.st 3 .nil (.var 4 true) (.var 5 true)) .nil) .nil) .nil)) (.cons (.asg (.nm 6) (.cst (.bool true))) (.cons (.wh (.var 6 true) (.cons (.asg (.nm 6) (.cst (.bool false))) (.cons (.fr (.tp (.cons (.nm 7) (.cons (.nm 8) (.cons (.nm 9) .nil)))) (.seq (.var 2 true)) (.cons (.fr (.tp (.cons (.nm 10) (.cons (.nm 11) .nil))) (.seq (.lst .sh (.cons (.frz (.tup (.cons (.var 7 true) (.cons (.var 8 true) .nil)))) (.cons (.frz (.tup (.cons (.var 8 true) (.cons (.var 7 true) .nil)))) .nil)))) (.cons (.asg (.nm 12) (.ite (.cmp .isn (.idx (.var 3 false) (.var 10 true)) (.cst .none)) (.cst .none) (.bin .add .sh (.idx (.var 3 false) (.var 10 true)) (.var 9 true)))) (.cons (.iff (.an (.cons (.cmp .notn (.var 12 true) (.cst .none)) (.cons (.orr (.cons (.cmp .isn (.idx (.var 3 false) (.var 11 true)) (.cst .none)) (.cons (.cmp .lt (.var 12 true) (.idx (.var 3 false) (.var 11 true))) .nil))) .nil))) (.cons (.st 3 .nil (.var 11 true) (.var 12 true)) (.cons (.asg (.nm 6) (.cst (.bool true))) .nil)) .nil) .nil))) .nil)) .nil))) (.cons (.ret (.one (.mv 3))) .nil)))))
def f_first_beats : Fn := ⟨"first_beats", 3, (.lst .sh), runF T_first_beats b_first_beats 13⟩
theorem e_first_beats (ds : List D) : f_first_beats.sem ds = runF T_first_beats b_first_beats 13 ds := rfl
theorem sc_first_beats : FnScope N_first_beats ["rooms", "sources", "cracks"] (defScope s_first_beats) := ⟨rfl, rfl, rfl, by decide +kernel, rfl, by decide +kernel, by decide +kernel⟩
theorem m_first_beats : mSs ⟨N_first_beats, defScope s_first_beats, T_first_beats, B, fun _ => true⟩ (.lst .sh) b_first_beats (defBody s_first_beats) = true := by decide +kernel
/-! tells_beat -/
abbrev s_tells_beat : Stmt := topS 3
def N_tells_beat : List Str := ["labels", "crack", "room"]
def T_tells_beat : Sg := ⟨[f_other_room], [], [.sh, .sh, .sh]⟩
def b_tells_beat : Ss := (.cons (.iff (.orr (.cons (.cmp .notin (.var 2 true) (.sl .sh (.var 1 true) .no (.sm (.cst (.int 2))))) (.cons (.cmp .isn (.idx (.var 0 true) (.fn 0 false (.cons (.var 1 true) (.cons (.var 2 true) .nil)))) (.cst .none)) .nil))) (.cons (.ret (.one (.e (.cst (.bool false))))) .nil) .nil) (.cons (.ret (.one (.e (.cmp .eq (.bin .add .sh (.idx (.var 0 true) (.fn 0 false (.cons (.var 1 true) (.cons (.var 2 true) .nil)))) (.idx (.var 1 true) (.cst (.int 2)))) (.idx (.var 0 true) (.var 2 true)))))) .nil))
def f_tells_beat : Fn := ⟨"tells_beat", 3, .sh, runF T_tells_beat b_tells_beat 3⟩
theorem e_tells_beat (ds : List D) : f_tells_beat.sem ds = runF T_tells_beat b_tells_beat 3 ds := rfl
theorem sc_tells_beat : FnScope N_tells_beat ["labels", "crack", "room"] (defScope s_tells_beat) := ⟨rfl, rfl, rfl, by decide +kernel, rfl, by decide +kernel, by decide +kernel⟩
theorem m_tells_beat : mSs ⟨N_tells_beat, defScope s_tells_beat, T_tells_beat, B, fun _ => true⟩ .sh b_tells_beat (defBody s_tells_beat) = true := by decide +kernel
/-! reason_of -/
abbrev s_reason_of : Stmt := topS 4
def N_reason_of : List Str := ["sources", "cracks", "labels", "room", "k", "source", "crack"]
def T_reason_of : Sg := ⟨[f_tells_beat], [], [.sh, .sh, .sh, .sh, .sh, .sh, .sh]⟩
def b_reason_of : Ss := (.cons (.fr (.tp (.cons (.nm 4) (.cons (.nm 5) .nil))) (.en (.cons (.var 0 true) .nil)) (.cons (.iff (.cmp .eq (.var 5 true) (.tup (.cons (.var 3 true) (.cons (.idx (.var 2 true) (.var 3 true)) .nil)))) (.cons (.ret (.one (.e (.frz (.tup (.cons (.cst (.str "source")) (.cons (.var 4 true) .nil))))))) .nil) .nil) .nil)) (.cons (.ret (.one (.e (.frz (.tup (.cons (.cst (.str "crack")) (.cons (.idx (.comp .sh (.var 4 true) (.tp (.cons (.nm 4) (.cons (.nm 6) .nil))) (.en (.cons (.var 1 true) .nil)) (.cons (.fn 0 false (.cons (.var 2 true) (.cons (.var 6 true) (.cons (.var 3 true) .nil)))) .nil) [4, 6]) (.cst (.int 0))) .nil))))))) .nil))
def f_reason_of : Fn := ⟨"reason_of", 4, .sh, runF T_reason_of b_reason_of 7⟩
theorem e_reason_of (ds : List D) : f_reason_of.sem ds = runF T_reason_of b_reason_of 7 ds := rfl
theorem sc_reason_of : FnScope N_reason_of ["sources", "cracks", "labels", "room"] (defScope s_reason_of) := ⟨rfl, rfl, rfl, by decide +kernel, rfl, by decide +kernel, by decide +kernel⟩
theorem m_reason_of : mSs ⟨N_reason_of, defScope s_reason_of, T_reason_of, B, fun _ => true⟩ .sh b_reason_of (defBody s_reason_of) = true := by decide +kernel
/-! find_smoke -/
abbrev s_find_smoke : Stmt := topS 5
def N_find_smoke : List Str := ["rooms", "sources", "cracks", "labels", "found", "room", "beat"]
def T_find_smoke : Sg := ⟨[f_first_beats, f_reason_of], [], [.sh, .sh, .sh, .sh, (.lst .sh), .sh, .sh]⟩
def b_find_smoke : Ss := (.cons (.asg (.nm 3) (.fn 0 false (.cons (.var 0 true) (.cons (.var 1 true) (.cons (.var 2 true) .nil))))) (.cons (.own 4 (.lst .sh .nil)) (.cons (.fr (.tp (.cons (.nm 5) (.cons (.nm 6) .nil))) (.en (.cons (.var 3 true) .nil)) (.cons (.app 4 .nil (.tup (.cons (.var 6 true) (.cons (.ite (.cmp .isn (.var 6 true) (.cst .none)) (.cst .none) (.fn 1 false (.cons (.var 1 true) (.cons (.var 2 true) (.cons (.var 3 true) (.cons (.var 5 true) .nil)))))) .nil)))) .nil)) (.cons (.ret (.one (.mv 4))) .nil))))
def f_find_smoke : Fn := ⟨"find_smoke", 3, (.lst .sh), runF T_find_smoke b_find_smoke 7⟩
theorem e_find_smoke (ds : List D) : f_find_smoke.sem ds = runF T_find_smoke b_find_smoke 7 ds := rfl
theorem sc_find_smoke : FnScope N_find_smoke ["rooms", "sources", "cracks"] (defScope s_find_smoke) := ⟨rfl, rfl, rfl, by decide +kernel, rfl, by decide +kernel, by decide +kernel⟩
theorem m_find_smoke : mSs ⟨N_find_smoke, defScope s_find_smoke, T_find_smoke, B, fun _ => true⟩ (.lst .sh) b_find_smoke (defBody s_find_smoke) = true := by decide +kernel
/-! is_reason -/
abbrev s_is_reason : Stmt := topS 6
def N_is_reason : List Str := ["sources", "cracks", "labels", "room", "reason", "word", "k"]
def T_is_reason : Sg := ⟨[f_tells_beat], [], [.sh, .sh, .sh, .sh, .sh, .sh, .sh]⟩
def b_is_reason : Ss := (.cons (.iff (.cmp .isn (.var 4 true) (.cst .none)) (.cons (.ret (.one (.e (.cst (.bool false))))) .nil) .nil) (.cons (.asg (.tp (.cons (.nm 5) (.cons (.nm 6) .nil))) (.var 4 true)) (.cons (.iff (.cmp .eq (.var 5 true) (.cst (.str "source"))) (.cons (.ret (.one (.e (.an (.cons (.chn .le .lt (.cst (.int 0)) (.var 6 true) (.bi .len .sh (.cons (.var 0 true) .nil))) (.cons (.cmp .eq (.idx (.var 0 true) (.var 6 true)) (.tup (.cons (.var 3 true) (.cons (.idx (.var 2 true) (.var 3 true)) .nil)))) .nil)))))) .nil) .nil) (.cons (.ret (.one (.e (.an (.cons (.cmp .eq (.var 5 true) (.cst (.str "crack"))) (.cons (.chn .le .lt (.cst (.int 0)) (.var 6 true) (.bi .len .sh (.cons (.var 1 true) .nil))) (.cons (.fn 0 false (.cons (.var 2 true) (.cons (.idx (.var 1 true) (.var 6 true)) (.cons (.var 3 true) .nil)))) .nil))))))) .nil))))
def f_is_reason : Fn := ⟨"is_reason", 5, .sh, runF T_is_reason b_is_reason 7⟩
theorem e_is_reason (ds : List D) : f_is_reason.sem ds = runF T_is_reason b_is_reason 7 ds := rfl
theorem sc_is_reason : FnScope N_is_reason ["sources", "cracks", "labels", "room", "reason"] (defScope s_is_reason) := ⟨rfl, rfl, rfl, by decide +kernel, rfl, by decide +kernel, by decide +kernel⟩
theorem m_is_reason : mSs ⟨N_is_reason, defScope s_is_reason, T_is_reason, B, fun _ => true⟩ .sh b_is_reason (defBody s_is_reason) = true := by decide +kernel
/-! is_late -/
abbrev s_is_late : Stmt := topS 7
def N_is_late : List Str := ["labels", "room", "beat"]
def T_is_late : Sg := ⟨[], [], [.sh, .sh, .sh]⟩
def b_is_late : Ss := (.cons (.ret (.one (.e (.orr (.cons (.cmp .isn (.idx (.var 0 true) (.var 1 true)) (.cst .none)) (.cons (.cmp .gt (.idx (.var 0 true) (.var 1 true)) (.var 2 true)) .nil)))))) .nil)
def f_is_late : Fn := ⟨"is_late", 3, .sh, runF T_is_late b_is_late 3⟩
theorem e_is_late (ds : List D) : f_is_late.sem ds = runF T_is_late b_is_late 3 ds := rfl
theorem sc_is_late : FnScope N_is_late ["labels", "room", "beat"] (defScope s_is_late) := ⟨rfl, rfl, rfl, by decide +kernel, rfl, by decide +kernel, by decide +kernel⟩
theorem m_is_late : mSs ⟨N_is_late, defScope s_is_late, T_is_late, B, fun _ => true⟩ .sh b_is_late (defBody s_is_late) = true := by decide +kernel
/-! crack_holds -/
abbrev s_crack_holds : Stmt := topS 8
def N_crack_holds : List Str := ["labels", "crack", "one", "other", "beats"]
def T_crack_holds : Sg := ⟨[f_is_late], [], [.sh, .sh, .sh, .sh, .sh]⟩
def b_crack_holds : Ss := (.cons (.asg (.tp (.cons (.nm 2) (.cons (.nm 3) (.cons (.nm 4) .nil)))) (.var 1 true)) (.cons (.iff (.an (.cons (.cmp .notn (.idx (.var 0 true) (.var 2 true)) (.cst .none)) (.cons (.fn 0 false (.cons (.var 0 true) (.cons (.var 3 true) (.cons (.bin .add .sh (.idx (.var 0 true) (.var 2 true)) (.var 4 true)) .nil)))) .nil))) (.cons (.ret (.one (.e (.cst (.bool false))))) .nil) .nil) (.cons (.ret (.one (.e (.orr (.cons (.cmp .isn (.idx (.var 0 true) (.var 3 true)) (.cst .none)) (.cons (.nt (.fn 0 false (.cons (.var 0 true) (.cons (.var 2 true) (.cons (.bin .add .sh (.idx (.var 0 true) (.var 3 true)) (.var 4 true)) .nil))))) .nil)))))) .nil)))
def f_crack_holds : Fn := ⟨"crack_holds", 2, .sh, runF T_crack_holds b_crack_holds 5⟩
theorem e_crack_holds (ds : List D) : f_crack_holds.sem ds = runF T_crack_holds b_crack_holds 5 ds := rfl
theorem sc_crack_holds : FnScope N_crack_holds ["labels", "crack"] (defScope s_crack_holds) := ⟨rfl, rfl, rfl, by decide +kernel, rfl, by decide +kernel, by decide +kernel⟩
theorem m_crack_holds : mSs ⟨N_crack_holds, defScope s_crack_holds, T_crack_holds, B, fun _ => true⟩ .sh b_crack_holds (defBody s_crack_holds) = true := by decide +kernel
/-! judge_smoke -/
abbrev s_judge_smoke : Stmt := topS 9
def N_judge_smoke : List Str := ["rooms", "sources", "cracks", "verdict", "labels", "beat", "_", "room", "crack", "reason"]
def T_judge_smoke : Sg := ⟨[f_is_late, f_crack_holds, f_is_reason], [], [.sh, .sh, .sh, .sh, .sh, .sh, .sh, .sh, .sh, .sh]⟩
def b_judge_smoke : Ss := (.cons (.iff (.cmp .ne (.bi .len .sh (.cons (.var 3 true) .nil)) (.var 0 true)) (.cons (.ret (.one (.e (.cst (.bool false))))) .nil) .nil) (.cons (.asg (.nm 4) (.comp .sh (.var 5 true) (.tp (.cons (.nm 5) (.cons (.nm 6) .nil))) (.seq (.var 3 true)) .nil [5, 6])) (.cons (.iff (.bi .any .sh (.cons (.comp .sh (.fn 0 false (.cons (.var 4 true) (.cons (.var 7 true) (.cons (.var 5 true) .nil)))) (.tp (.cons (.nm 7) (.cons (.nm 5) .nil))) (.seq (.var 1 true)) .nil [7, 5]) .nil)) (.cons (.ret (.one (.e (.cst (.bool false))))) .nil) .nil) (.cons (.iff (.nt (.bi .all .sh (.cons (.comp .sh (.fn 1 false (.cons (.var 4 true) (.cons (.var 8 true) .nil))) (.nm 8) (.seq (.var 2 true)) .nil [8]) .nil))) (.cons (.ret (.one (.e (.cst (.bool false))))) .nil) .nil) (.cons (.fr (.tp (.cons (.nm 7) (.cons (.tp (.cons (.nm 5) (.cons (.nm 9) .nil))) .nil))) (.en (.cons (.var 3 true) .nil)) (.cons (.iff (.an (.cons (.cmp .isn (.var 5 true) (.cst .none)) (.cons (.cmp .notn (.var 9 true) (.cst .none)) .nil))) (.cons (.ret (.one (.e (.cst (.bool false))))) .nil) .nil) (.cons (.iff (.an (.cons (.cmp .notn (.var 5 true) (.cst .none)) (.cons (.nt (.fn 2 false (.cons (.var 1 true) (.cons (.var 2 true) (.cons (.var 4 true) (.cons (.var 7 true) (.cons (.var 9 true) .nil))))))) .nil))) (.cons (.ret (.one (.e (.cst (.bool false))))) .nil) .nil) .nil))) (.cons (.ret (.one (.e (.cst (.bool true))))) .nil))))))
def f_judge_smoke : Fn := ⟨"judge_smoke", 4, .sh, runF T_judge_smoke b_judge_smoke 10⟩
theorem e_judge_smoke (ds : List D) : f_judge_smoke.sem ds = runF T_judge_smoke b_judge_smoke 10 ds := rfl
theorem sc_judge_smoke : FnScope N_judge_smoke ["rooms", "sources", "cracks", "verdict"] (defScope s_judge_smoke) := ⟨rfl, rfl, rfl, by decide +kernel, rfl, by decide +kernel, by decide +kernel⟩
theorem m_judge_smoke : mSs ⟨N_judge_smoke, defScope s_judge_smoke, T_judge_smoke, B, fun _ => true⟩ .sh b_judge_smoke (defBody s_judge_smoke) = true := by decide +kernel
/-! _law_cell -/
abbrev s_law_cell : Stmt := topS 11
theorem sc_law_cell : FnScope N_law_cell ["script", "k"] (defScope s_law_cell) := ⟨rfl, rfl, rfl, by decide +kernel, rfl, by decide +kernel, by decide +kernel⟩
theorem m_law_cell : mSs ⟨N_law_cell, defScope s_law_cell, T_law_cell, B, fun _ => true⟩ .sh b_law_cell (defBody s_law_cell) = true := by decide +kernel
/-! _law_numbers -/
abbrev s_law_numbers : Stmt := topS 12
theorem sc_law_numbers : FnScope N_law_numbers ["cell", "count", "limit"] (defScope s_law_numbers) := ⟨rfl, rfl, rfl, by decide +kernel, rfl, by decide +kernel, by decide +kernel⟩
theorem m_law_numbers : mSs ⟨N_law_numbers, defScope s_law_numbers, T_law_numbers, B, fun _ => true⟩ (.lst .sh) b_law_numbers (defBody s_law_numbers) = true := by decide +kernel
/-! _law_same -/
abbrev s_law_same : Stmt := topS 13
theorem sc_law_same : FnScope N_law_same ["told", "due"] (defScope s_law_same) := ⟨rfl, rfl, rfl, by decide +kernel, rfl, by decide +kernel, by decide +kernel⟩
theorem m_law_same (r : Fn) (hn : r.name = "_law_same") (ho : r.own = .sh) : mSs ⟨N_law_same, defScope s_law_same, T_law_same r, B, fun _ => true⟩ .sh b_law_same (defBody s_law_same) = true := by
  obtain ⟨n, k, o, s⟩ := r
  cases hn; cases ho
  exact (by decide +kernel : mSs ⟨N_law_same, defScope s_law_same, T_law_same ⟨"_law_same", 0, .sh, fun _ => .no⟩, B, fun _ => true⟩ .sh b_law_same (defBody s_law_same) = true)
/-! _law_smoke -/
abbrev s_law_smoke : Stmt := topS 14
def N_law_smoke : List Str := ["draws", "n", "sources", "k", "cracks", "one"]
def T_law_smoke : Sg := ⟨[], [], [.sh, .sh, .sh, .sh, (.lst .sh), .sh]⟩
def b_law_smoke : Ss := (.cons (.asg (.nm 2) (.comp .sh (.frz (.tup (.cons (.bin .mod .sh (.idx (.var 0 true) (.bin .mul .sh (.cst (.int 3)) (.var 3 true))) (.var 1 true)) (.cons (.bin .mod .sh (.idx (.var 0 true) (.bin .add .sh (.cst (.int 1)) (.bin .mul .sh (.cst (.int 3)) (.var 3 true)))) (.idx (.lst .sh (.cons (.cst (.int 4)) (.cons (.cst (.int 20)) (.cons (.cst (.int 1001)) .nil)))) (.bin .mod .sh (.idx (.var 0 true) (.bin .add .sh (.cst (.int 2)) (.bin .mul .sh (.cst (.int 3)) (.var 3 true)))) (.cst (.int 3))))) .nil)))) (.nm 3) (.r1 (.cons (.bin .mod .sh (.idx (.var 0 true) (.cst (.int 30))) (.cst (.int 5))) .nil)) .nil [3])) (.cons (.own 4 (.lst .sh .nil)) (.cons (.fr (.nm 3) (.r1 (.cons (.bin .mod .sh (.idx (.var 0 true) (.cst (.int 31))) (.cst (.int 11))) .nil)) (.cons (.asg (.nm 5) (.bin .mod .sh (.idx (.var 0 true) (.bin .add .sh (.cst (.int 12)) (.var 3 true))) (.var 1 true))) (.cons (.iff (.cmp .gt (.var 1 true) (.cst (.int 1))) (.cons (.app 4 .nil (.tup (.cons (.var 5 true) (.cons (.bin .mod .sh (.bi .int .sh (.cons (.bin .add .sh (.bin .add .sh (.var 5 true) (.cst (.int 1))) (.bin .mod .sh (.idx (.var 0 true) (.bin .add .sh (.cst (.int 32)) (.var 3 true))) (.bin .sub .sh (.var 1 true) (.cst (.int 1))))) .nil)) (.var 1 true)) (.cons (.bin .add .sh (.cst (.int 1)) (.bin .mod .sh (.idx (.var 0 true) (.bin .add .sh (.cst (.int 43)) (.var 3 true))) (.idx (.lst .sh (.cons (.cst (.int 3)) (.cons (.cst (.int 9)) (.cons (.cst (.int 100)) .nil)))) (.bin .mod .sh (.idx (.var 0 true) (.cst (.int 54))) (.cst (.int 3)))))) .nil))))) .nil) .nil) .nil))) (.cons (.fzz 4 (.ret (.one (.e (.frz (.tup (.cons (.var 2 true) (.cons (.var 4 true) .nil)))))))) .nil))))
def f_law_smoke : Fn := ⟨"_law_smoke", 2, .sh, runF T_law_smoke b_law_smoke 6⟩
theorem e_law_smoke (ds : List D) : f_law_smoke.sem ds = runF T_law_smoke b_law_smoke 6 ds := rfl
theorem sc_law_smoke : FnScope N_law_smoke ["draws", "n"] (defScope s_law_smoke) := ⟨rfl, rfl, rfl, by decide +kernel, rfl, by decide +kernel, by decide +kernel⟩
theorem m_law_smoke : mSs ⟨N_law_smoke, defScope s_law_smoke, T_law_smoke, B, fun _ => true⟩ .sh b_law_smoke (defBody s_law_smoke) = true := by decide +kernel
/-! _law_beats -/
abbrev s_law_beats : Stmt := topS 15
def N_law_beats : List Str := ["n", "sources", "cracks", "found", "k", "room", "beat", "turn", "one", "other", "beats", "start", "end"]
def T_law_beats : Sg := ⟨[], [], [.sh, .sh, .sh, (.lst .sh), .sh, .sh, .sh, .sh, .sh, .sh, .sh, .sh, .sh]⟩
def b_law_beats : Ss := (.cons (.own 3 (.comp .sh (.cst .none) (.nm 4) (.r1 (.cons (.var 0 true) .nil)) .nil [4])) (.cons (.fr (.tp (.cons (.nm 5) (.cons (.nm 6) .nil))) (.seq (.var 1 true)) (.cons (.iff (.orr (.cons (.cmp .isn (.idx (.var 3 false) (.var 5 true)) (.cst .none)) (.cons (.cmp .lt (.var 6 true) (.idx (.var 3 false) (.var 5 true))) .nil))) (.cons (.st 3 .nil (.var 5 true) (.var 6 true)) .nil) .nil) .nil)) (.cons (.fr (.nm 7) (.r1 (.cons (.var 0 true) .nil)) (.cons (.fr (.tp (.cons (.nm 8) (.cons (.nm 9) (.cons (.nm 10) .nil)))) (.seq (.var 2 true)) (.cons (.fr (.tp (.cons (.nm 11) (.cons (.nm 12) .nil))) (.seq (.lst .sh (.cons (.frz (.tup (.cons (.var 8 true) (.cons (.var 9 true) .nil)))) (.cons (.frz (.tup (.cons (.var 9 true) (.cons (.var 8 true) .nil)))) .nil)))) (.cons (.iff (.an (.cons (.cmp .notn (.idx (.var 3 false) (.var 11 true)) (.cst .none)) (.cons (.orr (.cons (.cmp .isn (.idx (.var 3 false) (.var 12 true)) (.cst .none)) (.cons (.cmp .lt (.bin .add .sh (.idx (.var 3 false) (.var 11 true)) (.var 10 true)) (.idx (.var 3 false) (.var 12 true))) .nil))) .nil))) (.cons (.st 3 .nil (.var 12 true) (.bin .add .sh (.idx (.var 3 false) (.var 11 true)) (.var 10 true))) .nil) .nil) .nil)) .nil)) .nil)) (.cons (.ret (.one (.mv 3))) .nil))))
def f_law_beats : Fn := ⟨"_law_beats", 3, (.lst .sh), runF T_law_beats b_law_beats 13⟩
theorem e_law_beats (ds : List D) : f_law_beats.sem ds = runF T_law_beats b_law_beats 13 ds := rfl
theorem sc_law_beats : FnScope N_law_beats ["n", "sources", "cracks"] (defScope s_law_beats) := ⟨rfl, rfl, rfl, by decide +kernel, rfl, by decide +kernel, by decide +kernel⟩
theorem m_law_beats : mSs ⟨N_law_beats, defScope s_law_beats, T_law_beats, B, fun _ => true⟩ (.lst .sh) b_law_beats (defBody s_law_beats) = true := by decide +kernel
/-! _law_leads -/
abbrev s_law_leads : Stmt := topS 16
def N_law_leads : List Str := ["cracks", "beats", "k", "room", "one", "other", "many"]
def T_law_leads : Sg := ⟨[], [], [.sh, .sh, .sh, .sh, .sh, .sh, .sh]⟩
def b_law_leads : Ss := (.cons (.asg (.tp (.cons (.nm 4) (.cons (.nm 5) (.cons (.nm 6) .nil)))) (.idx (.var 0 true) (.var 2 true))) (.cons (.iff (.cmp .eq (.var 3 true) (.var 4 true)) (.cons (.ret (.one (.e (.an (.cons (.cmp .notn (.idx (.var 1 true) (.var 5 true)) (.cst .none)) (.cons (.cmp .eq (.bin .add .sh (.idx (.var 1 true) (.var 5 true)) (.var 6 true)) (.idx (.var 1 true) (.var 3 true))) .nil)))))) .nil) .nil) (.cons (.ret (.one (.e (.an (.cons (.cmp .eq (.var 3 true) (.var 5 true)) (.cons (.cmp .notn (.idx (.var 1 true) (.var 4 true)) (.cst .none)) (.cons (.cmp .eq (.bin .add .sh (.idx (.var 1 true) (.var 4 true)) (.var 6 true)) (.idx (.var 1 true) (.var 3 true))) .nil))))))) .nil)))
def f_law_leads : Fn := ⟨"_law_leads", 4, .sh, runF T_law_leads b_law_leads 7⟩
theorem e_law_leads (ds : List D) : f_law_leads.sem ds = runF T_law_leads b_law_leads 7 ds := rfl
theorem sc_law_leads : FnScope N_law_leads ["cracks", "beats", "k", "room"] (defScope s_law_leads) := ⟨rfl, rfl, rfl, by decide +kernel, rfl, by decide +kernel, by decide +kernel⟩
theorem m_law_leads : mSs ⟨N_law_leads, defScope s_law_leads, T_law_leads, B, fun _ => true⟩ .sh b_law_leads (defBody s_law_leads) = true := by decide +kernel
/-! _law_reason -/
abbrev s_law_reason : Stmt := topS 17
def N_law_reason : List Str := ["sources", "cracks", "beats", "room", "k"]
def T_law_reason : Sg := ⟨[f_law_leads], [], [.sh, .sh, .sh, .sh, .sh]⟩
def b_law_reason : Ss := (.cons (.iff (.cmp .isn (.idx (.var 2 true) (.var 3 true)) (.cst .none)) (.cons (.ret (.one (.e (.cst .none)))) .nil) .nil) (.cons (.fr (.nm 4) (.r1 (.cons (.bi .len .sh (.cons (.var 0 true) .nil)) .nil)) (.cons (.iff (.cmp .eq (.idx (.var 0 true) (.var 4 true)) (.tup (.cons (.var 3 true) (.cons (.idx (.var 2 true) (.var 3 true)) .nil)))) (.cons (.ret (.one (.e (.frz (.tup (.cons (.cst (.str "source")) (.cons (.var 4 true) .nil))))))) .nil) .nil) .nil)) (.cons (.ret (.one (.e (.frz (.tup (.cons (.cst (.str "crack")) (.cons (.idx (.comp .sh (.var 4 true) (.nm 4) (.r1 (.cons (.bi .len .sh (.cons (.var 1 true) .nil)) .nil)) (.cons (.fn 0 false (.cons (.var 1 true) (.cons (.var 2 true) (.cons (.var 4 true) (.cons (.var 3 true) .nil))))) .nil) [4]) (.cst (.int 0))) .nil))))))) .nil)))
def f_law_reason : Fn := ⟨"_law_reason", 4, .sh, runF T_law_reason b_law_reason 5⟩
theorem e_law_reason (ds : List D) : f_law_reason.sem ds = runF T_law_reason b_law_reason 5 ds := rfl
theorem sc_law_reason : FnScope N_law_reason ["sources", "cracks", "beats", "room"] (defScope s_law_reason) := ⟨rfl, rfl, rfl, by decide +kernel, rfl, by decide +kernel, by decide +kernel⟩
theorem m_law_reason : mSs ⟨N_law_reason, defScope s_law_reason, T_law_reason, B, fun _ => true⟩ .sh b_law_reason (defBody s_law_reason) = true := by decide +kernel
/-! _law_accepts -/
abbrev s_law_accepts : Stmt := topS 18
def N_law_accepts : List Str := ["n", "sources", "cracks", "paper", "beats", "row", "room", "beat", "one", "other", "many", "start", "end", "reason", "word", "k"]
def T_law_accepts : Sg := ⟨[f_law_leads], [], [.sh, .sh, .sh, .sh, .sh, .sh, .sh, .sh, .sh, .sh, .sh, .sh, .sh, .sh, .sh, .sh]⟩
def b_law_accepts : Ss := (.cons (.iff (.cmp .ne (.bi .len .sh (.cons (.var 3 true) .nil)) (.var 0 true)) (.cons (.ret (.one (.e (.cst (.bool false))))) .nil) .nil) (.cons (.asg (.nm 4) (.comp .sh (.idx (.var 5 true) (.cst (.int 0))) (.nm 5) (.seq (.var 3 true)) .nil [5])) (.cons (.fr (.tp (.cons (.nm 6) (.cons (.nm 7) .nil))) (.seq (.var 1 true)) (.cons (.iff (.orr (.cons (.cmp .isn (.idx (.var 4 true) (.var 6 true)) (.cst .none)) (.cons (.cmp .gt (.idx (.var 4 true) (.var 6 true)) (.var 7 true)) .nil))) (.cons (.ret (.one (.e (.cst (.bool false))))) .nil) .nil) .nil)) (.cons (.fr (.tp (.cons (.nm 8) (.cons (.nm 9) (.cons (.nm 10) .nil)))) (.seq (.var 2 true)) (.cons (.fr (.tp (.cons (.nm 11) (.cons (.nm 12) .nil))) (.seq (.lst .sh (.cons (.frz (.tup (.cons (.var 8 true) (.cons (.var 9 true) .nil)))) (.cons (.frz (.tup (.cons (.var 9 true) (.cons (.var 8 true) .nil)))) .nil)))) (.cons (.iff (.an (.cons (.cmp .notn (.idx (.var 4 true) (.var 11 true)) (.cst .none)) (.cons (.orr (.cons (.cmp .isn (.idx (.var 4 true) (.var 12 true)) (.cst .none)) (.cons (.cmp .gt (.idx (.var 4 true) (.var 12 true)) (.bin .add .sh (.idx (.var 4 true) (.var 11 true)) (.var 10 true))) .nil))) .nil))) (.cons (.ret (.one (.e (.cst (.bool false))))) .nil) .nil) .nil)) .nil)) (.cons (.fr (.nm 6) (.r1 (.cons (.var 0 true) .nil)) (.cons (.asg (.nm 13) (.idx (.idx (.var 3 true) (.var 6 true)) (.cst (.int 1)))) (.cons (.iff (.cmp .ne (.cmp .isn (.var 13 true) (.cst .none)) (.cmp .isn (.idx (.var 4 true) (.var 6 true)) (.cst .none))) (.cons (.ret (.one (.e (.cst (.bool false))))) .nil) .nil) (.cons (.iff (.cmp .notn (.var 13 true) (.cst .none)) (.cons (.asg (.tp (.cons (.nm 14) (.cons (.nm 15) .nil))) (.var 13 true)) (.cons (.iff (.cmp .eq (.var 14 true) (.cst (.str "source"))) (.cons (.iff (.orr (.cons (.cmp .lt (.var 15 true) (.cst (.int 0))) (.cons (.cmp .ge (.var 15 true) (.bi .len .sh (.cons (.var 1 true) .nil))) (.cons (.cmp .ne (.idx (.var 1 true) (.var 15 true)) (.tup (.cons (.var 6 true) (.cons (.idx (.var 4 true) (.var 6 true)) .nil)))) .nil)))) (.cons (.ret (.one (.e (.cst (.bool false))))) .nil) .nil) .nil) (.cons (.iff (.orr (.cons (.cmp .ne (.var 14 true) (.cst (.str "crack"))) (.cons (.cmp .lt (.var 15 true) (.cst (.int 0))) (.cons (.cmp .ge (.var 15 true) (.bi .len .sh (.cons (.var 2 true) .nil))) (.cons (.nt (.fn 0 false (.cons (.var 2 true) (.cons (.var 4 true) (.cons (.var 15 true) (.cons (.var 6 true) .nil)))))) .nil))))) (.cons (.ret (.one (.e (.cst (.bool false))))) .nil) .nil) .nil)) .nil)) .nil) .nil)))) (.cons (.ret (.one (.e (.cst (.bool true))))) .nil))))))
def f_law_accepts : Fn := ⟨"_law_accepts", 4, .sh, runF T_law_accepts b_law_accepts 16⟩
theorem e_law_accepts (ds : List D) : f_law_accepts.sem ds = runF T_law_accepts b_law_accepts 16 ds := rfl
theorem sc_law_accepts : FnScope N_law_accepts ["n", "sources", "cracks", "paper"] (defScope s_law_accepts) := ⟨rfl, rfl, rfl, by decide +kernel, rfl, by decide +kernel, by decide +kernel⟩
theorem m_law_accepts : mSs ⟨N_law_accepts, defScope s_law_accepts, T_law_accepts, B, fun _ => true⟩ .sh b_law_accepts (defBody s_law_accepts) = true := by decide +kernel
/-! _law_others -/
abbrev s_law_others : Stmt := topS 19
def N_law_others : List Str := ["n", "sources", "cracks", "due", "draws", "at", "beat", "reason", "some", "k", "found", "low", "number", "why", "row"]
def T_law_others : Sg := ⟨[], [], [.sh, .sh, .sh, .sh, .sh, .sh, .sh, .sh, .sh, .sh, .sh, (.lst .sh), .sh, .sh, .sh]⟩
def b_law_others : Ss := (.cons (.asg (.nm 5) (.bin .mod .sh (.idx (.var 4 true) (.cst (.int 3))) (.var 0 true))) (.cons (.asg (.tp (.cons (.nm 6) (.cons (.nm 7) .nil))) (.idx (.var 3 true) (.var 5 true))) (.cons (.asg (.nm 8) (.lst .sh (.cons (.frz (.tup (.cons (.cst .none) (.cons (.cst .none) .nil)))) (.cons (.frz (.tup (.cons (.var 6 true) (.cons (.cst .none) .nil)))) (.cons (.frz (.tup (.cons (.cst .none) (.cons (.var 7 true) .nil)))) (.cons (.frz (.tup (.cons (.var 6 true) (.cons (.frz (.tup (.cons (.cst (.str "source")) (.cons (.bin .mod .sh (.idx (.var 4 true) (.cst (.int 4))) (.cst (.int 5))) .nil)))) .nil)))) (.cons (.frz (.tup (.cons (.var 6 true) (.cons (.frz (.tup (.cons (.cst (.str "crack")) (.cons (.bin .mod .sh (.idx (.var 4 true) (.cst (.int 5))) (.cst (.int 11))) .nil)))) .nil)))) (.cons (.frz (.tup (.cons (.var 6 true) (.cons (.frz (.tup (.cons (.cst (.str "source")) (.cons (.neg (.cst (.int 1))) .nil)))) .nil)))) .nil)))))))) (.cons (.asg (.nm 8) (.bin .add .sh (.var 8 true) (.lst .sh (.cons (.frz (.tup (.cons (.var 6 true) (.cons (.frz (.tup (.cons (.cst (.str "crack")) (.cons (.neg (.cst (.int 1))) .nil)))) .nil)))) (.cons (.frz (.tup (.cons (.cst (.int 0)) (.cons (.frz (.tup (.cons (.cst (.str "source")) (.cons (.cst (.int 0)) .nil)))) .nil)))) (.cons (.frz (.tup (.cons (.cst (.int 7)) (.cons (.frz (.tup (.cons (.cst (.str "crack")) (.cons (.cst (.int 0)) .nil)))) .nil)))) .nil)))))) (.cons (.asg (.nm 8) (.bin .add .sh (.var 8 true) (.lst .sh (.cons (.frz (.tup (.cons (.var 6 true) (.cons (.frz (.tup (.cons (.cst (.str "Source")) (.cons (.cst (.int 0)) .nil)))) .nil)))) (.cons (.frz (.tup (.cons (.var 6 true) (.cons (.frz (.tup (.cons (.cst (.str "source")) (.cons (.bi .len .sh (.cons (.var 1 true) .nil)) .nil)))) .nil)))) (.cons (.frz (.tup (.cons (.var 6 true) (.cons (.frz (.tup (.cons (.cst (.str "crack")) (.cons (.bi .len .sh (.cons (.var 2 true) .nil)) .nil)))) .nil)))) (.cons (.idx (.var 3 true) (.bin .mod .sh (.idx (.var 4 true) (.cst (.int 6))) (.var 0 true))) .nil))))))) (.cons (.iff (.cmp .notn (.var 6 true) (.cst .none)) (.cons (.asg (.nm 8) (.bin .add .sh (.var 8 true) (.lst .sh (.cons (.frz (.tup (.cons (.bin .add .sh (.var 6 true) (.cst (.int 1))) (.cons (.var 7 true) .nil)))) (.cons (.frz (.tup (.cons (.bin .sub .sh (.var 6 true) (.cst (.int 1))) (.cons (.var 7 true) .nil)))) (.cons (.frz (.tup (.cons (.bin .sub .sh (.var 6 true) (.bin .pow .sh (.cst (.int 10)) (.cst (.int 6)))) (.cons (.var 7 true) .nil)))) .nil)))))) (.cons (.asg (.nm 8) (.bin .add .sh (.bin .add .sh (.var 8 true) (.comp .sh (.frz (.tup (.cons (.var 6 true) (.cons (.frz (.tup (.cons (.cst (.str "source")) (.cons (.var 9 true) .nil)))) .nil)))) (.nm 9) (.r1 (.cons (.bi .len .sh (.cons (.var 1 true) .nil)) .nil)) .nil [9])) (.comp .sh (.frz (.tup (.cons (.var 6 true) (.cons (.frz (.tup (.cons (.cst (.str "crack")) (.cons (.var 9 true) .nil)))) .nil)))) (.nm 9) (.r1 (.cons (.bi .len .sh (.cons (.var 2 true) .nil)) .nil)) .nil [9]))) .nil)) .nil) (.cons (.asg (.nm 10) (.lst .sh (.cons (.var 3 true) (.cons (.sl .sh (.var 3 true) (.sm (.cst (.int 1))) .no) (.cons (.bin .add .sh (.var 3 true) (.sl .sh (.var 3 true) (.sm (.cst (.int 0))) (.sm (.cst (.int 1))))) (.cons (.rv .sh (.var 3 true)) (.cons (.frz (.lst .sh .nil)) .nil))))))) (.cons (.own 11 (.lst .sh .nil)) (.cons (.fr (.tp (.cons (.nm 12) (.cons (.nm 13) .nil))) (.seq (.var 3 true)) (.cons (.iff (.cmp .isn (.var 12 true) (.cst .none)) (.cons (.app 11 .nil (.tup (.cons (.cst .none) (.cons (.cst .none) .nil)))) .nil) (.cons (.app 11 .nil (.tup (.cons (.bin .sub .sh (.var 12 true) (.cst (.int 1))) (.cons (.var 13 true) .nil)))) .nil)) .nil)) (.cons (.fzz 11 (.ret (.one (.e (.bin .add (.lst .sh) (.bin .add .sh (.var 10 true) (.lst .sh (.cons (.var 11 true) .nil))) (.comp .sh (.bin .add .sh (.bin .add .sh (.sl .sh (.var 3 true) (.sm (.cst (.int 0))) (.sm (.var 5 true))) (.lst .sh (.cons (.var 14 true) .nil))) (.sl .sh (.var 3 true) (.sm (.bin .add .sh (.var 5 true) (.cst (.int 1)))) .no)) (.nm 14) (.seq (.var 8 true)) .nil [14])))))) .nil))))))))))
def f_law_others : Fn := ⟨"_law_others", 5, (.lst .sh), runF T_law_others b_law_others 15⟩
theorem e_law_others (ds : List D) : f_law_others.sem ds = runF T_law_others b_law_others 15 ds := rfl
theorem sc_law_others : FnScope N_law_others ["n", "sources", "cracks", "due", "draws"] (defScope s_law_others) := ⟨rfl, rfl, rfl, by decide +kernel, rfl, by decide +kernel, by decide +kernel⟩
theorem m_law_others : mSs ⟨N_law_others, defScope s_law_others, T_law_others, B, fun _ => true⟩ (.lst .sh) b_law_others (defBody s_law_others) = true := by decide +kernel
/-! law -/
abbrev s_law : Stmt := topS 20
def N_law : List Str := ["script", "draws", "n", "sources", "cracks", "kept", "beats", "due", "room", "turn", "told", "more", "paper", "answer", "row", "later"]
def T_law : Sg := ⟨[f_law_cell, f_law_numbers, f_law_smoke, f_law_beats, f_law_reason, f_find_smoke, f_law_same 9, f_law_others, f_judge_smoke, f_law_accepts], [], [.sh, .sh, .sh, .sh, .sh, .sh, .sh, .sh, .sh, .sh, (.lst .sh), .sh, .sh, .sh, .sh, .sh]⟩
def b_law : Ss := (.cons (.asg (.nm 1) (.fn 1 false (.cons (.fn 0 false (.cons (.var 0 true) (.cons (.cst (.int 0)) .nil))) (.cons (.cst (.int 60)) (.cons (.cst (.int 27720)) .nil))))) (.cons (.asg (.nm 2) (.bin .add .sh (.cst (.int 1)) (.bin .mod .sh (.fn 0 false (.cons (.var 0 true) (.cons (.cst (.int 2)) .nil))) (.cst (.int 8))))) (.cons (.asg (.tp (.cons (.nm 3) (.cons (.nm 4) .nil))) (.fn 2 false (.cons (.var 1 true) (.cons (.var 2 true) .nil)))) (.cons (.asg (.nm 5) (.lst .sh (.cons (.bi .list .sh (.cons (.var 3 true) .nil)) (.cons (.bi .list .sh (.cons (.var 4 true) .nil)) .nil)))) (.cons (.asg (.nm 6) (.fn 3 false (.cons (.var 2 true) (.cons (.var 3 true) (.cons (.var 4 true) .nil))))) (.cons (.asg (.nm 7) (.comp .sh (.frz (.tup (.cons (.idx (.var 6 true) (.var 8 true)) (.cons (.fn 4 false (.cons (.var 3 true) (.cons (.var 4 true) (.cons (.var 6 true) (.cons (.var 8 true) .nil))))) .nil)))) (.nm 8) (.r1 (.cons (.var 2 true) .nil)) .nil [8])) (.cons (.fr (.nm 9) (.r1 (.cons (.cst (.int 2)) .nil)) (.cons (.own 10 (.fn 5 false (.cons (.var 2 true) (.cons (.var 3 true) (.cons (.var 4 true) .nil))))) (.cons (.iff (.orr (.cons (.nt (.fn 6 true (.cons (.var 10 false) (.cons (.var 7 true) .nil)))) (.cons (.cmp .ne (.var 5 true) (.lst .sh (.cons (.var 3 true) (.cons (.var 4 true) .nil)))) .nil))) (.cons (.ret (.one (.e (.cst (.bool false))))) .nil) .nil) (.cons (.app 10 .nil (.tup (.cons (.cst .none) (.cons (.cst .none) .nil)))) .nil)))) (.cons (.fzz 10 (.asg (.nm 11) (.fn 1 false (.cons (.fn 0 false (.cons (.var 0 true) (.cons (.cst (.int 1)) .nil))) (.cons (.cst (.int 20)) (.cons (.cst (.int 27720)) .nil)))))) (.cons (.fr (.nm 12) (.seq (.fn 7 false (.cons (.var 2 true) (.cons (.var 3 true) (.cons (.var 4 true) (.cons (.var 7 true) (.cons (.var 11 true) .nil))))))) (.cons (.asg (.nm 13) (.fn 8 false (.cons (.var 2 true) (.cons (.var 3 true) (.cons (.var 4 true) (.cons (.var 12 true) .nil)))))) (.cons (.iff (.orr (.cons (.nt (.isi .bool (.var 13 true))) (.cons (.cmp .ne (.var 13 true) (.fn 9 false (.cons (.var 2 true) (.cons (.var 3 true) (.cons (.var 4 true) (.cons (.var 12 true) .nil)))))) .nil))) (.cons (.ret (.one (.e (.cst (.bool false))))) .nil) .nil) (.cons (.iff (.an (.cons (.var 13 true) (.cons (.cmp .ne (.comp .sh (.idx (.var 14 true) (.cst (.int 0))) (.nm 14) (.seq (.var 12 true)) .nil [14]) (.var 6 true)) .nil))) (.cons (.ret (.one (.e (.cst (.bool false))))) .nil) .nil) .nil)))) (.cons (.asg (.nm 15) (.fn 5 false (.cons (.var 2 true) (.cons (.bin .add .sh (.var 3 true) (.lst .sh (.cons (.frz (.tup (.cons (.bin .mod .sh (.idx (.var 11 true) (.cst (.int 0))) (.var 2 true)) (.cons (.bin .mod .sh (.idx (.var 11 true) (.cst (.int 1))) (.cst (.int 30))) .nil)))) .nil))) (.cons (.var 4 true) .nil))))) (.cons (.iff (.cmp .gt (.var 2 true) (.cst (.int 1))) (.cons (.asg (.nm 15) (.fn 5 false (.cons (.var 2 true) (.cons (.var 3 true) (.cons (.bin .add .sh (.var 4 true) (.lst .sh (.cons (.frz (.tup (.cons (.bin .mod .sh (.idx (.var 11 true) (.cst (.int 0))) (.var 2 true)) (.cons (.bin .mod .sh (.bi .int .sh (.cons (.bin .add .sh (.bin .add .sh (.idx (.var 11 true) (.cst (.int 0))) (.cst (.int 1))) (.bin .mod .sh (.idx (.var 11 true) (.cst (.int 2))) (.bin .sub .sh (.var 2 true) (.cst (.int 1))))) .nil)) (.var 2 true)) (.cons (.bin .add .sh (.cst (.int 1)) (.bin .mod .sh (.idx (.var 11 true) (.cst (.int 1))) (.cst (.int 9)))) .nil))))) .nil))) .nil))))) .nil) .nil) (.cons (.fr (.nm 8) (.r1 (.cons (.var 2 true) .nil)) (.cons (.iff (.an (.cons (.cmp .notn (.idx (.var 6 true) (.var 8 true)) (.cst .none)) (.cons (.orr (.cons (.cmp .isn (.idx (.idx (.var 15 true) (.var 8 true)) (.cst (.int 0))) (.cst .none)) (.cons (.cmp .gt (.idx (.idx (.var 15 true) (.var 8 true)) (.cst (.int 0))) (.idx (.var 6 true) (.var 8 true))) .nil))) .nil))) (.cons (.ret (.one (.e (.cst (.bool false))))) .nil) .nil) .nil)) (.cons (.ret (.one (.e (.cst (.bool true))))) .nil)))))))))))))
def f_law : Fn := ⟨"law", 1, .sh, runF T_law b_law 16⟩
theorem e_law (ds : List D) : f_law.sem ds = runF T_law b_law 16 ds := rfl
theorem sc_law : FnScope N_law ["script"] (defScope s_law) := ⟨rfl, rfl, rfl, by decide +kernel, rfl, by decide +kernel, by decide +kernel⟩
theorem m_law : mSs ⟨N_law, defScope s_law, T_law, B, fun _ => true⟩ .sh b_law (defBody s_law) = true := by decide +kernel
section
variable {P : Program} {w : World} {K : PySem.W.Frag} {mg : Str → Option Value} {base : Heap}
theorem ok_other_room (F : FunE K mg "other_room" s_other_room ["crack", "room"]) (hb : BisE mg B)  : CalE P w K mg base 1 f_other_room :=
  cal_ok F sc_other_room m_other_room rfl hb True.intro True.intro rfl rfl
theorem ok_first_beats (F : FunE K mg "first_beats" s_first_beats ["rooms", "sources", "cracks"]) (hb : BisE mg B)  : CalE P w K mg base 1 f_first_beats :=
  cal_ok F sc_first_beats m_first_beats rfl hb True.intro True.intro rfl rfl
theorem ok_tells_beat (F : FunE K mg "tells_beat" s_tells_beat ["labels", "crack", "room"]) (hb : BisE mg B) (C_other_room : CalE P w K mg base 1 f_other_room) : CalE P w K mg base 2 f_tells_beat :=
  cal_ok F sc_tells_beat m_tells_beat rfl hb True.intro ⟨C_other_room, True.intro⟩ rfl rfl
theorem ok_reason_of (F : FunE K mg "reason_of" s_reason_of ["sources", "cracks", "labels", "room"]) (hb : BisE mg B) (C_tells_beat : CalE P w K mg base 2 f_tells_beat) : CalE P w K mg base 3 f_reason_of :=
  cal_ok F sc_reason_of m_reason_of rfl hb True.intro ⟨C_tells_beat, True.intro⟩ rfl rfl
theorem ok_find_smoke (F : FunE K mg "find_smoke" s_find_smoke ["rooms", "sources", "cracks"]) (hb : BisE mg B) (C_first_beats : CalE P w K mg base 3 f_first_beats) (C_reason_of : CalE P w K mg base 3 f_reason_of) : CalE P w K mg base 4 f_find_smoke :=
  cal_ok F sc_find_smoke m_find_smoke rfl hb True.intro ⟨C_first_beats, C_reason_of, True.intro⟩ rfl rfl
theorem ok_is_reason (F : FunE K mg "is_reason" s_is_reason ["sources", "cracks", "labels", "room", "reason"]) (hb : BisE mg B) (C_tells_beat : CalE P w K mg base 2 f_tells_beat) : CalE P w K mg base 3 f_is_reason :=
  cal_ok F sc_is_reason m_is_reason rfl hb True.intro ⟨C_tells_beat, True.intro⟩ rfl rfl
theorem ok_is_late (F : FunE K mg "is_late" s_is_late ["labels", "room", "beat"]) (hb : BisE mg B)  : CalE P w K mg base 1 f_is_late :=
  cal_ok F sc_is_late m_is_late rfl hb True.intro True.intro rfl rfl
theorem ok_crack_holds (F : FunE K mg "crack_holds" s_crack_holds ["labels", "crack"]) (hb : BisE mg B) (C_is_late : CalE P w K mg base 1 f_is_late) : CalE P w K mg base 2 f_crack_holds :=
  cal_ok F sc_crack_holds m_crack_holds rfl hb True.intro ⟨C_is_late, True.intro⟩ rfl rfl
theorem ok_judge_smoke (F : FunE K mg "judge_smoke" s_judge_smoke ["rooms", "sources", "cracks", "verdict"]) (hb : BisE mg B) (C_is_late : CalE P w K mg base 3 f_is_late) (C_crack_holds : CalE P w K mg base 3 f_crack_holds) (C_is_reason : CalE P w K mg base 3 f_is_reason) : CalE P w K mg base 4 f_judge_smoke :=
  cal_ok F sc_judge_smoke m_judge_smoke rfl hb True.intro ⟨C_is_late, C_crack_holds, C_is_reason, True.intro⟩ rfl rfl
theorem ok_law_cell (F : FunE K mg "_law_cell" s_law_cell ["script", "k"]) (hb : BisE mg B)  : CalE P w K mg base 1 f_law_cell :=
  cal_ok F sc_law_cell m_law_cell rfl hb True.intro True.intro rfl rfl
theorem ok_law_numbers (F : FunE K mg "_law_numbers" s_law_numbers ["cell", "count", "limit"]) (hb : BisE mg B)  : CalE P w K mg base 1 f_law_numbers :=
  cal_ok F sc_law_numbers m_law_numbers rfl hb True.intro True.intro rfl rfl
theorem ok_law_same (F : FunE K mg "_law_same" s_law_same ["told", "due"]) (hb : BisE mg B) : ∀ k, CalE P w K mg base k (f_law_same k)
  | 0 => cal_no F rfl
  | k + 1 => cal_ok F sc_law_same (m_law_same _ (by cases k <;> rfl) (by cases k <;> rfl)) rfl hb True.intro ⟨ok_law_same F hb k, True.intro⟩ rfl rfl
theorem ok_law_smoke (F : FunE K mg "_law_smoke" s_law_smoke ["draws", "n"]) (hb : BisE mg B)  : CalE P w K mg base 1 f_law_smoke :=
  cal_ok F sc_law_smoke m_law_smoke rfl hb True.intro True.intro rfl rfl
theorem ok_law_beats (F : FunE K mg "_law_beats" s_law_beats ["n", "sources", "cracks"]) (hb : BisE mg B)  : CalE P w K mg base 1 f_law_beats :=
  cal_ok F sc_law_beats m_law_beats rfl hb True.intro True.intro rfl rfl
theorem ok_law_leads (F : FunE K mg "_law_leads" s_law_leads ["cracks", "beats", "k", "room"]) (hb : BisE mg B)  : CalE P w K mg base 1 f_law_leads :=
  cal_ok F sc_law_leads m_law_leads rfl hb True.intro True.intro rfl rfl
theorem ok_law_reason (F : FunE K mg "_law_reason" s_law_reason ["sources", "cracks", "beats", "room"]) (hb : BisE mg B) (C_law_leads : CalE P w K mg base 1 f_law_leads) : CalE P w K mg base 2 f_law_reason :=
  cal_ok F sc_law_reason m_law_reason rfl hb True.intro ⟨C_law_leads, True.intro⟩ rfl rfl
theorem ok_law_accepts (F : FunE K mg "_law_accepts" s_law_accepts ["n", "sources", "cracks", "paper"]) (hb : BisE mg B) (C_law_leads : CalE P w K mg base 1 f_law_leads) : CalE P w K mg base 2 f_law_accepts :=
  cal_ok F sc_law_accepts m_law_accepts rfl hb True.intro ⟨C_law_leads, True.intro⟩ rfl rfl
theorem ok_law_others (F : FunE K mg "_law_others" s_law_others ["n", "sources", "cracks", "due", "draws"]) (hb : BisE mg B)  : CalE P w K mg base 1 f_law_others :=
  cal_ok F sc_law_others m_law_others rfl hb True.intro True.intro rfl rfl
theorem walk (F_other_room : FunE K mg "other_room" s_other_room ["crack", "room"]) (F_first_beats : FunE K mg "first_beats" s_first_beats ["rooms", "sources", "cracks"]) (F_tells_beat : FunE K mg "tells_beat" s_tells_beat ["labels", "crack", "room"]) (F_reason_of : FunE K mg "reason_of" s_reason_of ["sources", "cracks", "labels", "room"]) (F_find_smoke : FunE K mg "find_smoke" s_find_smoke ["rooms", "sources", "cracks"]) (F_is_reason : FunE K mg "is_reason" s_is_reason ["sources", "cracks", "labels", "room", "reason"]) (F_is_late : FunE K mg "is_late" s_is_late ["labels", "room", "beat"]) (F_crack_holds : FunE K mg "crack_holds" s_crack_holds ["labels", "crack"]) (F_judge_smoke : FunE K mg "judge_smoke" s_judge_smoke ["rooms", "sources", "cracks", "verdict"]) (F_law_cell : FunE K mg "_law_cell" s_law_cell ["script", "k"]) (F_law_numbers : FunE K mg "_law_numbers" s_law_numbers ["cell", "count", "limit"]) (F_law_same : FunE K mg "_law_same" s_law_same ["told", "due"]) (F_law_smoke : FunE K mg "_law_smoke" s_law_smoke ["draws", "n"]) (F_law_beats : FunE K mg "_law_beats" s_law_beats ["n", "sources", "cracks"]) (F_law_leads : FunE K mg "_law_leads" s_law_leads ["cracks", "beats", "k", "room"]) (F_law_reason : FunE K mg "_law_reason" s_law_reason ["sources", "cracks", "beats", "room"]) (F_law_accepts : FunE K mg "_law_accepts" s_law_accepts ["n", "sources", "cracks", "paper"]) (F_law_others : FunE K mg "_law_others" s_law_others ["n", "sources", "cracks", "due", "draws"]) (F_law : FunE K mg "law" s_law ["script"]) (hb : BisE mg B) {fa : Addr} (hfa : mg "law" = some (.ref fa)) :
    ∃ fd : FuncData, (∀ (s : Shared) (v : Value), BindsTo s fd ⟨[v], []⟩ [("script", v)]) ∧ ∀ base : Heap, K.In base → base.Ns mainGlobals mg → FnOk P w K mg base CX0 10 fa fd ["script"] (spF f_law) := by
  obtain ⟨fd, hb1, hF⟩ := law_ok (P := P) (w := w) (k := 9) F_law sc_law m_law rfl hb True.intro rfl hfa
  refine ⟨fd, hb1, fun base _ _ => hF base ?_⟩
  have C_other_room := ok_other_room (P := P) (w := w) (base := base) F_other_room hb 
  have C_first_beats := ok_first_beats (P := P) (w := w) (base := base) F_first_beats hb 
  have C_tells_beat := ok_tells_beat (P := P) (w := w) (base := base) F_tells_beat hb (C_other_room.mono (by decide))
  have C_reason_of := ok_reason_of (P := P) (w := w) (base := base) F_reason_of hb (C_tells_beat.mono (by decide))
  have C_find_smoke := ok_find_smoke (P := P) (w := w) (base := base) F_find_smoke hb (C_first_beats.mono (by decide)) (C_reason_of.mono (by decide))
  have C_is_reason := ok_is_reason (P := P) (w := w) (base := base) F_is_reason hb (C_tells_beat.mono (by decide))
  have C_is_late := ok_is_late (P := P) (w := w) (base := base) F_is_late hb 
  have C_crack_holds := ok_crack_holds (P := P) (w := w) (base := base) F_crack_holds hb (C_is_late.mono (by decide))
  have C_judge_smoke := ok_judge_smoke (P := P) (w := w) (base := base) F_judge_smoke hb (C_is_late.mono (by decide)) (C_crack_holds.mono (by decide)) (C_is_reason.mono (by decide))
  have C_law_cell := ok_law_cell (P := P) (w := w) (base := base) F_law_cell hb 
  have C_law_numbers := ok_law_numbers (P := P) (w := w) (base := base) F_law_numbers hb 
  have C_law_same := ok_law_same (P := P) (w := w) (base := base) F_law_same hb 9
  have C_law_smoke := ok_law_smoke (P := P) (w := w) (base := base) F_law_smoke hb 
  have C_law_beats := ok_law_beats (P := P) (w := w) (base := base) F_law_beats hb 
  have C_law_leads := ok_law_leads (P := P) (w := w) (base := base) F_law_leads hb 
  have C_law_reason := ok_law_reason (P := P) (w := w) (base := base) F_law_reason hb (C_law_leads.mono (by decide))
  have C_law_accepts := ok_law_accepts (P := P) (w := w) (base := base) F_law_accepts hb (C_law_leads.mono (by decide))
  have C_law_others := ok_law_others (P := P) (w := w) (base := base) F_law_others hb 
  exact ⟨C_law_cell.mono (by decide), C_law_numbers.mono (by decide), C_law_smoke.mono (by decide), C_law_beats.mono (by decide), C_law_reason.mono (by decide), C_find_smoke.mono (by decide), C_law_same.mono (by decide), C_law_others.mono (by decide), C_judge_smoke.mono (by decide), C_law_accepts.mono (by decide), True.intro⟩
end
end K51

namespace K51
open PySem PySem.Spec PyProof.Rows L2 Pv Pv.Enc
/-! the numbers: walks of smoke -/
abbrev Src := T2 Int Int
abbrev Crk := T3 Int Int Int
abbrev Lb := List (Option Int)
inductive Wk (so : List Src) (cr : List Crk) : Int → Int → Prop
  | src {p : Src} : p ∈ so → Wk so cr p.a p.b
  | fw {c : Crk} {b : Int} : Wk so cr c.a b → c ∈ cr → Wk so cr c.b (b + c.c)
  | bk {c : Crk} {b : Int} : Wk so cr c.b b → c ∈ cr → Wk so cr c.a (b + c.c)
structure Ok (n : Nat) (so : List Src) (cr : List Crk) : Prop where
  so : ∀ p ∈ so, 0 ≤ p.a ∧ p.a < n ∧ 0 ≤ p.b
  cr : ∀ c ∈ cr, 0 ≤ c.a ∧ c.a < n ∧ 0 ≤ c.b ∧ c.b < n ∧ c.a ≠ c.b ∧ 1 ≤ c.c
variable {n : Nat} {so : List Src} {cr : List Crk}
theorem Wk.bd (ok : Ok n so cr) {v b : Int} (w : Wk so cr v b) : 0 ≤ v ∧ v < n ∧ 0 ≤ b := by
  induction w with
  | src h => exact ok.so _ h
  | fw _ h ih =>
    have := ok.cr _ h
    omega
  | bk _ h ih =>
    have := ok.cr _ h
    omega
def Snd (so : List Src) (cr : List Crk) (l : Lb) : Prop := ∀ v b : Int, 0 ≤ v → ix l v = some b → Wk so cr v b
def Lw (l : Lb) (v b : Int) : Prop := ∃ b', ix l v = some b' ∧ b' ≤ b
structure Rlx (so : List Src) (cr : List Crk) (l : Lb) : Prop where
  so : ∀ p ∈ so, Lw l p.a p.b
  cr : ∀ c ∈ cr, (∀ b, ix l c.a = some b → Lw l c.b (b + c.c)) ∧ ∀ b, ix l c.b = some b → Lw l c.a (b + c.c)
theorem Rlx.le {l : Lb} (r : Rlx so cr l) {v b : Int} (w : Wk so cr v b) : Lw l v b := by
  induction w with
  | src h => exact r.so _ h
  | fw _ h ih =>
    obtain ⟨b', e, hb⟩ := ih
    obtain ⟨b2, e2, h2⟩ := (r.cr _ h).1 _ e
    exact ⟨b2, e2, by omega⟩
  | bk _ h ih =>
    obtain ⟨b', e, hb⟩ := ih
    obtain ⟨b2, e2, h2⟩ := (r.cr _ h).2 _ e
    exact ⟨b2, e2, by omega⟩
def Mn (so : List Src) (cr : List Crk) (v b : Int) : Prop := Wk so cr v b ∧ ∀ b', Wk so cr v b' → b ≤ b'
theorem Mn.ex (ok : Ok n so cr) {v : Int} : ∀ (k : Nat) (b : Int), b ≤ k → Wk so cr v b → ∃ b, Mn so cr v b
  | 0, b, hk, w => ⟨b, w, fun b' w' => by have := (w'.bd ok).2.2; omega⟩
  | k + 1, b, hk, w => by
    by_cases h : ∃ b', Wk so cr v b' ∧ b' < b
    · obtain ⟨b', w', hb⟩ := h
      exact Mn.ex ok k b' (by omega) w'
    · exact ⟨b, w, fun b' w' => by
        apply Classical.byContradiction
        intro hn
        exact h ⟨b', w', by omega⟩⟩
theorem Mn.of (ok : Ok n so cr) {v b : Int} (w : Wk so cr v b) : ∃ b, Mn so cr v b := Mn.ex ok b.toNat b (by omega) w
theorem Mn.uniq {v b b' : Int} (m : Mn so cr v b) (m' : Mn so cr v b') : b = b' := by
  have := m.2 _ m'.1
  have := m'.2 _ m.1
  omega
theorem fit {l : Lb} (s : Snd so cr l) (r : Rlx so cr l) {v : Int} (h0 : 0 ≤ v) (b : Int) : ix l v = some b ↔ Mn so cr v b := by
  constructor
  · intro h
    refine ⟨s v b h0 h, fun b' w => ?_⟩
    obtain ⟨b2, e, hb⟩ := r.le w
    rw [h] at e
    cases e
    exact hb
  · rintro ⟨w, m⟩
    obtain ⟨b2, e, hb⟩ := r.le w
    have := m _ (s v b2 h0 e)
    rw [e]
    congr 1
    omega
theorem lb_ext {l l' : Lb} (h : l.length = l'.length) (e : ∀ v : Int, 0 ≤ v → v < l.length → ix l v = ix l' v) : l = l' := by
  refine List.ext_getElem h fun i h1 h2 => ?_
  have := e i (by omega) (by omega)
  simpa [ix, List.getElem?_eq_getElem h1, List.getElem?_eq_getElem h2] using this
theorem uniq {l l' : Lb} (h : l.length = l'.length) (s : Snd so cr l) (r : Rlx so cr l) (s' : Snd so cr l') (r' : Rlx so cr l') : l = l' := lb_ext h fun v h0 _ => by
  cases e : ix l v with
  | none =>
    cases e' : ix l' v with
    | none => rfl
    | some b => rw [(fit s r h0 b).mpr ((fit s' r' h0 b).mp e')] at e; cases e
  | some b => exact ((fit s' r' h0 b).mpr ((fit s r h0 b).mp e)).symm
/-! a step -/
def rc (l : Lb) (s e m : Int) : Bool := match ix l s with
  | none => false
  | some b => match ix l e with
    | none => true
    | some b' => decide (b + m < b')
def rl (l : Lb) (s e m : Int) : Lb := if rc l s e m = true then l.set e.toNat ((ix l s).map (· + m)) else l
structure To (so : List Src) (cr : List Crk) (l l' : Lb) : Prop where
  len : l'.length = l.length
  snd : Snd so cr l → Snd so cr l'
  low : ∀ v b : Int, 0 ≤ v → Lw l v b → Lw l' v b
theorem To.refl {l : Lb} : To so cr l l := ⟨rfl, fun h => h, fun _ _ _ h => h⟩
theorem To.trans {l l' l'' : Lb} (a : To so cr l l') (b : To so cr l' l'') : To so cr l l'' := ⟨b.len.trans a.len, fun h => b.snd (a.snd h), fun v x h0 h => b.low v x h0 (a.low v x h0 h)⟩
theorem rl_to {l : Lb} {s e m : Int} (s0 : 0 ≤ s) (e0 : 0 ≤ e) (e1 : e < l.length) (hw : ∀ b, Wk so cr s b → Wk so cr e (b + m)) : To so cr l (rl l s e m) := by
  unfold rl
  split
  · rename_i hc
    unfold rc at hc
    cases hs : ix l s with
    | none => rw [hs] at hc; cases hc
    | some b =>
      rw [hs] at hc
      refine ⟨List.length_set, fun h v x h0 hx => ?_, fun v x h0 ⟨b', hb, hl⟩ => ?_⟩
      · rw [ix_set e0 e1 h0] at hx
        split at hx
        · rename_i ev
          subst ev
          cases hx
          exact hw _ (h s b s0 hs)
        · exact h v x h0 hx
      · unfold Lw
        rw [ix_set e0 e1 h0]
        split
        · rename_i ev
          subst ev
          rw [hb] at hc
          have := of_decide_eq_true hc
          exact ⟨b + m, rfl, by omega⟩
        · exact ⟨b', hb, hl⟩
  · exact .refl
theorem rl_low {l : Lb} {s e m b : Int} (s0 : 0 ≤ s) (e0 : 0 ≤ e) (e1 : e < l.length) (h : Lw l s b) : Lw (rl l s e m) e (b + m) := by
  obtain ⟨b', hs, hb⟩ := h
  unfold rl rc
  rw [hs]
  cases he : ix l e with
  | none =>
    rw [if_pos rfl]
    exact ⟨b' + m, by rw [ix_set e0 e1 e0, if_pos rfl]; rfl, by omega⟩
  | some x =>
    dsimp only
    by_cases hx : b' + m < x
    · rw [if_pos (decide_eq_true hx)]
      exact ⟨b' + m, by rw [ix_set e0 e1 e0, if_pos rfl]; rfl, by omega⟩
    · rw [if_neg (by simpa using hx)]
      exact ⟨x, he, by omega⟩
def rl2 (l : Lb) (c : Crk) : Lb := rl (rl l c.a c.b c.c) c.b c.a c.c
theorem rl2_to (ok : Ok n so cr) {l : Lb} {c : Crk} (hc : c ∈ cr) (hl : l.length = n) : To so cr l (rl2 l c) := by
  obtain ⟨a0, a1, b0, b1, _⟩ := ok.cr c hc
  have t := rl_to (so := so) (cr := cr) (l := l) a0 b0 (by omega) fun b w => Wk.fw w hc
  exact t.trans (rl_to b0 a0 (by rw [t.len]; omega) fun b w => Wk.bk w hc)
theorem rl2_low (ok : Ok n so cr) {l : Lb} {c : Crk} (hc : c ∈ cr) (hl : l.length = n) : (∀ b, Lw l c.a b → Lw (rl2 l c) c.b (b + c.c)) ∧ ∀ b, Lw l c.b b → Lw (rl2 l c) c.a (b + c.c) := by
  obtain ⟨a0, a1, b0, b1, _⟩ := ok.cr c hc
  have t := rl_to (so := so) (cr := cr) (l := l) a0 b0 (by omega) fun b w => Wk.fw w hc
  have t2 := rl_to (so := so) (cr := cr) (l := rl l c.a c.b c.c) b0 a0 (by rw [t.len]; omega) fun b w => Wk.bk w hc
  exact ⟨fun b h => t2.low _ _ b0 (rl_low a0 b0 (by omega) h), fun b h => rl_low b0 a0 (by rw [t.len]; omega) (t.low _ _ b0 h)⟩
def pass (l : Lb) (cs : List Crk) : Lb := cs.foldl rl2 l
theorem pass_snoc {l : Lb} {cs : List Crk} {c : Crk} : pass l (cs ++ [c]) = rl2 (pass l cs) c := by simp [pass]
theorem pass_to (ok : Ok n so cr) : ∀ {cs : List Crk} {l : Lb}, (∀ c ∈ cs, c ∈ cr) → l.length = n → To so cr l (pass l cs)
  | [], _, _, _ => .refl
  | c :: cs, l, h, hl => by
    have t := rl2_to ok (h c (.head _)) hl
    exact t.trans (pass_to ok (cs := cs) (fun x hx => h x (.tail _ hx)) (t.len.trans hl))
theorem pass_low (ok : Ok n so cr) : ∀ {cs : List Crk} {l : Lb}, (∀ c ∈ cs, c ∈ cr) → l.length = n → ∀ c ∈ cs, (∀ b, Lw l c.a b → Lw (pass l cs) c.b (b + c.c)) ∧ ∀ b, Lw l c.b b → Lw (pass l cs) c.a (b + c.c)
  | c :: cs, l, h, hl, x, hx => by
    have t := rl2_to ok (h c (.head _)) hl
    have hl2 := t.len.trans hl
    have t2 := pass_to ok (cs := cs) (l := rl2 l c) (fun x hx => h x (.tail _ hx)) hl2
    obtain ⟨a0, a1, b0, b1, _⟩ := ok.cr x (h x hx)
    rcases List.mem_cons.mp hx with e | e
    · subst e
      have r := rl2_low ok (h x (.head _)) hl
      exact ⟨fun b hb => t2.low _ _ b0 (r.1 b hb), fun b hb => t2.low _ _ a0 (r.2 b hb)⟩
    · have r := pass_low ok (cs := cs) (l := rl2 l c) (fun x hx => h x (.tail _ hx)) hl2 x e
      exact ⟨fun b hb => r.1 b (t.low _ _ a0 hb), fun b hb => r.2 b (t.low _ _ b0 hb)⟩
/-! how many rooms have smoke before -/
def CntP (so : List Src) (cr : List Crk) (b : Int) (u : Nat) : Prop := ∃ b', Mn so cr u b' ∧ b' < b
noncomputable instance {b : Int} : DecidablePred (CntP so cr b) := fun _ => Classical.propDecidable _
noncomputable def cnt (n : Nat) (so : List Src) (cr : List Crk) (b : Int) : Nat := (List.range n).countP fun u => decide (CntP so cr b u)
theorem cnt_lt {v : Nat} {b b' : Int} (hv : v < n) (m : Mn so cr v b) (h : b < b') : cnt n so cr b < cnt n so cr b' := by
  have key : ∀ l : List Nat, v ∈ l → l.countP (fun u => decide (CntP so cr b u)) < l.countP fun u => decide (CntP so cr b' u) := by
    have le : ∀ l : List Nat, l.countP (fun u => decide (CntP so cr b u)) ≤ l.countP fun u => decide (CntP so cr b' u) := fun l => List.countP_mono_left fun u _ hu => by
      obtain ⟨x, m1, h1⟩ := of_decide_eq_true hu
      exact decide_eq_true ⟨x, m1, by omega⟩
    intro l hl
    induction l with
    | nil => cases hl
    | cons u l ih =>
      rw [List.countP_cons, List.countP_cons]
      rcases List.mem_cons.mp hl with e | e
      · subst e
        have h1 : ¬ CntP so cr b v := by
          rintro ⟨x, m1, h1⟩
          have := m.uniq m1
          omega
        have h2 : CntP so cr b' v := ⟨b, m, h⟩
        rw [if_neg (by simpa using h1), if_pos (decide_eq_true h2)]
        have := le l
        omega
      · have := ih e
        by_cases h1 : CntP so cr b u
        · have h2 : CntP so cr b' u := by
            obtain ⟨x, m1, h1⟩ := h1
            exact ⟨x, m1, by omega⟩
          rw [if_pos (decide_eq_true h1), if_pos (decide_eq_true h2)]
          omega
        · rw [if_neg (by simpa using h1)]
          split <;> omega
  exact key _ (List.mem_range.mpr hv)
theorem cnt_bd {v : Nat} {b : Int} (hv : v < n) (m : Mn so cr v b) : cnt n so cr b < n := by
  have h1 := cnt_lt hv m (by omega : b < b + 1)
  have h2 := List.countP_le_length (p := fun u => decide (CntP so cr (b + 1) u)) (l := List.range n)
  rw [List.length_range] at h2
  unfold cnt at h1 ⊢
  omega
def SetP (n : Nat) (so : List Src) (cr : List Crk) (t : Nat) (l : Lb) : Prop := ∀ v b : Int, Mn so cr v b → cnt n so cr b ≤ t → Lw l v b
theorem set_zero (ok : Ok n so cr) {l : Lb} (h : ∀ p ∈ so, Lw l p.a p.b) : SetP n so cr 0 l := by
  rintro v b ⟨w, m⟩ hc
  have hno : ∀ {u b0 x : Int}, Wk so cr u b0 → 1 ≤ x → b = b0 + x → False := by
    intro u b0 x wu hx e
    have bd := wu.bd ok
    obtain ⟨bu, mu⟩ := Mn.of ok wu
    have eu : ((u.toNat : Nat) : Int) = u := by omega
    have := cnt_lt (n := n) (so := so) (cr := cr) (v := u.toNat) (b := bu) (b' := b) (by omega) (by rw [eu]; exact mu) (by have := mu.2 _ wu; omega)
    omega
  cases w with
  | src h' => exact h _ h'
  | fw wu h' => exact (hno wu (ok.cr _ h').2.2.2.2.2 rfl).elim
  | bk wu h' => exact (hno wu (ok.cr _ h').2.2.2.2.2 rfl).elim
theorem set_step (ok : Ok n so cr) {t : Nat} {l : Lb} (hl : l.length = n) (hs : ∀ p ∈ so, Lw l p.a p.b) (h : SetP n so cr t l) : SetP n so cr (t + 1) (pass l cr) := by
  rintro v b m hc
  have hv := m.1.bd ok
  have tt := pass_to ok (cs := cr) (l := l) (fun _ h => h) hl
  have hno : ∀ {u b0 x : Int}, Wk so cr u b0 → 1 ≤ x → b = b0 + x → (∀ b', Wk so cr u b' → Wk so cr v (b' + x)) → Lw l u b0 := by
    intro u b0 x wu hx e hw
    have bd := wu.bd ok
    obtain ⟨bu, mu⟩ := Mn.of ok wu
    have eu : ((u.toNat : Nat) : Int) = u := by omega
    have h1 := mu.2 _ wu
    have h2 := m.2 _ (hw _ mu.1)
    have e0 : bu = b0 := by omega
    subst e0
    have := cnt_lt (n := n) (so := so) (cr := cr) (v := u.toNat) (b := bu) (b' := b) (by omega) (by rw [eu]; exact mu) (by omega)
    exact h u bu mu (by omega)
  have pl := pass_low ok (cs := cr) (l := l) (fun _ h => h) hl
  have m' := m
  obtain ⟨w, _⟩ := m'
  cases w with
  | src h' => exact tt.low _ _ hv.1 (hs _ h')
  | fw wu h' => exact (pl _ h').1 _ (hno wu (ok.cr _ h').2.2.2.2.2 rfl fun b' w => Wk.fw w h')
  | bk wu h' => exact (pl _ h').2 _ (hno wu (ok.cr _ h').2.2.2.2.2 rfl fun b' w => Wk.bk w h')
theorem set_rlx (ok : Ok n so cr) {t : Nat} {l : Lb} (ht : n ≤ t + 1) (h : SetP n so cr t l) (hs : Snd so cr l) : Rlx so cr l := by
  have key : ∀ v b, Wk so cr v b → Lw l v b := fun v b w => by
    obtain ⟨x, m⟩ := Mn.of ok w
    have bd := w.bd ok
    have ev : ((v.toNat : Nat) : Int) = v := by omega
    have := cnt_bd (n := n) (so := so) (cr := cr) (v := v.toNat) (b := x) (by omega) (by rw [ev]; exact m)
    obtain ⟨b', e, hb⟩ := h v x m (by omega)
    have := m.2 _ w
    exact ⟨b', e, by omega⟩
  refine ⟨fun p hp => key _ _ (.src hp), fun c hc => ?_⟩
  have hc' := ok.cr c hc
  exact ⟨fun b hb => key _ _ (.fw (hs _ b hc'.1 hb) hc), fun b hb => key _ _ (.bk (hs _ b hc'.2.2.1 hb) hc)⟩
/-- where all is relaxed, nothing moves -/
theorem rc_no {l : Lb} {s e m : Int} (h : ∀ b, ix l s = some b → Lw l e (b + m)) : rc l s e m = false := by
  unfold rc
  cases hs : ix l s with
  | none => rfl
  | some b =>
    obtain ⟨b', he, hb⟩ := h b hs
    rw [he]
    exact decide_eq_false (by omega)
end K51

namespace K51
open PySem PySem.Spec PyProof.Rows L2 Pv Pv.Enc
def sc1 (l : Lb) (p : Src) : Bool := match ix l p.a with
  | none => true
  | some b => decide (p.b < b)
def s1 (l : Lb) (p : Src) : Lb := if sc1 l p = true then l.set p.a.toNat (some p.b) else l
variable {n : Nat} {so : List Src} {cr : List Crk}
theorem s1_to {l : Lb} {p : Src} (hp : p ∈ so) (a0 : 0 ≤ p.a) (a1 : p.a < l.length) : To so cr l (s1 l p) ∧ Lw (s1 l p) p.a p.b := by
  unfold s1 sc1
  cases h : ix l p.a with
  | none =>
    rw [if_pos rfl]
    refine ⟨⟨List.length_set, fun hs v x h0 hx => ?_, fun v x h0 ⟨b', hb, hl⟩ => ?_⟩, p.b, by rw [ix_set a0 a1 a0, if_pos rfl], Int.le_refl _⟩
    · rw [ix_set a0 a1 h0] at hx
      split at hx
      · rename_i ev
        subst ev
        cases hx
        exact .src hp
      · exact hs v x h0 hx
    · unfold Lw
      rw [ix_set a0 a1 h0]
      split
      · rename_i ev
        subst ev
        rw [h] at hb
        cases hb
      · exact ⟨b', hb, hl⟩
  | some y =>
    dsimp only
    by_cases hy : p.b < y
    · rw [if_pos (decide_eq_true hy)]
      refine ⟨⟨List.length_set, fun hs v x h0 hx => ?_, fun v x h0 ⟨b', hb, hl⟩ => ?_⟩, p.b, by rw [ix_set a0 a1 a0, if_pos rfl], Int.le_refl _⟩
      · rw [ix_set a0 a1 h0] at hx
        split at hx
        · rename_i ev
          subst ev
          cases hx
          exact .src hp
        · exact hs v x h0 hx
      · unfold Lw
        rw [ix_set a0 a1 h0]
        split
        · rename_i ev
          subst ev
          rw [h] at hb
          cases hb
          exact ⟨p.b, rfl, by omega⟩
        · exact ⟨b', hb, hl⟩
    · rw [if_neg (by simpa using hy)]
      exact ⟨.refl, y, h, by omega⟩
def start (n : Nat) (ps : List Src) : Lb := ps.foldl s1 (List.replicate n none)
theorem start_snoc {ps : List Src} {p : Src} : start n (ps ++ [p]) = s1 (start n ps) p := by simp [start]
theorem start_ok (ok : Ok n so cr) : ∀ ps : List Src, (∀ p ∈ ps, p ∈ so) → (start n ps).length = n ∧ Snd so cr (start n ps) ∧ ∀ p ∈ ps, Lw (start n ps) p.a p.b := by
  have key : ∀ (ps : List Src) (l : Lb), (∀ p ∈ ps, p ∈ so) → l.length = n → To so cr l (ps.foldl s1 l) ∧ ∀ p ∈ ps, Lw (ps.foldl s1 l) p.a p.b := by
    intro ps
    induction ps with
    | nil => exact fun l _ _ => ⟨.refl, by simp⟩
    | cons p ps ih =>
      intro l h hl
      have hp := ok.so p (h p (.head _))
      obtain ⟨t, lw⟩ := s1_to (cr := cr) (l := l) (h p (.head _)) hp.1 (by omega)
      obtain ⟨t2, lw2⟩ := ih (s1 l p) (fun x hx => h x (.tail _ hx)) (t.len.trans hl)
      refine ⟨t.trans t2, fun x hx => ?_⟩
      rcases List.mem_cons.mp hx with e | e
      · subst e
        exact t2.low _ _ hp.1 lw
      · exact lw2 x e
  intro ps h
  obtain ⟨t, lw⟩ := key ps (List.replicate n none) h List.length_replicate
  refine ⟨t.len.trans List.length_replicate, t.snd fun v b _ hb => ?_, lw⟩
  exfalso
  unfold ix at hb
  rw [List.getD_eq_getElem?_getD, List.getElem?_replicate] at hb
  split at hb <;> cases hb
/-- a turn of a pass, both ways -/
theorem two_rl {l : Lb} {c : Crk} : ([⟨c.a, c.b⟩, ⟨c.b, c.a⟩] : List (T2 Int Int)).foldl (fun l p => rl l p.a p.b c.c) l = rl2 l c := rfl
theorem fold_len {l : Lb} {m : Int} : ∀ ps : List (T2 Int Int), (ps.foldl (fun l p => rl l p.a p.b m) l).length = l.length
  | [] => rfl
  | p :: ps => by
    rw [List.foldl_cons]
    have : (rl l p.a p.b m).length = l.length := by
      unfold rl
      split <;> simp
    rw [← this]
    exact fold_len ps
theorem law_beats_ok (ok : Ok n so cr) (hn : n ≤ 1000) : ∃ l : Lb, f_law_beats.sem [.int n, enc so, enc cr] = .ok (enc l) ∧ l.length = n ∧ Snd so cr l ∧ Rlx so cr l := by
  rw [e_law_beats]
  have key : ∃ d, runF T_law_beats b_law_beats 13 [.int n, enc so, enc cr] = .ok d ∧ ∃ l : Lb, d = enc l ∧ l.length = n ∧ Snd so cr l ∧ Rlx so cr l := by
    refine run_W fun K hK => ?_
    refine W_own ?_
    simp (disch := first | omega | (simp; done) | (simp; omega)) [okb, -R.ok_bind, -List.map_append, -List.map_set, -List.map_map, startE]
    rw [goC_rngA (g := fun _ => enc (none : Option Int)) (fun k hk => ?_) (by omega)]
    rotate_left
    · simp (disch := first | omega | (simp; done) | (simp; omega)) [okb, -R.ok_bind, -List.map_append, -List.map_set, -List.map_map, step_eq]
    have h0 : (List.range n).map (fun _ => enc (none : Option Int)) = (List.replicate n (none : Option Int)).map enc := by
      rw [List.map_const', List.map_replicate, List.length_range]
    rw [h0]
    simp (disch := first | omega | (simp; done) | (simp; omega)) [okb, -R.ok_bind, -List.map_append, -List.map_set, -List.map_map, -List.map_replicate]
    refine W_for (enc := enc) (xs := so) (fun a e => ∃ x4 x5 x6, e = [some (.int n, true), some (enc so, true), some (enc cr, true), some (enc (start n a), false), x4, x5, x6, none, none, none, none, none, none]) ?_ ⟨_, _, _, rfl⟩ ?_ ?_
    · simp (disch := first | omega | (simp; done) | (simp; omega)) [okb, -R.ok_bind, -List.map_append, -List.map_set, -List.map_map]
    · rintro a p c e hx ⟨x4, x5, x6, rfl⟩ K' hT
      have hp := ok.so p (by rw [hx]; simp)
      have hl := (start_ok (cr := cr) ok a (fun q hq => by rw [hx]; simp [hq])).1
      have hs : start n (a ++ [p]) = s1 (start n a) p := start_snoc
      simp (disch := first | omega | (simp; done) | (simp; omega)) [okb, -R.ok_bind, -List.map_append, -List.map_set, -List.map_map]
      refine W_if ?_
      simp (disch := first | omega | (simp; done) | (simp; omega)) [okb, -R.ok_bind, -List.map_append, -List.map_set, -List.map_map]
      unfold s1 sc1 at hs
      cases h1 : ix (start n a) p.a with
      | none =>
        rw [h1, if_pos rfl] at hs
        simp (disch := first | omega | (simp; done) | (simp; omega)) [okb, -R.ok_bind, -List.map_append, -List.map_set, -List.map_map, h1]
        apply W_stM (f := (enc : Option Int → D))
        · rfl
        · rfl
        simp (disch := first | omega | (simp; done) | (simp; omega)) [okb, -R.ok_bind, -List.map_append, -List.map_set, -List.map_map, hp.1]
        have h2 : p.a < (start n a).length := by omega
        refine ⟨h2, some p.b, rfl, W_nil (W_nil (hT.nx _ ⟨_, _, _, by rw [hs]; rfl⟩))⟩
      | some y =>
        rw [h1] at hs
        dsimp only at hs
        simp (disch := first | omega | (simp; done) | (simp; omega)) [okb, -R.ok_bind, -List.map_append, -List.map_set, -List.map_map, h1]
        refine ⟨fun h2 => ?_, fun h2 => ?_⟩
        · rw [if_pos (decide_eq_true h2)] at hs
          apply W_stM (f := (enc : Option Int → D))
          · rfl
          · rfl
          simp (disch := first | omega | (simp; done) | (simp; omega)) [okb, -R.ok_bind, -List.map_append, -List.map_set, -List.map_map, hp.1]
          have h3 : p.a < (start n a).length := by omega
          refine ⟨h3, some p.b, rfl, W_nil (W_nil (hT.nx _ ⟨_, _, _, by rw [hs]; rfl⟩))⟩
        · rw [if_neg (by simpa using h2)] at hs
          exact W_nil (W_nil (hT.nx _ ⟨_, _, _, by rw [hs]; rfl⟩))
    · rintro e ⟨x4, x5, x6, rfl⟩
      obtain ⟨t1, t2, t3⟩ := start_ok (cr := cr) ok so (fun _ h => h)
      refine W_rng (lo := 0) (n := n) (fun k e => ∃ (l : Lb) (x7 x8 x9 x10 x11 x12 : Option (D × Bool)), e = [some (.int n, true), some (enc so, true), some (enc cr, true), some (enc l, false), x4, x5, x6, x7, x8, x9, x10, x11, x12] ∧ l.length = n ∧ Snd so cr l ∧ (∀ p ∈ so, Lw l p.a p.b) ∧ SetP n so cr k l) ?_ ⟨start n so, _, _, _, _, _, _, rfl, t1, t2, t3, set_zero ok t3⟩ ?_ ?_
      · simp (disch := first | omega | (simp; done) | (simp; omega)) [okb, -R.ok_bind, -List.map_append, -List.map_set, -List.map_map]
      · rintro k e hk ⟨l, x7, x8, x9, x10, x11, x12, rfl, l1, l2, l3, l4⟩ K' hT
        simp (disch := first | omega | (simp; done) | (simp; omega)) [okb, -R.ok_bind, -List.map_append, -List.map_set, -List.map_map]
        refine W_for (enc := enc) (xs := cr) (fun a e => ∃ (x8 x9 x10 x11 x12 : Option (D × Bool)), e = [some (.int n, true), some (enc so, true), some (enc cr, true), some (enc (pass l a), false), x4, x5, x6, some (.int k, true), x8, x9, x10, x11, x12]) ?_ ⟨_, _, _, _, _, rfl⟩ ?_ ?_
        · simp (disch := first | omega | (simp; done) | (simp; omega)) [okb, -R.ok_bind, -List.map_append, -List.map_set, -List.map_map]
        · rintro a c d e hx ⟨x8, x9, x10, x11, x12, rfl⟩ K2 hT2
          obtain ⟨c0, c1, c2, c3, c4, c5⟩ := ok.cr c (by rw [hx]; simp)
          have pl := (pass_to ok (cs := a) (l := l) (fun q hq => by rw [hx]; simp [hq]) l1).len.trans l1
          have ps : pass l (a ++ [c]) = rl2 (pass l a) c := pass_snoc
          generalize pass l a = l' at pl ps
          simp (disch := first | omega | (simp; done) | (simp; omega)) [okb, -R.ok_bind, -List.map_append, -List.map_set, -List.map_map]
          refine W_for (enc := enc) (xs := ([⟨c.a, c.b⟩, ⟨c.b, c.a⟩] : List (T2 Int Int))) (fun a e => ∃ (x11 x12 : Option (D × Bool)), e = [some (.int n, true), some (enc so, true), some (enc cr, true), some (enc (a.foldl (fun l p => rl l p.a p.b c.c) l'), false), x4, x5, x6, some (.int k, true), some (.int c.a, true), some (.int c.b, true), some (.int c.c, true), x11, x12]) ?_ ⟨_, _, rfl⟩ ?_ ?_
          · simp (disch := first | omega | (simp; done) | (simp; omega)) [okb, -R.ok_bind, -List.map_append, -List.map_set, -List.map_map]
          · rintro a2 p d2 e hx2 ⟨x11, x12, rfl⟩ K3 hT3
            have hp : 0 ≤ p.a ∧ p.a < n ∧ 0 ≤ p.b ∧ p.b < n := by
              have : p ∈ ([⟨c.a, c.b⟩, ⟨c.b, c.a⟩] : List (T2 Int Int)) := by rw [hx2]; simp
              rcases List.mem_cons.mp this with e | e
              · subst e; exact ⟨c0, c1, c2, c3⟩
              · rw [List.mem_singleton.mp e]; exact ⟨c2, c3, c0, c1⟩
            obtain ⟨p0, p1, p2, p3⟩ := hp
            have fl := (fold_len (l := l') (m := c.c) a2).trans pl
            have fs : (a2 ++ [p]).foldl (fun l p => rl l p.a p.b c.c) l' = rl (a2.foldl (fun l p => rl l p.a p.b c.c) l') p.a p.b c.c := by simp
            generalize a2.foldl (fun l p => rl l p.a p.b c.c) l' = l2 at fl fs
            have q1 : p.a < l2.length := by omega
            have q3 : p.b < l2.length := by omega
            generalize hres : rl l2 p.a p.b c.c = res at fs
            unfold rl rc at hres
            simp (disch := first | omega | (simp; done) | (simp; omega)) [okb, -R.ok_bind, -List.map_append, -List.map_set, -List.map_map]
            refine W_if ?_
            simp (disch := first | omega | (simp; done) | (simp; omega)) [okb, -R.ok_bind, -List.map_append, -List.map_set, -List.map_map, p0, q1, p2, q3]
            cases h1 : ix l2 p.a with
            | none =>
              rw [h1, if_neg (by simp)] at hres
              simp (disch := first | omega | (simp; done) | (simp; omega)) [okb, -R.ok_bind, -List.map_append, -List.map_set, -List.map_map, h1]
              exact W_nil (W_nil (hT3.nx _ ⟨_, _, by rw [fs, ← hres]; rfl⟩))
            | some b =>
              rw [h1] at hres
              cases h2 : ix l2 p.b with
              | none =>
                rw [h2, if_pos rfl] at hres
                simp (disch := first | omega | (simp; done) | (simp; omega)) [okb, -R.ok_bind, -List.map_append, -List.map_set, -List.map_map, h1, h2]
                apply W_stM (f := (enc : Option Int → D))
                · rfl
                · rfl
                simp (disch := first | omega | (simp; done) | (simp; omega)) [okb, -R.ok_bind, -List.map_append, -List.map_set, -List.map_map, p0, q1, p2, q3, h1]
                exact ⟨some (b + c.c), rfl, W_nil (W_nil (hT3.nx _ ⟨_, _, by rw [fs, ← hres]; rfl⟩))⟩
              | some b' =>
                rw [h2] at hres
                dsimp only at hres
                simp (disch := first | omega | (simp; done) | (simp; omega)) [okb, -R.ok_bind, -List.map_append, -List.map_set, -List.map_map, h1, h2]
                refine ⟨fun h3 => ?_, fun h3 => ?_⟩
                · rw [if_pos (decide_eq_true h3)] at hres
                  apply W_stM (f := (enc : Option Int → D))
                  · rfl
                  · rfl
                  simp (disch := first | omega | (simp; done) | (simp; omega)) [okb, -R.ok_bind, -List.map_append, -List.map_set, -List.map_map, p0, q1, p2, q3, h1]
                  exact ⟨some (b + c.c), rfl, W_nil (W_nil (hT3.nx _ ⟨_, _, by rw [fs, ← hres]; rfl⟩))⟩
                · rw [if_neg (by simpa using h3)] at hres
                  exact W_nil (W_nil (hT3.nx _ ⟨_, _, by rw [fs, ← hres]; rfl⟩))
          · rintro e ⟨x11, x12, rfl⟩
            exact W_nil (hT2.nx _ ⟨_, _, _, _, _, by rw [ps]; rfl⟩)
        · rintro e ⟨x8, x9, x10, x11, x12, rfl⟩
          have tt := pass_to ok (cs := cr) (l := l) (fun _ h => h) l1
          exact W_nil (hT.nx _ ⟨pass l cr, _, _, _, _, _, _, rfl, tt.len.trans l1, tt.snd l2, fun p hp => tt.low _ _ (ok.so p hp).1 (l3 p hp), set_step ok l1 l3 l4⟩)
      · rintro e ⟨l, x7, x8, x9, x10, x11, x12, rfl, l1, l2, l3, l4⟩
        exact W_mv rfl (hK.rt _ ⟨l, rfl, l1, l2, set_rlx ok (by omega) l4 l2⟩)
  obtain ⟨_, h, l, rfl, h2⟩ := key
  exact ⟨l, h, h2⟩
/-! the while -/
def fs (m : Int) (s : Lb × Bool) (p : T2 Int Int) : Lb × Bool := (rl s.1 p.a p.b m, s.2 || rc s.1 p.a p.b m)
def fc (s : Lb × Bool) (c : Crk) : Lb × Bool := fs c.c (fs c.c s ⟨c.a, c.b⟩) ⟨c.b, c.a⟩
def fp (s : Lb × Bool) (cs : List Crk) : Lb × Bool := cs.foldl fc s
theorem fp_snoc {s : Lb × Bool} {cs : List Crk} {c : Crk} : fp s (cs ++ [c]) = fc (fp s cs) c := by simp [fp]
theorem fp_pass : ∀ {cs : List Crk} {s : Lb × Bool}, (fp s cs).1 = pass s.1 cs
  | [], _ => rfl
  | c :: cs, s => fp_pass (cs := cs) (s := fc s c)
theorem rl_no {l : Lb} {s e m : Int} (h : rc l s e m = false) : rl l s e m = l := by
  unfold rl
  rw [h]
  rfl
theorem fc_false {s : Lb × Bool} {c : Crk} (h : (fc s c).2 = false) : s.2 = false ∧ rc s.1 c.a c.b c.c = false ∧ rc s.1 c.b c.a c.c = false ∧ (fc s c).1 = s.1 := by
  unfold fc fs at h ⊢
  simp only [Bool.or_eq_false_iff] at h
  obtain ⟨⟨h1, h2⟩, h3⟩ := h
  have e := rl_no h2
  simp only at e h3 ⊢
  rw [e] at h3 ⊢
  exact ⟨h1, h2, h3, rl_no h3⟩
theorem fp_false : ∀ {cs : List Crk} {s : Lb × Bool}, (fp s cs).2 = false → s.2 = false ∧ (fp s cs).1 = s.1 ∧ ∀ c ∈ cs, rc s.1 c.a c.b c.c = false ∧ rc s.1 c.b c.a c.c = false
  | [], s, h => ⟨h, rfl, by simp⟩
  | c :: cs, s, h => by
    obtain ⟨h1, h2, h3⟩ := fp_false (cs := cs) (s := fc s c) h
    obtain ⟨g1, g2, g3, g4⟩ := fc_false h1
    rw [g4] at h2 h3
    refine ⟨g1, h2, fun x hx => ?_⟩
    rcases List.mem_cons.mp hx with e | e
    · exact e ▸ ⟨g2, g3⟩
    · exact h3 x e
theorem fp_still : ∀ {cs : List Crk} {s : Lb × Bool}, (∀ c ∈ cs, rc s.1 c.a c.b c.c = false ∧ rc s.1 c.b c.a c.c = false) → fp s cs = s
  | [], _, _ => rfl
  | c :: cs, s, h => by
    obtain ⟨h1, h2⟩ := h c (.head _)
    have e : fc s c = s := by
      unfold fc fs
      simp only [h1, rl_no h1, Bool.or_false, h2, rl_no h2]
    show fp (fc s c) cs = s
    rw [e]
    exact fp_still fun x hx => h x (.tail _ hx)
theorem fs_len {m : Int} {s : Lb × Bool} : ∀ ps : List (T2 Int Int), (ps.foldl (fs m) s).1.length = s.1.length
  | [] => rfl
  | p :: ps => by
    rw [List.foldl_cons, fs_len ps]
    show (rl s.1 p.a p.b m).length = _
    unfold rl
    split <;> simp
theorem rc_rlx {l : Lb} (h3 : ∀ p ∈ so, Lw l p.a p.b) (h : ∀ c ∈ cr, rc l c.a c.b c.c = false ∧ rc l c.b c.a c.c = false) : Rlx so cr l := by
  have key : ∀ {s e m b : Int}, rc l s e m = false → ix l s = some b → Lw l e (b + m) := by
    intro s e m b h hs
    unfold rc at h
    rw [hs] at h
    cases he : ix l e with
    | none => rw [he] at h; cases h
    | some b' =>
      rw [he] at h
      exact ⟨b', he, by have := of_decide_eq_false h; omega⟩
  exact ⟨h3, fun c hc => ⟨fun b hb => key (h c hc).1 hb, fun b hb => key (h c hc).2 hb⟩⟩
theorem first_beats_ok (ok : Ok n so cr) (hn : n ≤ 1000) : ∃ l : Lb, f_first_beats.sem [.int n, enc so, enc cr] = .ok (enc l) ∧ l.length = n ∧ Snd so cr l ∧ Rlx so cr l := by
  rw [e_first_beats]
  have key : ∃ d, runF T_first_beats b_first_beats 13 [.int n, enc so, enc cr] = .ok d ∧ ∃ l : Lb, d = enc l ∧ l.length = n ∧ Snd so cr l ∧ Rlx so cr l := by
    refine run_W fun K hK => ?_
    refine W_own ?_
    simp (disch := first | omega | (simp; done) | (simp; omega)) [okb, -R.ok_bind, -List.map_append, -List.map_set, -List.map_map, startE, flat_one]
    have h0 : List.replicate n PyData.none = (List.replicate n (none : Option Int)).map enc := by
      rw [List.map_replicate]
      rfl
    rw [h0]
    refine W_for (enc := enc) (xs := so) (fun a e => ∃ x4 x5, e = [some (.int n, true), some (enc so, true), some (enc cr, true), some (enc (start n a), false), x4, x5, none, none, none, none, none, none, none]) ?_ ⟨_, _, rfl⟩ ?_ ?_
    · simp (disch := first | omega | (simp; done) | (simp; omega)) [okb, -R.ok_bind, -List.map_append, -List.map_set, -List.map_map]
    · rintro a p c e hx ⟨x4, x5, rfl⟩ K' hT
      have hp := ok.so p (by rw [hx]; simp)
      have hl := (start_ok (cr := cr) ok a (fun q hq => by rw [hx]; simp [hq])).1
      have hs : start n (a ++ [p]) = s1 (start n a) p := start_snoc
      simp (disch := first | omega | (simp; done) | (simp; omega)) [okb, -R.ok_bind, -List.map_append, -List.map_set, -List.map_map]
      refine W_if ?_
      simp (disch := first | omega | (simp; done) | (simp; omega)) [okb, -R.ok_bind, -List.map_append, -List.map_set, -List.map_map]
      unfold s1 sc1 at hs
      have h3 : p.a < (start n a).length := by omega
      cases h1 : ix (start n a) p.a with
      | none =>
        rw [h1, if_pos rfl] at hs
        simp (disch := first | omega | (simp; done) | (simp; omega)) [okb, -R.ok_bind, -List.map_append, -List.map_set, -List.map_map, h1]
        apply W_stM (f := (enc : Option Int → D))
        · rfl
        · rfl
        simp (disch := first | omega | (simp; done) | (simp; omega)) [okb, -R.ok_bind, -List.map_append, -List.map_set, -List.map_map, hp.1, h3]
        exact ⟨some p.b, rfl, W_nil (W_nil (hT.nx _ ⟨_, _, by rw [hs]; rfl⟩))⟩
      | some y =>
        rw [h1] at hs
        dsimp only at hs
        simp (disch := first | omega | (simp; done) | (simp; omega)) [okb, -R.ok_bind, -List.map_append, -List.map_set, -List.map_map, h1]
        refine ⟨fun h2 => ?_, fun h2 => ?_⟩
        · rw [if_pos (decide_eq_true h2)] at hs
          apply W_stM (f := (enc : Option Int → D))
          · rfl
          · rfl
          simp (disch := first | omega | (simp; done) | (simp; omega)) [okb, -R.ok_bind, -List.map_append, -List.map_set, -List.map_map, hp.1, h3]
          exact ⟨some p.b, rfl, W_nil (W_nil (hT.nx _ ⟨_, _, by rw [hs]; rfl⟩))⟩
        · rw [if_neg (by simpa using h2)] at hs
          exact W_nil (W_nil (hT.nx _ ⟨_, _, by rw [hs]; rfl⟩))
    · rintro e ⟨x4, x5, rfl⟩
      obtain ⟨t1, t2, t3⟩ := start_ok (cr := cr) ok so (fun _ h => h)
      refine W_nm ?_
      simp (disch := first | omega | (simp; done) | (simp; omega)) [okb, -R.ok_bind, -List.map_append, -List.map_set, -List.map_map]
      refine W_wh (n + 1) (fun k e => ∃ (l : Lb) (g : Bool) (x7 x8 x9 x10 x11 x12 : Option (D × Bool)), e = [some (.int n, true), some (enc so, true), some (enc cr, true), some (enc l, false), x4, x5, some (.bool g, true), x7, x8, x9, x10, x11, x12] ∧ l.length = n ∧ Snd so cr l ∧ (∀ p ∈ so, Lw l p.a p.b) ∧ SetP n so cr k l ∧ (g = true → k ≤ n) ∧ (g = false → k ≤ n + 1 ∧ Rlx so cr l)) ⟨start n so, true, _, _, _, _, _, _, rfl, t1, t2, t3, set_zero ok t3, fun _ => Nat.zero_le _, fun h => by cases h⟩ ?_ ?_ (by omega)
      · rintro k e ⟨l, g, _, _, _, _, _, _, _, _, _, _, _, h1, h2⟩
        cases g with
        | true => have := h1 rfl; omega
        | false => exact (h2 rfl).1
      · rintro k e ⟨l, g, x7, x8, x9, x10, x11, x12, rfl, l1, l2, l3, l4, l5, l6⟩ K' hT
        simp (disch := first | omega | (simp; done) | (simp; omega)) [okb, -R.ok_bind, -List.map_append, -List.map_set, -List.map_map]
        refine ⟨fun hg => ?_, fun hg => ?_⟩
        · subst hg
          refine W_nm ?_
          simp (disch := first | omega | (simp; done) | (simp; omega)) [okb, -R.ok_bind, -List.map_append, -List.map_set, -List.map_map]
          refine W_for (enc := enc) (xs := cr) (fun a e => ∃ (x7 x8 x9 x10 x11 x12 : Option (D × Bool)), e = [some (.int n, true), some (enc so, true), some (enc cr, true), some (enc (fp (l, false) a).1, false), x4, x5, some (.bool (fp (l, false) a).2, true), x7, x8, x9, x10, x11, x12]) ?_ ⟨_, _, _, _, _, _, rfl⟩ ?_ ?_
          · simp (disch := first | omega | (simp; done) | (simp; omega)) [okb, -R.ok_bind, -List.map_append, -List.map_set, -List.map_map]
          · rintro a c d e hx ⟨x7, x8, x9, x10, x11, x12, rfl⟩ K2 hT2
            obtain ⟨c0, c1, c2, c3, c4, c5⟩ := ok.cr c (by rw [hx]; simp)
            have pl := (pass_to ok (cs := a) (l := l) (fun q hq => by rw [hx]; simp [hq]) l1).len.trans l1
            have ps : fp (l, false) (a ++ [c]) = fc (fp (l, false) a) c := fp_snoc
            have pl2 : (fp (l, false) a).1.length = n := by rw [fp_pass]; exact pl
            generalize fp (l, false) a = s at pl2 ps
            simp (disch := first | omega | (simp; done) | (simp; omega)) [okb, -R.ok_bind, -List.map_append, -List.map_set, -List.map_map]
            refine W_for (enc := enc) (xs := ([⟨c.a, c.b⟩, ⟨c.b, c.a⟩] : List (T2 Int Int))) (fun a e => ∃ (x10 x11 x12 : Option (D × Bool)), e = [some (.int n, true), some (enc so, true), some (enc cr, true), some (enc (a.foldl (fs c.c) s).1, false), x4, x5, some (.bool (a.foldl (fs c.c) s).2, true), some (.int c.a, true), some (.int c.b, true), some (.int c.c, true), x10, x11, x12]) ?_ ⟨_, _, _, rfl⟩ ?_ ?_
            · simp (disch := first | omega | (simp; done) | (simp; omega)) [okb, -R.ok_bind, -List.map_append, -List.map_set, -List.map_map]
            · rintro a2 p d2 e hx2 ⟨x10, x11, x12, rfl⟩ K3 hT3
              have hp : 0 ≤ p.a ∧ p.a < n ∧ 0 ≤ p.b ∧ p.b < n := by
                have : p ∈ ([⟨c.a, c.b⟩, ⟨c.b, c.a⟩] : List (T2 Int Int)) := by rw [hx2]; simp
                rcases List.mem_cons.mp this with e | e
                · subst e; exact ⟨c0, c1, c2, c3⟩
                · rw [List.mem_singleton.mp e]; exact ⟨c2, c3, c0, c1⟩
              obtain ⟨p0, p1, p2, p3⟩ := hp
              have fl := (fs_len (m := c.c) (s := s) a2).trans pl2
              have ff : (a2 ++ [p]).foldl (fs c.c) s = fs c.c (a2.foldl (fs c.c) s) p := by simp
              generalize a2.foldl (fs c.c) s = s2 at fl ff
              obtain ⟨l2', g2⟩ := s2
              generalize hres : fs c.c (l2', g2) p = res at ff
              unfold fs rl rc at hres
              dsimp only at hres fl ⊢
              have q1 : p.a < l2'.length := by omega
              have q3 : p.b < l2'.length := by omega
              simp (disch := first | omega | (simp; done) | (simp; omega)) [okb, -R.ok_bind, -List.map_append, -List.map_set, -List.map_map]
              cases h1 : ix l2' p.a with
              | none =>
                rw [h1] at hres
                simp only [Bool.false_eq_true, if_false, Bool.or_false] at hres
                refine W_nm ?_
                simp (disch := first | omega | (simp; done) | (simp; omega)) [okb, -R.ok_bind, -List.map_append, -List.map_set, -List.map_map, p0, q1, p2, q3, h1]
                refine W_if ?_
                simp (disch := first | omega | (simp; done) | (simp; omega)) [okb, -R.ok_bind, -List.map_append, -List.map_set, -List.map_map]
                exact W_nil (W_nil (hT3.nx _ ⟨_, _, _, by rw [ff, ← hres]; rfl⟩))
              | some b =>
                rw [h1] at hres
                cases h2 : ix l2' p.b with
                | none =>
                  rw [h2] at hres
                  simp only [if_true, Bool.or_true] at hres
                  refine W_nm ?_
                  simp (disch := first | omega | (simp; done) | (simp; omega)) [okb, -R.ok_bind, -List.map_append, -List.map_set, -List.map_map, p0, q1, p2, q3, h1]
                  refine W_if ?_
                  simp (disch := first | omega | (simp; done) | (simp; omega)) [okb, -R.ok_bind, -List.map_append, -List.map_set, -List.map_map, p0, q1, p2, q3, h2]
                  apply W_stM (f := (enc : Option Int → D))
                  · rfl
                  · rfl
                  simp (disch := first | omega | (simp; done) | (simp; omega)) [okb, -R.ok_bind, -List.map_append, -List.map_set, -List.map_map, p0, q1, p2, q3, h1]
                  refine ⟨some (b + c.c), rfl, ?_⟩
                  refine W_nm ?_
                  simp (disch := first | omega | (simp; done) | (simp; omega)) [okb, -R.ok_bind, -List.map_append, -List.map_set, -List.map_map]
                  exact W_nil (W_nil (hT3.nx _ ⟨_, _, _, by rw [ff, ← hres]; rfl⟩))
                | some b' =>
                  rw [h2] at hres
                  dsimp only at hres
                  refine W_nm ?_
                  simp (disch := first | omega | (simp; done) | (simp; omega)) [okb, -R.ok_bind, -List.map_append, -List.map_set, -List.map_map, p0, q1, p2, q3, h1]
                  refine W_if ?_
                  simp (disch := first | omega | (simp; done) | (simp; omega)) [okb, -R.ok_bind, -List.map_append, -List.map_set, -List.map_map, p0, q1, p2, q3, h2]
                  refine ⟨fun h3 => ?_, fun h3 => ?_⟩
                  · simp only [decide_eq_true h3, if_true, Bool.or_true] at hres
                    apply W_stM (f := (enc : Option Int → D))
                    · rfl
                    · rfl
                    simp (disch := first | omega | (simp; done) | (simp; omega)) [okb, -R.ok_bind, -List.map_append, -List.map_set, -List.map_map, p0, q1, p2, q3, h1]
                    refine ⟨some (b + c.c), rfl, ?_⟩
                    refine W_nm ?_
                    simp (disch := first | omega | (simp; done) | (simp; omega)) [okb, -R.ok_bind, -List.map_append, -List.map_set, -List.map_map]
                    exact W_nil (W_nil (hT3.nx _ ⟨_, _, _, by rw [ff, ← hres]; rfl⟩))
                  · simp only [decide_eq_false (show ¬ b + c.c < b' by omega), Bool.false_eq_true, if_false, Bool.or_false] at hres
                    exact W_nil (W_nil (hT3.nx _ ⟨_, _, _, by rw [ff, ← hres]; rfl⟩))
            · rintro e ⟨x10, x11, x12, rfl⟩
              exact W_nil (hT2.nx _ ⟨_, _, _, _, _, _, by rw [ps]; rfl⟩)
          · rintro e ⟨x7, x8, x9, x10, x11, x12, rfl⟩
            have tt := pass_to ok (cs := cr) (l := l) (fun _ h => h) l1
            have ep := fp_pass (cs := cr) (s := (l, false))
            refine W_nil (hT.nx _ ⟨(fp (l, false) cr).1, (fp (l, false) cr).2, _, _, _, _, _, _, rfl, ?_, ?_, ?_, ?_, ?_, ?_⟩)
            · rw [ep]; exact tt.len.trans l1
            · rw [ep]; exact tt.snd l2
            · rw [ep]; exact fun p hp => tt.low _ _ (ok.so p hp).1 (l3 p hp)
            · rw [ep]; exact set_step ok l1 l3 l4
            · intro hf
              apply Classical.byContradiction
              intro hk
              have r := set_rlx ok (by omega) l4 l2
              have := fp_still (cs := cr) (s := (l, false)) fun c hc => ⟨rc_no (r.cr c hc).1, rc_no (r.cr c hc).2⟩
              rw [this] at hf
              cases hf
            · intro hf
              obtain ⟨_, e1, e2⟩ := fp_false hf
              have := l5 rfl
              refine ⟨by omega, ?_⟩
              rw [e1]
              exact rc_rlx l3 e2
        · subst hg
          obtain ⟨_, r⟩ := l6 rfl
          exact W_mv rfl (hK.rt _ ⟨l, rfl, l1, l2, r⟩)
  obtain ⟨_, h, l, rfl, h2⟩ := key
  exact ⟨l, h, h2⟩
end K51

namespace K51
open PySem PySem.Spec PyProof.Rows L2 Pv Pv.Enc
inductive Wd where
  | so | cr | bad
  deriving DecidableEq, Inhabited
def Wd.s : Wd → Str
  | .so => "source" | .cr => "crack" | .bad => "Source"
@[reducible] instance : Enc Wd := ⟨fun w => .str w.s, 0, fun w => by cases w <;> decide +kernel, fun _ => Nat.le_refl _, fun a b => by cases a <;> cases b <;> decide +kernel⟩
instance : NN Wd := ⟨fun _ => rfl, fun _ => rfl, fun _ => rfl⟩
abbrev Rs := T2 Wd Int
abbrev Row := T2 (Option Int) (Option Rs)
variable {n : Nat} {so : List Src} {cr : List Crk}
def oth (c : Crk) (r : Int) : Int := if c.a = r then c.b else c.a
def tells (l : Lb) (c : Crk) (r : Int) : Bool := decide (r = c.a ∨ r = c.b) && match ix l (oth c r) with
  | none => false
  | some b => decide (some (b + c.c) = ix l r)
theorem other_ok (c : Crk) (r : Int) : f_other_room.sem [enc c, .int r] = .ok (.int (oth c r)) := by
  rw [e_other_room]
  refine run_eq fun K hK => ?_
  refine W_one ?_
  simp (disch := first | omega | (simp; done) | (simp; omega)) [okb, -R.ok_bind, -List.map_append, -List.map_set, -List.map_map, startE]
  unfold oth at hK
  by_cases h : c.a = r
  · simp (disch := first | omega | (simp; done) | (simp; omega)) [okb, -R.ok_bind, -List.map_append, -List.map_set, -List.map_map, h]
    exact hK.rt _ (by rw [if_pos h])
  · simp (disch := first | omega | (simp; done) | (simp; omega)) [okb, -R.ok_bind, -List.map_append, -List.map_set, -List.map_map, h]
    exact hK.rt _ (by rw [if_neg h])
theorem oth_in {c : Crk} {r : Int} {m : Nat} (h : 0 ≤ c.a ∧ c.a < m ∧ 0 ≤ c.b ∧ c.b < m) : 0 ≤ oth c r ∧ oth c r < m := by
  unfold oth
  split <;> omega
theorem tells_ok {l : Lb} {c : Crk} {r : Int} (h : 0 ≤ c.a ∧ c.a < l.length ∧ 0 ≤ c.b ∧ c.b < l.length) : f_tells_beat.sem [enc l, enc c, .int r] = .ok (.bool (tells l c r)) := by
  rw [e_tells_beat]
  refine run_eq fun K hK => ?_
  have ho : evF T_tells_beat 0 false [enc c, .int r] = .ok (.int (oth c r)) := evF_ok rfl (other_ok c r)
  obtain ⟨o0, o1⟩ := oth_in (r := r) h
  simp only [enc_T3, enc_int] at ho
  unfold tells at hK
  have ei := evIn_t2 (r := r) (a := c.a) (b := c.b)
  refine W_if ?_
  simp (disch := first | omega | (simp; done) | (simp; omega)) [okb, -R.ok_bind, -List.map_append, -List.map_set, -List.map_map, startE]
  by_cases h1 : r = c.a ∨ r = c.b
  · rw [decide_eq_true h1] at hK ei
    have r0 : 0 ≤ r ∧ r < l.length := by omega
    cases h2 : ix l (oth c r) with
    | none =>
      rw [h2] at hK
      simp (disch := first | omega | (simp; done) | (simp; omega)) [okb, -R.ok_bind, -List.map_append, -List.map_set, -List.map_map, ei, ho, h2]
      refine W_one ?_
      simp (disch := first | omega | (simp; done) | (simp; omega)) [okb, -R.ok_bind, -List.map_append, -List.map_set, -List.map_map]
      exact hK.rt _ rfl
    | some b =>
      rw [h2] at hK
      have e3 := eq_enc (some (b + c.c)) (ix l r)
      simp only [enc_some, enc_int] at e3
      simp (disch := first | omega | (simp; done) | (simp; omega)) [okb, -R.ok_bind, -List.map_append, -List.map_set, -List.map_map, ei, ho, h2]
      refine W_nil ?_
      refine W_one ?_
      simp (disch := first | omega | (simp; done) | (simp; omega)) [okb, -R.ok_bind, -List.map_append, -List.map_set, -List.map_map, ho, r0, h2, e3]
      exact hK.rt _ rfl
  · rw [decide_eq_false h1] at hK ei
    simp (disch := first | omega | (simp; done) | (simp; omega)) [okb, -R.ok_bind, -List.map_append, -List.map_set, -List.map_map, ei]
    refine W_one ?_
    simp (disch := first | omega | (simp; done) | (simp; omega)) [okb, -R.ok_bind, -List.map_append, -List.map_set, -List.map_map]
    exact hK.rt _ rfl
theorem late_ok {l : Lb} {r b : Int} (h0 : 0 ≤ r) (h1 : r < l.length) : f_is_late.sem [enc l, .int r, .int b] = .ok (.bool (match ix l r with | none => true | some x => decide (b < x))) := by
  rw [e_is_late]
  refine run_eq fun K hK => ?_
  refine W_one ?_
  cases h : ix l r with
  | none =>
    rw [h] at hK
    simp (disch := first | omega | (simp; done) | (simp; omega)) [okb, -R.ok_bind, -List.map_append, -List.map_set, -List.map_map, startE, h]
    exact hK.rt _ rfl
  | some x =>
    rw [h] at hK
    simp (disch := first | omega | (simp; done) | (simp; omega)) [okb, -R.ok_bind, -List.map_append, -List.map_set, -List.map_map, startE, h]
    exact hK.rt _ rfl
theorem leads_ok {l : Lb} {k : Nat} {r : Int} (hk : k < cr.length) (h : 0 ≤ (ix cr k).a ∧ (ix cr k).a < l.length ∧ 0 ≤ (ix cr k).b ∧ (ix cr k).b < l.length) (hne : (ix cr k).a ≠ (ix cr k).b) : f_law_leads.sem [enc cr, enc l, .int k, .int r] = .ok (.bool (tells l (ix cr k) r)) := by
  rw [e_law_leads]
  refine run_eq fun K hK => ?_
  refine W_asg ?_
  simp (disch := first | omega | (simp; done) | (simp; omega)) [okb, -R.ok_bind, -List.map_append, -List.map_set, -List.map_map, startE]
  generalize ix cr k = c at h hne hK
  obtain ⟨a0, a1, b0, b1⟩ := h
  unfold tells oth at hK
  refine W_if ?_
  simp (disch := first | omega | (simp; done) | (simp; omega)) [okb, -R.ok_bind, -List.map_append, -List.map_set, -List.map_map]
  refine ⟨fun h1 => ?_, fun h1 => ?_⟩
  · subst h1
    rw [decide_eq_true (.inl rfl), if_pos rfl] at hK
    refine W_one ?_
    simp (disch := first | omega | (simp; done) | (simp; omega)) [okb, -R.ok_bind, -List.map_append, -List.map_set, -List.map_map]
    cases h2 : ix l c.b with
    | none =>
      rw [h2] at hK
      simp (disch := first | omega | (simp; done) | (simp; omega)) [okb, -R.ok_bind, -List.map_append, -List.map_set, -List.map_map]
      exact hK.rt _ rfl
    | some b =>
      rw [h2] at hK
      have e3 := eq_enc (some (b + c.c)) (ix l c.a)
      simp only [enc_some, enc_int] at e3
      simp (disch := first | omega | (simp; done) | (simp; omega)) [okb, -R.ok_bind, -List.map_append, -List.map_set, -List.map_map, e3]
      exact hK.rt _ rfl
  · refine W_nil ?_
    refine W_one ?_
    simp (disch := first | omega | (simp; done) | (simp; omega)) [okb, -R.ok_bind, -List.map_append, -List.map_set, -List.map_map]
    by_cases h3 : r = c.b
    · subst h3
      rw [decide_eq_true (.inr rfl), if_neg (by omega)] at hK
      simp (disch := first | omega | (simp; done) | (simp; omega)) [okb, -R.ok_bind, -List.map_append, -List.map_set, -List.map_map]
      cases h2 : ix l c.a with
      | none =>
        rw [h2] at hK
        simp (disch := first | omega | (simp; done) | (simp; omega)) [okb, -R.ok_bind, -List.map_append, -List.map_set, -List.map_map]
        exact hK.rt _ rfl
      | some b =>
        rw [h2] at hK
        have e3 := eq_enc (some (b + c.c)) (ix l c.b)
        simp only [enc_some, enc_int] at e3
        simp (disch := first | omega | (simp; done) | (simp; omega)) [okb, -R.ok_bind, -List.map_append, -List.map_set, -List.map_map, e3]
        exact hK.rt _ rfl
    · rw [decide_eq_false (by omega)] at hK
      simp (disch := first | omega | (simp; done) | (simp; omega)) [okb, -R.ok_bind, -List.map_append, -List.map_set, -List.map_map, h3]
      exact hK.rt _ rfl
def cks (cr : List Crk) (l : Lb) (r : Int) : List Int := (List.range cr.length).filterMap fun k : Nat => if tells l (ix cr k) r = true then some (k : Int) else none
def sPr (so : List Src) (r b : Int) (k : Nat) : Bool := decide (ix so (k : Int) = ⟨r, b⟩)
def rsn (so : List Src) (cr : List Crk) (l : Lb) (r : Int) : Option Rs := match ix l r with
  | none => none
  | some b => match (List.range so.length).find? (sPr so r b) with
    | some k => some ⟨.so, k⟩
    | none => match cks cr l r with
      | [] => none
      | k :: _ => some ⟨.cr, k⟩
def crOk (cr : List Crk) (m : Nat) : Prop := ∀ c ∈ cr, 0 ≤ c.a ∧ c.a < m ∧ 0 ≤ c.b ∧ c.b < m ∧ c.a ≠ c.b
theorem cks_map {l : Lb} {r : Int} : (List.range cr.length).filterMap (fun k : Nat => if tells l (ix cr k) r = true then some (PyData.int k) else none) = (cks cr l r).map PyData.int := by
  unfold cks
  rw [List.map_filterMap]
  congr 1
  funext k
  split <;> rfl
theorem reason_ok {l : Lb} {r b : Int} (h0 : 0 ≤ r) (h1 : r < l.length) (hb : ix l r = some b) (hc : crOk cr l.length) (hz : cr.length ≤ 1000) (hs : so.length ≤ 1000) (he : (List.range so.length).find? (sPr so r b) = none → cks cr l r ≠ []) : f_reason_of.sem [enc so, enc cr, enc l, .int r] = .ok (enc (rsn so cr l r)) := by
  rw [e_reason_of]
  refine run_eq fun K hK => ?_
  unfold rsn at hK
  rw [hb] at hK
  dsimp only at hK
  refine W_idx (n := so.length) (g := fun k => PyData.tuple [.int k, enc (ix so (k : Int))]) (fun k e => ∃ x4 x5, e = [some (enc so, true), some (enc cr, true), some (enc l, true), some (.int r, true), x4, x5, none] ∧ ∀ j, j < k → sPr so r b j = false) ?_ ⟨_, _, rfl, fun j hj => by omega⟩ ?_ ?_
  · simp (disch := first | omega | (simp; done) | (simp; omega)) [okb, -R.ok_bind, -List.map_append, -List.map_set, -List.map_map, startE, enumD_rng]
  · rintro k e hk ⟨x4, x5, rfl, hj⟩ K' hT
    have e3 := eq_enc (ix so (k : Int)) (⟨r, b⟩ : Src)
    simp only [enc_T2, enc_int] at e3
    simp (disch := first | omega | (simp; done) | (simp; omega)) [okb, -R.ok_bind, -List.map_append, -List.map_set, -List.map_map]
    refine W_if ?_
    simp (disch := first | omega | (simp; done) | (simp; omega)) [okb, -R.ok_bind, -List.map_append, -List.map_set, -List.map_map, hb, e3]
    refine ⟨fun h => ?_, fun h => ?_⟩
    · have hf := find_range (P := sPr so r b) hk (decide_eq_true h) hj
      rw [hf] at hK
      refine W_one ?_
      simp (disch := first | omega | (simp; done) | (simp; omega)) [okb, -R.ok_bind, -List.map_append, -List.map_set, -List.map_map]
      exact hT.rt _ (hK.rt _ rfl)
    · refine W_nil (W_nil (hT.nx _ ⟨_, _, rfl, fun j hj' => ?_⟩))
      by_cases e : j = k
      · subst e
        exact decide_eq_false h
      · exact hj j (by omega)
  · rintro e ⟨x4, x5, rfl, hj⟩
    have hf := find_none (P := sPr so r b) hj
    rw [hf] at hK
    have hne := he hf
    refine W_one ?_
    simp (disch := first | omega | (simp; done) | (simp; omega)) [okb, -R.ok_bind, -List.map_append, -List.map_set, -List.map_map, enumD_rng]
    rw [goC_map (enc := fun k : Nat => PyData.tuple [.int k, .tuple [.int (ix cr (k : Int)).a, .int (ix cr (k : Int)).b, .int (ix cr (k : Int)).c]]) (xs := List.range cr.length) (g := fun k => if tells l (ix cr k) r = true then some (.int k) else none) (fun k hk => ?_) (by simp; omega)]
    rotate_left
    · have hk := List.mem_range.mp hk
      have hcc := hc _ (ix_mem (xs := cr) (i := (k : Int)) (by omega) (by omega))
      have ht : evF T_reason_of 0 false [enc l, enc (ix cr (k : Int)), .int r] = .ok (.bool (tells l (ix cr k) r)) := evF_ok rfl (tells_ok ⟨hcc.1, hcc.2.1, hcc.2.2.1, hcc.2.2.2.1⟩)
      simp only [enc_T3, enc_list, enc_int] at ht
      cases h2 : tells l (ix cr k) r with
      | true =>
        rw [h2] at ht
        simp (disch := first | omega | (simp; done) | (simp; omega)) [okb, -R.ok_bind, -List.map_append, -List.map_set, -List.map_map, step_eq, ht]
      | false =>
        rw [h2] at ht
        simp (disch := first | omega | (simp; done) | (simp; omega)) [okb, -R.ok_bind, -List.map_append, -List.map_set, -List.map_map, step_eq, ht]
    rw [List.nil_append, cks_map]
    cases hk : cks cr l r with
    | nil => exact absurd hk hne
    | cons x xs =>
      rw [hk] at hK
      simp (disch := first | omega | (simp; done) | (simp; omega)) [okb, -R.ok_bind, -List.map_append, -List.map_set, -List.map_map]
      exact hK.rt _ rfl
theorem law_reason_ok {l : Lb} {r : Int} (h0 : 0 ≤ r) (h1 : r < l.length) (hc : crOk cr l.length) (hz : cr.length ≤ 1000) (hs : so.length ≤ 1000) (he : ∀ b, ix l r = some b → (List.range so.length).find? (sPr so r b) = none → cks cr l r ≠ []) : f_law_reason.sem [enc so, enc cr, enc l, .int r] = .ok (enc (rsn so cr l r)) := by
  rw [e_law_reason]
  refine run_eq fun K hK => ?_
  unfold rsn at hK
  refine W_if ?_
  simp (disch := first | omega | (simp; done) | (simp; omega)) [okb, -R.ok_bind, -List.map_append, -List.map_set, -List.map_map, startE, isNone_enc]
  cases hb : ix l r with
  | none =>
    rw [hb] at hK
    simp (disch := first | omega | (simp; done) | (simp; omega)) [okb, -R.ok_bind, -List.map_append, -List.map_set, -List.map_map]
    refine W_one ?_
    simp (disch := first | omega | (simp; done) | (simp; omega)) [okb, -R.ok_bind, -List.map_append, -List.map_set, -List.map_map]
    exact hK.rt _ rfl
  | some b =>
    rw [hb] at hK
    dsimp only at hK
    simp (disch := first | omega | (simp; done) | (simp; omega)) [okb, -R.ok_bind, -List.map_append, -List.map_set, -List.map_map]
    refine W_nil ?_
    refine W_rng (lo := 0) (n := so.length) (fun k e => ∃ x4, e = [some (enc so, true), some (enc cr, true), some (enc l, true), some (.int r, true), x4] ∧ ∀ j, j < k → sPr so r b j = false) ?_ ⟨_, rfl, fun j hj => by omega⟩ ?_ ?_
    · simp (disch := first | omega | (simp; done) | (simp; omega)) [okb, -R.ok_bind, -List.map_append, -List.map_set, -List.map_map]
    · rintro k e hk ⟨x4, rfl, hj⟩ K' hT
      have e3 := eq_enc (ix so (k : Int)) (⟨r, b⟩ : Src)
      simp only [enc_T2, enc_int] at e3
      simp (disch := first | omega | (simp; done) | (simp; omega)) [okb, -R.ok_bind, -List.map_append, -List.map_set, -List.map_map]
      refine W_if ?_
      simp (disch := first | omega | (simp; done) | (simp; omega)) [okb, -R.ok_bind, -List.map_append, -List.map_set, -List.map_map, hb, e3]
      refine ⟨fun h => ?_, fun h => ?_⟩
      · have hf := find_range (P := sPr so r b) hk (decide_eq_true h) hj
        rw [hf] at hK
        refine W_one ?_
        simp (disch := first | omega | (simp; done) | (simp; omega)) [okb, -R.ok_bind, -List.map_append, -List.map_set, -List.map_map]
        exact hT.rt _ (hK.rt _ rfl)
      · refine W_nil (W_nil (hT.nx _ ⟨_, rfl, fun j hj' => ?_⟩))
        by_cases e : j = k
        · subst e
          exact decide_eq_false h
        · exact hj j (by omega)
    · rintro e ⟨x4, rfl, hj⟩
      have hf := find_none (P := sPr so r b) hj
      rw [hf] at hK
      have hne := he b hb hf
      refine W_one ?_
      simp (disch := first | omega | (simp; done) | (simp; omega)) [okb, -R.ok_bind, -List.map_append, -List.map_set, -List.map_map]
      rw [goC_rng (g := fun k => if tells l (ix cr k) r = true then some (.int k) else none) (fun k hk => ?_) (by omega)]
      rotate_left
      · have hcc := hc _ (ix_mem (xs := cr) (i := (k : Int)) (by omega) (by omega))
        have ht : evF T_law_reason 0 false [enc cr, enc l, .int k, .int r] = .ok (.bool (tells l (ix cr k) r)) := evF_ok rfl (leads_ok hk ⟨hcc.1, hcc.2.1, hcc.2.2.1, hcc.2.2.2.1⟩ hcc.2.2.2.2)
        simp only [enc_T3, enc_list, enc_int] at ht
        cases h2 : tells l (ix cr k) r with
        | true =>
          rw [h2] at ht
          simp (disch := first | omega | (simp; done) | (simp; omega)) [okb, -R.ok_bind, -List.map_append, -List.map_set, -List.map_map, step_eq, ht]
        | false =>
          rw [h2] at ht
          simp (disch := first | omega | (simp; done) | (simp; omega)) [okb, -R.ok_bind, -List.map_append, -List.map_set, -List.map_map, step_eq, ht]
      rw [cks_map]
      cases hk : cks cr l r with
      | nil => exact absurd hk hne
      | cons x xs =>
        rw [hk] at hK
        simp (disch := first | omega | (simp; done) | (simp; omega)) [okb, -R.ok_bind, -List.map_append, -List.map_set, -List.map_map]
        exact hK.rt _ rfl
end K51

namespace K51
open PySem PySem.Spec PyProof.Rows L2 Pv Pv.Enc
variable {n : Nat} {so : List Src} {cr : List Crk}
theorem rsn_ex (ok : Ok n so cr) {l : Lb} (hl : l.length = n) (s : Snd so cr l) (r : Rlx so cr l) {v b : Int} (h0 : 0 ≤ v) (hb : ix l v = some b) (hf : (List.range so.length).find? (sPr so v b) = none) : cks cr l v ≠ [] := by
  have m := (fit s r h0 b).mp hb
  have hin : ∀ (k : Nat) (c : Crk), k < cr.length → ix cr (k : Int) = c → tells l c v = true → cks cr l v ≠ [] := by
    intro k c hk hc ht hn
    have : (k : Int) ∈ cks cr l v := List.mem_filterMap.mpr ⟨k, List.mem_range.mpr hk, by rw [hc, if_pos ht]⟩
    rw [hn] at this
    cases this
  have hstep : ∀ {u b0 x : Int}, Wk so cr u b0 → b = b0 + x → (∀ b', Wk so cr u b' → Wk so cr v (b' + x)) → ix l u = some b0 := by
    intro u b0 x wu e hw
    have bd := wu.bd ok
    obtain ⟨bu, hu, hle⟩ := r.le wu
    have mu := (fit s r bd.1 bu).mp hu
    have h2 := m.2 _ (hw _ mu.1)
    rw [hu]
    congr 1
    omega
  have m' := m
  obtain ⟨w, _⟩ := m'
  cases w with
  | @src p h' =>
    obtain ⟨k, hk, e⟩ := mem_ix h'
    rw [List.find?_range_eq_none] at hf
    have := hf k hk
    unfold sPr at this
    rw [e] at this
    simp at this
  | @fw c b0 wu h' =>
    obtain ⟨k, hk, e⟩ := mem_ix h'
    have hu := hstep wu rfl fun b' w => Wk.fw w h'
    refine hin k c hk e ?_
    have hc := ok.cr c h'
    unfold tells oth
    rw [decide_eq_true (.inr rfl), if_neg hc.2.2.2.2.1, hu]
    simp [hb]
  | @bk c b0 wu h' =>
    obtain ⟨k, hk, e⟩ := mem_ix h'
    have hu := hstep wu rfl fun b' w => Wk.bk w h'
    refine hin k c hk e ?_
    unfold tells oth
    rw [decide_eq_true (.inl rfl), if_pos rfl, hu]
    simp [hb]
def rows (so : List Src) (cr : List Crk) (l : Lb) (n : Nat) : List Row := (List.range n).map fun r : Nat => ⟨ix l r, rsn so cr l r⟩
theorem rows_snoc {l : Lb} {k : Nat} : rows so cr l (k + 1) = rows so cr l k ++ [⟨ix l k, rsn so cr l k⟩] := by
  unfold rows
  rw [List.range_succ, List.map_append]
  rfl
theorem ok_crOk (ok : Ok n so cr) : crOk cr n := fun c hc => by
  have := ok.cr c hc
  exact ⟨this.1, this.2.1, this.2.2.1, this.2.2.2.1, this.2.2.2.2.1⟩
theorem find_smoke_ok (ok : Ok n so cr) (hn : n ≤ 1000) (hz : cr.length ≤ 1000) (hs : so.length ≤ 1000) : ∃ l : Lb, f_find_smoke.sem [.int n, enc so, enc cr] = .ok (enc (rows so cr l n)) ∧ l.length = n ∧ Snd so cr l ∧ Rlx so cr l := by
  obtain ⟨l, hb, l1, l2, l3⟩ := first_beats_ok ok hn
  refine ⟨l, ?_, l1, l2, l3⟩
  rw [e_find_smoke]
  refine run_eq fun K hK => ?_
  have hb' : evF T_find_smoke 0 false [.int n, enc so, enc cr] = .ok (enc l) := evF_ok rfl hb
  simp only [enc_list] at hb'
  refine W_nm ?_
  simp (disch := first | omega | (simp; done) | (simp; omega)) [okb, -R.ok_bind, -List.map_append, -List.map_set, -List.map_map, startE, hb']
  refine W_own ?_
  simp (disch := first | omega | (simp; done) | (simp; omega)) [okb, -R.ok_bind, -List.map_append, -List.map_set, -List.map_map]
  refine W_idx (n := n) (g := fun k => PyData.tuple [.int k, enc (ix l (k : Int))]) (fun k e => ∃ x5 x6, e = [some (.int n, true), some (enc so, true), some (enc cr, true), some (enc l, true), some (enc (rows so cr l k), false), x5, x6]) ?_ ⟨_, _, rfl⟩ ?_ ?_
  · simp (disch := first | omega | (simp; done) | (simp; omega)) [okb, -R.ok_bind, -List.map_append, -List.map_set, -List.map_map, enumD_rng, l1]
  · rintro k e hk ⟨x5, x6, rfl⟩ K' hT
    have hr := rows_snoc (so := so) (cr := cr) (l := l) (k := k)
    have hlen : (rows so cr l k).length = k := by simp [rows]
    generalize rows so cr l k = rw0 at hr hlen
    simp (disch := first | omega | (simp; done) | (simp; omega)) [okb, -R.ok_bind, -List.map_append, -List.map_set, -List.map_map]
    apply W_appM (f := (enc : Row → D))
    · rfl
    · rfl
    · omega
    cases hv : ix l (k : Int) with
    | none =>
      have hrs : rsn so cr l k = none := by unfold rsn; rw [hv]
      simp (disch := first | omega | (simp; done) | (simp; omega)) [okb, -R.ok_bind, -List.map_append, -List.map_set, -List.map_map, hv]
      refine ⟨⟨none, none⟩, ⟨rfl, rfl⟩, W_nil (hT.nx _ ⟨_, _, by rw [hr, hv, hrs]; rfl⟩)⟩
    | some b =>
      have hrr : evF T_find_smoke 1 false [enc so, enc cr, enc l, .int k] = .ok (enc (rsn so cr l k)) := evF_ok rfl (reason_ok (by omega) (by omega) hv (by rw [l1]; exact ok_crOk ok) hz hs fun hf => rsn_ex ok l1 l2 l3 (by omega) hv hf)
      simp only [enc_list] at hrr
      simp (disch := first | omega | (simp; done) | (simp; omega)) [okb, -R.ok_bind, -List.map_append, -List.map_set, -List.map_map, hv, hrr]
      refine ⟨⟨some b, rsn so cr l k⟩, ⟨rfl, rfl⟩, W_nil (hT.nx _ ⟨_, _, by rw [hr, hv]; rfl⟩)⟩
  · rintro e ⟨x5, x6, rfl⟩
    exact W_mv rfl (hK.rt _ rfl)
/-! the judges -/
def late (l : Lb) (r b : Int) : Bool := match ix l r with
  | none => true
  | some x => decide (b < x)
def holds (l : Lb) (c : Crk) : Bool := (match ix l c.a with
  | none => true
  | some b => !late l c.b (b + c.c)) && match ix l c.b with
  | none => true
  | some b => !late l c.a (b + c.c)
theorem holds_ok {l : Lb} {c : Crk} (h : 0 ≤ c.a ∧ c.a < l.length ∧ 0 ≤ c.b ∧ c.b < l.length) : f_crack_holds.sem [enc l, enc c] = .ok (.bool (holds l c)) := by
  rw [e_crack_holds]
  refine run_eq fun K hK => ?_
  obtain ⟨a0, a1, b0, b1⟩ := h
  refine W_asg ?_
  simp (disch := first | omega | (simp; done) | (simp; omega)) [okb, -R.ok_bind, -List.map_append, -List.map_set, -List.map_map, startE]
  have la : ∀ x : Int, evF T_crack_holds 0 false [enc l, .int c.b, .int x] = .ok (.bool (late l c.b x)) := fun x => evF_ok rfl (late_ok b0 b1)
  have lb : ∀ x : Int, evF T_crack_holds 0 false [enc l, .int c.a, .int x] = .ok (.bool (late l c.a x)) := fun x => evF_ok rfl (late_ok a0 a1)
  simp only [enc_list] at la lb
  unfold holds at hK
  have second : W (evSs T_crack_holds (.cons (.ret (.one (.e (.orr (.cons (.cmp .isn (.idx (.var 0 true) (.var 3 true)) (.cst .none)) (.cons (.nt (.fn 0 false (.cons (.var 0 true) (.cons (.var 2 true) (.cons (.bin .add .sh (.idx (.var 0 true) (.var 3 true)) (.var 4 true)) .nil))))) .nil)))))) .nil) [some (enc l, true), some (enc c, true), some (.int c.a, true), some (.int c.b, true), some (.int c.c, true)]) (fun fl => fl = .rt (.bool (match ix l c.b with | none => true | some b => !late l c.a (b + c.c)))) := by
    refine W_one ?_
    cases hb : ix l c.b with
    | none => simp (disch := first | omega | (simp; done) | (simp; omega)) [okb, -R.ok_bind, -List.map_append, -List.map_set, -List.map_map, hb]
    | some b => simp (disch := first | omega | (simp; done) | (simp; omega)) [okb, -R.ok_bind, -List.map_append, -List.map_set, -List.map_map, hb, lb]
  simp only [enc_list, enc_T3, enc_int] at second
  cases ha : ix l c.a with
  | none =>
    rw [ha, Bool.true_and] at hK
    refine W_if ?_
    simp (disch := first | omega | (simp; done) | (simp; omega)) [okb, -R.ok_bind, -List.map_append, -List.map_set, -List.map_map, ha]
    refine W_nil (second.imp fun fl e => ?_)
    subst e
    exact hK.rt _ rfl
  | some b =>
    rw [ha] at hK
    dsimp only at hK
    cases hl : late l c.b (b + c.c) with
    | true =>
      rw [hl] at hK
      refine W_if ?_
      simp (disch := first | omega | (simp; done) | (simp; omega)) [okb, -R.ok_bind, -List.map_append, -List.map_set, -List.map_map, ha, la, hl]
      refine W_one ?_
      simp (disch := first | omega | (simp; done) | (simp; omega)) [okb, -R.ok_bind, -List.map_append, -List.map_set, -List.map_map]
      exact hK.rt _ rfl
    | false =>
      rw [hl] at hK
      refine W_if ?_
      simp (disch := first | omega | (simp; done) | (simp; omega)) [okb, -R.ok_bind, -List.map_append, -List.map_set, -List.map_map, ha, la, hl]
      refine W_nil (second.imp fun fl e => ?_)
      subst e
      exact hK.rt _ rfl
def isr (so : List Src) (cr : List Crk) (l : Lb) (r : Int) (q : Rs) : Bool := match q.a with
  | .so => decide (0 ≤ q.b ∧ q.b < so.length) && decide ((⟨(ix so q.b).a, some (ix so q.b).b⟩ : T2 Int (Option Int)) = ⟨r, ix l r⟩)
  | .cr => decide (0 ≤ q.b ∧ q.b < cr.length) && tells l (ix cr q.b) r
  | .bad => false
theorem wd_eq (a b : Wd) : evCmp .eq (.str a.s) (.str b.s) = .ok (decide (a = b)) := eq_enc a b
theorem wd_ne (a b : Wd) : evCmp .ne (.str a.s) (.str b.s) = .ok (!decide (a = b)) := ne_enc a b
theorem is_reason_ok {l : Lb} {r : Int} {q : Option Rs} (h0 : 0 ≤ r) (h1 : r < l.length) (hc : crOk cr l.length) : f_is_reason.sem [enc so, enc cr, enc l, .int r, enc q] = .ok (.bool (match q with | none => false | some q => isr so cr l r q)) := by
  rw [e_is_reason]
  refine run_eq fun K hK => ?_
  cases q with
  | none =>
    refine W_if ?_
    simp (disch := first | omega | (simp; done) | (simp; omega)) [okb, -R.ok_bind, -List.map_append, -List.map_set, -List.map_map, startE]
    refine W_one ?_
    simp (disch := first | omega | (simp; done) | (simp; omega)) [okb, -R.ok_bind, -List.map_append, -List.map_set, -List.map_map]
    exact hK.rt _ rfl
  | some q =>
    obtain ⟨w, k⟩ := q
    refine W_if ?_
    simp (disch := first | omega | (simp; done) | (simp; omega)) [okb, -R.ok_bind, -List.map_append, -List.map_set, -List.map_map, startE]
    refine W_nil ?_
    refine W_asg ?_
    simp (disch := first | omega | (simp; done) | (simp; omega)) [okb, -R.ok_bind, -List.map_append, -List.map_set, -List.map_map]
    have es : evCmp .eq (enc w) (.str "source") = .ok (decide (w = .so)) := eq_enc w .so
    have ec : evCmp .eq (enc w) (.str "crack") = .ok (decide (w = .cr)) := eq_enc w .cr
    have e3 := eq_enc (⟨(ix so k).a, some (ix so k).b⟩ : T2 Int (Option Int)) ⟨r, ix l r⟩
    simp only [enc_T2, enc_some, enc_int] at e3
    unfold isr at hK
    dsimp only at hK
    cases w with
    | so =>
      dsimp only at hK
      refine W_if ?_
      simp (disch := first | omega | (simp; done) | (simp; omega)) [okb, -R.ok_bind, -List.map_append, -List.map_set, -List.map_map, es]
      refine W_one ?_
      by_cases h2 : 0 ≤ k
      · by_cases h3 : k < so.length
        · rw [decide_eq_true ⟨h2, h3⟩] at hK
          simp (disch := first | omega | (simp; done) | (simp; omega)) [okb, -R.ok_bind, -List.map_append, -List.map_set, -List.map_map, h2, h3, e3]
          exact hK.rt _ (by simp)
        · rw [decide_eq_false (by omega)] at hK
          simp (disch := first | omega | (simp; done) | (simp; omega)) [okb, -R.ok_bind, -List.map_append, -List.map_set, -List.map_map, h2, h3]
          exact hK.rt _ rfl
      · rw [decide_eq_false (by omega)] at hK
        simp (disch := first | omega | (simp; done) | (simp; omega)) [okb, -R.ok_bind, -List.map_append, -List.map_set, -List.map_map, h2]
        exact hK.rt _ rfl
    | cr =>
      dsimp only at hK
      refine W_if ?_
      simp (disch := first | omega | (simp; done) | (simp; omega)) [okb, -R.ok_bind, -List.map_append, -List.map_set, -List.map_map, es]
      refine W_nil (W_one ?_)
      by_cases h2 : 0 ≤ k
      · by_cases h3 : k < cr.length
        · rw [decide_eq_true ⟨h2, h3⟩] at hK
          have hcc := hc _ (ix_mem h2 h3)
          have ht : evF T_is_reason 0 false [enc l, enc (ix cr k), .int r] = .ok (.bool (tells l (ix cr k) r)) := evF_ok rfl (tells_ok ⟨hcc.1, hcc.2.1, hcc.2.2.1, hcc.2.2.2.1⟩)
          simp only [enc_list, enc_T3, enc_int] at ht
          simp (disch := first | omega | (simp; done) | (simp; omega)) [okb, -R.ok_bind, -List.map_append, -List.map_set, -List.map_map, ec, h2, h3, ht]
          exact hK.rt _ rfl
        · rw [decide_eq_false (by omega)] at hK
          simp (disch := first | omega | (simp; done) | (simp; omega)) [okb, -R.ok_bind, -List.map_append, -List.map_set, -List.map_map, ec, h2, h3]
          exact hK.rt _ rfl
      · rw [decide_eq_false (by omega)] at hK
        simp (disch := first | omega | (simp; done) | (simp; omega)) [okb, -R.ok_bind, -List.map_append, -List.map_set, -List.map_map, ec, h2]
        exact hK.rt _ rfl
    | bad =>
      dsimp only at hK
      refine W_if ?_
      simp (disch := first | omega | (simp; done) | (simp; omega)) [okb, -R.ok_bind, -List.map_append, -List.map_set, -List.map_map, es]
      refine W_nil (W_one ?_)
      simp (disch := first | omega | (simp; done) | (simp; omega)) [okb, -R.ok_bind, -List.map_append, -List.map_set, -List.map_map, ec]
      exact hK.rt _ rfl
def rowOk (so : List Src) (cr : List Crk) (l : Lb) (r : Int) (w : Row) : Bool := match w.a with
  | none => w.b.isNone
  | some _ => match w.b with
    | none => false
    | some q => isr so cr l r q
def labs (rs : List Row) : Lb := rs.map (·.a)
def Acc (n : Nat) (so : List Src) (cr : List Crk) (rs : List Row) : Bool :=
  decide (rs.length = n) && (so.all (fun p => !late (labs rs) p.a p.b) && (cr.all (holds (labs rs)) && (List.range n).all fun r => rowOk so cr (labs rs) r (ix rs r)))
theorem all_false {α : Type} {p : α → Bool} {xs : List α} {x : α} (h : x ∈ xs) (hp : p x = false) : xs.all p = false := by
  rw [Bool.eq_false_iff]
  intro ha
  have := List.all_eq_true.mp ha x h
  rw [hp] at this
  cases this
theorem ix_labs {rs : List Row} {k : Int} (h0 : 0 ≤ k) (h1 : k < rs.length) : ix (labs rs) k = (ix rs k).a := by
  have : k.toNat < rs.length := by omega
  simp [ix, labs, List.getElem?_eq_getElem this]
theorem judge_ok (ok : Ok n so cr) (hn : n ≤ 1000) (hz : cr.length ≤ 1000) (hs : so.length ≤ 1000) (rs : List Row) : f_judge_smoke.sem [.int n, enc so, enc cr, enc rs] = .ok (.bool (Acc n so cr rs)) := by
  rw [e_judge_smoke]
  refine run_eq fun K hK => ?_
  unfold Acc at hK
  by_cases hl : rs.length = n
  · rw [decide_eq_true hl, Bool.true_and] at hK
    have hl' : (rs.length : Int) = n := by omega
    refine W_if ?_
    simp (disch := first | omega | (simp; done) | (simp; omega)) [okb, -R.ok_bind, -List.map_append, -List.map_set, -List.map_map, startE, hl']
    refine W_nil ?_
    refine W_nm ?_
    simp (disch := first | omega | (simp; done) | (simp; omega)) [okb, -R.ok_bind, -List.map_append, -List.map_set, -List.map_map]
    rw [goC_all (g := fun w : Row => enc w.a) (fun w hw => ?_) (by omega)]
    rotate_left
    · simp (disch := first | omega | (simp; done) | (simp; omega)) [okb, -R.ok_bind, -List.map_append, -List.map_set, -List.map_map, step_eq]
    have e1 : rs.map (fun w : Row => enc w.a) = (labs rs).map enc := by
      rw [labs, List.map_map]
      rfl
    rw [e1]
    have ll : (labs rs).length = n := by simp [labs, hl]
    have lx : ∀ k : Nat, k < n → ix (labs rs) (k : Int) = (ix rs (k : Int)).a := fun k hk => ix_labs (by omega) (by omega)
    generalize labs rs = l at hK ll lx
    simp (disch := first | omega | (simp; done) | (simp; omega)) [okb, -R.ok_bind, -List.map_append, -List.map_set, -List.map_map]
    refine W_if ?_
    simp (disch := first | omega | (simp; done) | (simp; omega)) [okb, -R.ok_bind, -List.map_append, -List.map_set, -List.map_map]
    rw [goC_all (g := fun p : Src => .bool (late l p.a p.b)) (fun p hp => ?_) (by omega)]
    rotate_left
    · have hb := ok.so p hp
      have la : evF T_judge_smoke 0 false [enc l, .int p.a, .int p.b] = .ok (.bool (late l p.a p.b)) := evF_ok rfl (late_ok hb.1 (by omega))
      simp only [enc_list] at la
      simp (disch := first | omega | (simp; done) | (simp; omega)) [okb, -R.ok_bind, -List.map_append, -List.map_set, -List.map_map, step_eq, la]
    have e3 : (so.any fun p => late l p.a p.b) = !so.all fun p => !late l p.a p.b := by
      rw [List.not_all_eq_any_not]
      congr 1
      funext p
      simp
    cases h2 : so.all (fun p => !late l p.a p.b) with
    | false =>
      rw [h2] at hK e3
      simp (disch := first | omega | (simp; done) | (simp; omega)) [okb, -R.ok_bind, -List.map_append, -List.map_set, -List.map_map, e3]
      refine W_one ?_
      simp (disch := first | omega | (simp; done) | (simp; omega)) [okb, -R.ok_bind, -List.map_append, -List.map_set, -List.map_map]
      exact hK.rt _ rfl
    | true =>
      rw [h2, Bool.true_and] at hK
      rw [h2] at e3
      simp (disch := first | omega | (simp; done) | (simp; omega)) [okb, -R.ok_bind, -List.map_append, -List.map_set, -List.map_map, e3]
      refine W_nil ?_
      refine W_if ?_
      simp (disch := first | omega | (simp; done) | (simp; omega)) [okb, -R.ok_bind, -List.map_append, -List.map_set, -List.map_map]
      rw [goC_all (g := fun c : Crk => .bool (holds l c)) (fun c hc => ?_) (by omega)]
      rotate_left
      · have hb := ok.cr c hc
        have la : evF T_judge_smoke 1 false [enc l, enc c] = .ok (.bool (holds l c)) := evF_ok rfl (holds_ok ⟨hb.1, by omega, hb.2.2.1, by omega⟩)
        simp only [enc_list, enc_T3, enc_int] at la
        simp (disch := first | omega | (simp; done) | (simp; omega)) [okb, -R.ok_bind, -List.map_append, -List.map_set, -List.map_map, step_eq, la]
      have e5 : evBi .all .sh [.list (cr.map fun c => PyData.bool (holds l c))] = .ok (.bool (cr.all (holds l))) := evBi_allf
      cases h3 : cr.all (holds l) with
      | false =>
        rw [h3] at hK e5
        simp (disch := first | omega | (simp; done) | (simp; omega)) [okb, -R.ok_bind, -List.map_append, -List.map_set, -List.map_map, e5, -evBi_allf]
        refine W_one ?_
        simp (disch := first | omega | (simp; done) | (simp; omega)) [okb, -R.ok_bind, -List.map_append, -List.map_set, -List.map_map]
        exact hK.rt _ rfl
      | true =>
        rw [h3, Bool.true_and] at hK
        rw [h3] at e5
        simp (disch := first | omega | (simp; done) | (simp; omega)) [okb, -R.ok_bind, -List.map_append, -List.map_set, -List.map_map, e5, -evBi_allf]
        refine W_nil ?_
        refine W_idx (n := n) (g := fun k => PyData.tuple [.int k, enc (ix rs (k : Int))]) (fun k e => ∃ x5 x7 x9, e = [some (.int n, true), some (enc so, true), some (enc cr, true), some (enc rs, true), some (enc l, true), x5, none, x7, none, x9] ∧ ∀ j : Nat, j < k → rowOk so cr l j (ix rs j) = true) ?_ ⟨_, _, _, rfl, fun j hj => by omega⟩ ?_ ?_
        · simp (disch := first | omega | (simp; done) | (simp; omega)) [okb, -R.ok_bind, -List.map_append, -List.map_set, -List.map_map, enumD_rng, hl]
        · rintro k e hk ⟨x5, x7, x9, rfl, hj⟩ K' hT
          have hir : ∀ q : Option Rs, evF T_judge_smoke 2 false [enc so, enc cr, enc l, .int k, enc q] = .ok (.bool (match q with | none => false | some q => isr so cr l k q)) := fun q => evF_ok rfl (is_reason_ok (by omega) (by omega) (by rw [ll]; exact ok_crOk ok))
          simp only [enc_list] at hir
          have hrow : ∀ b, rowOk so cr l k (ix rs k) = b → b = false → K' (.rt (.bool false)) := fun b hb e => by
            subst e
            have : (List.range n).all (fun r => rowOk so cr l r (ix rs r)) = false := all_false (List.mem_range.mpr hk) hb
            rw [this] at hK
            exact hT.rt _ (hK.rt _ rfl)
          have hgo : rowOk so cr l k (ix rs k) = true → ∀ j : Nat, j < k + 1 → rowOk so cr l j (ix rs j) = true := fun h j hj' => by
            by_cases e : j = k
            · subst e; exact h
            · exact hj j (by omega)
          generalize ix rs (k : Int) = w at hrow hgo
          obtain ⟨b, q⟩ := w
          unfold rowOk at hrow hgo
          dsimp only at hrow hgo
          simp (disch := first | omega | (simp; done) | (simp; omega)) [okb, -R.ok_bind, -List.map_append, -List.map_set, -List.map_map]
          cases b with
          | none =>
            cases q with
            | none =>
              refine W_if ?_
              simp (disch := first | omega | (simp; done) | (simp; omega)) [okb, -R.ok_bind, -List.map_append, -List.map_set, -List.map_map]
              refine W_nil ?_
              refine W_if ?_
              simp (disch := first | omega | (simp; done) | (simp; omega)) [okb, -R.ok_bind, -List.map_append, -List.map_set, -List.map_map]
              exact W_nil (W_nil (hT.nx _ ⟨_, _, _, rfl, hgo rfl⟩))
            | some q =>
              refine W_if ?_
              simp (disch := first | omega | (simp; done) | (simp; omega)) [okb, -R.ok_bind, -List.map_append, -List.map_set, -List.map_map]
              refine W_one ?_
              simp (disch := first | omega | (simp; done) | (simp; omega)) [okb, -R.ok_bind, -List.map_append, -List.map_set, -List.map_map]
              exact hrow _ rfl rfl
          | some b =>
            have hq := hir q
            cases q with
            | none =>
              simp only [enc_none] at hq
              refine W_if ?_
              simp (disch := first | omega | (simp; done) | (simp; omega)) [okb, -R.ok_bind, -List.map_append, -List.map_set, -List.map_map]
              refine W_nil ?_
              refine W_if ?_
              simp (disch := first | omega | (simp; done) | (simp; omega)) [okb, -R.ok_bind, -List.map_append, -List.map_set, -List.map_map, hq]
              refine W_one ?_
              simp (disch := first | omega | (simp; done) | (simp; omega)) [okb, -R.ok_bind, -List.map_append, -List.map_set, -List.map_map]
              exact hrow _ rfl rfl
            | some q =>
              simp only [enc_some, enc_T2, enc_int] at hq
              dsimp only at hrow hgo
              cases hi : isr so cr l k q with
              | false =>
                rw [hi] at hq
                refine W_if ?_
                simp (disch := first | omega | (simp; done) | (simp; omega)) [okb, -R.ok_bind, -List.map_append, -List.map_set, -List.map_map]
                refine W_nil ?_
                refine W_if ?_
                simp (disch := first | omega | (simp; done) | (simp; omega)) [okb, -R.ok_bind, -List.map_append, -List.map_set, -List.map_map, hq]
                refine W_one ?_
                simp (disch := first | omega | (simp; done) | (simp; omega)) [okb, -R.ok_bind, -List.map_append, -List.map_set, -List.map_map]
                exact hrow _ hi rfl
              | true =>
                rw [hi] at hq
                refine W_if ?_
                simp (disch := first | omega | (simp; done) | (simp; omega)) [okb, -R.ok_bind, -List.map_append, -List.map_set, -List.map_map]
                refine W_nil ?_
                refine W_if ?_
                simp (disch := first | omega | (simp; done) | (simp; omega)) [okb, -R.ok_bind, -List.map_append, -List.map_set, -List.map_map, hq]
                exact W_nil (W_nil (hT.nx _ ⟨_, _, _, rfl, hgo hi⟩))
        · rintro e ⟨x5, x7, x9, rfl, hj⟩
          have : (List.range n).all (fun r => rowOk so cr l r (ix rs r)) = true := List.all_eq_true.mpr fun r hr => hj r (List.mem_range.mp hr)
          rw [this] at hK
          refine W_one ?_
          simp (disch := first | omega | (simp; done) | (simp; omega)) [okb, -R.ok_bind, -List.map_append, -List.map_set, -List.map_map]
          exact hK.rt _ rfl
  · rw [decide_eq_false hl, Bool.false_and] at hK
    have hl' : ¬ (rs.length : Int) = n := by omega
    refine W_if ?_
    simp (disch := first | omega | (simp; done) | (simp; omega)) [okb, -R.ok_bind, -List.map_append, -List.map_set, -List.map_map, startE, hl']
    refine W_one ?_
    simp (disch := first | omega | (simp; done) | (simp; omega)) [okb, -R.ok_bind, -List.map_append, -List.map_set, -List.map_map]
    exact hK.rt _ rfl
end K51

namespace K51
open PySem PySem.Spec PyProof.Rows L2 Pv Pv.Enc
variable {n : Nat} {so : List Src} {cr : List Crk}
def bad (l : Lb) (m : Int) (p : T2 Int Int) : Bool := match ix l p.a with
  | none => false
  | some b => late l p.b (b + m)
theorem holds_bad {l : Lb} {c : Crk} : holds l c = (!bad l c.c ⟨c.a, c.b⟩ && !bad l c.c ⟨c.b, c.a⟩) := by
  unfold holds bad
  dsimp only
  cases ix l c.a <;> cases ix l c.b <;> rfl
theorem accepts_ok (ok : Ok n so cr) (hn : n ≤ 1000) (hz : cr.length ≤ 1000) (hs : so.length ≤ 1000) (rs : List Row) : f_law_accepts.sem [.int n, enc so, enc cr, enc rs] = .ok (.bool (Acc n so cr rs)) := by
  rw [e_law_accepts]
  refine run_eq fun K hK => ?_
  unfold Acc at hK
  by_cases hl : rs.length = n
  · rw [decide_eq_true hl, Bool.true_and] at hK
    have hl' : (rs.length : Int) = n := by omega
    refine W_if ?_
    simp (disch := first | omega | (simp; done) | (simp; omega)) [okb, -R.ok_bind, -List.map_append, -List.map_set, -List.map_map, startE, hl']
    refine W_nil ?_
    refine W_nm ?_
    simp (disch := first | omega | (simp; done) | (simp; omega)) [okb, -R.ok_bind, -List.map_append, -List.map_set, -List.map_map]
    rw [goC_all (g := fun w : Row => enc w.a) (fun w hw => ?_) (by omega)]
    rotate_left
    · simp (disch := first | omega | (simp; done) | (simp; omega)) [okb, -R.ok_bind, -List.map_append, -List.map_set, -List.map_map, step_eq]
    have e1 : rs.map (fun w : Row => enc w.a) = (labs rs).map enc := by
      rw [labs, List.map_map]
      rfl
    rw [e1]
    have ll : (labs rs).length = n := by simp [labs, hl]
    have lx : ∀ k : Nat, k < n → ix (labs rs) (k : Int) = (ix rs (k : Int)).a := fun k hk => ix_labs (by omega) (by omega)
    generalize labs rs = l at hK ll lx
    simp (disch := first | omega | (simp; done) | (simp; omega)) [okb, -R.ok_bind, -List.map_append, -List.map_set, -List.map_map]
    refine W_for (enc := enc) (xs := so) (fun a e => ∃ x6 x7, e = [some (.int n, true), some (enc so, true), some (enc cr, true), some (enc rs, true), some (enc l, true), none, x6, x7, none, none, none, none, none, none, none, none] ∧ ∀ p ∈ a, late l p.a p.b = false) ?_ ⟨_, _, rfl, by simp⟩ ?_ ?_
    · simp (disch := first | omega | (simp; done) | (simp; omega)) [okb, -R.ok_bind, -List.map_append, -List.map_set, -List.map_map]
    · rintro a p c e hx ⟨x6, x7, rfl, hj⟩ K' hT
      have hp : p ∈ so := by rw [hx]; simp
      obtain ⟨p0, p1, p2⟩ := ok.so p hp
      have hrow : late l p.a p.b = true → K' (.rt (.bool false)) := fun h => by
        have : so.all (fun p => !late l p.a p.b) = false := all_false hp (by rw [h]; rfl)
        rw [this, Bool.false_and] at hK
        exact hT.rt _ (hK.rt _ rfl)
      have hgo : late l p.a p.b = false → ∀ q ∈ a ++ [p], late l q.a q.b = false := fun h q hq => by
        rcases List.mem_append.mp hq with z | z
        · exact hj q z
        · rw [List.mem_singleton.mp z]; exact h
      unfold late at hrow hgo
      simp (disch := first | omega | (simp; done) | (simp; omega)) [okb, -R.ok_bind, -List.map_append, -List.map_set, -List.map_map]
      cases hb : ix l p.a with
      | none =>
        rw [hb] at hrow
        refine W_if ?_
        simp (disch := first | omega | (simp; done) | (simp; omega)) [okb, -R.ok_bind, -List.map_append, -List.map_set, -List.map_map, hb]
        refine W_one ?_
        simp (disch := first | omega | (simp; done) | (simp; omega)) [okb, -R.ok_bind, -List.map_append, -List.map_set, -List.map_map]
        exact hrow rfl
      | some x =>
        rw [hb] at hrow hgo
        dsimp only at hrow hgo
        refine W_if ?_
        simp (disch := first | omega | (simp; done) | (simp; omega)) [okb, -R.ok_bind, -List.map_append, -List.map_set, -List.map_map, hb]
        refine ⟨fun h => ?_, fun h => ?_⟩
        · refine W_one ?_
          simp (disch := first | omega | (simp; done) | (simp; omega)) [okb, -R.ok_bind, -List.map_append, -List.map_set, -List.map_map]
          exact hrow (decide_eq_true h)
        · exact W_nil (W_nil (hT.nx _ ⟨_, _, rfl, fun q hq => hgo (decide_eq_false (by omega)) q hq⟩))
    · rintro e ⟨x6, x7, rfl, hj⟩
      have h2 : so.all (fun p => !late l p.a p.b) = true := List.all_eq_true.mpr fun p hp => by rw [hj p hp]; rfl
      rw [h2, Bool.true_and] at hK
      refine W_for (enc := enc) (xs := cr) (fun a e => ∃ x8 x9 x10 x11 x12, e = [some (.int n, true), some (enc so, true), some (enc cr, true), some (enc rs, true), some (enc l, true), none, x6, x7, x8, x9, x10, x11, x12, none, none, none] ∧ ∀ c ∈ a, holds l c = true) ?_ ⟨_, _, _, _, _, rfl, by simp⟩ ?_ ?_
      · simp (disch := first | omega | (simp; done) | (simp; omega)) [okb, -R.ok_bind, -List.map_append, -List.map_set, -List.map_map]
      · rintro a c d e hx ⟨x8, x9, x10, x11, x12, rfl, hj⟩ K' hT
        have hc : c ∈ cr := by rw [hx]; simp
        obtain ⟨c0, c1, c2, c3, c4, c5⟩ := ok.cr c hc
        have hrow : holds l c = false → K' (.rt (.bool false)) := fun h => by
          have : cr.all (holds l) = false := all_false hc h
          rw [this, Bool.false_and] at hK
          exact hT.rt _ (hK.rt _ rfl)
        have hgo : holds l c = true → ∀ q ∈ a ++ [c], holds l q = true := fun h q hq => by
          rcases List.mem_append.mp hq with z | z
          · exact hj q z
          · rw [List.mem_singleton.mp z]; exact h
        rw [holds_bad] at hrow hgo
        simp (disch := first | omega | (simp; done) | (simp; omega)) [okb, -R.ok_bind, -List.map_append, -List.map_set, -List.map_map]
        refine W_for (enc := enc) (xs := ([⟨c.a, c.b⟩, ⟨c.b, c.a⟩] : List (T2 Int Int))) (fun a e => ∃ x11 x12, e = [some (.int n, true), some (enc so, true), some (enc cr, true), some (enc rs, true), some (enc l, true), none, x6, x7, some (.int c.a, true), some (.int c.b, true), some (.int c.c, true), x11, x12, none, none, none] ∧ ∀ p ∈ a, bad l c.c p = false) ?_ ⟨_, _, rfl, by simp⟩ ?_ ?_
        · simp (disch := first | omega | (simp; done) | (simp; omega)) [okb, -R.ok_bind, -List.map_append, -List.map_set, -List.map_map]
        · rintro a2 p d2 e hx2 ⟨x11, x12, rfl, hj2⟩ K2 hT2
          have hpm : p ∈ ([⟨c.a, c.b⟩, ⟨c.b, c.a⟩] : List (T2 Int Int)) := by rw [hx2]; simp
          have hp : 0 ≤ p.a ∧ p.a < n ∧ 0 ≤ p.b ∧ p.b < n := by
            rcases List.mem_cons.mp hpm with e | e
            · subst e; exact ⟨c0, c1, c2, c3⟩
            · rw [List.mem_singleton.mp e]; exact ⟨c2, c3, c0, c1⟩
          obtain ⟨p0, p1, p2, p3⟩ := hp
          have hr2 : bad l c.c p = true → K2 (.rt (.bool false)) := fun h => by
            refine hT2.rt _ (hrow ?_)
            rcases List.mem_cons.mp hpm with e | e
            · subst e; rw [h]; rfl
            · have e := List.mem_singleton.mp e
              subst e; rw [h]; simp
          have hg2 : bad l c.c p = false → ∀ q ∈ a2 ++ [p], bad l c.c q = false := fun h q hq => by
            rcases List.mem_append.mp hq with z | z
            · exact hj2 q z
            · rw [List.mem_singleton.mp z]; exact h
          unfold bad late at hr2 hg2
          simp (disch := first | omega | (simp; done) | (simp; omega)) [okb, -R.ok_bind, -List.map_append, -List.map_set, -List.map_map]
          cases h1 : ix l p.a with
          | none =>
            rw [h1] at hr2 hg2
            refine W_if ?_
            simp (disch := first | omega | (simp; done) | (simp; omega)) [okb, -R.ok_bind, -List.map_append, -List.map_set, -List.map_map, p0, p1, p2, p3, h1]
            exact W_nil (W_nil (hT2.nx _ ⟨_, _, rfl, fun q hq => hg2 rfl q hq⟩))
          | some b =>
            rw [h1] at hr2 hg2
            cases h3 : ix l p.b with
            | none =>
              rw [h3] at hr2 hg2
              refine W_if ?_
              simp (disch := first | omega | (simp; done) | (simp; omega)) [okb, -R.ok_bind, -List.map_append, -List.map_set, -List.map_map, p0, p1, p2, p3, h1, h3]
              refine W_one ?_
              simp (disch := first | omega | (simp; done) | (simp; omega)) [okb, -R.ok_bind, -List.map_append, -List.map_set, -List.map_map]
              exact hr2 rfl
            | some b' =>
              rw [h3] at hr2 hg2
              dsimp only at hr2 hg2
              refine W_if ?_
              simp (disch := first | omega | (simp; done) | (simp; omega)) [okb, -R.ok_bind, -List.map_append, -List.map_set, -List.map_map, p0, p1, p2, p3, h1, h3]
              refine ⟨fun h => ?_, fun h => ?_⟩
              · refine W_one ?_
                simp (disch := first | omega | (simp; done) | (simp; omega)) [okb, -R.ok_bind, -List.map_append, -List.map_set, -List.map_map]
                exact hr2 (decide_eq_true h)
              · exact W_nil (W_nil (hT2.nx _ ⟨_, _, rfl, fun q hq => hg2 (decide_eq_false (by omega)) q hq⟩))
        · rintro e ⟨x11, x12, rfl, hj2⟩
          refine W_nil (hT.nx _ ⟨_, _, _, _, _, rfl, hgo ?_⟩)
          rw [hj2 ⟨c.a, c.b⟩ (by simp), hj2 ⟨c.b, c.a⟩ (by simp)]
          rfl
      · rintro e ⟨x8, x9, x10, x11, x12, rfl, hj⟩
        have h3 : cr.all (holds l) = true := List.all_eq_true.mpr hj
        rw [h3, Bool.true_and] at hK
        refine W_rng (lo := 0) (n := n) (fun k e => ∃ x6 x13 x14 x15, e = [some (.int n, true), some (enc so, true), some (enc cr, true), some (enc rs, true), some (enc l, true), none, x6, x7, x8, x9, x10, x11, x12, x13, x14, x15] ∧ ∀ j : Nat, j < k → rowOk so cr l j (ix rs j) = true) ?_ ⟨_, _, _, _, rfl, fun j hj => by omega⟩ ?_ ?_
        · simp (disch := first | omega | (simp; done) | (simp; omega)) [okb, -R.ok_bind, -List.map_append, -List.map_set, -List.map_map]
        · rintro k e hk ⟨x6, x13, x14, x15, rfl, hj⟩ K' hT
          have hrow : ∀ b, rowOk so cr l k (ix rs k) = b → b = false → K' (.rt (.bool false)) := fun b hb e => by
            subst e
            have : (List.range n).all (fun r => rowOk so cr l r (ix rs r)) = false := all_false (List.mem_range.mpr hk) hb
            rw [this] at hK
            exact hT.rt _ (hK.rt _ rfl)
          have hgo : rowOk so cr l k (ix rs k) = true → ∀ j : Nat, j < k + 1 → rowOk so cr l j (ix rs j) = true := fun h j hj' => by
            by_cases e : j = k
            · subst e; exact h
            · exact hj j (by omega)
          have hlx := lx k hk
          simp (disch := first | omega | (simp; done) | (simp; omega)) [okb, -R.ok_bind, -List.map_append, -List.map_set, -List.map_map]
          refine W_nm ?_
          simp (disch := first | omega | (simp; done) | (simp; omega)) [okb, -R.ok_bind, -List.map_append, -List.map_set, -List.map_map]
          generalize ix rs (k : Int) = w at hrow hgo hlx
          obtain ⟨b, q⟩ := w
          dsimp only at hlx
          unfold rowOk at hrow hgo
          dsimp only at hrow hgo
          have nt : evCmp .ne (.bool true) (.bool true) = .ok false := ne_enc true true
          have nf : evCmp .ne (.bool false) (.bool false) = .ok false := ne_enc false false
          have n1 : evCmp .ne (.bool false) (.bool true) = .ok true := ne_enc false true
          have n2 : evCmp .ne (.bool true) (.bool false) = .ok true := ne_enc true false
          cases b with
          | none =>
            cases q with
            | none =>
              refine W_if ?_
              simp (disch := first | omega | (simp; done) | (simp; omega)) [okb, -R.ok_bind, -List.map_append, -List.map_set, -List.map_map, hlx, nt, nf, n1, n2]
              refine W_nil ?_
              refine W_if ?_
              simp (disch := first | omega | (simp; done) | (simp; omega)) [okb, -R.ok_bind, -List.map_append, -List.map_set, -List.map_map]
              exact W_nil (W_nil (hT.nx _ ⟨_, _, _, _, rfl, hgo rfl⟩))
            | some q =>
              refine W_if ?_
              simp (disch := first | omega | (simp; done) | (simp; omega)) [okb, -R.ok_bind, -List.map_append, -List.map_set, -List.map_map, hlx, nt, nf, n1, n2]
              refine W_one ?_
              simp (disch := first | omega | (simp; done) | (simp; omega)) [okb, -R.ok_bind, -List.map_append, -List.map_set, -List.map_map]
              exact hrow _ rfl rfl
          | some b =>
            cases q with
            | none =>
              refine W_if ?_
              simp (disch := first | omega | (simp; done) | (simp; omega)) [okb, -R.ok_bind, -List.map_append, -List.map_set, -List.map_map, hlx, nt, nf, n1, n2]
              refine W_one ?_
              simp (disch := first | omega | (simp; done) | (simp; omega)) [okb, -R.ok_bind, -List.map_append, -List.map_set, -List.map_map]
              exact hrow _ rfl rfl
            | some q =>
              obtain ⟨w, m⟩ := q
              unfold isr at hrow hgo
              dsimp only at hrow hgo
              have es : evCmp .eq (enc w) (.str "source") = .ok (decide (w = .so)) := eq_enc w .so
              have ec : evCmp .ne (enc w) (.str "crack") = .ok (!decide (w = .cr)) := ne_enc w .cr
              have e3 := ne_enc (⟨(ix so m).a, some (ix so m).b⟩ : T2 Int (Option Int)) ⟨k, ix l k⟩
              simp only [enc_T2, enc_some, enc_int] at e3
              refine W_if ?_
              simp (disch := first | omega | (simp; done) | (simp; omega)) [okb, -R.ok_bind, -List.map_append, -List.map_set, -List.map_map, hlx, nt, nf, n1, n2]
              refine W_nil ?_
              refine W_if ?_
              simp (disch := first | omega | (simp; done) | (simp; omega)) [okb, -R.ok_bind, -List.map_append, -List.map_set, -List.map_map]
              refine W_asg ?_
              simp (disch := first | omega | (simp; done) | (simp; omega)) [okb, -R.ok_bind, -List.map_append, -List.map_set, -List.map_map]
              cases w with
              | so =>
                dsimp only at hrow hgo
                rw [hlx, enc_some] at e3
                simp only [enc_int] at e3
                refine W_if ?_
                simp (disch := first | omega | (simp; done) | (simp; omega)) [okb, -R.ok_bind, -List.map_append, -List.map_set, -List.map_map, es]
                refine W_if ?_
                by_cases h4 : 0 ≤ m
                · by_cases h5 : m < so.length
                  · rw [decide_eq_true ⟨h4, h5⟩] at hrow hgo
                    by_cases h6 : (⟨(ix so m).a, some (ix so m).b⟩ : T2 Int (Option Int)) = ⟨k, ix l k⟩
                    · rw [hlx] at h6
                      rw [decide_eq_true h6] at e3
                      rw [hlx, decide_eq_true h6] at hgo
                      have h4' : ¬ m < 0 := by omega
                      have h5' : ¬ (so.length : Int) ≤ m := by omega
                      simp (disch := first | omega | (simp; done) | (simp; omega)) [okb, -R.ok_bind, -List.map_append, -List.map_set, -List.map_map, h4', h5', hlx, e3]
                      exact W_nil (W_nil (W_nil (W_nil (hT.nx _ ⟨_, _, _, _, rfl, hgo rfl⟩))))
                    · rw [hlx] at h6
                      rw [decide_eq_false h6] at e3
                      rw [hlx, decide_eq_false h6] at hrow
                      have h4' : ¬ m < 0 := by omega
                      have h5' : ¬ (so.length : Int) ≤ m := by omega
                      simp (disch := first | omega | (simp; done) | (simp; omega)) [okb, -R.ok_bind, -List.map_append, -List.map_set, -List.map_map, h4', h5', hlx, e3]
                      refine W_one ?_
                      simp (disch := first | omega | (simp; done) | (simp; omega)) [okb, -R.ok_bind, -List.map_append, -List.map_set, -List.map_map]
                      exact hrow _ rfl rfl
                  · rw [decide_eq_false (by omega)] at hrow
                    have h4' : ¬ m < 0 := by omega
                    have h5' : (so.length : Int) ≤ m := by omega
                    simp (disch := first | omega | (simp; done) | (simp; omega)) [okb, -R.ok_bind, -List.map_append, -List.map_set, -List.map_map, h4', h5']
                    refine W_one ?_
                    simp (disch := first | omega | (simp; done) | (simp; omega)) [okb, -R.ok_bind, -List.map_append, -List.map_set, -List.map_map]
                    exact hrow _ rfl rfl
                · rw [decide_eq_false (by omega)] at hrow
                  have h4' : m < 0 := by omega
                  simp (disch := first | omega | (simp; done) | (simp; omega)) [okb, -R.ok_bind, -List.map_append, -List.map_set, -List.map_map, h4']
                  refine W_one ?_
                  simp (disch := first | omega | (simp; done) | (simp; omega)) [okb, -R.ok_bind, -List.map_append, -List.map_set, -List.map_map]
                  exact hrow _ rfl rfl
              | cr =>
                dsimp only at hrow hgo
                refine W_if ?_
                simp (disch := first | omega | (simp; done) | (simp; omega)) [okb, -R.ok_bind, -List.map_append, -List.map_set, -List.map_map, es]
                refine W_if ?_
                by_cases h4 : 0 ≤ m
                · by_cases h5 : m < cr.length
                  · have hcc := ok.cr _ (ix_mem h4 h5)
                    have em : ((m.toNat : Nat) : Int) = m := by omega
                    have ht : evF T_law_accepts 0 false [enc cr, enc l, .int ((m.toNat : Nat) : Int), .int k] = .ok (.bool (tells l (ix cr ((m.toNat : Nat) : Int)) k)) := evF_ok rfl (leads_ok (by omega) (by rw [em]; exact ⟨hcc.1, by omega, hcc.2.2.1, by omega⟩) (by rw [em]; exact hcc.2.2.2.2.1))
                    rw [em] at ht
                    simp only [enc_list] at ht
                    have h4' : ¬ m < 0 := by omega
                    have h5' : ¬ (cr.length : Int) ≤ m := by omega
                    rw [decide_eq_true ⟨h4, h5⟩] at hrow hgo
                    cases h6 : tells l (ix cr m) k with
                    | true =>
                      rw [h6] at ht
                      simp (disch := first | omega | (simp; done) | (simp; omega)) [okb, -R.ok_bind, -List.map_append, -List.map_set, -List.map_map, ec, h4', h5', ht]
                      exact W_nil (W_nil (W_nil (W_nil (hT.nx _ ⟨_, _, _, _, rfl, hgo h6⟩))))
                    | false =>
                      rw [h6] at ht
                      simp (disch := first | omega | (simp; done) | (simp; omega)) [okb, -R.ok_bind, -List.map_append, -List.map_set, -List.map_map, ec, h4', h5', ht]
                      refine W_one ?_
                      simp (disch := first | omega | (simp; done) | (simp; omega)) [okb, -R.ok_bind, -List.map_append, -List.map_set, -List.map_map]
                      exact hrow _ h6 rfl
                  · rw [decide_eq_false (by omega)] at hrow
                    have h4' : ¬ m < 0 := by omega
                    have h5' : (cr.length : Int) ≤ m := by omega
                    simp (disch := first | omega | (simp; done) | (simp; omega)) [okb, -R.ok_bind, -List.map_append, -List.map_set, -List.map_map, ec, h4', h5']
                    refine W_one ?_
                    simp (disch := first | omega | (simp; done) | (simp; omega)) [okb, -R.ok_bind, -List.map_append, -List.map_set, -List.map_map]
                    exact hrow _ rfl rfl
                · rw [decide_eq_false (by omega)] at hrow
                  have h4' : m < 0 := by omega
                  simp (disch := first | omega | (simp; done) | (simp; omega)) [okb, -R.ok_bind, -List.map_append, -List.map_set, -List.map_map, ec, h4']
                  refine W_one ?_
                  simp (disch := first | omega | (simp; done) | (simp; omega)) [okb, -R.ok_bind, -List.map_append, -List.map_set, -List.map_map]
                  exact hrow _ rfl rfl
              | bad =>
                dsimp only at hrow hgo
                refine W_if ?_
                simp (disch := first | omega | (simp; done) | (simp; omega)) [okb, -R.ok_bind, -List.map_append, -List.map_set, -List.map_map, es]
                refine W_if ?_
                simp (disch := first | omega | (simp; done) | (simp; omega)) [okb, -R.ok_bind, -List.map_append, -List.map_set, -List.map_map, ec]
                refine W_one ?_
                simp (disch := first | omega | (simp; done) | (simp; omega)) [okb, -R.ok_bind, -List.map_append, -List.map_set, -List.map_map]
                exact hrow _ rfl rfl
        · rintro e ⟨x6, x13, x14, x15, rfl, hj⟩
          have : (List.range n).all (fun r => rowOk so cr l r (ix rs r)) = true := List.all_eq_true.mpr fun r hr => hj r (List.mem_range.mp hr)
          rw [this] at hK
          refine W_one ?_
          simp (disch := first | omega | (simp; done) | (simp; omega)) [okb, -R.ok_bind, -List.map_append, -List.map_set, -List.map_map]
          exact hK.rt _ rfl
  · rw [decide_eq_false hl, Bool.false_and] at hK
    have hl' : ¬ (rs.length : Int) = n := by omega
    refine W_if ?_
    simp (disch := first | omega | (simp; done) | (simp; omega)) [okb, -R.ok_bind, -List.map_append, -List.map_set, -List.map_map, startE, hl']
    refine W_one ?_
    simp (disch := first | omega | (simp; done) | (simp; omega)) [okb, -R.ok_bind, -List.map_append, -List.map_set, -List.map_map]
    exact hK.rt _ rfl
end K51

namespace K51
open PySem PySem.Spec PyProof.Rows L2 Pv Pv.Enc
variable {n : Nat} {so : List Src} {cr : List Crk}
theorem lb_low : ∀ l : Lb, ∃ B : Int, ∀ x : Int, some x ∈ l → B ≤ x
  | [] => ⟨0, by simp⟩
  | y :: l => by
    obtain ⟨B, h⟩ := lb_low l
    cases y with
    | none => exact ⟨B, fun x hx => by
        rcases List.mem_cons.mp hx with e | e
        · cases e
        · exact h x e⟩
    | some y => exact ⟨min B y, fun x hx => by
        rcases List.mem_cons.mp hx with e | e
        · cases e; omega
        · have := h x e; omega⟩
theorem ix_some_mem {l : Lb} {v b : Int} (h : ix l v = some b) : some b ∈ l ∧ v.toNat < l.length := by
  unfold ix at h
  rw [List.getD_eq_getElem?_getD] at h
  cases e : l[v.toNat]? with
  | none => rw [e] at h; cases h
  | some y =>
    rw [e] at h
    simp at h
    subst h
    exact ⟨List.mem_of_getElem? e, (List.getElem?_eq_some_iff.mp e).1⟩
theorem acc_uniq (ok : Ok n so cr) {rs : List Row} (h : Acc n so cr rs = true) {l : Lb} (hl : l.length = n) (s : Snd so cr l) (r : Rlx so cr l) : labs rs = l := by
  unfold Acc at h
  simp only [Bool.and_eq_true, decide_eq_true_eq, List.all_eq_true] at h
  obtain ⟨h1, h2, h3, h4⟩ := h
  have ll : (labs rs).length = n := by simp [labs, h1]
  have lx : ∀ k : Nat, k < n → ix (labs rs) (k : Int) = (ix rs (k : Int)).a := fun k hk => ix_labs (by omega) (by omega)
  generalize labs rs = m at *
  have lw : ∀ {e b : Int}, late m e b = false → Lw m e b := by
    intro e b h
    unfold late at h
    cases he : ix m e with
    | none => rw [he] at h; cases h
    | some x => rw [he] at h; exact ⟨x, he, by have := of_decide_eq_false h; omega⟩
  have rl : Rlx so cr m := by
    refine ⟨fun p hp => lw (by have := h2 p hp; simpa using this), fun c hc => ?_⟩
    have hh := h3 c hc
    rw [holds_bad, Bool.and_eq_true] at hh
    unfold bad at hh
    dsimp only at hh
    refine ⟨fun b hb => lw ?_, fun b hb => lw ?_⟩
    · have := hh.1
      rw [hb] at this
      simpa using this
    · have := hh.2
      rw [hb] at this
      simpa using this
  obtain ⟨B, hB⟩ := lb_low m
  have walk_at : ∀ (v b : Int), 0 ≤ v → ix m v = some b → (∀ u b0 : Int, 0 ≤ u → ix m u = some b0 → b0 < b → Wk so cr u b0) → Wk so cr v b := by
    intro v b v0 hv ih
    have hvn : v.toNat < n := by have := (ix_some_mem hv).2; omega
    have ev : ((v.toNat : Nat) : Int) = v := by omega
    have hr := h4 v.toNat (List.mem_range.mpr hvn)
    have hla := lx v.toNat hvn
    rw [ev] at hr hla
    rw [hv] at hla
    unfold rowOk at hr
    rw [← hla] at hr
    dsimp only at hr
    cases hq : (ix rs v).b with
    | none => rw [hq] at hr; cases hr
    | some q =>
      rw [hq] at hr
      obtain ⟨w, k⟩ := q
      unfold isr at hr
      cases w with
      | so =>
        simp only [Bool.and_eq_true, decide_eq_true_eq, T2.mk.injEq] at hr
        obtain ⟨⟨k0, k1⟩, e1, e2⟩ := hr
        rw [hv] at e2
        have := Wk.src (so := so) (cr := cr) (ix_mem k0 k1)
        rw [e1, Option.some.inj e2] at this
        exact this
      | cr =>
        simp only [Bool.and_eq_true, decide_eq_true_eq] at hr
        obtain ⟨⟨k0, k1⟩, e1⟩ := hr
        have hc := ok.cr _ (ix_mem k0 k1)
        have hcm := ix_mem k0 k1
        generalize ix cr k = c at e1 hc hcm
        unfold tells at e1
        simp only [Bool.and_eq_true, decide_eq_true_eq] at e1
        obtain ⟨e0, e1⟩ := e1
        cases hu : ix m (oth c v) with
        | none => rw [hu] at e1; cases e1
        | some b0 =>
          rw [hu, hv] at e1
          have eb : b0 + c.c = b := by
            have := of_decide_eq_true e1
            exact Option.some.inj this
          have hw := ih (oth c v) b0 (oth_in (m := n) ⟨hc.1, hc.2.1, hc.2.2.1, hc.2.2.2.1⟩).1 hu (by omega)
          unfold oth at hw
          rw [← eb]
          by_cases hca : c.a = v
          · rw [if_pos hca] at hw
            rw [← hca]
            exact Wk.bk hw hcm
          · rw [if_neg hca] at hw
            have : v = c.b := by
              rcases e0 with e | e
              · exact absurd e.symm hca
              · exact e
            rw [this]
            exact Wk.fw hw hcm
      | bad => cases hr
  have sn : ∀ (k : Nat) (v b : Int), 0 ≤ v → ix m v = some b → b ≤ B + k → Wk so cr v b := by
    intro k
    induction k with
    | zero =>
      intro v b v0 hv hk
      refine walk_at v b v0 hv fun u b0 u0 hu hlt => ?_
      have := hB _ (ix_some_mem hu).1
      omega
    | succ k ih =>
      intro v b v0 hv hk
      exact walk_at v b v0 hv fun u b0 u0 hu hlt => ih u b0 u0 hu (by omega)
  exact uniq (ll.trans hl.symm) (fun v b v0 hv => sn (b - B).toNat v b v0 hv (by have := hB _ (ix_some_mem hv).1; omega)) rl s r
/-! what is drawn -/
theorem smoke_ok (dr : List Int) (hl : dr.length = 60) (hd : ∀ d ∈ dr, 0 ≤ d ∧ d < 27720) (n : Nat) (n0 : 1 ≤ n) (n8 : n ≤ 8) : ∃ so cr, f_law_smoke.sem [enc dr, .int n] = .ok (.tuple [enc so, enc cr]) ∧ Ok n so cr ∧ so.length ≤ 4 ∧ cr.length ≤ 10 := by
  have bd := dr_bd (by omega) hd
  rw [e_law_smoke]
  have key : ∃ d, runF T_law_smoke b_law_smoke 6 [enc dr, .int n] = .ok d ∧ ∃ so cr, d = .tuple [enc so, enc cr] ∧ Ok n so cr ∧ so.length ≤ 4 ∧ cr.length ≤ 10 := by
    refine run_W fun K hK => ?_
    have k0 := Int.emod_nonneg (ix dr 30) (by omega : (5 : Int) ≠ 0)
    have k1 := Int.emod_lt_of_pos (ix dr 30) (by omega : (0 : Int) < 5)
    refine W_nm ?_
    simp (disch := first | omega | (simp; done) | (simp; omega)) [okb, -R.ok_bind, -List.map_append, -List.map_set, -List.map_map, startE]
    have hmod : ∀ k : Nat, (k : Int) < ix dr 30 % 5 → evIdx (.list [.int 4, .int 20, .int 1001]) (.int (ix dr (2 + 3 * k) % 3)) = .ok (.int (ix ([4, 20, 1001] : List Int) (ix dr (2 + 3 * k) % 3))) ∧ 4 ≤ ix ([4, 20, 1001] : List Int) (ix dr (2 + 3 * k) % 3) := by
      intro k hk
      have m0 := Int.emod_nonneg (ix dr (2 + 3 * k)) (by omega : (3 : Int) ≠ 0)
      have m1 := Int.emod_lt_of_pos (ix dr (2 + 3 * k)) (by omega : (0 : Int) < 3)
      refine ⟨evIdx_map (f := PyData.int) (xs := [4, 20, 1001]) m0 m1, ?_⟩
      have : ix dr (2 + 3 * k) % 3 = 0 ∨ ix dr (2 + 3 * k) % 3 = 1 ∨ ix dr (2 + 3 * k) % 3 = 2 := by omega
      rcases this with e | e | e <;> rw [e] <;> decide
    rw [goC_rngA (g := fun k => enc (⟨ix dr (3 * k) % n, ix dr (1 + 3 * k) % ix ([4, 20, 1001] : List Int) (ix dr (2 + 3 * k) % 3)⟩ : Src)) (fun k hk => ?_) (by omega)]
    rotate_left
    · obtain ⟨h1, h2⟩ := hmod k (by omega)
      simp (disch := first | omega | (simp; done) | (simp; omega)) [okb, -R.ok_bind, -List.map_append, -List.map_set, -List.map_map, step_eq, h1]
    have hso : (List.range (ix dr 30 % 5).toNat).map (fun k : Nat => enc (⟨ix dr (3 * k) % n, ix dr (1 + 3 * k) % ix ([4, 20, 1001] : List Int) (ix dr (2 + 3 * k) % 3)⟩ : Src)) = ((List.range (ix dr 30 % 5).toNat).map fun k : Nat => (⟨ix dr (3 * k) % n, ix dr (1 + 3 * k) % ix ([4, 20, 1001] : List Int) (ix dr (2 + 3 * k) % 3)⟩ : Src)).map enc := by
      rw [List.map_map]
      rfl
    rw [hso]
    have sok : ∀ p ∈ (List.range (ix dr 30 % 5).toNat).map (fun k : Nat => (⟨ix dr (3 * k) % n, ix dr (1 + 3 * k) % ix ([4, 20, 1001] : List Int) (ix dr (2 + 3 * k) % 3)⟩ : Src)), 0 ≤ p.a ∧ p.a < n ∧ 0 ≤ p.b := by
      intro p hp
      obtain ⟨k, hk, rfl⟩ := List.mem_map.mp hp
      have hk := List.mem_range.mp hk
      obtain ⟨_, h2⟩ := hmod k (by omega)
      exact ⟨Int.emod_nonneg _ (by omega), Int.emod_lt_of_pos _ (by omega), Int.emod_nonneg _ (by omega)⟩
    have sl : ((List.range (ix dr 30 % 5).toNat).map (fun k : Nat => (⟨ix dr (3 * k) % n, ix dr (1 + 3 * k) % ix ([4, 20, 1001] : List Int) (ix dr (2 + 3 * k) % 3)⟩ : Src))).length ≤ 4 := by
      simp
      omega
    generalize (List.range (ix dr 30 % 5).toNat).map (fun k : Nat => (⟨ix dr (3 * k) % n, ix dr (1 + 3 * k) % ix ([4, 20, 1001] : List Int) (ix dr (2 + 3 * k) % 3)⟩ : Src)) = so at sok sl
    simp (disch := first | omega | (simp; done) | (simp; omega)) [okb, -R.ok_bind, -List.map_append, -List.map_set, -List.map_map]
    refine W_own ?_
    simp (disch := first | omega | (simp; done) | (simp; omega)) [okb, -R.ok_bind, -List.map_append, -List.map_set, -List.map_map]
    have c0 := Int.emod_nonneg (ix dr 31) (by omega : (11 : Int) ≠ 0)
    have c1 := Int.emod_lt_of_pos (ix dr 31) (by omega : (0 : Int) < 11)
    refine W_rng (lo := 0) (n := (ix dr 31 % 11).toNat) (fun k e => ∃ (x3 x5 : Option (D × Bool)) (cr : List Crk), e = [some (enc dr, true), some (.int n, true), some (enc so, true), x3, some (enc cr, false), x5] ∧ cr.length ≤ k ∧ ∀ c ∈ cr, 0 ≤ c.a ∧ c.a < n ∧ 0 ≤ c.b ∧ c.b < n ∧ c.a ≠ c.b ∧ 1 ≤ c.c) ?_ ⟨_, _, [], rfl, Nat.zero_le _, by simp⟩ ?_ ?_
    · simp (disch := first | omega | (simp; done) | (simp; omega)) [okb, -R.ok_bind, -List.map_append, -List.map_set, -List.map_map]
    · rintro k e hk ⟨x3, x5, cr, rfl, cl, hcr⟩ K' hT
      simp (disch := first | omega | (simp; done) | (simp; omega)) [okb, -R.ok_bind, -List.map_append, -List.map_set, -List.map_map]
      refine W_nm ?_
      simp (disch := first | omega | (simp; done) | (simp; omega)) [okb, -R.ok_bind, -List.map_append, -List.map_set, -List.map_map]
      refine W_if ?_
      simp (disch := first | omega | (simp; done) | (simp; omega)) [okb, -R.ok_bind, -List.map_append, -List.map_set, -List.map_map]
      refine ⟨fun h => ?_, fun h => ?_⟩
      · have m0 := Int.emod_nonneg (ix dr 54) (by omega : (3 : Int) ≠ 0)
        have m1 := Int.emod_lt_of_pos (ix dr 54) (by omega : (0 : Int) < 3)
        have hm : evIdx (.list [.int 3, .int 9, .int 100]) (.int (ix dr 54 % 3)) = .ok (.int (ix ([3, 9, 100] : List Int) (ix dr 54 % 3))) := evIdx_map (f := PyData.int) (xs := [3, 9, 100]) m0 m1
        have hm2 : 3 ≤ ix ([3, 9, 100] : List Int) (ix dr 54 % 3) := by
          have : ix dr 54 % 3 = 0 ∨ ix dr 54 % 3 = 1 ∨ ix dr 54 % 3 = 2 := by omega
          rcases this with e | e | e <;> rw [e] <;> decide
        have s0 := Int.emod_nonneg (ix dr (12 + k)) (by omega : (n : Int) ≠ 0)
        have s1 := Int.emod_lt_of_pos (ix dr (12 + k)) (by omega : 0 < (n : Int))
        have r0 := Int.emod_nonneg (ix dr (32 + k)) (by omega : (n : Int) - 1 ≠ 0)
        have r1 := Int.emod_lt_of_pos (ix dr (32 + k)) (by omega : 0 < (n : Int) - 1)
        obtain ⟨t0, t1, t2⟩ := mod_turn s0 s1 r0 r1
        have u0 := Int.emod_nonneg (ix dr (43 + k)) (by omega : ix ([3, 9, 100] : List Int) (ix dr 54 % 3) ≠ 0)
        apply W_appM (f := (enc : Crk → D))
        · rfl
        · rfl
        · (first | omega | (simp; omega))
        simp (disch := first | omega | (simp; done) | (simp; omega)) [okb, -R.ok_bind, -List.map_append, -List.map_set, -List.map_map, hm]
        refine ⟨⟨_, _, _⟩, ⟨rfl, rfl, rfl⟩, W_nil (W_nil (hT.nx _ ⟨_, _, cr ++ [_], rfl, by simp; omega, ?_⟩))⟩
        intro c hc
        rcases List.mem_append.mp hc with z | z
        · exact hcr c z
        · rw [List.mem_singleton.mp z]
          exact ⟨s0, s1, t0, t1, t2, by show 1 ≤ 1 + _ % _; omega⟩
      · exact W_nil (W_nil (hT.nx _ ⟨_, _, cr, rfl, by omega, hcr⟩))
    · rintro e ⟨x3, x5, cr, rfl, cl, hcr⟩
      refine W_fzz ?_
      simp (disch := first | omega | (simp; done) | (simp; omega)) [okb, -R.ok_bind, -List.map_append, -List.map_set, -List.map_map, frzE]
      refine W_one ?_
      simp (disch := first | omega | (simp; done) | (simp; omega)) [okb, -R.ok_bind, -List.map_append, -List.map_set, -List.map_map]
      exact hK.rt _ ⟨so, cr, rfl, ⟨sok, hcr⟩, sl, by omega⟩
  obtain ⟨_, h, so, cr, rfl, h2⟩ := key
  exact ⟨so, cr, h, h2⟩
theorem others_ok (n : Nat) (n0 : 1 ≤ n) (so : List Src) (cr : List Crk) (hs : so.length ≤ 10) (hz : cr.length ≤ 10) (due : List Row) (hd : due.length = n) (n8 : n ≤ 8) (dr : List Int) (hl : dr.length = 20) (hb : ∀ d ∈ dr, 0 ≤ d ∧ d < 27720) : ∃ ps : List (List Row), f_law_others.sem [.int n, enc so, enc cr, enc due, enc dr] = .ok (enc ps) := by
  have bd := dr_bd (by omega) hb
  rw [e_law_others]
  have key : ∃ d, runF T_law_others b_law_others 15 [.int n, enc so, enc cr, enc due, enc dr] = .ok d ∧ ∃ ps : List (List Row), d = enc ps := by
    refine run_W fun K hK => ?_
    have a0 := Int.emod_nonneg (ix dr 3) (by omega : (n : Int) ≠ 0)
    have a1 := Int.emod_lt_of_pos (ix dr 3) (by omega : 0 < (n : Int))
    refine W_nm ?_
    simp (disch := first | omega | (simp; done) | (simp; omega)) [okb, -R.ok_bind, -List.map_append, -List.map_set, -List.map_map, startE]
    generalize ix dr 3 % n = at' at a0 a1
    refine W_asg ?_
    simp (disch := first | omega | (simp; done) | (simp; omega)) [okb, -R.ok_bind, -List.map_append, -List.map_set, -List.map_map]
    generalize ix due at' = w
    obtain ⟨b, q⟩ := w
    dsimp only
    refine W_nm (W_any (α := List Row) (fun x => x.length = 6) ⟨[⟨none, none⟩, ⟨b, none⟩, ⟨none, q⟩, ⟨b, some ⟨.so, ix dr 4 % 5⟩⟩, ⟨b, some ⟨.cr, ix dr 5 % 11⟩⟩, ⟨b, some ⟨.so, -1⟩⟩], by simp (disch := first | omega | (simp; done) | (simp; omega)) [okb, -R.ok_bind, -List.map_append, -List.map_set, -List.map_map]; exact ⟨rfl, rfl, rfl⟩, rfl⟩ fun xs hx => ?_)
    have c0 := Int.emod_nonneg (ix dr 6) (by omega : (n : Int) ≠ 0)
    have c1 := Int.emod_lt_of_pos (ix dr 6) (by omega : 0 < (n : Int))
    refine W_nm (W_any (α := List Row) (fun x => x.length = 9) ⟨xs ++ [⟨b, some ⟨.cr, -1⟩⟩, ⟨some 0, some ⟨.so, 0⟩⟩, ⟨some 7, some ⟨.cr, 0⟩⟩], by rw [enc_app]; simp (disch := first | omega | (simp; done) | (simp; omega)) [okb, -R.ok_bind, -List.map_append, -List.map_set, -List.map_map]; exact ⟨rfl, rfl, rfl⟩, by simp [hx]⟩ fun xs hx => ?_)
    refine W_nm (W_any (α := List Row) (fun x => x.length = 13) ⟨xs ++ [⟨b, some ⟨.bad, 0⟩⟩, ⟨b, some ⟨.so, so.length⟩⟩, ⟨b, some ⟨.cr, cr.length⟩⟩, ix due (ix dr 6 % n)], by rw [enc_app]; simp (disch := first | omega | (simp; done) | (simp; omega)) [okb, -R.ok_bind, -List.map_append, -List.map_set, -List.map_map]; exact ⟨rfl, rfl, rfl⟩, by simp [hx]⟩ fun xs hx => ?_)
    refine W_ifM (fun e => ∃ (xs : List Row) (x9 : Option (D × Bool)), e = [some (.int n, true), some (enc so, true), some (enc cr, true), some (enc due, true), some (enc dr, true), some (.int at', true), some (enc b, true), some (enc q, true), some (enc xs, true), x9, none, none, none, none, none] ∧ xs.length ≤ 100) ?_ ?_
    · intro K' hJ
      cases b with
      | none =>
        simp (disch := first | omega | (simp; done) | (simp; omega)) [okb, -R.ok_bind, -List.map_append, -List.map_set, -List.map_map]
        exact W_nil (hJ.nx _ ⟨xs, _, rfl, by omega⟩)
      | some b =>
        simp (disch := first | omega | (simp; done) | (simp; omega)) [okb, -R.ok_bind, -List.map_append, -List.map_set, -List.map_map]
        refine W_nm (W_any (α := List Row) (fun x => x.length = 16) ⟨xs ++ [⟨some (b + 1), q⟩, ⟨some (b - 1), q⟩, ⟨some (b - 1000000), q⟩], by rw [enc_app]; simp (disch := first | omega | (simp; done) | (simp; omega)) [okb, -R.ok_bind, -List.map_append, -List.map_set, -List.map_map], by simp [hx]⟩ fun xs hx => ?_)
        refine W_nm ?_
        simp (disch := first | omega | (simp; done) | (simp; omega)) [okb, -R.ok_bind, -List.map_append, -List.map_set, -List.map_map]
        rw [goC_rngA (g := fun k => enc (⟨some b, some ⟨.so, (k : Int)⟩⟩ : Row)) (fun k hk => ?_) (by omega)]
        rotate_left
        · simp (disch := first | omega | (simp; done) | (simp; omega)) [okb, -R.ok_bind, -List.map_append, -List.map_set, -List.map_map, step_eq]
          rfl
        simp (disch := first | omega | (simp; done) | (simp; omega)) [okb, -R.ok_bind, -List.map_append, -List.map_set, -List.map_map]
        rw [goC_rngA (g := fun k => enc (⟨some b, some ⟨.cr, (k : Int)⟩⟩ : Row)) (fun k hk => ?_) (by omega)]
        rotate_left
        · simp (disch := first | omega | (simp; done) | (simp; omega)) [okb, -R.ok_bind, -List.map_append, -List.map_set, -List.map_map, step_eq]
          rfl
        refine W_any (α := List Row) (fun x => x.length ≤ 100) ⟨xs ++ ((List.range so.length).map fun k : Nat => (⟨some b, some ⟨.so, (k : Int)⟩⟩ : Row)) ++ ((List.range cr.length).map fun k : Nat => (⟨some b, some ⟨.cr, (k : Int)⟩⟩ : Row)), ?_, by simp [hx]; omega⟩ fun xs hx => ?_
        · rw [enc_app, List.map_append, List.map_map, List.map_map]
          simp (disch := first | omega | (simp; done) | (simp; omega)) [okb, -R.ok_bind, -List.map_append, -List.map_set, -List.map_map]
          rfl
        · exact W_nil (hJ.nx _ ⟨xs, _, rfl, hx⟩)
    · rintro e ⟨xs, x9, rfl, hx⟩
      refine W_nm (W_any (α := List (List Row)) (fun x => x.length = 5) ⟨[due, due.drop 1, due ++ (due.take 1), due.reverse, []], by simp (disch := first | omega | (simp; done) | (simp; omega)) [okb, -R.ok_bind, -List.map_append, -List.map_set, -List.map_map]; rw [List.map_append, List.map_take], rfl⟩ fun fs hf => ?_)
      refine W_own ?_
      simp (disch := first | omega | (simp; done) | (simp; omega)) [okb, -R.ok_bind, -List.map_append, -List.map_set, -List.map_map]
      refine W_for (enc := enc) (xs := due) (fun a e => ∃ (low : List Row) (x12 x13 : Option (D × Bool)), e = [some (.int n, true), some (enc so, true), some (enc cr, true), some (enc due, true), some (enc dr, true), some (.int at', true), some (enc b, true), some (enc q, true), some (enc xs, true), x9, some (enc fs, true), some (enc low, false), x12, x13, none] ∧ low.length = a.length) ?_ ⟨[], _, _, rfl, rfl⟩ ?_ ?_
      · simp (disch := first | omega | (simp; done) | (simp; omega)) [okb, -R.ok_bind, -List.map_append, -List.map_set, -List.map_map]
      · rintro a w c e hx' ⟨low, x12, x13, rfl, hlow⟩ K' hT
        have hlen := congrArg List.length hx'
        simp only [List.length_append, List.length_cons] at hlen
        obtain ⟨b', q'⟩ := w
        simp (disch := first | omega | (simp; done) | (simp; omega)) [okb, -R.ok_bind, -List.map_append, -List.map_set, -List.map_map]
        cases b' with
        | none =>
          refine W_if ?_
          simp (disch := first | omega | (simp; done) | (simp; omega)) [okb, -R.ok_bind, -List.map_append, -List.map_set, -List.map_map]
          apply W_appM (f := (enc : Row → D))
          · rfl
          · rfl
          · omega
          simp (disch := first | omega | (simp; done) | (simp; omega)) [okb, -R.ok_bind, -List.map_append, -List.map_set, -List.map_map]
          exact ⟨⟨none, none⟩, ⟨rfl, rfl⟩, W_nil (W_nil (hT.nx _ ⟨_, _, _, rfl, by simp [hlow]⟩))⟩
        | some b' =>
          refine W_if ?_
          simp (disch := first | omega | (simp; done) | (simp; omega)) [okb, -R.ok_bind, -List.map_append, -List.map_set, -List.map_map]
          apply W_appM (f := (enc : Row → D))
          · rfl
          · rfl
          · omega
          simp (disch := first | omega | (simp; done) | (simp; omega)) [okb, -R.ok_bind, -List.map_append, -List.map_set, -List.map_map]
          exact ⟨⟨some (b' - 1), q'⟩, ⟨rfl, rfl⟩, W_nil (W_nil (hT.nx _ ⟨_, _, _, rfl, by simp [hlow]⟩))⟩
      · rintro e ⟨low, x12, x13, rfl, hlow⟩
        refine W_fzz ?_
        simp (disch := first | omega | (simp; done) | (simp; omega)) [okb, -R.ok_bind, -List.map_append, -List.map_set, -List.map_map, frzE]
        refine W_one ?_
        simp (disch := first | omega | (simp; done) | (simp; omega)) [okb, -R.ok_bind, -List.map_append, -List.map_set, -List.map_map]
        rw [goC_all (g := fun w : Row => enc (due.take at'.toNat ++ [w] ++ due.drop (at' + 1).toNat)) (fun w hw => ?_) (by omega)]
        rotate_left
        · simp (disch := first | omega | (simp; done) | (simp; omega)) [okb, -R.ok_bind, -List.map_append, -List.map_set, -List.map_map, step_eq]
          rw [List.map_append, List.map_cons, List.map_take, List.map_drop]
          rfl
        have hm : xs.map (fun w : Row => enc (due.take at'.toNat ++ [w] ++ due.drop (at' + 1).toNat)) = (xs.map fun w : Row => due.take at'.toNat ++ [w] ++ due.drop (at' + 1).toNat).map enc := by
          rw [List.map_map]
          rfl
        rw [hm]
        simp (disch := first | omega | (simp; done) | (simp; omega)) [okb, -R.ok_bind, -List.map_append, -List.map_set, -List.map_map]
        refine hK.rt _ ⟨fs ++ [low] ++ xs.map fun w : Row => due.take at'.toNat ++ [w] ++ due.drop (at' + 1).toNat, ?_⟩
        rw [enc_app, List.map_append]
        simp
  obtain ⟨_, h, ps, rfl⟩ := key
  exact ⟨ps, h⟩
end K51

namespace K51
open PySem PySem.Spec PyProof.Rows L2 Pv Pv.Enc
variable {n : Nat} {so : List Src} {cr : List Crk}
theorem wk_mono {so' : List Src} {cr' : List Crk} (hs : ∀ p ∈ so, p ∈ so') (hc : ∀ c ∈ cr, c ∈ cr') {v b : Int} (w : Wk so cr v b) : Wk so' cr' v b := by
  induction w with
  | src h => exact .src (hs _ h)
  | fw _ h ih => exact .fw ih (hc _ h)
  | bk _ h ih => exact .bk ih (hc _ h)
theorem okRow {k : Nat} : ∀ rs : List Row, okL (k + 3) (rs.map enc) = true
  | [] => by unfold okL; rfl
  | w :: r => by
    show okL (k + 3) (enc w :: r.map enc) = true
    unfold okL
    rw [okRow r]
    obtain ⟨b, q⟩ := w
    have hw : ∀ d : Wd, SeqAt.shaped (enc d) = true := fun d => shaped_enc (by decide) d
    have hw' : ∀ d : Wd, okD (k + 1) (enc d) = true := fun d => hw d
    cases b with
    | none =>
      cases q with
      | none => rfl
      | some q =>
        obtain ⟨w, m⟩ := q
        simp only [enc_T2, enc_none, enc_some, enc_int, okD, okL, hw' w, List.length_cons, List.length_nil]
        rfl
    | some b =>
      cases q with
      | none => rfl
      | some q =>
        obtain ⟨w, m⟩ := q
        simp only [enc_T2, enc_none, enc_some, enc_int, okD, okL, hw' w, List.length_cons, List.length_nil]
        rfl
theorem shaped2 : SeqAt.shaped (.list [enc so, enc cr]) = true := by
  unfold SeqAt.shaped
  rw [show PyData.canLay0 (.list [enc so, enc cr]) = true from layC (Enc.lay _) (layC (Enc.lay _) rfl)]
  have hd : PyData.depth (.list [enc so, enc cr]) ≤ 64 := Nat.le_trans (Nat.succ_le_succ (depC (n := 2) (Nat.le_trans (Enc.depth so) (by decide)) (depC (Nat.le_trans (Enc.depth cr) (by decide)) (Nat.zero_le _)))) (by decide)
  rw [decide_eq_true hd]
  rfl
theorem later_le {so' : List Src} {cr' : List Crk} (hs : ∀ p ∈ so, p ∈ so') (hc : ∀ c ∈ cr, c ∈ cr') {l l' : Lb} (s : Snd so cr l) (r' : Rlx so' cr' l') {v b : Int} (h0 : 0 ≤ v) (h : ix l v = some b) : Lw l' v b := r'.le (wk_mono hs hc (s v b h0 h))
theorem ix_rows {l : Lb} {k : Nat} (hk : k < n) : ix (rows so cr l n) (k : Int) = ⟨ix l k, rsn so cr l k⟩ := by
  simp [ix, rows, hk]
theorem mod_shift (m q n : Int) : (m + 1 + q) % n = (m % n + 1 + q) % n := by
  have e : m + 1 + q = (m % n + 1 + q) + n * (m / n) := by
    have := Int.emod_add_mul_ediv m n
    omega
  rw [e, Int.add_mul_emod_self_left]
theorem plain (ns : List Int) (hl : ns.length ≤ 63) : f_law.sem [.list (ns.map PyData.int)] = .ok (.bool true) := by
  rw [e_law]
  refine run_eq fun K hK => ?_
  have h0 : evF T_law 0 false [PyData.list (ns.map PyData.int), .int 0] = .ok (.int (ns.getD 0 0)) := evF_ok rfl (cell_ok ns 0)
  have h1 : evF T_law 0 false [PyData.list (ns.map PyData.int), .int 1] = .ok (.int (ns.getD 1 0)) := evF_ok rfl (cell_ok ns 1)
  have h2 : evF T_law 0 false [PyData.list (ns.map PyData.int), .int 2] = .ok (.int (ns.getD 2 0)) := evF_ok rfl (cell_ok ns 2)
  obtain ⟨dr, hd, dl, db⟩ := numbers_ok (ns.getD 0 0) 60 27720 (by omega) (by omega) (by omega)
  obtain ⟨mo, hm, ml, mb⟩ := numbers_ok (ns.getD 1 0) 20 27720 (by omega) (by omega) (by omega)
  have g0 : evF T_law 1 false [.int (ns.getD 0 0), .int 60, .int 27720] = .ok (.list (dr.map PyData.int)) := evF_ok rfl hd
  have g1 : evF T_law 1 false [.int (ns.getD 1 0), .int 20, .int 27720] = .ok (.list (mo.map PyData.int)) := evF_ok rfl hm
  generalize ns.getD 0 0 = c0 at h0 g0
  generalize ns.getD 1 0 = c1 at h1 g1
  generalize ns.getD 2 0 = c2 at h2
  have n0 := Int.emod_nonneg c2 (by omega : (8 : Int) ≠ 0)
  have n1 := Int.emod_lt_of_pos c2 (by omega : (0 : Int) < 8)
  obtain ⟨n, hn⟩ : ∃ n : Nat, (n : Int) = 1 + c2 % 8 := ⟨(1 + c2 % 8).toNat, by omega⟩
  obtain ⟨so, cr, hsm, ok, sl, cl⟩ := smoke_ok dr dl db n (by omega) (by omega)
  have g2 : evF T_law 2 false [PyData.list (dr.map PyData.int), .int n] = .ok (.tuple [enc so, enc cr]) := evF_ok rfl hsm
  obtain ⟨l, hlb, l1, l2, l3⟩ := law_beats_ok ok (by omega)
  have g3 : evF T_law 3 false [.int n, enc so, enc cr] = .ok (enc l) := evF_ok rfl hlb
  obtain ⟨l', hfs, l1', l2', l3'⟩ := find_smoke_ok ok (by omega) (by omega) (by omega)
  have : l' = l := uniq (l1'.trans l1.symm) l2' l3' l2 l3
  subst this
  have g5 : evF T_law 5 false [.int n, enc so, enc cr] = .ok (enc (rows so cr l' n)) := evF_ok rfl hfs
  have g4 : ∀ r : Nat, r < n → evF T_law 4 false [enc so, enc cr, enc l', .int r] = .ok (enc (rsn so cr l' r)) := fun r hr => evF_ok rfl (law_reason_ok (by omega) (by omega) (by rw [l1]; exact ok_crOk ok) (by omega) (by omega) fun b hb hf => rsn_ex ok l1 l2 l3 (by omega) hb hf)
  have rl : (rows so cr l' n).length = n := by simp [rows]
  have g6 : evF T_law 6 true [enc (rows so cr l' n), enc (rows so cr l' n)] = .ok (.bool true) := by
    refine evF_okC rfl (same_ok 9 _ ?_) rfl
    simp only [enc_list, okD, okRow, List.length_map, rl, Bool.and_true, decide_eq_true_eq]
    omega
  have mbd := dr_bd (by omega) mb
  have hne : evCmp .ne (.list [enc so, enc cr]) (.list [enc so, enc cr]) = .ok false := ne_refl shaped2
  have hrows : rows so cr l' n = (List.range n).map fun r : Nat => (⟨ix l' r, rsn so cr l' r⟩ : Row) := rfl
  simp only [enc_list] at g2 g3 g4 g5 g6 hne
  refine W_nm ?_
  simp (disch := first | omega | (simp; done) | (simp; omega)) [okb, -R.ok_bind, -List.map_append, -List.map_set, -List.map_map, startE, h0, g0]
  refine W_nm ?_
  simp (disch := first | omega | (simp; done) | (simp; omega)) [okb, -R.ok_bind, -List.map_append, -List.map_set, -List.map_map, h2]
  rw [← hn]
  refine W_asg ?_
  simp (disch := first | omega | (simp; done) | (simp; omega)) [okb, -R.ok_bind, -List.map_append, -List.map_set, -List.map_map, g2]
  refine W_nm ?_
  simp (disch := first | omega | (simp; done) | (simp; omega)) [okb, -R.ok_bind, -List.map_append, -List.map_set, -List.map_map]
  refine W_nm ?_
  simp (disch := first | omega | (simp; done) | (simp; omega)) [okb, -R.ok_bind, -List.map_append, -List.map_set, -List.map_map, g3]
  refine W_nm ?_
  simp (disch := first | omega | (simp; done) | (simp; omega)) [okb, -R.ok_bind, -List.map_append, -List.map_set, -List.map_map]
  rw [goC_rngA (g := fun r => enc (⟨ix l' r, rsn so cr l' r⟩ : Row)) (fun r hr => ?_) (by omega)]
  rotate_left
  · simp (disch := first | omega | (simp; done) | (simp; omega)) [okb, -R.ok_bind, -List.map_append, -List.map_set, -List.map_map, step_eq, g4 r hr]
  have hrm : (List.range n).map (fun r : Nat => enc (⟨ix l' r, rsn so cr l' r⟩ : Row)) = (rows so cr l' n).map enc := by
    rw [hrows, List.map_map]
    rfl
  rw [hrm]
  generalize hdue : rows so cr l' n = due at g5 g6 rl
  simp (disch := first | omega | (simp; done) | (simp; omega)) [okb, -R.ok_bind, -List.map_append, -List.map_set, -List.map_map]
  refine W_rng (lo := 0) (n := 2) (fun k e => ∃ (x9 x10 : Option (D × Bool)), e = [some (.list (ns.map PyData.int), true), some (enc dr, true), some (.int n, true), some (enc so, true), some (enc cr, true), some (.list [enc so, enc cr], true), some (enc l', true), some (enc due, true), none, x9, x10, none, none, none, none, none] ∧ (k = 0 ∨ ∃ d, x10 = some (d, false))) ?_ ⟨_, _, rfl, .inl rfl⟩ ?_ ?_
  · simp (disch := first | omega | (simp; done) | (simp; omega)) [okb, -R.ok_bind, -List.map_append, -List.map_set, -List.map_map]
  · rintro k e hk ⟨x9, x10, rfl, _⟩ K' hT
    simp (disch := first | omega | (simp; done) | (simp; omega)) [okb, -R.ok_bind, -List.map_append, -List.map_set, -List.map_map]
    refine W_own ?_
    simp (disch := first | omega | (simp; done) | (simp; omega)) [okb, -R.ok_bind, -List.map_append, -List.map_set, -List.map_map, g5]
    refine W_if ?_
    simp (disch := first | omega | (simp; done) | (simp; omega)) [okb, -R.ok_bind, -List.map_append, -List.map_set, -List.map_map, g6, hne]
    refine W_nil ?_
    rw [KS_nx]
    apply W_appM (f := (enc : Row → D))
    · rfl
    · rfl
    · (first | omega | (simp; omega))
    simp (disch := first | omega | (simp; done) | (simp; omega)) [okb, -R.ok_bind, -List.map_append, -List.map_set, -List.map_map]
    exact ⟨⟨none, none⟩, ⟨rfl, rfl⟩, W_nil (hT.nx _ ⟨_, _, rfl, .inr ⟨_, rfl⟩⟩)⟩
  · rintro e ⟨x9, x10, rfl, hx⟩
    obtain ⟨d10, rfl⟩ : ∃ d, x10 = some (d, false) := by
      rcases hx with h | h
      · omega
      · exact h
    refine W_fzz ?_
    simp (disch := first | omega | (simp; done) | (simp; omega)) [okb, -R.ok_bind, -List.map_append, -List.map_set, -List.map_map, frzE]
    refine W_nm ?_
    simp (disch := first | omega | (simp; done) | (simp; omega)) [okb, -R.ok_bind, -List.map_append, -List.map_set, -List.map_map, h1, g1]
    obtain ⟨ps, hps⟩ := others_ok n (by omega) so cr (by omega) (by omega) due rl (by omega) mo ml mb
    have g7 : evF T_law 7 false [.int n, enc so, enc cr, enc due, enc mo] = .ok (enc ps) := evF_ok rfl hps
    have g8 : ∀ rs : List Row, evF T_law 8 false [.int n, enc so, enc cr, enc rs] = .ok (.bool (Acc n so cr rs)) := fun rs => evF_ok rfl (judge_ok ok (by omega) (by omega) (by omega) rs)
    have g9 : ∀ rs : List Row, evF T_law 9 false [.int n, enc so, enc cr, enc rs] = .ok (.bool (Acc n so cr rs)) := fun rs => evF_ok rfl (accepts_ok ok (by omega) (by omega) (by omega) rs)
    simp only [enc_list, enc_int] at g7 g8 g9
    refine W_for (enc := (enc : List Row → D)) (xs := ps) (fun a e => ∃ (x12 x13 : Option (D × Bool)), e = [some (.list (ns.map PyData.int), true), some (enc dr, true), some (.int n, true), some (enc so, true), some (enc cr, true), some (.list [enc so, enc cr], true), some (enc l', true), some (enc due, true), none, x9, some (d10, true), some (enc mo, true), x12, x13, none, none]) ?_ ⟨_, _, rfl⟩ ?_ ?_
    · simp (disch := first | omega | (simp; done) | (simp; omega)) [okb, -R.ok_bind, -List.map_append, -List.map_set, -List.map_map, g7]
    · rintro a rs c e hx' ⟨x12, x13, rfl⟩ K' hT
      simp (disch := first | omega | (simp; done) | (simp; omega)) [okb, -R.ok_bind, -List.map_append, -List.map_set, -List.map_map]
      refine W_nm ?_
      simp (disch := first | omega | (simp; done) | (simp; omega)) [okb, -R.ok_bind, -List.map_append, -List.map_set, -List.map_map, g8]
      have hb : ∀ b : Bool, evCmp .ne (.bool b) (.bool b) = .ok false := fun b => ne_refl (x := .bool b) (shaped_enc (by decide) b)
      refine W_if ?_
      simp (disch := first | omega | (simp; done) | (simp; omega)) [okb, -R.ok_bind, -List.map_append, -List.map_set, -List.map_map, g9, hb]
      refine W_nil ?_
      cases ha : Acc n so cr rs with
      | false =>
        refine W_if ?_
        simp (disch := first | omega | (simp; done) | (simp; omega)) [okb, -R.ok_bind, -List.map_append, -List.map_set, -List.map_map]
        exact W_nil (W_nil (hT.nx _ ⟨_, _, rfl⟩))
      | true =>
        have hu := acc_uniq ok ha l1 l2 l3
        refine W_if ?_
        simp (disch := first | omega | (simp; done) | (simp; omega)) [okb, -R.ok_bind, -List.map_append, -List.map_set, -List.map_map]
        rw [goC_all (g := fun w : Row => enc w.a) (fun w hw => ?_) (by unfold Acc at ha; simp only [Bool.and_eq_true, decide_eq_true_eq] at ha; omega)]
        rotate_left
        · simp (disch := first | omega | (simp; done) | (simp; omega)) [okb, -R.ok_bind, -List.map_append, -List.map_set, -List.map_map, step_eq]
        have hlm : rs.map (fun w : Row => enc w.a) = (labs rs).map enc := by
          rw [labs, List.map_map]
          rfl
        have hn' := ne_enc (labs rs) l'
        rw [hlm, hu]
        rw [hu] at hn'
        simp only [enc_list] at hn'
        simp (disch := first | omega | (simp; done) | (simp; omega)) [okb, -R.ok_bind, -List.map_append, -List.map_set, -List.map_map, hn']
        exact W_nil (W_nil (hT.nx _ ⟨_, _, rfl⟩))
    · rintro e ⟨x12, x13, rfl⟩
      have m0 := Int.emod_nonneg (ix mo 0) (by omega : (n : Int) ≠ 0)
      have m1 := Int.emod_lt_of_pos (ix mo 0) (by omega : 0 < (n : Int))
      have q0 := Int.emod_nonneg (ix mo 1) (by omega : (30 : Int) ≠ 0)
      have ok2 : Ok n (so ++ [⟨ix mo 0 % n, ix mo 1 % 30⟩]) cr := ⟨fun p hp => by
        rcases List.mem_append.mp hp with z | z
        · exact ok.so p z
        · rw [List.mem_singleton.mp z]; exact ⟨m0, m1, q0⟩, ok.cr⟩
      obtain ⟨la, hla, la1, la2, la3⟩ := find_smoke_ok ok2 (by omega) (by omega) (by simp; omega)
      have g10 : evF T_law 5 false [.int n, enc (so ++ [⟨ix mo 0 % n, ix mo 1 % 30⟩]), enc cr] = .ok (enc (rows (so ++ [⟨ix mo 0 % n, ix mo 1 % 30⟩]) cr la n)) := evF_ok rfl hla
      rw [enc_app] at g10
      simp only [List.map_cons, List.map_nil, enc_T2, enc_int, enc_list] at g10
      have good1 : ∀ k : Nat, k < n → ∀ b, ix l' k = some b → ∃ b', (ix (rows (so ++ [⟨ix mo 0 % n, ix mo 1 % 30⟩]) cr la n) k).a = some b' ∧ b' ≤ b := fun k hk b hb => by
        rw [ix_rows hk]
        exact later_le (fun p hp => List.mem_append_left _ hp) (fun _ h => h) l2 la3 (by omega) hb
      have len1 : (rows (so ++ [⟨ix mo 0 % n, ix mo 1 % 30⟩]) cr la n).length = n := by simp [rows]
      generalize rows (so ++ [⟨ix mo 0 % n, ix mo 1 % 30⟩]) cr la n = rs1 at g10 good1 len1
      refine W_nm ?_
      simp (disch := first | omega | (simp; done) | (simp; omega)) [okb, -R.ok_bind, -List.map_append, -List.map_set, -List.map_map, g10]
      refine W_ifM (fun e => ∃ (rs : List Row), e = [some (.list (ns.map PyData.int), true), some (enc dr, true), some (.int n, true), some (enc so, true), some (enc cr, true), some (.list [enc so, enc cr], true), some (enc l', true), some (enc due, true), none, x9, some (d10, true), some (enc mo, true), x12, x13, none, some (enc rs, true)] ∧ rs.length = n ∧ ∀ k : Nat, k < n → ∀ b, ix l' k = some b → ∃ b', (ix rs k).a = some b' ∧ b' ≤ b) ?_ ?_
      · intro K' hJ
        simp (disch := first | omega | (simp; done) | (simp; omega)) [okb, -R.ok_bind, -List.map_append, -List.map_set, -List.map_map]
        refine ⟨fun h => ?_, fun h => ?_⟩
        · have r0 := Int.emod_nonneg (ix mo 2) (by omega : (n : Int) - 1 ≠ 0)
          have r1 := Int.emod_lt_of_pos (ix mo 2) (by omega : 0 < (n : Int) - 1)
          have u0 := Int.emod_nonneg (ix mo 1) (by omega : (9 : Int) ≠ 0)
          obtain ⟨t0, t1, t2⟩ := mod_turn m0 m1 r0 r1
          rw [← mod_shift] at t0 t1 t2
          have ok3 : Ok n so (cr ++ [⟨ix mo 0 % n, (ix mo 0 + 1 + ix mo 2 % (n - 1)) % n, 1 + ix mo 1 % 9⟩]) := ⟨ok.so, fun c hc => by
            rcases List.mem_append.mp hc with z | z
            · exact ok.cr c z
            · rw [List.mem_singleton.mp z]; exact ⟨m0, m1, t0, t1, t2, by show 1 ≤ 1 + _ % _; omega⟩⟩
          obtain ⟨lb, hlb, lb1, lb2, lb3⟩ := find_smoke_ok ok3 (by omega) (by simp; omega) (by omega)
          have g11 : evF T_law 5 false [.int n, enc so, enc (cr ++ [⟨ix mo 0 % n, (ix mo 0 + 1 + ix mo 2 % (n - 1)) % n, 1 + ix mo 1 % 9⟩])] = .ok (enc (rows so (cr ++ [⟨ix mo 0 % n, (ix mo 0 + 1 + ix mo 2 % (n - 1)) % n, 1 + ix mo 1 % 9⟩]) lb n)) := evF_ok rfl hlb
          rw [enc_app] at g11
          simp only [List.map_cons, List.map_nil, enc_T3, enc_int, enc_list] at g11
          refine W_nm ?_
          simp (disch := first | omega | (simp; done) | (simp; omega)) [okb, -R.ok_bind, -List.map_append, -List.map_set, -List.map_map, g11]
          refine W_nil (hJ.nx _ ⟨_, rfl, by simp [rows], fun k hk b hb => ?_⟩)
          rw [ix_rows hk]
          exact later_le (fun _ h => h) (fun c hc => List.mem_append_left _ hc) l2 lb3 (by omega) hb
        · exact W_nil (hJ.nx _ ⟨rs1, rfl, len1, good1⟩)
      · rintro e ⟨rs, rfl, rs1, rs2⟩
        refine W_rng (lo := 0) (n := n) (fun k e => ∃ (x8 : Option (D × Bool)), e = [some (.list (ns.map PyData.int), true), some (enc dr, true), some (.int n, true), some (enc so, true), some (enc cr, true), some (.list [enc so, enc cr], true), some (enc l', true), some (enc due, true), x8, x9, some (d10, true), some (enc mo, true), x12, x13, none, some (enc rs, true)]) ?_ ⟨_, rfl⟩ ?_ ?_
        · simp (disch := first | omega | (simp; done) | (simp; omega)) [okb, -R.ok_bind, -List.map_append, -List.map_set, -List.map_map]
        · rintro k e hk ⟨x8, rfl⟩ K' hT
          simp (disch := first | omega | (simp; done) | (simp; omega)) [okb, -R.ok_bind, -List.map_append, -List.map_set, -List.map_map]
          cases hv : ix l' (k : Int) with
          | none =>
            refine W_if ?_
            simp (disch := first | omega | (simp; done) | (simp; omega)) [okb, -R.ok_bind, -List.map_append, -List.map_set, -List.map_map, hv]
            exact W_nil (W_nil (hT.nx _ ⟨_, rfl⟩))
          | some b =>
            obtain ⟨b', e1, e2⟩ := rs2 k hk b hv
            have e2' : ¬ b < b' := by omega
            refine W_if ?_
            simp (disch := first | omega | (simp; done) | (simp; omega)) [okb, -R.ok_bind, -List.map_append, -List.map_set, -List.map_map, hv, e1, e2']
            exact W_nil (W_nil (hT.nx _ ⟨_, rfl⟩))
        · rintro e ⟨x8, rfl⟩
          refine W_one ?_
          simp (disch := first | omega | (simp; done) | (simp; omega)) [okb, -R.ok_bind, -List.map_append, -List.map_set, -List.map_map]
          exact hK.rt _ rfl
end K51

open PySem PySem.W PyProof.Rows
set_option maxHeartbeats 0 in
theorem PySem.Challenge.cw_hallsemptied_k51_whole_first_beats_of_sm_holds : PySem.Challenge.rw_hallsemptied_k51_whole_first_beats_of_sm.Holds := by
  w_on; o_law; k_head; (case hw => w_witness2)
  k_fill
  refine L2.walk_of (l := PySem.Challenge.rw_hallsemptied_k51_whole_first_beats_of_sm) (n := 63) (k := 10) (x := "script") (CX := fun _ => L2.CX0) (sp := fun _ => Pv.spF K51.f_law) rfl (by decide) rfl ⟨rfl, by decide, by decide⟩ (fun w h Y => PySem.W.kIn_of Y) ?F ?H (fun _ _ _ _ _ h => h)
  case F =>
    intro w mg fa h KX G hmg
    refine K51.walk ?F_other_room ?F_first_beats ?F_tells_beat ?F_reason_of ?F_find_smoke ?F_is_reason ?F_is_late ?F_crack_holds ?F_judge_smoke ?F_law_cell ?F_law_numbers ?F_law_same ?F_law_smoke ?F_law_beats ?F_law_leads ?F_law_reason ?F_law_accepts ?F_law_others ?F_law ?hb hmg
    case F_other_room =>
      refine' Pv.fun_ex KX G ?a ?l ?c ?k (fun _ _ _ _ _ _ us hl => match us, hl with | [_, _], _ => rfl)
      (case a => k_is); (case l => k_is); (case c => k_is); (case k => k_is)
    case F_first_beats =>
      refine' Pv.fun_ex KX G ?a ?l ?c ?k (fun _ _ _ _ _ _ us hl => match us, hl with | [_, _, _], _ => rfl)
      (case a => k_is); (case l => k_is); (case c => k_is); (case k => k_is)
    case F_tells_beat =>
      refine' Pv.fun_ex KX G ?a ?l ?c ?k (fun _ _ _ _ _ _ us hl => match us, hl with | [_, _, _], _ => rfl)
      (case a => k_is); (case l => k_is); (case c => k_is); (case k => k_is)
    case F_reason_of =>
      refine' Pv.fun_ex KX G ?a ?l ?c ?k (fun _ _ _ _ _ _ us hl => match us, hl with | [_, _, _, _], _ => rfl)
      (case a => k_is); (case l => k_is); (case c => k_is); (case k => k_is)
    case F_find_smoke =>
      refine' Pv.fun_ex KX G ?a ?l ?c ?k (fun _ _ _ _ _ _ us hl => match us, hl with | [_, _, _], _ => rfl)
      (case a => k_is); (case l => k_is); (case c => k_is); (case k => k_is)
    case F_is_reason =>
      refine' Pv.fun_ex KX G ?a ?l ?c ?k (fun _ _ _ _ _ _ us hl => match us, hl with | [_, _, _, _, _], _ => rfl)
      (case a => k_is); (case l => k_is); (case c => k_is); (case k => k_is)
    case F_is_late =>
      refine' Pv.fun_ex KX G ?a ?l ?c ?k (fun _ _ _ _ _ _ us hl => match us, hl with | [_, _, _], _ => rfl)
      (case a => k_is); (case l => k_is); (case c => k_is); (case k => k_is)
    case F_crack_holds =>
      refine' Pv.fun_ex KX G ?a ?l ?c ?k (fun _ _ _ _ _ _ us hl => match us, hl with | [_, _], _ => rfl)
      (case a => k_is); (case l => k_is); (case c => k_is); (case k => k_is)
    case F_judge_smoke =>
      refine' Pv.fun_ex KX G ?a ?l ?c ?k (fun _ _ _ _ _ _ us hl => match us, hl with | [_, _, _, _], _ => rfl)
      (case a => k_is); (case l => k_is); (case c => k_is); (case k => k_is)
    case F_law_cell =>
      refine' Pv.fun_ex KX G ?a ?l ?c ?k (fun _ _ _ _ _ _ us hl => match us, hl with | [_, _], _ => rfl)
      (case a => k_is); (case l => k_is); (case c => k_is); (case k => k_is)
    case F_law_numbers =>
      refine' Pv.fun_ex KX G ?a ?l ?c ?k (fun _ _ _ _ _ _ us hl => match us, hl with | [_, _, _], _ => rfl)
      (case a => k_is); (case l => k_is); (case c => k_is); (case k => k_is)
    case F_law_same =>
      refine' Pv.fun_ex KX G ?a ?l ?c ?k (fun _ _ _ _ _ _ us hl => match us, hl with | [_, _], _ => rfl)
      (case a => k_is); (case l => k_is); (case c => k_is); (case k => k_is)
    case F_law_smoke =>
      refine' Pv.fun_ex KX G ?a ?l ?c ?k (fun _ _ _ _ _ _ us hl => match us, hl with | [_, _], _ => rfl)
      (case a => k_is); (case l => k_is); (case c => k_is); (case k => k_is)
    case F_law_beats =>
      refine' Pv.fun_ex KX G ?a ?l ?c ?k (fun _ _ _ _ _ _ us hl => match us, hl with | [_, _, _], _ => rfl)
      (case a => k_is); (case l => k_is); (case c => k_is); (case k => k_is)
    case F_law_leads =>
      refine' Pv.fun_ex KX G ?a ?l ?c ?k (fun _ _ _ _ _ _ us hl => match us, hl with | [_, _, _, _], _ => rfl)
      (case a => k_is); (case l => k_is); (case c => k_is); (case k => k_is)
    case F_law_reason =>
      refine' Pv.fun_ex KX G ?a ?l ?c ?k (fun _ _ _ _ _ _ us hl => match us, hl with | [_, _, _, _], _ => rfl)
      (case a => k_is); (case l => k_is); (case c => k_is); (case k => k_is)
    case F_law_accepts =>
      refine' Pv.fun_ex KX G ?a ?l ?c ?k (fun _ _ _ _ _ _ us hl => match us, hl with | [_, _, _, _], _ => rfl)
      (case a => k_is); (case l => k_is); (case c => k_is); (case k => k_is)
    case F_law_others =>
      refine' Pv.fun_ex KX G ?a ?l ?c ?k (fun _ _ _ _ _ _ us hl => match us, hl with | [_, _, _, _, _], _ => rfl)
      (case a => k_is); (case l => k_is); (case c => k_is); (case k => k_is)
    case F_law =>
      refine' Pv.fun_ex KX G ?a ?l ?c ?k (fun _ _ _ _ _ _ us hl => match us, hl with | [_], _ => rfl)
      (case a => k_is); (case l => k_is); (case c => k_is); (case k => k_is)
    case hb =>
      refine' ⟨PySem.W.mg_none_of KX G ?z0, PySem.W.mg_none_of KX G ?z1, PySem.W.mg_none_of KX G ?z2, PySem.W.mg_none_of KX G ?z3, PySem.W.mg_none_of KX G ?z4, PySem.W.mg_none_of KX G ?z5, PySem.W.mg_none_of KX G ?z6, PySem.W.mg_none_of KX G ?z7, PySem.W.mg_none_of KX G ?z8, PySem.W.mg_none_of KX G ?z9, PySem.W.mg_none_of KX G ?z10, True.intro⟩
      (case z0 => k_is); (case z1 => k_is); (case z2 => k_is); (case z3 => k_is); (case z4 => k_is); (case z5 => k_is); (case z6 => k_is); (case z7 => k_is); (case z8 => k_is); (case z9 => k_is); (case z10 => k_is)
  case H =>
    intro w H a ns hl _ hS
    exact Pv.ends (by kernel_rfl) hS rfl rfl (K51.plain ns hl)

