import PyProof.Rows.All
import Wide.All
import OpenK.AllK
import Wide.FinOn
import HandS.ForMost
import HandS.Flow
import HandS.Wide
import HandS.IsInst
import HandS.Deep
import HandS.SortInts
import HandS.TupAny
import HandS.Gcd
import HandS.TupLe
import KE.SortData
import HandS.RevRange
import HandS.Flt
import HandS.TryOnly
import HandS.Exc
import HandS.ExcOwn
import HandS.WordsExc
import HandS.TryMany
import HandS.ExcIs
import HandS.Style
import HandS.Conv
import HandS.More
import HandS.TupLen
import HandS.SetBool
import PySem.Challenge.RW_hallsemptied_k59_whole_orders_of_search
set_option Elab.async false
set_option linter.all false
set_option maxRecDepth 100000
set_option maxHeartbeats 1000000
namespace Pv
open PySem PySem.Spec PyProof.Rows L2

/-! answers of the plain evaluator -/
inductive R (α : Type) where
  | ok (a : α)
  | exc (c : Nat)
  | no
def R.bind {α β : Type} : R α → (α → R β) → R β
  | .ok a, f => f a
  | .exc c, _ => .exc c
  | .no, _ => .no
instance : Monad R where
  pure := R.ok
  bind := R.bind
@[simp] theorem R.ok_bind {α β : Type} (a : α) (f : α → R β) : (R.ok a >>= f) = f a := rfl
@[simp] theorem R.exc_bind {α β : Type} (c : Nat) (f : α → R β) : ((R.exc c : R α) >>= f) = R.exc c := rfl
@[simp] theorem R.no_bind {α β : Type} (f : α → R β) : ((R.no : R α) >>= f) = R.no := rfl
@[simp] theorem R.pure_eq {α : Type} (a : α) : (pure a : R α) = R.ok a := rfl

abbrev D := PyData

/-! ownership -/
inductive Own where
  | bw | sh | itm
  | lst (o : Own)
  | tn
  | tc (o r : Own)
  | dct
  deriving DecidableEq

def mask (H : Hp) (O : Addr → Bool) : Hp := fun a => if O a = true then none else H a
def add (O : Addr → Bool) (A : List Addr) : Addr → Bool := fun a => O a || decide (a ∈ A)
theorem mask_some {H : Hp} {O : Addr → Bool} {a : Addr} {o : HO} : mask H O a = some o ↔ O a = false ∧ H a = some o := by
  unfold mask
  cases h : O a <;> simp
theorem mask_of {H : Hp} {O : Addr → Bool} {a : Addr} {o : HO} (h0 : O a = false) (h : H a = some o) : mask H O a = some o := mask_some.mpr ⟨h0, h⟩
theorem mask_le {H : Hp} {O : Addr → Bool} : Same (mask H O) H := fun _ _ h => (mask_some.mp h).2
theorem mask_mono {H H' : Hp} {O O' : Addr → Bool} (s : Same H H') (h : ∀ a, O' a = true → O a = true ∨ H a = none) : Same (mask H O) (mask H' O') := fun a o e => by
  obtain ⟨e0, e1⟩ := mask_some.mp e
  refine mask_of ?_ (s a o e1)
  cases q : O' a with
  | false => rfl
  | true =>
    rcases h a q with z | z
    · rw [z] at e0; cases e0
    · rw [z] at e1; cases e1
theorem mask_none {H : Hp} {O : Addr → Bool} (h : ∀ a, O a = false) : mask H O = H := by
  funext a
  unfold mask
  rw [h a]
  rfl
theorem add_true {O : Addr → Bool} {A : List Addr} {a : Addr} : add O A a = true ↔ O a = true ∨ a ∈ A := by
  unfold add
  rw [Bool.or_eq_true, decide_eq_true_eq]
theorem add_nil {O : Addr → Bool} : add O [] = O := by
  funext a
  unfold add
  simp

theorem Same.seqT {K : PySem.W.Frag} {H H' : Hp} {a : Addr} {xs : List V} (e : Same H H') (h : SqT K H a xs) : SqT K H' a xs := by
  rcases h with (h | ⟨o, h⟩) | h
  · exact .inl (.inl (e _ _ h))
  · exact .inl (.inr ⟨o, e _ _ h⟩)
  · exact .inr h

/-! data in the heap: as the hand layer's, with dicts; tuples stand as they are -/
def kD : Key → D
  | .inl i => .int i
  | .inr x => .str x
def kTD (k : List Key) : D := .tuple (k.map kD)
mutual
inductive Dp (K : PySem.W.Frag) (H : Hp) : V → D → Prop
  | non : Dp K H .non .none
  | bl (b : Bool) : Dp K H (.bl b) (.bool b)
  | int (i : Int) : Dp K H (.int i) (.int i)
  | str (x : Str) : Dp K H (.str x) (.str x)
  | lst {a : Addr} {xs : List V} {ds : List D} : SqL K H a xs → DpAll K H xs ds → Dp K H (.ref a) (.list ds)
  | tup {a : Addr} {xs : List V} {ds : List D} : H a = some (.tup xs) → DpAll K H xs ds → Dp K H (.ref a) (.tuple ds)
  | dck {a : Addr} {kvs : List (Key × V)} {ps : List (D × D)} : H a = some (.dK kvs) → DpK K H kvs ps → Dp K H (.ref a) (.dict ps)
  | dct {a : Addr} {kvs : List (List Key × V)} {ps : List (D × D)} : H a = some (.dT kvs) → DpT K H kvs ps → Dp K H (.ref a) (.dict ((.none, .none) :: ps))
inductive DpAll (K : PySem.W.Frag) (H : Hp) : List V → List D → Prop
  | nil : DpAll K H [] []
  | cons {v : V} {vs : List V} {d : D} {ds : List D} : Dp K H v d → DpAll K H vs ds → DpAll K H (v :: vs) (d :: ds)
inductive DpK (K : PySem.W.Frag) (H : Hp) : List (Key × V) → List (D × D) → Prop
  | nil : DpK K H [] []
  | cons {k : Key} {v : V} {d : D} {kvs : List (Key × V)} {ps : List (D × D)} : Dp K H v d → DpK K H kvs ps → DpK K H ((k, v) :: kvs) ((kD k, d) :: ps)
inductive DpT (K : PySem.W.Frag) (H : Hp) : List (List Key × V) → List (D × D) → Prop
  | nil : DpT K H [] []
  | cons {k : List Key} {v : V} {d : D} {kvs : List (List Key × V)} {ps : List (D × D)} : Dp K H v d → DpT K H kvs ps → DpT K H ((k, v) :: kvs) ((kTD k, d) :: ps)
end
mutual
theorem Dp.mono {K : PySem.W.Frag} {H H' : Hp} (s : Same H H') {v : V} {d : D} : Dp K H v d → Dp K H' v d
  | .non => .non
  | .bl b => .bl b
  | .int i => .int i
  | .str x => .str x
  | .lst h1 h2 => .lst (Same.seq s h1) (h2.mono s)
  | .tup h1 h2 => .tup (s _ _ h1) (h2.mono s)
  | .dck h1 h2 => .dck (s _ _ h1) (h2.mono s)
  | .dct h1 h2 => .dct (s _ _ h1) (h2.mono s)
theorem DpAll.mono {K : PySem.W.Frag} {H H' : Hp} (s : Same H H') {v : List V} {d : List D} : DpAll K H v d → DpAll K H' v d
  | .nil => .nil
  | .cons h1 h2 => .cons (h1.mono s) (h2.mono s)
theorem DpK.mono {K : PySem.W.Frag} {H H' : Hp} (s : Same H H') {v : List (Key × V)} {d : List (D × D)} : DpK K H v d → DpK K H' v d
  | .nil => .nil
  | .cons h1 h2 => .cons (h1.mono s) (h2.mono s)
theorem DpT.mono {K : PySem.W.Frag} {H H' : Hp} (s : Same H H') {v : List (List Key × V)} {d : List (D × D)} : DpT K H v d → DpT K H' v d
  | .nil => .nil
  | .cons h1 h2 => .cons (h1.mono s) (h2.mono s)
end
theorem dp_mono {K : PySem.W.Frag} {H H' : Hp} (s : Same H H') (d : D) (v : V) (h : Dp K H v d) : Dp K H' v d := h.mono s
theorem dpAll_mono {K : PySem.W.Frag} {H H' : Hp} (s : Same H H') (ds : List D) (vs : List V) (h : DpAll K H vs ds) : DpAll K H' vs ds := h.mono s

/-- what may be owned -/
def isMut : HO → Bool
  | .lst _ | .dK _ | .dT _ => true
  | _ => false
def Mut (H : Hp) (a : Addr) : Prop := ∃ o, H a = some o ∧ isMut o = true
theorem Mut.lst {H : Hp} {a : Addr} {xs : List V} (h : H a = some (.lst xs)) : Mut H a := ⟨_, h, rfl⟩
theorem Mut.no {H : Hp} {a : Addr} (m : Mut H a) (h : H a = none) : False := by
  obtain ⟨o, e, _⟩ := m
  rw [h] at e
  cases e
theorem Mut.tup {H : Hp} {a : Addr} {xs : List V} (m : Mut H a) (h : H a = some (.tup xs)) : False := by
  obtain ⟨o, e, q⟩ := m
  rw [h] at e
  cases e
  cases q
theorem Mut.mono {H H' : Hp} {a : Addr} (s : Same H H') (m : Mut H a) : Mut H' a := let ⟨o, e, q⟩ := m; ⟨o, s _ _ e, q⟩

def flatD : D → Bool
  | .none | .bool _ | .int _ | .str _ => true
  | _ => false
theorem dp_flat {K : PySem.W.Frag} {H H' : Hp} {v : V} : ∀ {d : D}, flatD d = true → Dp K H v d → Dp K H' v d
  | .none, _, h => by cases h; exact .non
  | .bool _, _, h => by cases h; exact .bl _
  | .int _, _, h => by cases h; exact .int _
  | .str _, _, h => by cases h; exact .str _

/-! how a value bears data -/
mutual
inductive Rp (K : PySem.W.Frag) (H : Hp) (O : Addr → Bool) : V → D → Own → List Addr → Prop
  | bw {v : V} {d : D} : Dp K H v d → Rp K H O v d .bw []
  | sh {v : V} {d : D} : Dp K (mask H O) v d → Rp K H O v d .sh []
  | flat {v : V} {d : D} {o : Own} : flatD d = true → Dp K H v d → Rp K H O v d o []
  | itmL {a : Addr} {xs : List V} {ds : List D} : SqL K H a xs → DpAll K (mask H O) xs ds → Rp K H O (.ref a) (.list ds) .itm []
  | itmT {a : Addr} {xs : List V} {ds : List D} : H a = some (.tup xs) → DpAll K (mask H O) xs ds → Rp K H O (.ref a) (.tuple ds) .itm []
  | itmK {a : Addr} {kvs : List (Key × V)} {ps : List (D × D)} : H a = some (.dK kvs) → DpK K (mask H O) kvs ps → Rp K H O (.ref a) (.dict ps) .itm []
  | itmX {a : Addr} {kvs : List (List Key × V)} {ps : List (D × D)} : H a = some (.dT kvs) → DpT K (mask H O) kvs ps → Rp K H O (.ref a) (.dict ((.none, .none) :: ps)) .itm []
  | lst {a : Addr} {xs : List V} {ds : List D} {o : Own} {A : List Addr} : H a = some (.lst xs) → O a = true → RpA K H O xs ds o A → Rp K H O (.ref a) (.list ds) (.lst o) (a :: A)
  | tup {a : Addr} {xs : List V} {ds : List D} {o r : Own} {A : List Addr} : H a = some (.tup xs) → RpS K H O xs ds (.tc o r) A → Rp K H O (.ref a) (.tuple ds) (.tc o r) A
  | dck {a : Addr} {kvs : List (Key × V)} {ps : List (D × D)} : H a = some (.dK kvs) → O a = true → DpK K (mask H O) kvs ps → Rp K H O (.ref a) (.dict ps) .dct [a]
  | dct {a : Addr} {kvs : List (List Key × V)} {ps : List (D × D)} : H a = some (.dT kvs) → O a = true → DpT K (mask H O) kvs ps → Rp K H O (.ref a) (.dict ((.none, .none) :: ps)) .dct [a]
inductive RpA (K : PySem.W.Frag) (H : Hp) (O : Addr → Bool) : List V → List D → Own → List Addr → Prop
  | nil {o : Own} : RpA K H O [] [] o []
  | cons {v : V} {vs : List V} {d : D} {ds : List D} {o : Own} {A B : List Addr} : Rp K H O v d o A → RpA K H O vs ds o B → RpA K H O (v :: vs) (d :: ds) o (A ++ B)
inductive RpS (K : PySem.W.Frag) (H : Hp) (O : Addr → Bool) : List V → List D → Own → List Addr → Prop
  | nil {r : Own} : RpS K H O [] [] r []
  | cons {v : V} {vs : List V} {d : D} {ds : List D} {o r : Own} {A B : List Addr} : Rp K H O v d o A → RpS K H O vs ds r B → RpS K H O (v :: vs) (d :: ds) (.tc o r) (A ++ B)
end

mutual
theorem Rp.dp {K : PySem.W.Frag} {H : Hp} {O : Addr → Bool} {v : V} {d : D} {o : Own} {A : List Addr} : Rp K H O v d o A → Dp K H v d
  | .bw h => h
  | .sh h => dp_mono mask_le _ _ h
  | .flat _ h => h
  | .itmL h1 h2 => .lst h1 (dpAll_mono mask_le _ _ h2)
  | .itmT h1 h2 => .tup h1 (dpAll_mono mask_le _ _ h2)
  | .itmK h1 h2 => .dck h1 (h2.mono mask_le)
  | .itmX h1 h2 => .dct h1 (h2.mono mask_le)
  | .lst h1 _ h2 => .lst (.inl (.inl h1)) h2.dp
  | .tup h1 h2 => .tup h1 h2.dp
  | .dck h1 _ h2 => .dck h1 (h2.mono mask_le)
  | .dct h1 _ h2 => .dct h1 (h2.mono mask_le)
theorem RpA.dp {K : PySem.W.Frag} {H : Hp} {O : Addr → Bool} {v : List V} {d : List D} {o : Own} {A : List Addr} : RpA K H O v d o A → DpAll K H v d
  | .nil => .nil
  | .cons h1 h2 => .cons h1.dp h2.dp
theorem RpS.dp {K : PySem.W.Frag} {H : Hp} {O : Addr → Bool} {v : List V} {d : List D} {o : Own} {A : List Addr} : RpS K H O v d o A → DpAll K H v d
  | .nil => .nil
  | .cons h1 h2 => .cons h1.dp h2.dp
end

/-! other heap, other owned ones: what is owned here stays, nothing that was free is owned now but what is new -/
mutual
theorem Rp.mono {K : PySem.W.Frag} {H H' : Hp} {O O' : Addr → Bool} (s : Same H H') (ho : ∀ a, O' a = true → O a = true ∨ H a = none) {v : V} {d : D} {o : Own} {A : List Addr} (hA : ∀ a ∈ A, O' a = true) : Rp K H O v d o A → Rp K H' O' v d o A
  | .bw h => .bw (dp_mono s _ _ h)
  | .sh h => .sh (dp_mono (mask_mono s ho) _ _ h)
  | .flat f h => .flat f (dp_flat f h)
  | .itmL h1 h2 => .itmL (Same.seq s h1) (dpAll_mono (mask_mono s ho) _ _ h2)
  | .itmT h1 h2 => .itmT (s _ _ h1) (dpAll_mono (mask_mono s ho) _ _ h2)
  | .itmK h1 h2 => .itmK (s _ _ h1) (h2.mono (mask_mono s ho))
  | .itmX h1 h2 => .itmX (s _ _ h1) (h2.mono (mask_mono s ho))
  | .dck h1 h3 h2 => .dck (s _ _ h1) (hA _ List.mem_cons_self) (h2.mono (mask_mono s ho))
  | .dct h1 h3 h2 => .dct (s _ _ h1) (hA _ List.mem_cons_self) (h2.mono (mask_mono s ho))
  | .lst h1 h3 h2 => .lst (s _ _ h1) (hA _ List.mem_cons_self) (RpA.mono s ho (fun a h => hA a (List.mem_cons_of_mem _ h)) h2)
  | .tup h1 h2 => .tup (s _ _ h1) (RpS.mono s ho hA h2)
theorem RpA.mono {K : PySem.W.Frag} {H H' : Hp} {O O' : Addr → Bool} (s : Same H H') (ho : ∀ a, O' a = true → O a = true ∨ H a = none) {v : List V} {d : List D} {o : Own} {A : List Addr} (hA : ∀ a ∈ A, O' a = true) : RpA K H O v d o A → RpA K H' O' v d o A
  | .nil => .nil
  | .cons h1 h2 => .cons (Rp.mono s ho (fun a h => hA a (List.mem_append_left _ h)) h1) (RpA.mono s ho (fun a h => hA a (List.mem_append_right _ h)) h2)
theorem RpS.mono {K : PySem.W.Frag} {H H' : Hp} {O O' : Addr → Bool} (s : Same H H') (ho : ∀ a, O' a = true → O a = true ∨ H a = none) {v : List V} {d : List D} {o : Own} {A : List Addr} (hA : ∀ a ∈ A, O' a = true) : RpS K H O v d o A → RpS K H' O' v d o A
  | .nil => .nil
  | .cons h1 h2 => .cons (Rp.mono s ho (fun a h => hA a (List.mem_append_left _ h)) h1) (RpS.mono s ho (fun a h => hA a (List.mem_append_right _ h)) h2)
end
/-! what a value owns -/
mutual
theorem Rp.owned {K : PySem.W.Frag} {H : Hp} {O : Addr → Bool} {v : V} {d : D} {o : Own} {A : List Addr} : Rp K H O v d o A → ∀ a ∈ A, O a = true ∧ Mut H a
  | .bw h => fun _ z => nomatch z
  | .sh h => fun _ z => nomatch z
  | .flat f h => fun _ z => nomatch z
  | .itmL h1 h2 => fun _ z => nomatch z
  | .itmT h1 h2 => fun _ z => nomatch z
  | .itmK h1 h2 => fun _ z => nomatch z
  | .itmX h1 h2 => fun _ z => nomatch z
  | .lst h1 h3 h2 => fun a z => by
    rcases List.mem_cons.mp z with e | e
    · subst e; exact ⟨h3, .lst h1⟩
    · exact h2.owned a e
  | .tup h1 h2 => h2.owned
  | .dck h1 h3 h2 => fun a z => by
    rw [List.mem_singleton.mp z]
    exact ⟨h3, _, h1, rfl⟩
  | .dct h1 h3 h2 => fun a z => by
    rw [List.mem_singleton.mp z]
    exact ⟨h3, _, h1, rfl⟩
theorem RpA.owned {K : PySem.W.Frag} {H : Hp} {O : Addr → Bool} {v : List V} {d : List D} {o : Own} {A : List Addr} : RpA K H O v d o A → ∀ a ∈ A, O a = true ∧ Mut H a
  | .nil => fun _ z => nomatch z
  | .cons h1 h2 => fun a z => by
    rcases List.mem_append.mp z with e | e
    · exact h1.owned a e
    · exact h2.owned a e
theorem RpS.owned {K : PySem.W.Frag} {H : Hp} {O : Addr → Bool} {v : List V} {d : List D} {o : Own} {A : List Addr} : RpS K H O v d o A → ∀ a ∈ A, O a = true ∧ Mut H a
  | .nil => fun _ z => nomatch z
  | .cons h1 h2 => fun a z => by
    rcases List.mem_append.mp z with e | e
    · exact h1.owned a e
    · exact h2.owned a e
end

def fz : Own → Bool
  | .bw | .itm => false
  | .sh | .tn | .dct => true
  | .lst o => fz o
  | .tc o r => fz o && fz r
def Dom (H : Hp) (O : Addr → Bool) : Prop := ∀ a, O a = true → Mut H a
theorem Dom.tup {H : Hp} {O : Addr → Bool} {a : Addr} {xs : List V} (hd : Dom H O) (h : H a = some (.tup xs)) : O a = false := by
  cases q : O a with
  | false => rfl
  | true => exact ((hd a q).tup h).elim
/-! the heap may change at what others own -/
theorem mask_keep {H H' : Hp} {O O' : Addr → Bool} {A : List Addr} (s : ∀ a x, H a = some x → (O a = false ∨ a ∈ A) → H' a = some x) (ho : ∀ a, O' a = true → O a = true ∨ H a = none) : Same (mask H O) (mask H' O') := fun a x e => by
  obtain ⟨e0, e1⟩ := mask_some.mp e
  refine mask_of ?_ (s a x e1 (.inl e0))
  cases q : O' a with
  | false => rfl
  | true =>
    rcases ho a q with z | z
    · rw [z] at e0; cases e0
    · rw [z] at e1; cases e1
mutual
theorem Rp.keep {K : PySem.W.Frag} {H H' : Hp} {O O' : Addr → Bool} (hd : Dom H O) {v : V} {d : D} {o : Own} {A : List Addr} (s : ∀ a x, H a = some x → (O a = false ∨ a ∈ A) → H' a = some x) (ho : ∀ a, O' a = true → O a = true ∨ H a = none) (hA : ∀ a ∈ A, O' a = true) (hf : fz o = true) : Rp K H O v d o A → Rp K H' O' v d o A
  | .bw h => by cases hf
  | .sh h => .sh (h.mono (mask_keep s ho))
  | .flat f h => .flat f (dp_flat f h)
  | .itmL h1 h2 => by cases hf
  | .itmT h1 h2 => by cases hf
  | .itmK h1 h2 => by cases hf
  | .itmX h1 h2 => by cases hf
  | .lst (o := o) (A := A) h1 h3 h2 => .lst (s _ _ h1 (.inr List.mem_cons_self)) (hA _ List.mem_cons_self) (RpA.keep hd (fun a x e q => s a x e (q.elim .inl fun q => .inr (List.mem_cons_of_mem _ q))) ho (fun a h => hA a (List.mem_cons_of_mem _ h)) (show fz o = true from hf) h2)
  | .tup (a := a) (o := o) (r := r) h1 h2 => by
    exact .tup (s _ _ h1 (.inl (hd.tup h1))) (RpS.keep hd s ho hA (show fz (.tc o r) = true from hf) h2)
  | .dck h1 h3 h2 => .dck (s _ _ h1 (.inr List.mem_cons_self)) (hA _ List.mem_cons_self) (h2.mono (mask_keep s ho))
  | .dct h1 h3 h2 => .dct (s _ _ h1 (.inr List.mem_cons_self)) (hA _ List.mem_cons_self) (h2.mono (mask_keep s ho))
theorem RpA.keep {K : PySem.W.Frag} {H H' : Hp} {O O' : Addr → Bool} (hd : Dom H O) {v : List V} {d : List D} {o : Own} {A : List Addr} (s : ∀ a x, H a = some x → (O a = false ∨ a ∈ A) → H' a = some x) (ho : ∀ a, O' a = true → O a = true ∨ H a = none) (hA : ∀ a ∈ A, O' a = true) (hf : fz o = true) : RpA K H O v d o A → RpA K H' O' v d o A
  | .nil => .nil
  | .cons h1 h2 => .cons (Rp.keep hd (fun a x e q => s a x e (q.elim .inl fun q => .inr (List.mem_append_left _ q))) ho (fun a h => hA a (List.mem_append_left _ h)) hf h1) (RpA.keep hd (fun a x e q => s a x e (q.elim .inl fun q => .inr (List.mem_append_right _ q))) ho (fun a h => hA a (List.mem_append_right _ h)) hf h2)
theorem RpS.keep {K : PySem.W.Frag} {H H' : Hp} {O O' : Addr → Bool} (hd : Dom H O) {v : List V} {d : List D} {o : Own} {A : List Addr} (s : ∀ a x, H a = some x → (O a = false ∨ a ∈ A) → H' a = some x) (ho : ∀ a, O' a = true → O a = true ∨ H a = none) (hA : ∀ a ∈ A, O' a = true) (hf : fz o = true) : RpS K H O v d o A → RpS K H' O' v d o A
  | .nil => .nil
  | .cons h1 h2 => by
    have hf' := Bool.and_eq_true_iff.mp hf
    exact .cons (Rp.keep hd (fun a x e q => s a x e (q.elim .inl fun q => .inr (List.mem_append_left _ q))) ho (fun a h => hA a (List.mem_append_left _ h)) hf'.1 h1) (RpS.keep hd (fun a x e q => s a x e (q.elim .inl fun q => .inr (List.mem_append_right _ q))) ho (fun a h => hA a (List.mem_append_right _ h)) hf'.2 h2)
end

mutual
theorem Rp.freeze {K : PySem.W.Frag} {H : Hp} {O O' : Addr → Bool} (hd : Dom H O') (ho : ∀ a, O' a = true → O a = true) {v : V} {d : D} {o : Own} {A : List Addr} (hA : ∀ a ∈ A, O' a = false) (hf : fz o = true) : Rp K H O v d o A → Dp K (mask H O') v d
  | .bw h => by cases hf
  | .sh h => dp_mono (mask_mono (Same.refl _) fun a e => .inl (ho a e)) _ _ h
  | .flat f h => dp_flat f h
  | .itmL h1 h2 => by cases hf
  | .itmT h1 h2 => by cases hf
  | .itmK h1 h2 => by cases hf
  | .itmX h1 h2 => by cases hf
  | .lst (o := o) h1 h3 h2 => .lst (.inl (.inl (mask_of (hA _ List.mem_cons_self) h1))) (RpA.freeze hd ho (fun a h => hA a (List.mem_cons_of_mem _ h)) (show fz o = true from hf) h2)
  | .tup (a := a) h1 h2 => .tup (mask_of (hd.tup h1) h1) (RpS.freeze hd ho hA hf h2)
  | .dck h1 h3 h2 => .dck (mask_of (hA _ List.mem_cons_self) h1) (h2.mono (mask_mono (Same.refl _) fun a e => .inl (ho a e)))
  | .dct h1 h3 h2 => .dct (mask_of (hA _ List.mem_cons_self) h1) (h2.mono (mask_mono (Same.refl _) fun a e => .inl (ho a e)))
theorem RpA.freeze {K : PySem.W.Frag} {H : Hp} {O O' : Addr → Bool} (hd : Dom H O') (ho : ∀ a, O' a = true → O a = true) {v : List V} {d : List D} {o : Own} {A : List Addr} (hA : ∀ a ∈ A, O' a = false) (hf : fz o = true) : RpA K H O v d o A → DpAll K (mask H O') v d
  | .nil => .nil
  | .cons h1 h2 => .cons (Rp.freeze hd ho (fun a h => hA a (List.mem_append_left _ h)) hf h1) (RpA.freeze hd ho (fun a h => hA a (List.mem_append_right _ h)) hf h2)
theorem RpS.freeze {K : PySem.W.Frag} {H : Hp} {O O' : Addr → Bool} (hd : Dom H O') (ho : ∀ a, O' a = true → O a = true) {v : List V} {d : List D} {o : Own} {A : List Addr} (hA : ∀ a ∈ A, O' a = false) (hf : fz o = true) : RpS K H O v d o A → DpAll K (mask H O') v d
  | .nil => .nil
  | .cons h1 h2 => by
    have hf' := Bool.and_eq_true_iff.mp hf
    exact .cons (Rp.freeze hd ho (fun a h => hA a (List.mem_append_left _ h)) hf'.1 h1) (RpS.freeze hd ho (fun a h => hA a (List.mem_append_right _ h)) hf'.2 h2)
end

/-- what can give its items away -/
def itmb : Own → Bool
  | .sh | .itm | .dct => true
  | .lst o => fz o
  | .tc o r => fz o && fz r
  | _ => false
/-- a dict, its values masked -/
def DcM (K : PySem.W.Frag) (H : Hp) (O : Addr → Bool) (v : V) (ps : List (D × D)) : Prop :=
  (∃ a kvs, v = .ref a ∧ H a = some (.dK kvs) ∧ DpK K (mask H O) kvs ps) ∨ ∃ a kvs qs, v = .ref a ∧ ps = (.none, .none) :: qs ∧ H a = some (.dT kvs) ∧ DpT K (mask H O) kvs qs
theorem DcM.dp {K : PySem.W.Frag} {H : Hp} {O : Addr → Bool} {v : V} {ps : List (D × D)} (h : DcM K H O v ps) : Dp K H v (.dict ps) := by
  rcases h with ⟨a, kvs, rfl, h1, h2⟩ | ⟨a, kvs, qs, rfl, rfl, h1, h2⟩
  · exact .dck h1 (h2.mono mask_le)
  · exact .dct h1 (h2.mono mask_le)
/-- the items of a list or tuple, masked -/
def Itm (K : PySem.W.Frag) (H : Hp) (O : Addr → Bool) (v : V) (d : D) : Prop :=
  (flatD d = true ∧ Dp K H v d) ∨ (∃ a xs ds, v = .ref a ∧ d = .list ds ∧ SqL K H a xs ∧ DpAll K (mask H O) xs ds) ∨ ((∃ a xs ds, v = .ref a ∧ d = .tuple ds ∧ H a = some (.tup xs) ∧ DpAll K (mask H O) xs ds) ∨ ∃ ps, d = .dict ps ∧ DcM K H O v ps)
theorem Rp.its {K : PySem.W.Frag} {H : Hp} {O O' : Addr → Bool} (hd : Dom H O') (ho : ∀ a, O' a = true → O a = true) {v : V} {d : D} {o : Own} {A : List Addr} (hA : ∀ a ∈ A, O' a = false) (hf : itmb o = true) (h : Rp K H O v d o A) : Itm K H O' v d := by
  cases h with
  | bw h => cases hf
  | sh h =>
    have h := dp_mono (mask_mono (Same.refl _) fun a e => .inl (ho a e)) _ _ h
    cases h with
    | non => exact .inl ⟨rfl, .non⟩
    | bl b => exact .inl ⟨rfl, .bl _⟩
    | int i => exact .inl ⟨rfl, .int _⟩
    | str i => exact .inl ⟨rfl, .str _⟩
    | lst h1 h2 => exact .inr (.inl ⟨_, _, _, rfl, rfl, Same.seq mask_le h1, h2⟩)
    | tup h1 h2 => exact .inr (.inr (.inl ⟨_, _, _, rfl, rfl, mask_le _ _ h1, h2⟩))
    | dck h1 h2 => exact .inr (.inr (.inr ⟨_, rfl, .inl ⟨_, _, rfl, mask_le _ _ h1, h2⟩⟩))
    | dct h1 h2 => exact .inr (.inr (.inr ⟨_, rfl, .inr ⟨_, _, _, rfl, rfl, mask_le _ _ h1, h2⟩⟩))
  | flat f h => exact .inl ⟨f, h⟩
  | itmL h1 h2 => exact .inr (.inl ⟨_, _, _, rfl, rfl, h1, dpAll_mono (mask_mono (Same.refl _) fun a e => .inl (ho a e)) _ _ h2⟩)
  | itmK h1 h2 => exact .inr (.inr (.inr ⟨_, rfl, .inl ⟨_, _, rfl, h1, h2.mono (mask_mono (Same.refl _) fun a e => .inl (ho a e))⟩⟩))
  | itmX h1 h2 => exact .inr (.inr (.inr ⟨_, rfl, .inr ⟨_, _, _, rfl, rfl, h1, h2.mono (mask_mono (Same.refl _) fun a e => .inl (ho a e))⟩⟩))
  | itmT h1 h2 => exact .inr (.inr (.inl ⟨_, _, _, rfl, rfl, h1, dpAll_mono (mask_mono (Same.refl _) fun a e => .inl (ho a e)) _ _ h2⟩))
  | lst h1 h3 h2 => exact .inr (.inl ⟨_, _, _, rfl, rfl, .inl (.inl h1), h2.freeze hd ho (fun a h => hA a (List.mem_cons_of_mem _ h)) hf⟩)
  | tup h1 h2 => exact .inr (.inr (.inl ⟨_, _, _, rfl, rfl, h1, RpS.freeze (o := .tc _ _) hd ho hA hf h2⟩))
  | dck h1 h3 h2 => exact .inr (.inr (.inr ⟨_, rfl, .inl ⟨_, _, rfl, h1, h2.mono (mask_mono (Same.refl _) fun a e => .inl (ho a e))⟩⟩))
  | dct h1 h3 h2 => exact .inr (.inr (.inr ⟨_, rfl, .inr ⟨_, _, _, rfl, rfl, h1, h2.mono (mask_mono (Same.refl _) fun a e => .inl (ho a e))⟩⟩))

/-! answers by the heap -/
structure Fresh (H H' : Hp) (A : List Addr) : Prop where
  nd : A.Nodup
  new : ∀ a ∈ A, H a = none
  lst : ∀ a ∈ A, Mut H' a
theorem Fresh.nil {H H' : Hp} : Fresh H H' [] := ⟨List.nodup_nil, fun _ z => (nomatch z), fun _ z => (nomatch z)⟩
theorem Fresh.elder {H H1 H' : Hp} {A : List Addr} (s : Same H H1) (f : Fresh H1 H' A) : Fresh H H' A := ⟨f.nd, fun a h => s.free (f.new a h), f.lst⟩
def AnsP {α : Type} (W : Nat → Hp → Prop) (H : Hp) (r : R α) (P : Hp → α → Prop) : Prop :=
  match r with
  | .ok d => P H d
  | .exc c => ∀ H', Same H H' → W c H'
  | .no => False
/-- what a value's wish says -/
def Gv (O : Addr → Bool) (o : Own) (Q : V → Hp → Prop) : Hp → D → Prop := fun H d => ∀ v H' A, Same H H' → Fresh H H' A → Rp [] H' (add O A) v d o A → Q v H'
def Gb (Q : Bool → Hp → Prop) : Hp → Bool → Prop := fun H b => ∀ H', Same H H' → Q b H'
def Ga (O : Addr → Bool) (os : Own) (Q : List V → Hp → Prop) : Hp → List D → Prop := fun H ds => ∀ vs H' A, Same H H' → Fresh H H' A → RpS [] H' (add O A) vs ds os A → Q vs H'
def Up {α : Type} (P : Hp → α → Prop) : Prop := ∀ H H1 a, Same H H1 → P H a → P H1 a
theorem Gv.up {O : Addr → Bool} {o : Own} {Q : V → Hp → Prop} : Up (Gv O o Q) := fun _ _ _ s h v H' A s' f r => h v H' A (s.trans s') (f.elder s) r
theorem Gb.up {Q : Bool → Hp → Prop} : Up (Gb Q) := fun _ _ _ s h H' s' => h H' (s.trans s')
theorem Ga.up {O : Addr → Bool} {o : Own} {Q : List V → Hp → Prop} : Up (Ga O o Q) := fun _ _ _ s h v H' A s' f r => h v H' A (s.trans s') (f.elder s) r
theorem AnsP.later {α : Type} {W : Nat → Hp → Prop} {H H1 : Hp} {r : R α} {P : Hp → α → Prop} (u : Up P) (s : Same H H1) (h : AnsP W H r P) : AnsP W H1 r P := by
  cases r with
  | no => exact h
  | exc c => exact fun H' s' => h H' (s.trans s')
  | ok d => exact u _ _ _ s h
theorem AnsP.imp {α : Type} {W : Nat → Hp → Prop} {H : Hp} {r : R α} {P P' : Hp → α → Prop} (h : AnsP W H r P) (i : ∀ a, r = .ok a → P H a → P' H a) : AnsP W H r P' := by
  cases r with
  | no => exact h
  | exc c => exact h
  | ok d => exact i d rfl h

abbrev Ev := List (Option (D × Bool))
def lk : Ev → Nat → Option (D × Bool)
  | [], _ => none
  | x :: _, 0 => x
  | _ :: r, n + 1 => lk r n
def put : Ev → Nat → Option (D × Bool) → Ev
  | [], _, _ => []
  | _ :: r, 0, v => v :: r
  | x :: r, n + 1, v => x :: put r n v

def EnvR (H : Hp) (O : Addr → Bool) (Γ : Nat → Own) (env : Ev) (σ : L2.St) : Prop :=
  ∀ i d b, lk env i = some (d, b) → ∃ v, σ[i]? = some (some v) ∧ (if b = true then Dp [] (mask H O) v d else ∃ A, (∀ a ∈ A, O a = true) ∧ Rp [] H O v d (Γ i) A)

structure Ctx where
  W : L2.St → Nat → Hp → Prop
  Γ : Nat → Own
  xs : Nat → Addr
  /-- what a slot holds as long as nothing is stored in it -/
  pn : Nat → Option V

structure At (c : Ctx) (H : Hp) (O : Addr → Bool) (env : Ev) (σ : L2.St) : Prop where
  dom : Dom H O
  er : EnvR H O c.Γ env σ
  len : env.length = σ.length

def tE (c : Ctx) (f : Ev → R D) (o : Own) : TE := fun σ H Q => ∃ env O, At c H O env σ ∧ AnsP (c.W σ) H (f env) (Gv O o Q)
def tT (c : Ctx) (f : Ev → R Bool) : TT := fun σ H Q => ∃ env O, At c H O env σ ∧ AnsP (c.W σ) H (f env) (Gb Q)
def tA (c : Ctx) (f : Ev → R (List D)) (os : Own) : TA := fun σ H Q => ∃ env O, At c H O env σ ∧ AnsP (c.W σ) H (f env) (Ga O os Q)

theorem PE.imp {X : Cx} {e : Expr} {t t' : TE} (h : PE X e t) (i : ∀ σ H Q, t' σ H Q → t σ H Q) : PE X e t' := ⟨fun pins s σ H Q I q => h.run pins s σ H Q I (i _ _ _ q)⟩
theorem PT.imp {X : Cx} {e : Expr} {t t' : TT} (h : PT X e t) (i : ∀ σ H Q, t' σ H Q → t σ H Q) : PT X e t' := ⟨fun pins s σ H Q I q => h.run pins s σ H Q I (i _ _ _ q)⟩
theorem PW.imp {X : Cx} {e : Expr} {t t' : TT} (h : PW X e t) (i : ∀ σ H Q, t' σ H Q → t σ H Q) : PW X e t' := ⟨fun w pins s σ H Q I q => h.run w pins s σ H Q I (i _ _ _ q)⟩
theorem PA.imp {X : Cx} {e : List Expr} {t t' : TA} (h : PA X e t) (i : ∀ σ H Q, t' σ H Q → t σ H Q) : PA X e t' := ⟨fun p pins s σ H Q I q => h.run p pins s σ H Q I (i _ _ _ q)⟩
theorem PS.imp {X : Cx} {e : Stmt} {t t' : TS} (h : PS X e t) (i : ∀ D σ H, t' D σ H → t D σ H) : PS X e t' := ⟨fun pins s σ H D I q => h.run pins s σ H D I (i _ _ _ q)⟩
theorem PSs.imp {X : Cx} {e : List Stmt} {t t' : TS} (h : PSs X e t) (i : ∀ D σ H, t' D σ H → t D σ H) : PSs X e t' := ⟨fun pins s σ H D I q => h.run pins s σ H D I (i _ _ _ q)⟩

theorem Dom.mono {H H' : Hp} {O : Addr → Bool} (d : Dom H O) (s : Same H H') : Dom H' O := fun a h => (d a h).mono s
theorem Dom.add {H H' : Hp} {O : Addr → Bool} {A : List Addr} (d : Dom H O) (s : Same H H') (f : Fresh H H' A) : Dom H' (add O A) := fun a h => by
  rcases add_true.mp h with h | h
  · exact d.mono s a h
  · exact f.lst a h
theorem add_new {H H' : Hp} {O : Addr → Bool} {A : List Addr} (f : Fresh H H' A) : ∀ a, Pv.add O A a = true → O a = true ∨ H a = none := fun a h => by
  rcases add_true.mp h with h | h
  · exact .inl h
  · exact .inr (f.new a h)
theorem EnvR.mono {H H' : Hp} {O O' : Addr → Bool} {Γ : Nat → Own} {env : Ev} {σ : L2.St} (s : Same H H') (h1 : ∀ a, O' a = true → O a = true ∨ H a = none) (h2 : ∀ a, O a = true → O' a = true) (e : EnvR H O Γ env σ) : EnvR H' O' Γ env σ := fun i d b hl => by
  obtain ⟨v, hv, q⟩ := e i d b hl
  refine ⟨v, hv, ?_⟩
  cases b with
  | true => exact dp_mono (mask_mono s h1) _ _ q
  | false =>
    obtain ⟨A, hA, q⟩ := q
    exact ⟨A, fun a h => h2 a (hA a h), Rp.mono s h1 (fun a h => h2 a (hA a h)) q⟩
theorem At.later {c : Ctx} {H H' : Hp} {O : Addr → Bool} {env : Ev} {σ : L2.St} (a : At c H O env σ) (s : Same H H') : At c H' O env σ :=
  ⟨a.dom.mono s, a.er.mono s (fun _ h => .inl h) fun _ h => h, a.len⟩
theorem At.add {c : Ctx} {H H' : Hp} {O : Addr → Bool} {env : Ev} {σ : L2.St} {A : List Addr} (a : At c H O env σ) (s : Same H H') (f : Fresh H H' A) : At c H' (add O A) env σ :=
  ⟨a.dom.add s f, a.er.mono s (add_new f) fun b h => add_true.mpr (.inl h), a.len⟩
theorem Fresh.disj {H H' : Hp} {O : Addr → Bool} {A : List Addr} (f : Fresh H H' A) (d : Dom H O) : ∀ a ∈ A, O a = false := fun a h => by
  cases q : O a with
  | false => rfl
  | true => exact ((d a q).no (f.new a h)).elim
/-- a temporary: what it owns is given free -/
def Tmp (H : Hp) (O : Addr → Bool) (v : V) (d : D) (o : Own) : Prop := ∃ A, (∀ a ∈ A, O a = false) ∧ Rp [] H (add O A) v d o A
theorem Tmp.later {H H' : Hp} {O : Addr → Bool} {v : V} {d : D} {o : Own} (s : Same H H') (t : Tmp H O v d o) : Tmp H' O v d o := by
  obtain ⟨A, h, r⟩ := t
  exact ⟨A, h, Rp.mono s (fun _ h => .inl h) (fun a h => add_true.mpr (.inr h)) r⟩
theorem Tmp.dp {H : Hp} {O : Addr → Bool} {v : V} {d : D} {o : Own} (t : Tmp H O v d o) : Dp [] H v d := by
  obtain ⟨A, h, r⟩ := t
  exact r.dp
theorem Tmp.fz {H : Hp} {O : Addr → Bool} {v : V} {d : D} {o : Own} (hd : Dom H O) (hf : fz o = true) (t : Tmp H O v d o) : Dp [] (mask H O) v d := by
  obtain ⟨A, h, r⟩ := t
  exact r.freeze hd (fun a h => add_true.mpr (.inl h)) h hf
theorem Tmp.its {H : Hp} {O : Addr → Bool} {v : V} {d : D} {o : Own} (hd : Dom H O) (hf : itmb o = true) (t : Tmp H O v d o) : Itm [] H O v d := by
  obtain ⟨A, h, r⟩ := t
  exact r.its hd (fun a h => add_true.mpr (.inl h)) h hf
/-- one operand, then what follows with it -/
theorem tE_bind {α : Type} {c : Ctx} {f : Ev → R D} {o : Own} {g : D → R α} {σ : L2.St} {H : Hp} {P : Hp → α → Prop} {Q' : V → Hp → Prop}
    {env : Ev} {O : Addr → Bool} (a : At c H O env σ) (u : Up P) (h : AnsP (c.W σ) H (f env >>= g) P)
    (k : ∀ d v H1, f env = .ok d → Same H H1 → At c H1 O env σ → Tmp H1 O v d o → AnsP (c.W σ) H1 (g d) P → Q' v H1) : tE c f o σ H Q' := by
  refine ⟨env, O, a, ?_⟩
  cases hf : f env with
  | no => rw [hf] at h; exact h
  | exc x => rw [hf] at h; exact h
  | ok d =>
    rw [hf] at h
    exact fun v H1 A s fr r => k d v H1 hf s (a.later s) ⟨A, fr.disj a.dom, r⟩ (AnsP.later u s h)
/-- .. what it owns is kept -/
theorem tE_own {α : Type} {c : Ctx} {f : Ev → R D} {o : Own} {g : D → R α} {σ : L2.St} {H : Hp} {P : Hp → α → Prop} {Q' : V → Hp → Prop}
    {env : Ev} {O : Addr → Bool} (a : At c H O env σ) (h : AnsP (c.W σ) H (f env >>= g) P)
    (k : ∀ d v H1 A, f env = .ok d → Same H H1 → Fresh H H1 A → Rp [] H1 (add O A) v d o A → AnsP (c.W σ) H (g d) P → Q' v H1) : tE c f o σ H Q' := by
  refine ⟨env, O, a, ?_⟩
  cases hf : f env with
  | no => rw [hf] at h; exact h
  | exc x => rw [hf] at h; exact h
  | ok d =>
    rw [hf] at h
    exact fun v H1 A s fr r => k d v H1 A hf s fr r h
theorem tT_bind {α : Type} {c : Ctx} {f : Ev → R Bool} {g : Bool → R α} {σ : L2.St} {H : Hp} {P : Hp → α → Prop} {Q' : Bool → Hp → Prop}
    {env : Ev} {O : Addr → Bool} (a : At c H O env σ) (u : Up P) (h : AnsP (c.W σ) H (f env >>= g) P)
    (k : ∀ d H1, f env = .ok d → Same H H1 → At c H1 O env σ → AnsP (c.W σ) H1 (g d) P → Q' d H1) : tT c f σ H Q' := by
  refine ⟨env, O, a, ?_⟩
  cases hf : f env with
  | no => rw [hf] at h; exact h
  | exc x => rw [hf] at h; exact h
  | ok d =>
    rw [hf] at h
    exact fun H1 s => k d H1 hf s (a.later s) (AnsP.later u s h)
theorem tA_bind {α : Type} {c : Ctx} {f : Ev → R (List D)} {o : Own} {g : List D → R α} {σ : L2.St} {H : Hp} {P : Hp → α → Prop} {Q' : List V → Hp → Prop}
    {env : Ev} {O : Addr → Bool} (a : At c H O env σ) (h : AnsP (c.W σ) H (f env >>= g) P)
    (k : ∀ d v H1 A, f env = .ok d → Same H H1 → Fresh H H1 A → RpS [] H1 (add O A) v d o A → AnsP (c.W σ) H (g d) P → Q' v H1) : tA c f o σ H Q' := by
  refine ⟨env, O, a, ?_⟩
  cases hf : f env with
  | no => rw [hf] at h; exact h
  | exc x => rw [hf] at h; exact h
  | ok d =>
    rw [hf] at h
    exact fun v H1 A s fr r => k d v H1 A hf s fr r h
/-- given without anything owned -/
theorem Gv.give {H H' : Hp} {O : Addr → Bool} {d : D} {o : Own} {Q : V → Hp → Prop} {v : V} (h : Gv O o Q H d) (s : Same H H') (r : Rp [] H' O v d o []) : Q v H' :=
  h v H' [] s Fresh.nil (by rw [add_nil]; exact r)
theorem Gv.flat {H : Hp} {O : Addr → Bool} {d : D} {o : Own} {Q : V → Hp → Prop} {v : V} (h : Gv O o Q H d) (f : flatD d = true) (r : Dp [] H v d) : Q v H := h.give (Same.refl _) (.flat f r)

/-! a new list, a new tuple -/
theorem same_new {H : Hp} {p : Addr} {o : HO} (h : H p = none) : Same H (upd H p o) := fun b x e => by rw [upd_ne (ne_of_none e h)]; exact e
theorem Fresh.one {H : Hp} {p : Addr} {o : HO} (h : H p = none) (ho : isMut o = true := by rfl) : Fresh H (upd H p o) [p] :=
  ⟨List.nodup_cons.mpr ⟨by simp, List.nodup_nil⟩, fun a z => by rw [List.mem_singleton.mp z]; exact h, fun a z => ⟨o, by rw [List.mem_singleton.mp z]; exact upd_same, ho⟩⟩
theorem Fresh.add {H H1 H' : Hp} {A B : List Addr} (s : Same H H1) (s' : Same H1 H') (f : Fresh H H1 A) (g : Fresh H1 H' B) : Fresh H H' (A ++ B) := by
  refine ⟨List.nodup_append.mpr ⟨f.nd, g.nd, fun a ha b hb e => ?_⟩, fun a h => ?_, fun a h => ?_⟩
  · subst e
    exact (f.lst a ha).no (g.new a hb)
  · rcases List.mem_append.mp h with h | h
    · exact f.new a h
    · exact s.free (g.new a h)
  · rcases List.mem_append.mp h with h | h
    · exact (f.lst a h).mono s'
    · exact g.lst a h
theorem Dom.out {H : Hp} {O : Addr → Bool} {p : Addr} (hd : Dom H O) (h : H p = none) : O p = false := by
  cases q : O p with
  | false => rfl
  | true => exact ((hd p q).no h).elim
def newO : Own → Bool
  | .sh => true
  | .lst .sh => true
  | _ => false
theorem rpA_sh {H : Hp} {O : Addr → Bool} : ∀ {ds : List D} {vs : List V}, DpAll [] (mask H O) vs ds → RpA [] H O vs ds .sh []
  | [], _, h => by cases h; exact .nil
  | d :: ds, _, h => by
    cases h with
    | cons h1 h2 => exact .cons (.sh h1) (rpA_sh h2)
/-- a new list of frozen items -/
theorem Gv.newList {H H2 : Hp} {O : Addr → Bool} {ds : List D} {o : Own} {Q : V → Hp → Prop} {p : Addr} {xs : List V} (ho : newO o = true) (hd : Dom H2 O) (s : Same H H2) (h : Gv O o Q H (.list ds)) (hx : DpAll [] (mask H2 O) xs ds) (hp : H2 p = none) :
    Q (.ref p) (upd H2 p (.lst xs)) := by
  have sn : Same H2 (upd H2 p (.lst xs)) := same_new hp
  have o0 : O p = false := hd.out hp
  match o, ho with
  | .sh, _ =>
    refine h.give (s.trans sn) (.sh (.lst (.inl (.inl (mask_of o0 upd_same))) (dpAll_mono (mask_mono sn fun a e => .inl e) _ _ hx)))
  | .lst .sh, _ =>
    refine h _ _ [p] (s.trans sn) ((Fresh.one hp).elder s) (.lst upd_same (add_true.mpr (.inr (List.mem_singleton.mpr rfl))) (rpA_sh (dpAll_mono (mask_mono sn fun a e => ?_) _ _ hx)))
    rcases add_true.mp e with e | e
    · exact .inl e
    · rw [List.mem_singleton.mp e]
      exact .inr hp
theorem Gv.newTup {H H2 : Hp} {O : Addr → Bool} {ds : List D} {Q : V → Hp → Prop} {p : Addr} {xs : List V} (hd : Dom H2 O) (s : Same H H2) (h : Gv O .sh Q H (.tuple ds)) (hx : DpAll [] (mask H2 O) xs ds) (hp : H2 p = none) :
    Q (.ref p) (upd H2 p (.tup xs)) := by
  have sn : Same H2 (upd H2 p (.tup xs)) := same_new hp
  exact h.give (s.trans sn) (.sh (.tup (mask_of (hd.out hp) upd_same) (dpAll_mono (mask_mono sn fun a e => .inl e) _ _ hx)))
/-! lists and tuples that bear data are tracked -/
theorem rd_of {H : Hp} {a : Addr} {xs : List V} (h : SqL [] H a xs) : Rd H a (.lst xs) := by
  rcases h with h | ⟨_, _, _, k, _⟩
  · exact h
  · cases k
theorem rdT_of {H : Hp} {a : Addr} {xs : List V} (h : SqT [] H a xs) : Rd H a (.tup xs) := by
  rcases h with h | ⟨_, _, _, k, _⟩
  · exact h
  · cases k
theorem seq_any {K : PySem.W.Frag} {H : Hp} {a : Addr} {xs : List V} (h : SqL [] H a xs) : SqL K H a xs := .inl (rd_of h)
theorem seqT_any {K : PySem.W.Frag} {H : Hp} {a : Addr} {xs : List V} (h : SqT [] H a xs) : SqT K H a xs := .inl (rdT_of h)
theorem tup_any {K : PySem.W.Frag} {H : Hp} {a : Addr} {xs : List V} (h : H a = some (.tup xs)) : SqT K H a xs := .inl (.inl h)
mutual
theorem dp_any {K : PySem.W.Frag} {H : Hp} : ∀ (d : D) (v : V), Dp [] H v d → PyData.canLay0 d = true → L2.Dp K H v d
  | .none, _, h, _ => by cases h; exact .non
  | .bool _, _, h, _ => by cases h; exact .bl _
  | .int _, _, h, _ => by cases h; exact .int _
  | .str _, _, h, _ => by cases h; exact .str _
  | .list ds, _, h, q => by
    cases h with
    | lst h1 h2 => exact .lst (seq_any h1) (dpAll_any ds _ h2 q)
  | .tuple ds, _, h, q => by
    cases h with
    | tup h1 h2 => exact .tup (tup_any h1) (dpAll_any ds _ h2 q)
  | .dict _, _, h, q => by cases q
theorem dpAll_any {K : PySem.W.Frag} {H : Hp} : ∀ (ds : List D) (vs : List V), DpAll [] H vs ds → PyData.canLayAll0 ds = true → L2.DpAll K H vs ds
  | [], _, h, _ => by cases h; exact .nil
  | d :: ds, _, h, q => by
    have q' := Bool.and_eq_true_iff.mp (show (PyData.canLay0 d && PyData.canLayAll0 ds) = true from q)
    cases h with
    | cons h1 h2 => exact .cons (dp_any d _ h1 q'.1) (dpAll_any ds _ h2 q'.2)
end
theorem dp_sh {K : PySem.W.Frag} {H : Hp} {d : D} {v : V} (h : Dp [] H v d) (q : SeqAt.shaped d = true) : L2.Dp K H v d := dp_any d v h (SeqAt.canLay_of_shaped q)
theorem DpAll.length {K : PySem.W.Frag} {H : Hp} : ∀ {ds : List D} {vs : List V}, DpAll K H vs ds → vs.length = ds.length
  | [], _, h => by cases h; rfl
  | d :: ds, _, h => by
    cases h with
    | cons h1 h2 => simp only [List.length_cons, DpAll.length h2]
theorem DpAll.append {K : PySem.W.Frag} {H : Hp} : ∀ {ds es : List D} {vs us : List V}, DpAll K H vs ds → DpAll K H us es → DpAll K H (vs ++ us) (ds ++ es)
  | [], _, _, _, h, g => by cases h; exact g
  | d :: ds, _, _, _, h, g => by
    cases h with
    | cons h1 h2 => exact .cons h1 (DpAll.append h2 g)
theorem DpAll.get {K : PySem.W.Frag} {H : Hp} : ∀ {ds : List D} {vs : List V} {i : Nat} {d : D}, DpAll K H vs ds → ds[i]? = some d → ∃ v, vs[i]? = some v ∧ Dp K H v d
  | [], _, _, _, h, e => by simp at e
  | d :: ds, _, 0, _, h, e => by
    cases h with
    | cons h1 h2 => simp at e; subst e; exact ⟨_, rfl, h1⟩
  | d :: ds, _, i + 1, _, h, e => by
    cases h with
    | cons h1 h2 =>
      obtain ⟨v, hv, q⟩ := DpAll.get (i := i) h2 (by simpa using e)
      exact ⟨v, by simpa using hv, q⟩
theorem DpAll.take {K : PySem.W.Frag} {H : Hp} : ∀ {ds : List D} {vs : List V} (n : Nat), DpAll K H vs ds → DpAll K H (vs.take n) (ds.take n)
  | _, _, 0, h => .nil
  | [], _, n + 1, h => by cases h; exact .nil
  | d :: ds, _, n + 1, h => by
    cases h with
    | cons h1 h2 => exact .cons h1 (DpAll.take n h2)
theorem DpAll.drop {K : PySem.W.Frag} {H : Hp} : ∀ {ds : List D} {vs : List V} (n : Nat), DpAll K H vs ds → DpAll K H (vs.drop n) (ds.drop n)
  | _, _, 0, h => h
  | [], _, n + 1, h => by cases h; exact .nil
  | d :: ds, _, n + 1, h => by
    cases h with
    | cons h1 h2 => exact DpAll.drop n h2
theorem DpAll.rep {K : PySem.W.Frag} {H : Hp} {ds : List D} {vs : List V} (h : DpAll K H vs ds) : ∀ n, DpAll K H (List.replicate n vs).flatten (List.replicate n ds).flatten
  | 0 => .nil
  | n + 1 => by
    rw [List.replicate_succ, List.replicate_succ, List.flatten_cons, List.flatten_cons]
    exact DpAll.append h (DpAll.rep h n)
theorem DpAll.rev {K : PySem.W.Frag} {H : Hp} : ∀ {ds : List D} {vs : List V}, DpAll K H vs ds → DpAll K H vs.reverse ds.reverse
  | [], _, h => by cases h; exact .nil
  | d :: ds, _, h => by
    cases h with
    | cons h1 h2 =>
      rw [List.reverse_cons, List.reverse_cons]
      exact DpAll.append (DpAll.rev h2) (.cons h1 .nil)
theorem DpAll.ints {K : PySem.W.Frag} {H : Hp} : ∀ {ns : List Int} {vs : List V}, DpAll K H vs (ns.map PyData.int) → vs = ns.map V.int
  | [], _, h => by cases h; rfl
  | d :: ds, _, h => by
    cases h with
    | cons h1 h2 =>
      cases h1
      rw [DpAll.ints h2]
      rfl
theorem DpAll.bls {K : PySem.W.Frag} {H : Hp} : ∀ {ns : List Bool} {vs : List V}, DpAll K H vs (ns.map PyData.bool) → vs = ns.map V.bl
  | [], _, h => by cases h; rfl
  | d :: ds, _, h => by
    cases h with
    | cons h1 h2 =>
      cases h1
      rw [DpAll.bls h2]
      rfl
theorem DpAll.of_ints {K : PySem.W.Frag} {H : Hp} : ∀ ns : List Int, DpAll K H (ns.map V.int) (ns.map PyData.int)
  | [] => .nil
  | n :: ns => .cons (.int n) (DpAll.of_ints ns)
end Pv

namespace Pv
open PySem PySem.Spec PyProof.Rows L2

/-! operators upon data -/
inductive BOp where
  | add | sub | mul | fdiv | mod | pow | shl | shr | band | bor | bxor
  deriving DecidableEq
inductive COp where
  | lt | le | gt | ge | eq | ne | isin | notin | isn | notn
  deriving DecidableEq
def BOp.op : BOp → Operator
  | .add => .Add | .sub => .Sub | .mul => .Mult | .fdiv => .FloorDiv | .mod => .Mod | .pow => .Pow | .shl => .LShift | .shr => .RShift | .band => .BitAnd | .bor => .BitOr | .bxor => .BitXor
def COp.op : COp → CmpOp
  | .lt => .Lt | .le => .LtE | .gt => .Gt | .ge => .GtE | .eq => .Eq | .ne => .NotEq | .isin => .In | .notin => .NotIn | .isn => .Is | .notn => .IsNot

def mulOk (i j : Int) : Bool := (decide (-18446744073709551616 < i) && decide (i < 18446744073709551616)) || (decide (-18446744073709551616 < j) && decide (j < 18446744073709551616))
def powOk (i j : Int) : Bool := decide (0 ≤ j) && decide (j ≤ 1000000) && decide (i.natAbs < 18446744073709551616)
def evBin (op : BOp) (o : Own) (x y : D) : R D :=
  match op, x, y with
  | .add, .int i, .int j => .ok (.int (i + j))
  | .add, .list xs, .list ys => if xs.length + ys.length ≤ 16777216 then .ok (.list (xs ++ ys)) else .no
  | .add, .tuple xs, .tuple ys => if xs.length + ys.length ≤ 16777216 ∧ o = .sh then .ok (.tuple (xs ++ ys)) else .no
  | .add, .str a, .str b => if a.length + b.length ≤ 16777216 then .ok (.str (a ++ b)) else .no
  | .sub, .int i, .int j => .ok (.int (i - j))
  | .mul, .int i, .int j => if mulOk i j = true then .ok (.int (i * j)) else .no
  | .mul, .list xs, .int k => if -9223372036854775808 ≤ k ∧ k < 9223372036854775808 ∧ xs.length * k.toNat ≤ 16777216 then .ok (.list (List.replicate k.toNat xs).flatten) else .no
  | .fdiv, .int i, .int j => if 0 < j ∧ j < 1073741824 then .ok (.int (i / j)) else .no
  | .mod, .int i, .int j => if 0 < j then .ok (.int (i % j)) else .no
  | .pow, .int i, .int j => if powOk i j = true then .ok (.int (i ^ j.toNat)) else .no
  | .shl, .int i, .int j => if powOk i j = true then .ok (.int (i * 2 ^ j.toNat)) else .no
  | .shr, .int i, .int j => if 0 ≤ j then .ok (.int (i / 2 ^ j.toNat)) else .no
  | .band, .int i, .int j => .ok (.int (Builtin.bitAnd i j))
  | .bor, .int i, .int j => .ok (.int (Builtin.bitOr i j))
  | .bxor, .int i, .int j => .ok (.int (Builtin.bitXor i j))
  | _, _, _ => .no
def flats : List D → Bool
  | [] => true
  | d :: ds => flatD d && flats ds
def evIn (x y : D) : R Bool :=
  match y with
  | .list ys => if SeqAt.shaped x = true ∧ SeqAt.shaped (.list ys) = true then .ok (ys.any fun z => PyData.eqv z x) else .no
  | .tuple ys => if flatD x = true ∧ flats ys = true then .ok (ys.any fun z => PyData.eqv z x) else .no
  | .str t => match x with
    | .str s => .ok (!(Builtin.Str.occurrences t s 0 t.length 1).isEmpty)
    | _ => .no
  | _ => .no
def isNone : D → Bool
  | .none => true
  | _ => false
def intsOf : List D → Option (List Int)
  | [] => some []
  | .int i :: r => (intsOf r).map (i :: ·)
  | _ :: _ => none
theorem intsOf_some : ∀ {ds : List D} {ns : List Int}, intsOf ds = some ns → ds = ns.map PyData.int
  | [], _, h => by cases h; rfl
  | .int i :: r, ns, h => by
    have h : (intsOf r).map (i :: ·) = some ns := h
    obtain ⟨ms, e1, e2⟩ := Option.map_eq_some_iff.mp h
    subst e2
    rw [intsOf_some e1]
    rfl
  | .none :: _, _, h | .bool _ :: _, _, h | .str _ :: _, _, h | .list _ :: _, _, h | .tuple _ :: _, _, h | .dict _ :: _, _, h => by cases h
@[simp] theorem intsOf_map : ∀ ns : List Int, intsOf (ns.map PyData.int) = some ns
  | [] => rfl
  | n :: ns => by
    show (intsOf (ns.map PyData.int)).map (n :: ·) = _
    rw [intsOf_map ns]
    rfl
def lexLeD (ns ms : List Int) : Bool := Ob.lexAt (fun j => decide (ns.getD j 0 = ms.getD j 0)) (fun j => decide (ns.getD j 0 ≤ ms.getD j 0)) (decide (ns.length ≤ ms.length)) 0 (min ns.length ms.length)
def lexCmp (lt : Bool) (xs ys : List D) : R Bool :=
  match intsOf xs, intsOf ys with
  | some ns, some ms => .ok (if lt = true then HT.lexLt ns ms else lexLeD ns ms)
  | _, _ => .no
def strC (n : Bool) (x y : D) : R Bool := match x, y with
  | .str a, .str b => .ok (if n = true then !decide (a = b) else decide (a = b))
  | _, _ => .no
/-- is, for truth values -/
def isBo : D → D → R Bool
  | .bool a, .bool b => .ok (decide (a = b))
  | _, _ => .no
def evCmp (op : COp) (x y : D) : R Bool :=
  match op with
  | .lt => match x, y with | .int i, .int j => .ok (decide (i < j)) | .tuple xs, .tuple ys => lexCmp true xs ys | _, _ => .no
  | .le => match x, y with | .int i, .int j => .ok (decide (i ≤ j)) | .tuple xs, .tuple ys => lexCmp false xs ys | _, _ => .no
  | .gt => match x, y with | .int i, .int j => .ok (decide (j < i)) | _, _ => .no
  | .ge => match x, y with | .int i, .int j => .ok (decide (j ≤ i)) | _, _ => .no
  | .eq => if SeqAt.shaped x = true ∧ SeqAt.shaped y = true then .ok (PyData.eqv x y) else strC false x y
  | .ne => if SeqAt.shaped x = true ∧ SeqAt.shaped y = true then .ok (!PyData.eqv x y) else strC true x y
  | .isin => evIn x y
  | .notin => evIn x y >>= fun b => .ok (!b)
  | .isn => if isNone y = true then .ok (isNone x) else isBo x y
  | .notn => if isNone y = true then .ok (!isNone x) else isBo x y >>= fun b => .ok (!b)
def truthD : D → R Bool
  | .none => .ok false
  | .bool b => .ok b
  | .int i => .ok (i != 0)
  | .str s => if s.length ≤ 16777216 then .ok ((s.length : Int) != 0) else .no
  | .list xs => .ok (!xs.isEmpty)
  | .tuple xs => .ok (!xs.isEmpty)
  | .dict _ => .no
def evIdx (x y : D) : R D :=
  match x, y with
  | .list xs, .int i => match atI xs i with | some d => .ok d | none => .no
  | .tuple xs, .int i => match atI xs i with | some d => .ok d | none => .no
  | .str z, .int i => if z.length ≤ 16777216 then (match atI z.cps.toList i with | some c => .ok (.str ⟨#[c]⟩) | none => .no) else .no
  | _, _ => .no
def cutD (xs : List D) (lo hi : Option Int) : List D := (xs.drop (HT.sIx xs.length 0 lo)).take (HT.sIx xs.length xs.length hi - HT.sIx xs.length 0 lo)
def evSl (o : Own) (x : D) (lo hi : Option Int) : R D :=
  match x with
  | .list xs => .ok (.list (cutD xs lo hi))
  | .tuple xs => if o = .sh then .ok (.tuple (cutD xs lo hi)) else .no
  | .str z => if z.length ≤ 16777216 then .ok (.str (cutS z lo hi)) else .no
  | _ => .no

section
variable {X : Cx}

theorem sz : (16777216 : Nat) = sizeLine := sizeLine_eq.symm
theorem itm_dp {H : Hp} {O : Addr → Bool} {v : V} {d : D} (h : Itm [] H O v d) : Dp [] H v d := by
  rcases h with ⟨_, h⟩ | ⟨a, xs, ds, rfl, rfl, h1, h2⟩ | ⟨a, xs, ds, rfl, rfl, h1, h2⟩ | ⟨ps, rfl, h⟩
  · exact h
  · exact .lst h1 (dpAll_mono mask_le _ _ h2)
  · exact .tup h1 (dpAll_mono mask_le _ _ h2)
  · exact h.dp
theorem itm_tup {H : Hp} {O : Addr → Bool} {v : V} {ds : List D} (hd : Dom H O) (h : Itm [] H O v (.tuple ds)) : Dp [] (mask H O) v (.tuple ds) := by
  rcases h with ⟨h, _⟩ | ⟨a, xs, es, rfl, e, h1, h2⟩ | ⟨a, xs, es, rfl, e, h1, h2⟩ | ⟨ps, e, _⟩
  · cases h
  · cases e
  · cases e
    exact .tup (mask_of (hd.tup h1) h1) h2
  · cases e

/-- + of two lists, tracked or known -/
theorem op_catS : OpR X (binaryOp .Add) (fun x y H Q => ∃ l b xs zs, x = .ref l ∧ y = .ref b ∧ SqL [] H l xs ∧ SqL [] H b zs ∧ xs.length + zs.length ≤ sizeLine ∧ ∀ p, H p = none → Q (.ref p) (upd H p (.lst (xs ++ zs)))) := by
  rintro pins s σ H x y v u Q I rx ry ⟨l, b, xs, zs, rfl, rfl, h1, h2, hz, q⟩
  cases rx
  cases ry
  obtain ⟨z1, its, n, r, e⟩ := (rd_of h1).ok I.hok
  obtain ⟨z2, its2, n2, r2, e2⟩ := (rd_of h2).ok I.hok
  have l1 := r.length
  have l2 := r2.length
  refine PySem.P.add_list e e2 ?_ (by simp only [List.size_toArray]; omega)
  have ea : its.toArray ++ its2.toArray = (its ++ its2).toArray := List.append_toArray _ _
  rw [ea]
  exact ⟨.ref _, _, I.lnew (t' := s.toks) (r.append r2) (by simp only [List.length_append]; omega), rfl, q _ I.fresh⟩
/-- a list times an int -/
theorem op_repS : OpR X (binaryOp .Mult) (fun x y H Q => ∃ l k xs, x = .ref l ∧ y = .int k ∧ SqL [] H l xs ∧ -(2 ^ 63) ≤ k ∧ k < 2 ^ 63 ∧ xs.length * k.toNat ≤ sizeLine ∧ ∀ p, H p = none → Q (.ref p) (upd H p (.lst (List.replicate k.toNat xs).flatten))) := by
  rintro pins s σ H x y v u Q I rx ry ⟨l, k, xs, rfl, rfl, hs, h1, h2, hz, q⟩
  cases rx
  obtain ⟨t, rfl⟩ := ry
  obtain ⟨z, its, n, r, e⟩ := (rd_of hs).ok I.hok
  have hl := r.length
  have hlen : its.toArray.size * k.toNat ≤ sizeLine := by simp only [List.size_toArray]; rw [← hl]; exact hz
  have hcap : ¬ its.toArray.size * k.toNat > (2 ^ 63 - 1) / 8 := by
    have : (sizeLine : Nat) ≤ (2 ^ 63 - 1) / 8 := by decide
    omega
  have hfit : ¬ (!Builtin.List.listFitsIndex k) = true := by rw [fitsIndex_both h1 h2]; exact Bool.false_ne_true
  have hlong : ¬ Builtin.List.listTooLong (its.toArray.size * k.toNat) = true := by rw [notLongL hlen]; exact Bool.false_ne_true
  have hnew : List.foldl (fun x1 x2 => x1 ++ x2) #[] (List.replicate (if its.toArray.isEmpty = true then 0 else k.toNat) its.toArray) = (List.replicate k.toNat its).flatten.toArray := by
    have f0 : ∀ m : Nat, List.foldl (fun x1 x2 => x1 ++ x2) #[] (List.replicate m its.toArray) = (List.replicate m its).flatten.toArray := fun m => by
      simpa using foldl_rep its m []
    rw [f0]
    cases its with
    | nil => simp
    | cons a r' => rw [if_neg (by simp)]
  refine wpAny_binaryOp_repeat_ref (T := "list") (U := "int") (by decide) ⟨_, e, rfl⟩ (fun s' => typeIs_int s' k t) noFill_list_mul F.fills_int_mul F.slot_int_rmul repeat_list F.slot_int_index.lookup
    (call_meets F.slot_int_rmul (typeIs_int s k t) F.entry_int_rmul (F.args_int_rmul_2 _ _) (int___rmul___int_list k t l its.toArray n) ⟨e, rfl, ⟨_, e, rfl⟩, ?_⟩)
  refine call_meets F.slot_list_mul ⟨_, e, rfl⟩ F.entry_list_mul (F.args_list_mul_2 _ _) (AutoListH.list___mul___list_int_3 l its.toArray n k t hfit hcap hlong) ⟨e, ?_⟩
  rw [hnew]
  exact ⟨.ref _, _, I.lnew (t' := s.toks) (r.rep k.toNat) (by rw [PyProof.Rows.lm_len_rep_flat, Nat.mul_comm]; exact hz), rfl, q _ I.fresh⟩

def rB (op : BOp) (o : Own) : R2 := fun x y H Q => ∃ d e z O, Dom H O ∧ Itm [] H O x d ∧ Itm [] H O y e ∧ evBin op o d e = .ok z ∧ Gv O o Q H z
theorem flat_out {H : Hp} {O : Addr → Bool} {o : Own} {Q : V → Hp → Prop} {i : Int} (g : Gv O o Q H (.int i)) : Q (.int i) H := g.flat rfl (.int i)
theorem itm_int {H : Hp} {O : Addr → Bool} {v : V} {i : Int} (h : Itm [] H O v (.int i)) : v = .int i := by
  have := itm_dp h
  cases this
  rfl
theorem OpR.mono {f : Value → Value → Sem Value} {r r' : R2} (h : OpR X f r) (i : ∀ x y H Q, r' x y H Q → r x y H Q) : OpR X f r' := fun pins s σ H x y v u Q I rx ry q => h pins s σ H x y v u Q I rx ry (i _ _ _ _ q)
theorem opr_bin {op : BOp} {o : Own} (ho : newO o = true) : OpR X (binaryOp op.op) (rB op o) := by
  intro pins s σ H x y v u Q I rx ry ⟨d, e, z, O, hd, hx, hy, hev, g⟩
  unfold evBin at hev
  split at hev
  · cases hev
    exact op_add pins s σ H x y v u Q I rx ry ⟨_, _, itm_int hx, itm_int hy, flat_out g⟩
  · split at hev
    · rename_i hsz
      cases hev
      rcases hx with ⟨z0, _⟩ | ⟨a, vs, es, rfl, e0, hx1, hx2⟩ | ⟨a, vs, es, rfl, e0, _, _⟩ | ⟨_, e0, _⟩
      · cases z0
      · rcases hy with ⟨z0, _⟩ | ⟨b, us, fs, rfl, e1, hy1, hy2⟩ | ⟨b, us, fs, rfl, e1, _, _⟩ | ⟨_, e1, _⟩
        · cases z0
        · cases e0
          cases e1
          refine op_catS pins s σ H _ _ v u Q I rx ry ⟨a, b, vs, us, rfl, rfl, hx1, hy1, ?_, fun p hp => ?_⟩
          · rw [DpAll.length hx2, DpAll.length hy2, ← sz]
            exact hsz
          · exact g.newList ho hd (Same.refl _) (DpAll.append hx2 hy2) hp
        · cases e1
        · cases e1
      · cases e0
      · cases e0
    · cases hev
  · split at hev
    · rename_i hsz
      obtain ⟨hsz, eo⟩ := hsz
      subst eo
      cases hev
      have kx := itm_tup hd hx
      have ky := itm_tup hd hy
      cases kx with
      | @tup a vs _ kx1 kx2 =>
        cases ky with
        | @tup b us _ ky1 ky2 =>
          refine op_catA pins s σ H _ _ v u Q I rx ry ⟨a, b, vs, us, rfl, rfl, tup_any (mask_le _ _ kx1), tup_any (mask_le _ _ ky1), ?_, fun z0 => ?_, fun _ z0 => ?_, fun _ _ p hp => ?_⟩
          · rw [DpAll.length kx2, DpAll.length ky2, ← sz]
            exact hsz
          · subst z0
            cases kx2
            exact g.give (Same.refl _) (.sh (.tup ky1 ky2))
          · subst z0
            cases ky2
            rw [List.append_nil] at g
            exact g.give (Same.refl _) (.sh (.tup kx1 kx2))
          · exact g.newTup hd (Same.refl _) (DpAll.append kx2 ky2) hp
    · cases hev
  · split at hev
    · rename_i hsz
      cases hev
      have kx := itm_dp hx
      have ky := itm_dp hy
      cases kx
      cases ky
      exact op_add_str pins s σ H _ _ v u Q I rx ry ⟨_, _, rfl, rfl, by rw [← sz]; exact hsz, g.flat rfl (.str _)⟩
    · cases hev
  · cases hev
    exact op_sub pins s σ H x y v u Q I rx ry ⟨_, _, itm_int hx, itm_int hy, flat_out g⟩
  · split at hev
    · rename_i hm
      cases hev
      refine op_mul pins s σ H x y v u Q I rx ry ⟨_, _, itm_int hx, itm_int hy, ?_, flat_out g⟩
      unfold mulOk at hm
      simp only [Bool.or_eq_true, Bool.and_eq_true, decide_eq_true_eq] at hm
      rcases hm with hm | hm
      · exact .inl (by omega)
      · exact .inr (by omega)
    · cases hev
  · split at hev
    · rename_i hm
      obtain ⟨m1, m2, m3⟩ := hm
      cases hev
      rcases hx with ⟨z0, _⟩ | ⟨a, vs, es, rfl, e0, hx1, hx2⟩ | ⟨a, vs, es, rfl, e0, _, _⟩ | ⟨_, e0, _⟩
      · cases z0
      · cases e0
        refine op_repS pins s σ H _ _ v u Q I rx ry ⟨a, _, vs, rfl, itm_int hy, hx1, by omega, by omega, ?_, fun p hp => ?_⟩
        · rw [DpAll.length hx2, ← sz]
          exact m3
        · exact g.newList ho hd (Same.refl _) (DpAll.rep hx2 _) hp
      · cases e0
      · cases e0
    · cases hev
  · split at hev
    · rename_i hm
      cases hev
      exact op_fdiv pins s σ H x y v u Q I rx ry ⟨_, _, itm_int hx, itm_int hy, hm, flat_out g⟩
    · cases hev
  · split at hev
    · rename_i hm
      cases hev
      exact op_mod pins s σ H x y v u Q I rx ry ⟨_, _, itm_int hx, itm_int hy, hm, flat_out g⟩
    · cases hev
  · split at hev
    · rename_i hm
      cases hev
      unfold powOk at hm
      simp only [Bool.and_eq_true, decide_eq_true_eq] at hm
      exact op_pow pins s σ H x y v u Q I rx ry ⟨_, _, itm_int hx, itm_int hy, ⟨hm.1.1, hm.1.2, hm.2⟩, flat_out g⟩
    · cases hev
  · split at hev
    · rename_i hm
      cases hev
      unfold powOk at hm
      simp only [Bool.and_eq_true, decide_eq_true_eq] at hm
      exact op_shl pins s σ H x y v u Q I rx ry ⟨_, _, itm_int hx, itm_int hy, ⟨hm.1.1, hm.1.2, hm.2⟩, flat_out g⟩
    · cases hev
  · split at hev
    · rename_i hm
      cases hev
      exact op_shr pins s σ H x y v u Q I rx ry ⟨_, _, itm_int hx, itm_int hy, hm, flat_out g⟩
    · cases hev
  · cases hev
    exact op_and pins s σ H x y v u Q I rx ry ⟨_, _, itm_int hx, itm_int hy, flat_out g⟩
  · cases hev
    exact op_or pins s σ H x y v u Q I rx ry ⟨_, _, itm_int hx, itm_int hy, flat_out g⟩
  · cases hev
    exact op_xor pins s σ H x y v u Q I rx ry ⟨_, _, itm_int hx, itm_int hy, flat_out g⟩
  · cases hev

/-! comparisons -/
def rC (op : COp) : R2 := fun x y H Q => ∃ d e b, Dp [] H x d ∧ Dp [] H y e ∧ evCmp op d e = .ok b ∧ Q (.bl b) H
theorem flatV_of {H : Hp} {v : V} : ∀ {d : D}, flatD d = true → Dp [] H v d → flatV v = true
  | .none, _, h => by cases h; rfl
  | .bool _, _, h => by cases h; rfl
  | .int _, _, h => by cases h; rfl
  | .str _, _, h => by cases h; rfl
theorem flatVs_of {H : Hp} : ∀ {ds : List D} {vs : List V}, flats ds = true → DpAll [] H vs ds → vs.all flatV = true
  | [], _, _, h => by cases h; rfl
  | d :: ds, _, f, h => by
    cases h with
    | cons h1 h2 =>
      have f' := Bool.and_eq_true_iff.mp f
      rw [List.all_cons, flatV_of f'.1 h1, flatVs_of f'.2 h2]
      rfl
theorem eqV_of {H : Hp} {v u : V} {d e : D} (fd : flatD d = true) (fe : flatD e = true) (h : Dp [] H v d) (g : Dp [] H u e) : eqV v u = PyData.eqv d e := by
  cases h <;> first | cases fd | skip
  all_goals (cases g <;> first | cases fe | skip)
  all_goals rfl
theorem inV_of {H : Hp} {x : V} {d : D} (fd : flatD d = true) (hx : Dp [] H x d) : ∀ {ds : List D} {vs : List V}, flats ds = true → DpAll [] H vs ds → inV x vs = ds.any fun z => PyData.eqv z d
  | [], _, _, h => by cases h; rfl
  | e :: ds, _, f, h => by
    cases h with
    | cons h1 h2 =>
      have f' := Bool.and_eq_true_iff.mp f
      have ih := inV_of fd hx f'.2 h2
      unfold inV at ih ⊢
      rw [List.any_cons, List.any_cons, ih, eqV_of f'.1 fd h1 hx]
theorem dec_non {H : Hp} {x : V} {d : D} (h : Dp [] H x d) : decide (x = .non) = isNone d := by cases h <;> simp [isNone]
theorem opr_cmp {op : COp} (hu : X.A.units + 65 < cLine) : OpR X (compareOp op.op) (rC op) := by
  intro pins s σ H x y v u Q I rx ry ⟨d, e, b, hx, hy, hev, q⟩
  have in_ok : ∀ b, evIn d e = .ok b → (Q (.bl b) H → wpAny (model X.prog X.w) X.A (compareOp .In v u) (EP X pins σ Q) X.xe s) ∧ (Q (.bl (!b)) H → wpAny (model X.prog X.w) X.A (compareOp .NotIn v u) (EP X pins σ Q) X.xe s) := by
    intro b he
    unfold evIn at he
    split at he
    · split at he
      · rename_i hm
        cases he
        exact ⟨fun q => op_inD hu pins s σ H x y v u Q I rx ry ⟨_, _, dp_sh hx hm.1, dp_sh hy hm.2, hm.1, hm.2, q⟩, fun q => op_notInD hu pins s σ H x y v u Q I rx ry ⟨_, _, dp_sh hx hm.1, dp_sh hy hm.2, hm.1, hm.2, q⟩⟩
      · cases he
    · split at he
      · rename_i hm
        cases he
        cases hy with
        | @tup a vs _ h1 h2 =>
          have fv := flatV_of hm.1 hx
          have fvs := flatVs_of hm.2 h2
          have ei := inV_of hm.1 hx hm.2 h2
          refine ⟨fun q => op_in_seq pins s σ H x _ v u Q I rx ry ⟨a, vs, rfl, .inr (tup_any h1), fv, fvs, ?_⟩, fun q => op_notIn_seq pins s σ H x _ v u Q I rx ry ⟨a, vs, rfl, .inr (tup_any h1), fv, fvs, ?_⟩⟩
          · rw [if_neg Bool.false_ne_true, ei]; exact q
          · rw [if_pos rfl, ei]; exact q
      · cases he
    · split at he
      · cases he
        cases hx
        cases hy
        exact ⟨fun q => op_in_str pins s σ H _ _ v u Q I rx ry ⟨_, _, rfl, rfl, q⟩, fun q => L2.op_notIn_str pins s σ H _ _ v u Q I rx ry ⟨_, _, rfl, rfl, q⟩⟩
      · cases he
    · cases he
  cases op with
  | lt =>
    unfold evCmp at hev
    dsimp only at hev
    split at hev
    · cases hev; cases hx; cases hy
      exact op_lt pins s σ H _ _ v u Q I rx ry ⟨_, _, rfl, rfl, q⟩
    · unfold lexCmp at hev
      split at hev
      · rename_i e1 e2
        cases hev
        obtain rfl := intsOf_some e1
        obtain rfl := intsOf_some e2
        cases hx with
        | tup h1 h2 =>
          cases hy with
          | tup k1 k2 =>
            rw [DpAll.ints h2] at h1
            rw [DpAll.ints k2] at k1
            exact op_ltT (by omega) pins s σ H _ _ v u Q I rx ry ⟨_, _, _, _, rfl, rfl, tup_any h1, tup_any k1, q⟩
      · cases hev
    · cases hev
  | le =>
    unfold evCmp at hev
    dsimp only at hev
    split at hev
    · cases hev; cases hx; cases hy
      exact op_le pins s σ H _ _ v u Q I rx ry ⟨_, _, rfl, rfl, q⟩
    · unfold lexCmp at hev
      split at hev
      · rename_i e1 e2
        cases hev
        obtain rfl := intsOf_some e1
        obtain rfl := intsOf_some e2
        cases hx with
        | tup h1 h2 =>
          cases hy with
          | tup k1 k2 =>
            rw [DpAll.ints h2] at h1
            rw [DpAll.ints k2] at k1
            exact op_leT (by omega) pins s σ H _ _ v u Q I rx ry ⟨_, _, _, _, rfl, rfl, tup_any h1, tup_any k1, q⟩
      · cases hev
    · cases hev
  | gt =>
    unfold evCmp at hev
    dsimp only at hev
    split at hev
    · cases hev; cases hx; cases hy
      exact op_gt pins s σ H _ _ v u Q I rx ry ⟨_, _, rfl, rfl, q⟩
    · cases hev
  | ge =>
    unfold evCmp at hev
    dsimp only at hev
    split at hev
    · cases hev; cases hx; cases hy
      exact op_ge pins s σ H _ _ v u Q I rx ry ⟨_, _, rfl, rfl, q⟩
    · cases hev
  | eq =>
    unfold evCmp at hev
    dsimp only at hev
    split at hev
    · rename_i hm
      cases hev
      exact op_eqD (by omega) pins s σ H x y v u Q I rx ry ⟨_, _, dp_sh hx hm.1, dp_sh hy hm.2, hm.1, hm.2, q⟩
    · unfold strC at hev
      split at hev
      · rename_i m n _
        cases hev
        cases hx
        cases hy
        refine op_eq pins s σ H _ _ v u Q I rx ry ⟨rfl, ?_⟩
        have e : decide (V.str m = V.str n) = decide (m = n) := by simp
        rw [e]
        exact q
      · cases hev
  | ne =>
    unfold evCmp at hev
    dsimp only at hev
    split at hev
    · rename_i hm
      cases hev
      exact op_neD (by omega) pins s σ H x y v u Q I rx ry ⟨_, _, dp_sh hx hm.1, dp_sh hy hm.2, hm.1, hm.2, q⟩
    · unfold strC at hev
      split at hev
      · rename_i m n _
        cases hev
        cases hx
        cases hy
        refine op_ne pins s σ H _ _ v u Q I rx ry ⟨rfl, ?_⟩
        have e : decide (V.str m = V.str n) = decide (m = n) := by simp
        rw [e]
        exact q
      · cases hev
  | isin => exact (in_ok b hev).1 q
  | notin =>
    unfold evCmp at hev
    dsimp only at hev
    cases he : evIn d e with
    | no => rw [he] at hev; cases hev
    | exc c => rw [he] at hev; cases hev
    | ok b' =>
      rw [he] at hev
      cases hev
      exact (in_ok b' he).2 q
  | isn =>
    unfold evCmp at hev
    dsimp only at hev
    split at hev
    · rename_i hm
      cases hev
      cases hy <;> first | cases hm | skip
      exact op_isN pins s σ H x _ v u Q I rx ry ⟨rfl, by rw [dec_non hx]; exact q⟩
    · unfold isBo at hev
      split at hev
      · rename_i a b _
        cases hev
        cases hx
        cases hy
        cases (show v = Value.bool a from rx)
        cases (show u = Value.bool b from ry)
        by_cases e : a = b
        · subst e
          exact wpAny_is_self rfl ⟨.bl true, H, I, rfl, by simpa using q⟩
        · exact wpAny_is_other rfl (fun z => e (Value.bool.inj z)) ⟨.bl false, H, I, rfl, by simpa [e] using q⟩
      · cases hev
  | notn =>
    unfold evCmp at hev
    dsimp only at hev
    split at hev
    · rename_i hm
      cases hev
      cases hy <;> first | cases hm | skip
      exact op_notN pins s σ H x _ v u Q I rx ry ⟨rfl, by rw [dec_non hx]; exact q⟩
    · unfold isBo at hev
      split at hev
      · rename_i a b _
        cases hev
        cases hx
        cases hy
        cases (show v = Value.bool a from rx)
        cases (show u = Value.bool b from ry)
        by_cases e : a = b
        · subst e
          exact wpAny_isNot_self rfl ⟨.bl false, H, I, rfl, by simpa using q⟩
        · exact wpAny_isNot_other rfl (fun z => e (Value.bool.inj z)) ⟨.bl true, H, I, rfl, by simpa [e] using q⟩
      · cases hev

theorem isEmpty_len {K : PySem.W.Frag} {H : Hp} {ds : List D} {vs : List V} (h : DpAll K H vs ds) : vs.isEmpty = ds.isEmpty := by
  cases ds with
  | nil => cases h; rfl
  | cons d ds => cases h; rfl
theorem tru_of {K : PySem.W.Frag} {H : Hp} {x : V} {d : D} {b : Bool} (h : Dp [] H x d) (e : truthD d = .ok b) : TruV K x H b := by
  cases h with
  | non => cases e; rfl
  | bl b => cases e; rfl
  | int i => cases e; rfl
  | str z =>
    have e : (if z.length ≤ 16777216 then R.ok ((z.length : Int) != 0) else R.no) = R.ok b := e
    split at e
    · rename_i hz
      cases e
      exact ⟨by rw [← sz]; exact hz, rfl⟩
    · cases e
  | lst h1 h2 =>
    cases e
    exact .inl ⟨_, seq_any h1, by rw [isEmpty_len h2]⟩
  | tup h1 h2 =>
    cases e
    exact .inr (.inl ⟨_, tup_any h1, by rw [isEmpty_len h2]⟩)
  | dck _ _ => cases e
  | dct _ _ => cases e

/-! subscripts -/
theorem atI_dp {K : PySem.W.Frag} {H : Hp} {ds : List D} {vs : List V} {i : Int} {d : D} (h : DpAll K H vs ds) (e : atI ds i = some d) : ∃ v, atI vs i = some v ∧ Dp K H v d := by
  unfold atI at e ⊢
  rw [DpAll.length h]
  cases q : ixN ds.length i with
  | none => rw [q] at e; cases e
  | some j =>
    rw [q] at e
    exact DpAll.get h e
def rX (o : Own) : R2 := fun x y H Q => ∃ d e z O, Dom H O ∧ Dp [] H x d ∧ (o = .sh → Itm [] H O x d) ∧ Dp [] H y e ∧ evIdx d e = .ok z ∧ Gv O o Q H z
theorem ixr {o : Own} (ho : o = .sh ∨ o = .bw) : IxR X (rX o) := by
  intro value slice pins s σ H x y v u Q I rx ry ⟨d, e, z, O, hd, hx, hx', hy, hev, g⟩ hs
  unfold evIdx at hev
  split at hev
  · split at hev
    · rename_i hi
      cases hev
      cases hy
      cases hx with
      | @lst a vs _ h1 h2 =>
        rcases ho with ho | ho
        · subst ho
          rcases hx' rfl with ⟨z0, _⟩ | ⟨_, us, _, e1, e0, k1, k2⟩ | ⟨_, _, _, _, e0, _, _⟩ | ⟨_, e0, _⟩
          · cases z0
          · cases e0
            cases e1
            obtain ⟨w, hw, kd⟩ := atI_dp k2 hi
            exact ix_list value slice pins s σ H _ _ v u Q I rx ry ⟨a, us, _, w, rfl, rfl, seq_any k1, hw, g.give (Same.refl _) (.sh kd)⟩ hs
          · cases e0
          · cases e0
        · subst ho
          obtain ⟨w, hw, kd⟩ := atI_dp h2 hi
          exact ix_list value slice pins s σ H _ _ v u Q I rx ry ⟨a, vs, _, w, rfl, rfl, seq_any h1, hw, g.give (Same.refl _) (.bw kd)⟩ hs
    · cases hev
  · split at hev
    · rename_i hi
      cases hev
      cases hy
      cases hx with
      | @tup a vs _ h1 h2 =>
        rcases ho with ho | ho
        · subst ho
          rcases hx' rfl with ⟨z0, _⟩ | ⟨_, us, _, e1, e0, k1, k2⟩ | ⟨_, us, _, e1, e0, k1, k2⟩ | ⟨_, e0, _⟩
          · cases z0
          · cases e0
          · cases e0
            cases e1
            obtain ⟨w, hw, kd⟩ := atI_dp k2 hi
            exact ix_tup value slice pins s σ H _ _ v u Q I rx ry ⟨a, us, _, w, rfl, rfl, tup_any k1, hw, g.give (Same.refl _) (.sh kd)⟩ hs
          · cases e0
        · subst ho
          obtain ⟨w, hw, kd⟩ := atI_dp h2 hi
          exact ix_tup value slice pins s σ H _ _ v u Q I rx ry ⟨a, vs, _, w, rfl, rfl, tup_any h1, hw, g.give (Same.refl _) (.bw kd)⟩ hs
    · cases hev
  · split at hev
    · rename_i hz
      split at hev
      · rename_i hi
        cases hev
        cases hy
        cases hx
        exact ix_str value slice pins s σ H _ _ v u Q I rx ry ⟨_, _, _, rfl, rfl, by rw [← sz]; exact hz, hi, g.flat rfl (.str _)⟩ hs
      · cases hev
    · cases hev
  · cases hev

/-! slices -/
theorem cutD_dp {K : PySem.W.Frag} {H : Hp} {ds : List D} {vs : List V} {lo hi : Option Int} (h : DpAll K H vs ds) : DpAll K H (cutV vs lo hi) (cutD ds lo hi) := by
  unfold cutV cutD
  rw [DpAll.length h]
  exact DpAll.take _ (DpAll.drop _ h)
theorem sIx_full (n : Nat) {lo hi : Option Int} (h : HT.sIx n 0 lo = 0 ∧ HT.sIx n n hi = n) (ds : List D) (e : ds.length = n) : cutD ds lo hi = ds := by
  unfold cutD
  rw [e, h.1, h.2]
  simp only [List.drop_zero, Nat.sub_zero]
  exact List.take_of_length_le (by omega)
def rL (o : Own) : V → Option Int → Option Int → Hp → VK → Prop := fun x lo hi H Q => ∃ d z O, Dom H O ∧ Itm [] H O x d ∧ evSl o d lo hi = .ok z ∧ Gv O o Q H z
theorem slr {o : Own} (ho : newO o = true) : SlR X (rL o) := by
  intro pins s σ H x v vl vu lo hi sl Q I rx hs pl pu ⟨d, z, O, hd, hx, hev, g⟩
  unfold evSl at hev
  split at hev
  · cases hev
    rcases hx with ⟨z0, _⟩ | ⟨a, us, es, rfl, e0, k1, k2⟩ | ⟨_, _, _, _, e0, _, _⟩ | ⟨_, e0, _⟩
    · cases z0
    · cases e0
      exact sl_list pins s σ H _ v vl vu lo hi sl Q I rx hs pl pu ⟨a, us, rfl, seq_any k1, fun p hp => g.newList ho hd (Same.refl _) (cutD_dp k2) hp⟩
    · cases e0
    · cases e0
  · split at hev
    · rename_i eo
      subst eo
      cases hev
      have kx := itm_tup hd hx
      cases kx with
      | @tup a us _ k1 k2 =>
        refine sl_tupA pins s σ H _ v vl vu lo hi sl Q I rx hs pl pu ⟨a, us, rfl, tup_any (mask_le _ _ k1), fun hw => ?_, fun hw p hp => ?_⟩
        · rw [sIx_full _ hw _ (DpAll.length k2).symm] at g
          exact g.give (Same.refl _) (.sh (.tup k1 k2))
        · exact g.newTup hd (Same.refl _) (cutD_dp k2) hp
    · cases hev
  · split at hev
    · rename_i hz
      cases hev
      have kx := itm_dp hx
      cases kx
      exact sl_str pins s σ H _ v vl vu lo hi sl Q I rx hs pl pu ⟨_, rfl, by rw [← sz]; exact hz, g.flat rfl (.str _)⟩
    · cases hev
  · cases hev
end
end Pv

/-! part Mt: the least of a tuple of two ints -/
namespace Pv
open PySem PySem.Spec PyProof.Rows L2
section
variable {prog : Program} {w : World} {A : Around} {E : Value → Shared → Prop} {s : Shared}
theorem min_pair {a : Addr} {i j : Int} {t u : Tok} {Q : Value → Shared → Prop} (calm : A.handled = none) (at_ : s.heap.IsTuple a #[.int i t, .int j u])
    (go_on : ∀ (h' : Heap) (k z : Tok), (∀ b o, s.heap.get? b = some o → h'.get? b = some o) → Q (.int (if j < i then j else i) z) { s with heap := h', toks := k }) :
    wpAny (model prog w) A (call (.builtin "min") [.ref a]) Q E s := by
  have lt : a < s.heap.objs.size := by
    obtain ⟨_, q, _⟩ := at_
    exact Heap.lt_size q
  have at2 : s.heap.IsTuple a (intItems #[(i, t), (j, u)]) := by simpa [intItems] using at_
  refine call_min_walk (wpAny_pyIter_tuple at2 ?_)
  refine ⟨s.heap.objs.size, _, _, _, _, _, _, rfl, Walks.tuple (A := A.in1) calm _ a (Nat.ne_of_lt lt) (intItems #[(i, t), (j, u)]), ⟨⟨_, Heap.get?_push_size _ rfl, rfl, rfl⟩, at2.push _⟩, fun b hb => ?_, by simp [intItems], CmpOf.ints_lt (numAt #[(i, t), (j, u)]) (fun _ _ => intItems_at), fun v h' k hv hk => ?_⟩
  · show b < (s.heap.push _).objs.size
    rw [Heap.size_push]
    simp only [List.mem_cons, List.not_mem_nil, or_false] at hb
    rcases hb with hb | hb
    · rw [hb]; exact Nat.lt_succ_self _
    · rw [hb]; exact Nat.lt_succ_of_lt lt
  · obtain ⟨z, ez⟩ := intItems_at hv
    have ev : numAt #[(i, t), (j, u)] (argBest (fun a b => decide (numAt #[(i, t), (j, u)] a < numAt #[(i, t), (j, u)] b)) ((intItems #[(i, t), (j, u)]).size - 1)) = if j < i then j else i := by
      by_cases q : j < i <;> simp [argBest, numAt, intItems, q]
    rw [ez, ev]
    refine go_on h' k z fun b o q => hk b o (fun m => ?_) (Heap.get?_push_of_some _ q)
    have := Heap.lt_size q
    rw [List.mem_singleton.mp m] at this
    exact absurd this (Nat.lt_irrefl _)
end
end Pv

/-! part Sd: sorted of any alike data -/
namespace Pv
open PySem PySem.Spec PyProof.Rows L2
/-! data without dicts -/
mutual
def ndB : D → Bool
  | .dict _ => false
  | .list ds => ndBs ds
  | .tuple ds => ndBs ds
  | _ => true
def ndBs : List D → Bool
  | [] => true
  | d :: ds => ndB d && ndBs ds
end
mutual
theorem dp_nd {K : PySem.W.Frag} {H : Hp} : ∀ (d : D) (v : V), Dp [] H v d → ndB d = true → L2.Dp K H v d
  | .none, _, h, _ => by cases h; exact .non
  | .bool _, _, h, _ => by cases h; exact .bl _
  | .int _, _, h, _ => by cases h; exact .int _
  | .str _, _, h, _ => by cases h; exact .str _
  | .list ds, _, h, q => by
    cases h with
    | lst h1 h2 => exact .lst (seq_any h1) (dps_nd ds _ h2 q)
  | .tuple ds, _, h, q => by
    cases h with
    | tup h1 h2 => exact .tup (tup_any h1) (dps_nd ds _ h2 q)
  | .dict _, _, h, q => by cases q
theorem dps_nd {K : PySem.W.Frag} {H : Hp} : ∀ (ds : List D) (vs : List V), DpAll [] H vs ds → ndBs ds = true → L2.DpAll K H vs ds
  | [], _, h, _ => by cases h; exact .nil
  | d :: ds, _, h, q => by
    have q' := Bool.and_eq_true_iff.mp (show (ndB d && ndBs ds) = true from q)
    cases h with
    | cons h1 h2 => exact .cons (dp_nd d _ h1 q'.1) (dps_nd ds _ h2 q'.2)
end
mutual
theorem lay_nd : ∀ (d : D), PyData.canLay0 d = true → ndB d = true
  | .none, _ => rfl
  | .bool _, _ => rfl
  | .int _, _ => rfl
  | .str _, _ => rfl
  | .list ds, h => lays_nd ds h
  | .tuple ds, h => lays_nd ds h
  | .dict _, h => by cases h
theorem lays_nd : ∀ (ds : List D), PyData.canLayAll0 ds = true → ndBs ds = true
  | [], _ => rfl
  | d :: ds, h => by
    have q := Bool.and_eq_true_iff.mp (show (PyData.canLay0 d && PyData.canLayAll0 ds) = true from h)
    show (ndB d && ndBs ds) = true
    rw [lay_nd d q.1, lays_nd ds q.2]
    rfl
end
theorem ndBs_mem : ∀ {ds : List D}, ndBs ds = true ↔ ∀ d ∈ ds, ndB d = true
  | [] => by simp [ndBs]
  | d :: ds => by
    show (ndB d && ndBs ds) = true ↔ _
    rw [Bool.and_eq_true, ndBs_mem (ds := ds)]
    simp
/-- data that can be put in order -/
def hdT : D → Bool
  | .tuple (_ :: _) => true
  | _ => false
def noT : D → Bool
  | .none => false
  | .tuple _ => false
  | _ => true
def ordB (ds : List D) : Bool := (ds.all fun d => ds.all fun e => PySem.W.alike d e) && (ds.all hdT || ds.all noT) && (ds.all fun d => decide (PyData.depth d ≤ 60)) && ndBs ds
def leD : D → D → Bool := PySem.W.dataLe false id
def srtA (ds : List D) : R D := if ordB ds = true then .ok (.list (ds.mergeSort leD)) else .no
structure OrdB (ds : List D) : Prop where
  al : ∀ d ∈ ds, ∀ e ∈ ds, PySem.W.alike d e = true
  so : (∀ d ∈ ds, hdT d = true) ∨ ∀ d ∈ ds, noT d = true
  dp : ∀ d ∈ ds, PyData.depth d ≤ 60
  nd : ndBs ds = true
theorem ordB_iff {ds : List D} : ordB ds = true ↔ OrdB ds := by
  unfold ordB
  simp only [Bool.and_eq_true, Bool.or_eq_true, List.all_eq_true, decide_eq_true_eq]
  exact ⟨fun ⟨⟨⟨a, b⟩, c⟩, d⟩ => ⟨a, b, c, d⟩, fun ⟨a, b, c, d⟩ => ⟨⟨⟨a, b⟩, c⟩, d⟩⟩
theorem OrdB.sortable {ds : List D} (h : OrdB ds) : PySem.W.Sortable (ds.map id) := by
  rw [List.map_id]
  rcases h.so with q | q
  · refine .inl fun d hd => ?_
    have := q d hd
    unfold hdT at this
    split at this
    · exact ⟨_, _, rfl⟩
    · cases this
  · refine .inr fun d hd => ?_
    have := q d hd
    unfold noT at this
    split at this
    · cases this
    · cases this
    · rename_i n1 n2
      exact ⟨fun e => n1 e, fun xs e => n2 xs e⟩
section
variable {X : Cx}
theorem dps_reads {pins : List (Addr × Obj)} {σ : L2.St} {H M : Hp} {s : Shared} (I : Inv X pins σ H s) (sm : Same M H) : ∀ {xs : List V} {ds : List D} {us : List Value}, DpAll [] M xs ds → ndBs ds = true → Vals xs us →
    PySem.W.EachIs (fun u d => ∃ y, RelV y u ∧ Dp [] M y d) us ds ∧ PySem.W.EachIs (fun u d => ∃ as, Reads s.heap u d as) us ds
  | _, _, _, .nil, _, .nil => ⟨.nil, .nil⟩
  | _, _, _, .cons (d := d) h1 h2, ha, .cons r1 r2 => by
    have ha' := Bool.and_eq_true_iff.mp (show (ndB _ && ndBs _) = true from ha)
    obtain ⟨i1, i2⟩ := dps_reads I sm h2 ha'.2 r2
    exact ⟨.cons ⟨_, r1, h1⟩ i1, .cons (L2.Dp.reads I _ _ _ (dp_nd _ _ (dp_mono sm _ _ h1) ha'.1) r1) i2⟩
theorem each_back {M : Hp} : ∀ {us : List Value} {ds : List D}, PySem.W.EachIs (fun u d => ∃ y, RelV y u ∧ Dp [] M y d) us ds → ∃ ys, Vals ys us ∧ DpAll [] M ys ds
  | _, _, .nil => ⟨[], .nil, .nil⟩
  | _, _, .cons ⟨y, h1, h2⟩ t => by
    obtain ⟨ys, a, b⟩ := each_back t
    exact ⟨y :: ys, .cons h1 a, .cons h2 b⟩
/-- sorted(xs): ys are the items in order -/
def rSortedA : List V → Hp → VK → Prop := fun vs H Q => ∃ (M : Hp) (a : Addr) (xs : List V) (ds : List D), vs = [V.ref a] ∧ SqL X.K H a xs ∧ Same M H ∧ DpAll [] M xs ds ∧ OrdB ds ∧
  ∀ (ys : List V) (p : Addr), DpAll [] M ys (ds.mergeSort leD) → H p = none → Q (.ref p) (upd H p (.lst ys))
theorem cr_sortedA (hu : X.A.units + 65 < cLine) : CallR X (.builtin "sorted") (rSortedA (X := X)) := by
  intro pins s σ H vs us Q I r h
  obtain ⟨M, a, xs, ds, rfl, hs, sm, hd, ho, q⟩ := h
  obtain ⟨its, rv, hl, hz⟩ := I.list hs
  rw [Vals.ref1 r]
  obtain ⟨e, er⟩ := dps_reads I sm hd ho.nd rv
  have hlen := DpAll.length hd
  refine PySem.W.sorted_data (enc := id) (bs := ds) hl.isList e er (by rw [List.map_id]; exact fun d h1 e h2 => ho.al d h1 e h2) ho.sortable (by rw [← hlen]; exact hz) (fun d hm => ?_) fun out hol h1 => ?_
  · have := ho.dp d hm
    show X.A.units + 2 + PyData.depth d < cLine
    omega
  obtain ⟨ys, v1, d1⟩ := each_back h1
  obtain ⟨ep, he'⟩ := PyProof.Rows.sortedAll_at s.heap its out.toArray
  have hl2 : ys.length ≤ sizeLine := by
    rw [v1.length, hol, ← hlen]
    exact hz
  exact ⟨.ref _, upd H (s.heap.objs.size + 1) (.lst ys), I.laid (t' := s.toks) (fun _ _ => PyProof.Rows.sortedAll_old) (Nat.le_succ _) ⟨hl2, out, ep, v1, he'⟩, rfl, q _ _ d1 (I.hok.fresh (Nat.le_succ _))⟩
end
/-! there is one sorted list alone -/
theorem toks_inj {x y : D} (ha : PySem.W.alike x y = true) (h : PySem.W.keyToks x = PySem.W.keyToks y) : PyData.eqv x y = true := by
  cases e : PyData.eqv x y with
  | true => rfl
  | false =>
    have q := (PySem.W.toks_eqv x y ha).2 e [] [.inl 0]
    rw [h] at q
    have l1 := PySem.W.lex_pre (PySem.W.keyToks y) [] [.inl 0]
    rw [l1] at q
    have l2 := PySem.W.lex_pre (PySem.W.keyToks y) [] []
    rw [List.append_nil] at l2
    rw [l2] at q
    revert q
    decide
theorem leD_iff {x y : D} : leD x y = true ↔ PySem.W.dataLt y x = false := by
  show (!PySem.W.dataLt y x) = true ↔ _
  simp
theorem leD_trans {x y z : D} (h1 : leD x y = true) (h2 : leD y z = true) : leD x z = true := by
  rw [leD_iff] at h1 h2 ⊢
  cases e : PySem.W.dataLt z x with
  | false => rfl
  | true =>
    rcases PyProof.Rows.lex_negTrans (O := itemOrd) (PySem.W.keyToks z) (PySem.W.keyToks y) (PySem.W.keyToks x) e with q | q
    · have : PySem.W.dataLt z y = true := q
      rw [h2] at this
      cases this
    · have : PySem.W.dataLt y x = true := q
      rw [h1] at this
      cases this
theorem leD_total (x y : D) : (leD x y || leD y x) = true := by
  rw [Bool.or_eq_true, leD_iff, leD_iff]
  cases e : PySem.W.dataLt y x with
  | false => exact .inl rfl
  | true =>
    refine .inr ?_
    cases e2 : PySem.W.dataLt x y with
    | false => rfl
    | true =>
      have := PyProof.Rows.lex_trans (O := itemOrd) _ _ _ e e2
      rw [PyProof.Rows.lex_irrefl] at this
      cases this
theorem leD_anti {x y : D} (h1 : leD x y = true) (h2 : leD y x = true) : PySem.W.keyToks x = PySem.W.keyToks y :=
  PyProof.Rows.lex_total (O := itemOrd) _ _ (leD_iff.mp h2) (leD_iff.mp h1)
/-- two lists in order of the same data, each place told by its signs -/
theorem sorted_one {ds es : List D} (hi : ∀ x ∈ ds, ∀ y ∈ ds, PySem.W.keyToks x = PySem.W.keyToks y → x = y) (hp : es.Perm ds) (hs : es.Pairwise fun a b => leD a b = true) : ds.mergeSort leD = es := by
  have p2 : (ds.mergeSort leD).Perm es := (List.mergeSort_perm ds leD).trans hp.symm
  have s2 : (ds.mergeSort leD).Pairwise fun a b => leD a b = true := List.pairwise_mergeSort (le := leD) (fun a b c => leD_trans) leD_total ds
  have hm : ∀ x ∈ ds.mergeSort leD, x ∈ ds := fun x hx => (List.mergeSort_perm ds leD).mem_iff.mp hx
  generalize ds.mergeSort leD = ms at p2 s2 hm
  clear hp
  induction ms generalizing es with
  | nil => exact (List.Perm.eq_nil p2.symm).symm
  | cons x r ih =>
    cases es with
    | nil => exact absurd p2.length_eq (by simp)
    | cons y t =>
      have a1 := List.pairwise_cons.mp s2
      have b1 := List.pairwise_cons.mp hs
      have xy : leD x y = true := by
        rcases List.mem_cons.mp (p2.mem_iff.mpr (List.mem_cons_self (a := y) (l := t))) with e | e
        · rw [e, leD_iff]; exact PyProof.Rows.lex_irrefl _
        · exact a1.1 y e
      have yx : leD y x = true := by
        rcases List.mem_cons.mp (p2.mem_iff.mp (List.mem_cons_self (a := x) (l := r))) with e | e
        · rw [e, leD_iff]; exact PyProof.Rows.lex_irrefl _
        · exact b1.1 x e
      have e : x = y := hi x (hm x (by simp)) y (hm y (p2.mem_iff.mpr (by simp))) (leD_anti xy yx)
      subst e
      rw [ih b1.2 (p2.cons_inv) a1.2 fun z hz => hm z (by simp [hz])]
end Pv

namespace Pv
open PySem PySem.Spec PyProof.Rows L2

/-! built-in functions upon data -/
inductive Bi where
  | len | int | sum | min | max | abs | all | any | sorted | list | tuple
  deriving DecidableEq
def blsOf : List D → Option (List Bool)
  | [] => some []
  | .bool i :: r => (blsOf r).map (i :: ·)
  | _ :: _ => none
theorem blsOf_some : ∀ {ds : List D} {ns : List Bool}, blsOf ds = some ns → ds = ns.map PyData.bool
  | [], _, h => by cases h; rfl
  | .bool i :: r, ns, h => by
    have h : (blsOf r).map (i :: ·) = some ns := h
    obtain ⟨ms, e1, e2⟩ := Option.map_eq_some_iff.mp h
    subst e2
    rw [blsOf_some e1]
    rfl
  | .none :: _, _, h | .int _ :: _, _, h | .str _ :: _, _, h | .list _ :: _, _, h | .tuple _ :: _, _, h | .dict _ :: _, _, h => by cases h
@[simp] theorem blsOf_map : ∀ ns : List Bool, blsOf (ns.map PyData.bool) = some ns
  | [] => rfl
  | n :: ns => by
    show (blsOf (ns.map PyData.bool)).map (n :: ·) = _
    rw [blsOf_map ns]
    rfl
def minL : Int → List Int → Int
  | a, [] => a
  | a, b :: r => minL (if b < a then b else a) r
def maxL : Int → List Int → Int
  | a, [] => a
  | a, b :: r => maxL (if a < b then b else a) r
theorem minL_le : ∀ (r : List Int) (a : Int), minL a r ≤ a ∧ ∀ y ∈ r, minL a r ≤ y
  | [], a => ⟨Int.le_refl a, fun _ h => (nomatch h)⟩
  | b :: r, a => by
    obtain ⟨h1, h2⟩ := minL_le r (if b < a then b else a)
    show minL (if b < a then b else a) r ≤ a ∧ ∀ y ∈ b :: r, minL (if b < a then b else a) r ≤ y
    refine ⟨?_, fun y hy => ?_⟩
    · split at h1 <;> (rename_i hc; first | rw [if_pos hc] | rw [if_neg hc]) <;> omega
    · rcases List.mem_cons.mp hy with e | e
      · subst e
        split at h1 <;> (rename_i hc; first | rw [if_pos hc] | rw [if_neg hc]) <;> omega
      · exact h2 y e
theorem minL_mem : ∀ (r : List Int) (a : Int), minL a r ∈ a :: r
  | [], a => List.mem_cons_self
  | b :: r, a => by
    have h := minL_mem r (if b < a then b else a)
    show minL (if b < a then b else a) r ∈ a :: b :: r
    rcases List.mem_cons.mp h with e | e
    · rw [e]
      split <;> simp
    · exact List.mem_cons_of_mem _ (List.mem_cons_of_mem _ e)
theorem le_maxL : ∀ (r : List Int) (a : Int), a ≤ maxL a r ∧ ∀ y ∈ r, y ≤ maxL a r
  | [], a => ⟨Int.le_refl a, fun _ h => (nomatch h)⟩
  | b :: r, a => by
    obtain ⟨h1, h2⟩ := le_maxL r (if a < b then b else a)
    show a ≤ maxL (if a < b then b else a) r ∧ ∀ y ∈ b :: r, y ≤ maxL (if a < b then b else a) r
    refine ⟨?_, fun y hy => ?_⟩
    · split at h1 <;> (rename_i hc; first | rw [if_pos hc] | rw [if_neg hc]) <;> omega
    · rcases List.mem_cons.mp hy with e | e
      · subst e
        split at h1 <;> (rename_i hc; first | rw [if_pos hc] | rw [if_neg hc]) <;> omega
      · exact h2 y e
theorem maxL_mem : ∀ (r : List Int) (a : Int), maxL a r ∈ a :: r
  | [], a => List.mem_cons_self
  | b :: r, a => by
    have h := maxL_mem r (if a < b then b else a)
    show maxL (if a < b then b else a) r ∈ a :: b :: r
    rcases List.mem_cons.mp h with e | e
    · rw [e]
      split <;> simp
    · exact List.mem_cons_of_mem _ (List.mem_cons_of_mem _ e)
/-- sorted ints -/
def insI (x : Int) : List Int → List Int
  | [] => [x]
  | y :: r => if x ≤ y then x :: y :: r else y :: insI x r
def sortI : List Int → List Int
  | [] => []
  | x :: r => insI x (sortI r)
theorem insI_perm (x : Int) : ∀ r : List Int, (insI x r).Perm (x :: r)
  | [] => .refl _
  | y :: r => by
    unfold insI
    split
    · exact .refl _
    · exact .trans (.cons y (insI_perm x r)) (.swap x y r)
theorem sortI_perm : ∀ r : List Int, (sortI r).Perm r
  | [] => .refl _
  | x :: r => .trans (insI_perm x _) (.cons x (sortI_perm r))
theorem insI_pw (x : Int) : ∀ {r : List Int}, r.Pairwise (· ≤ ·) → (insI x r).Pairwise (· ≤ ·)
  | [], _ => List.pairwise_singleton _ _
  | y :: r, h => by
    unfold insI
    split
    · rename_i hc
      refine .cons (fun z hz => ?_) h
      rcases List.mem_cons.mp hz with e | e
      · omega
      · have := (List.pairwise_cons.mp h).1 z e
        omega
    · rename_i hc
      refine .cons (fun z hz => ?_) (insI_pw x (List.pairwise_cons.mp h).2)
      rcases List.mem_cons.mp ((insI_perm x r).mem_iff.mp hz) with e | e
      · omega
      · exact (List.pairwise_cons.mp h).1 z e
theorem sortI_pw : ∀ r : List Int, (sortI r).Pairwise (· ≤ ·)
  | [] => .nil
  | x :: r => insI_pw x (sortI_pw r)
theorem sortI_eq {a b : List Int} (hp : a.Perm b) (ha : a.Pairwise (· ≤ ·)) : a = sortI b :=
  PySem.W.ksm_same (hp.trans (sortI_perm b).symm) ha (sortI_pw b)

def min3 (i j k : Int) : Int := if k < (if j < i then j else i) then k else (if j < i then j else i)
def max3 (i j k : Int) : Int := if (if i < j then j else i) < k then k else (if i < j then j else i)
theorem nu_min3 (i j k : Int) : nuMin3 (.int i) (.int j) (.int k) = some (.int (min3 i j k)) := by
  unfold nuMin3 nuMin2 nuLt nuCB min3
  by_cases h : j < i
  · by_cases h2 : k < j <;> simp [h, h2]
  · by_cases h2 : k < i <;> simp [h, h2]
theorem nu_max3 (i j k : Int) : nuMax3 (.int i) (.int j) (.int k) = some (.int (max3 i j k)) := by
  unfold nuMax3 nuMax2 nuLt nuCB max3
  by_cases h : i < j
  · by_cases h2 : j < k <;> simp [h, h2]
  · by_cases h2 : i < k <;> simp [h, h2]
def evBi (b : Bi) (o : Own) (ds : List D) : R D :=
  match b, ds with
  | .len, [.list xs] => .ok (.int xs.length)
  | .len, [.tuple xs] => .ok (.int xs.length)
  | .len, [.str z] => if z.length ≤ 16777216 then .ok (.int z.length) else .no
  | .int, [.int i] => .ok (.int i)
  | .int, [.bool k] => .ok (.int (if k = true then 1 else 0))
  | .sum, [.list xs] => match intsOf xs with | some ns => .ok (.int ns.sum) | none => .no
  | .min, [.int i, .int j] => .ok (.int (if j < i then j else i))
  | .min, [.int i, .int j, .int k] => .ok (.int (min3 i j k))
  | .min, [.list xs] => match intsOf xs with | some (n :: ns) => .ok (.int (minL n ns)) | _ => .no
  | .min, [.tuple [.int i, .int j]] => .ok (.int (if j < i then j else i))
  | .max, [.int i, .int j] => .ok (.int (if j > i then j else i))
  | .max, [.int i, .int j, .int k] => .ok (.int (max3 i j k))
  | .max, [.list xs] => match intsOf xs with | some (n :: ns) => .ok (.int (maxL n ns)) | _ => .no
  | .abs, [.int i] => .ok (.int (if i < 0 then -i else i))
  | .all, [.list xs] => match blsOf xs with | some bs => .ok (.bool (bs.all id)) | none => .no
  | .any, [.list xs] => match blsOf xs with | some bs => .ok (.bool (bs.any id)) | none => .no
  | .sorted, [.list xs] => match intsOf xs with | some ns => .ok (.list ((sortI ns).map PyData.int)) | none => srtA xs
  | .list, [.list xs] => .ok (.list xs)
  | .list, [.tuple xs] => .ok (.list xs)
  | .tuple, [.list xs] => if o = .sh then .ok (.tuple xs) else .no
  | .tuple, [.tuple xs] => if o = .sh then .ok (.tuple xs) else .no
  | _, _ => .no
def Bi.nm : Bi → Str
  | .len => "len" | .int => "int" | .sum => "sum" | .min => "min" | .max => "max" | .abs => "abs" | .all => "all" | .any => "any" | .sorted => "sorted" | .list => "list" | .tuple => "tuple"
def Bi.val : Bi → Value
  | .len => .builtin "len" | .int => .type "int" | .sum => .builtin "sum" | .min => .builtin "min" | .max => .builtin "max" | .abs => .builtin "abs" | .all => .builtin "all" | .any => .builtin "any"
  | .sorted => .builtin "sorted" | .list => .type "list" | .tuple => .type "tuple"
theorem Bi.boot (b : Bi) : bootBuiltins b.nm = some b.val := by cases b <;> decide +kernel
def itms : Bi → Bool
  | .list | .tuple | .sorted => true
  | _ => false

section
variable {X : Cx}
def TmpS (H : Hp) (O : Addr → Bool) (vs : List V) (ds : List D) (os : Own) : Prop := ∃ A, (∀ a ∈ A, O a = false) ∧ RpS [] H (add O A) vs ds os A
def rF (b : Bi) (o : Own) : List V → Hp → VK → Prop := fun vs H Q => ∃ ds z O, Dom H O ∧ DpAll [] H vs ds ∧ (itms b = true → ∀ v d, vs = [v] → ds = [d] → Itm [] H O v d) ∧ evBi b o ds = .ok z ∧ Gv O o Q H z
theorem dp1 {H : Hp} {vs : List V} {d : D} (h : DpAll [] H vs [d]) : ∃ v, vs = [v] ∧ Dp [] H v d := by
  cases h with
  | cons h1 h2 => cases h2; exact ⟨_, rfl, h1⟩
theorem dp2 {H : Hp} {vs : List V} {d e : D} (h : DpAll [] H vs [d, e]) : ∃ v u, vs = [v, u] ∧ Dp [] H v d ∧ Dp [] H u e := by
  cases h with
  | cons h1 h2 =>
    obtain ⟨u, rfl, h3⟩ := dp1 h2
    exact ⟨_, u, rfl, h1, h3⟩
theorem dp3 {H : Hp} {vs : List V} {d e f : D} (h : DpAll [] H vs [d, e, f]) : ∃ v u w, vs = [v, u, w] ∧ Dp [] H v d ∧ Dp [] H u e ∧ Dp [] H w f := by
  cases h with
  | cons h1 h2 =>
    obtain ⟨u, w, rfl, h3, h4⟩ := dp2 h2
    exact ⟨_, u, w, rfl, h1, h3, h4⟩
theorem dpInt {H : Hp} {v : V} {i : Int} (h : Dp [] H v (.int i)) : v = .int i := by cases h; rfl
theorem cr_bi {b : Bi} {o : Own} (ho : newO o = true) (hc : X.calm = true) (hu : X.A.units + 65 < cLine) : CallR X b.val (rF b o) := by
  intro pins s σ H vs us Q I r ⟨ds, z, O, hd, hv, hi, hev, g⟩
  unfold evBi at hev
  split at hev
  · cases hev
    obtain ⟨v, rfl, h1⟩ := dp1 hv
    cases h1 with
    | @lst a ws _ k1 k2 => exact call_len pins s σ H _ us Q I r ⟨_, _, rfl, .inl ⟨ws, seq_any k1, rfl⟩, by rw [DpAll.length k2]; exact flat_out g⟩
  · cases hev
    obtain ⟨v, rfl, h1⟩ := dp1 hv
    cases h1 with
    | @tup a ws _ k1 k2 => exact call_len pins s σ H _ us Q I r ⟨_, _, rfl, .inr ⟨ws, tup_any k1, rfl⟩, by rw [DpAll.length k2]; exact flat_out g⟩
  · split at hev
    · rename_i hz
      cases hev
      obtain ⟨v, rfl, h1⟩ := dp1 hv
      cases h1
      exact call_len pins s σ H _ us Q I r ⟨_, _, rfl, ⟨by rw [← sz]; exact hz, rfl⟩, flat_out g⟩
    · cases hev
  · cases hev
    obtain ⟨v, rfl, h1⟩ := dp1 hv
    rw [dpInt h1] at r
    exact call_int1 pins s σ H _ us Q I r (.inl ⟨_, rfl, flat_out g⟩)
  · cases hev
    obtain ⟨v, rfl, h1⟩ := dp1 hv
    cases h1
    exact call_int1 pins s σ H _ us Q I r (.inr ⟨_, rfl, flat_out g⟩)
  · split at hev
    · rename_i e
      cases hev
      have e := intsOf_some e
      subst e
      obtain ⟨v, rfl, h1⟩ := dp1 hv
      cases h1 with
      | @lst a ws _ k1 k2 =>
        rw [DpAll.ints k2] at k1
        exact cr_sum hc pins s σ H _ us Q I r ⟨a, _, rfl, seq_any k1, flat_out g⟩
    · cases hev
  · cases hev
    obtain ⟨v, u, rfl, h1, h2⟩ := dp2 hv
    rw [dpInt h1, dpInt h2] at r
    exact call_min2 hc pins s σ H _ us Q I r ⟨_, _, rfl, flat_out g⟩
  · cases hev
    obtain ⟨v, u, w, rfl, h1, h2, h3⟩ := dp3 hv
    rw [dpInt h1, dpInt h2, dpInt h3] at r
    exact call_min3Nu hc pins s σ H _ us Q I r ⟨_, _, _, _, rfl, nu_min3 _ _ _, flat_out g⟩
  · split at hev
    · rename_i e
      cases hev
      have e := intsOf_some e
      subst e
      obtain ⟨v, rfl, h1⟩ := dp1 hv
      cases h1 with
      | @lst a ws _ k1 k2 =>
        rw [DpAll.ints k2] at k1
        rename_i n ns
        refine cr_min hc pins s σ H _ us Q I r ⟨a, _, rfl, seq_any k1, Nat.succ_pos _, fun m hm hle => ?_⟩
        have e1 : m = minL n ns := by
          have h1 := hle _ (minL_mem ns n)
          rcases List.mem_cons.mp hm with e | e
          · have := (minL_le ns n).1
            omega
          · have := (minL_le ns n).2 m e
            omega
        rw [e1]
        exact flat_out g
    · cases hev
  · cases hev
    obtain ⟨v, rfl, h1⟩ := dp1 hv
    cases h1 with
    | @tup a ws _ k1 k2 =>
      obtain ⟨v1, v2, rfl, e1, e2⟩ := dp2 k2
      rw [dpInt e1, dpInt e2] at k1
      rw [Vals.ref1 r]
      obtain ⟨its, rv, tl, _⟩ := I.tuple (tup_any k1)
      cases rv with
      | cons r1 rv =>
        cases rv with
        | cons r2 rv =>
          cases rv
          obtain ⟨t1, rfl⟩ := r1
          obtain ⟨t2, rfl⟩ := r2
          obtain ⟨ob, q1, q2, m, q3⟩ := tl
          exact min_pair (I.ok.hd hc) ⟨ob, q1, q2, m, q3⟩ fun h' k z kept => ⟨.int _, H, I.kept kept, ⟨_, rfl⟩, flat_out g⟩
  · cases hev
    obtain ⟨v, u, rfl, h1, h2⟩ := dp2 hv
    rw [dpInt h1, dpInt h2] at r
    exact call_max2 hc pins s σ H _ us Q I r ⟨_, _, rfl, flat_out g⟩
  · cases hev
    obtain ⟨v, u, w, rfl, h1, h2, h3⟩ := dp3 hv
    rw [dpInt h1, dpInt h2, dpInt h3] at r
    exact call_max3Nu hc pins s σ H _ us Q I r ⟨_, _, _, _, rfl, nu_max3 _ _ _, flat_out g⟩
  · split at hev
    · rename_i e
      cases hev
      have e := intsOf_some e
      subst e
      obtain ⟨v, rfl, h1⟩ := dp1 hv
      cases h1 with
      | @lst a ws _ k1 k2 =>
        rw [DpAll.ints k2] at k1
        rename_i n ns
        refine cr_max hc pins s σ H _ us Q I r ⟨a, _, rfl, seq_any k1, Nat.succ_pos _, fun m hm hle => ?_⟩
        have e1 : m = maxL n ns := by
          have h1 := hle _ (maxL_mem ns n)
          rcases List.mem_cons.mp hm with e | e
          · have := (le_maxL ns n).1
            omega
          · have := (le_maxL ns n).2 m e
            omega
        rw [e1]
        exact flat_out g
    · cases hev
  · cases hev
    obtain ⟨v, rfl, h1⟩ := dp1 hv
    rw [dpInt h1] at r
    exact call_abs pins s σ H _ us Q I r ⟨_, rfl, flat_out g⟩
  · split at hev
    · rename_i e
      cases hev
      have e := blsOf_some e
      subst e
      obtain ⟨v, rfl, h1⟩ := dp1 hv
      cases h1 with
      | @lst a ws _ k1 k2 =>
        rw [DpAll.bls k2] at k1
        exact cr_all hc pins s σ H _ us Q I r ⟨a, _, rfl, seq_any k1, g.flat rfl (.bl _)⟩
    · cases hev
  · split at hev
    · rename_i e
      cases hev
      have e := blsOf_some e
      subst e
      obtain ⟨v, rfl, h1⟩ := dp1 hv
      cases h1 with
      | @lst a ws _ k1 k2 =>
        rw [DpAll.bls k2] at k1
        exact cr_any hc pins s σ H _ us Q I r ⟨a, _, rfl, seq_any k1, g.flat rfl (.bl _)⟩
    · cases hev
  · split at hev
    · rename_i e
      cases hev
      have e := intsOf_some e
      subst e
      obtain ⟨v, rfl, h1⟩ := dp1 hv
      cases h1 with
      | @lst a ws _ k1 k2 =>
        rw [DpAll.ints k2] at k1
        refine cr_sortedI pins s σ H _ us Q I r ⟨a, _, rfl, seq_any k1, fun ns' p hp hs hn => ?_⟩
        rw [sortI_eq hp hs]
        exact g.newList ho hd (Same.refl _) (DpAll.of_ints _) hn
    · unfold srtA at hev
      split at hev
      · rename_i hok
        cases hev
        obtain ⟨v, rfl, h1⟩ := dp1 hv
        rcases hi rfl _ _ rfl rfl with ⟨z0, _⟩ | ⟨a, ws, es, rfl, e0, k1, k2⟩ | ⟨_, _, _, _, e0, _, _⟩ | ⟨_, e0, _⟩
        · cases z0
        · cases e0
          exact cr_sortedA hu pins s σ H _ us Q I r ⟨mask H O, a, ws, _, rfl, seq_any k1, mask_le, k2, ordB_iff.mp hok, fun ys p hys hn => g.newList ho hd (Same.refl _) hys hn⟩
        · cases e0
        · cases e0
      · cases hev
  · cases hev
    obtain ⟨v, rfl, h1⟩ := dp1 hv
    rcases hi rfl _ _ rfl rfl with ⟨z0, _⟩ | ⟨a, ws, es, rfl, e0, k1, k2⟩ | ⟨_, _, _, _, e0, _, _⟩ | ⟨_, e0, _⟩
    · cases z0
    · cases e0
      exact call_list_of pins s σ H _ us Q I r ⟨a, ws, rfl, .inl (seq_any k1), fun p hp => g.newList ho hd (Same.refl _) k2 hp⟩
    · cases e0
    · cases e0
  · cases hev
    obtain ⟨v, rfl, h1⟩ := dp1 hv
    rcases hi rfl _ _ rfl rfl with ⟨z0, _⟩ | ⟨_, _, _, _, e0, _, _⟩ | ⟨a, ws, es, rfl, e0, k1, k2⟩ | ⟨_, e0, _⟩
    · cases z0
    · cases e0
    · cases e0
      exact call_list_of pins s σ H _ us Q I r ⟨a, ws, rfl, .inr (tup_any k1), fun p hp => g.newList ho hd (Same.refl _) k2 hp⟩
    · cases e0
  · split at hev
    · rename_i eo
      subst eo
      cases hev
      obtain ⟨v, rfl, h1⟩ := dp1 hv
      rcases hi rfl _ _ rfl rfl with ⟨z0, _⟩ | ⟨a, ws, es, rfl, e0, k1, k2⟩ | ⟨_, _, _, _, e0, _, _⟩ | ⟨_, e0, _⟩
      · cases z0
      · cases e0
        exact call_tuple_of pins s σ H _ us Q I r ⟨a, ws, rfl, .inl ⟨seq_any k1, fun p hp => g.newTup hd (Same.refl _) k2 hp⟩⟩
      · cases e0
      · cases e0
    · cases hev
  · split at hev
    · rename_i eo
      subst eo
      cases hev
      obtain ⟨v, rfl, h1⟩ := dp1 hv
      have kx := itm_tup hd (hi rfl _ _ rfl rfl)
      cases kx with
      | @tup a ws _ k1 k2 => exact call_tuple_of pins s σ H _ us Q I r ⟨a, ws, rfl, .inr ⟨tup_any (mask_le _ _ k1), g.give (Same.refl _) (.sh (.tup k1 k2))⟩⟩
    · cases hev
  · cases hev
end

/-! what is walked -/
def ItOk (J : It) (B M : Hp) (ds : List D) : Prop := ∀ i H O, Dom H O → Same B H → Same M (mask H O) →
  (∀ d, ds[i]? = some d → J.go i H ∧ ∀ x H', J.yld i H x H' → Same H H' ∧ Dp [] (mask H' O) x d) ∧ (ds.length ≤ i → J.stop i H)
def bse (p : Bool) (H : Hp) (O : Addr → Bool) : Hp := if p = true then H else mask H O
def tI (c : Ctx) (p : Bool) (f : Ev → R (List D)) : TI := fun σ H Rr => ∃ env O, At c H O env σ ∧ AnsP (c.W σ) H (f env) (fun H ds => ∀ J H1, Same H H1 → ItOk J (bse p H1 O) (mask H1 O) ds → Rr J H1)
theorem PI.imp {X : Cx} {tg e : Expr} {t t' : TI} (h : PI X tg e t) (i : ∀ σ H R, t' σ H R → t σ H R) : PI X tg e t' := ⟨fun pins s σ H Q I q => h.run pins s σ H Q I (i _ _ _ q)⟩
theorem up_it {p : Bool} {O : Addr → Bool} {R : It → Hp → Prop} : Up (fun H ds => ∀ J H1, Same H H1 → ItOk J (bse p H1 O) (mask H1 O) ds → R J H1) := fun _ _ _ s h J H1 s' => h J H1 (s.trans s')

/-- the list at a, as its items stand in the base -/
theorem itok_list {K : PySem.W.Frag} {B M : Hp} {a : Addr} {vs : List V} {ds : List D} (h : SqL [] B a vs) (hd : DpAll [] M vs ds) : ItOk (Itl K a) B M ds := by
  intro i H O dm sb sm
  refine ⟨fun d e => ?_, fun e => ⟨vs, seq_any (Same.seq sb h), by rw [DpAll.length hd]; exact e⟩⟩
  obtain ⟨v, hv, kd⟩ := DpAll.get hd e
  refine ⟨⟨vs, v, seq_any (Same.seq sb h), hv⟩, fun x H' y => ?_⟩
  obtain ⟨rfl, y⟩ := y
  refine ⟨Same.refl _, ?_⟩
  have e2 := y vs (seq_any (Same.seq sb h))
  rw [hv] at e2
  cases e2
  exact dp_mono sm _ _ kd
theorem itok_tup {K : PySem.W.Frag} {B M : Hp} {a : Addr} {vs : List V} {ds : List D} (h : B a = some (.tup vs)) (hd : DpAll [] M vs ds) : ItOk (Itt K a) B M ds := by
  intro i H O dm sb sm
  refine ⟨fun d e => ?_, fun e => ⟨vs, tup_any (sb _ _ h), by rw [DpAll.length hd]; exact e⟩⟩
  obtain ⟨v, hv, kd⟩ := DpAll.get hd e
  refine ⟨⟨vs, v, tup_any (sb _ _ h), hv⟩, fun x H' y => ?_⟩
  obtain ⟨rfl, y⟩ := y
  refine ⟨Same.refl _, ?_⟩
  have e2 := y vs (tup_any (sb _ _ h))
  rw [hv] at e2
  cases e2
  exact dp_mono sm _ _ kd
def chars (z : Str) : List D := z.cps.toList.map fun c => .str ⟨#[c]⟩
theorem itok_str {B M : Hp} {z : Str} : ItOk (L2.Its z) B M (chars z) := by
  intro i H O dm sb sm
  have hl : (chars z).length = z.cps.size := by unfold chars; rw [List.length_map, Array.length_toList]
  refine ⟨fun d e => ?_, fun e => by rw [hl] at e; exact e⟩
  have hi : i < z.cps.size := by
    rw [← hl]
    exact (List.getElem?_eq_some_iff.mp e).1
  refine ⟨hi, fun x H' y => ?_⟩
  obtain ⟨rfl, c, hc, rfl⟩ := y
  refine ⟨Same.refl _, ?_⟩
  unfold chars at e
  rw [List.getElem?_map, Array.getElem?_toList, hc] at e
  cases e
  exact .str _
def rngD (lo : Int) (n : Nat) : List D := (List.range n).map fun (k : Nat) => .int (lo + k)
theorem itok_rng {B M : Hp} {lo : Int} {n : Nat} : ItOk (Itr lo n) B M (rngD lo n) := by
  intro i H O dm sb sm
  have hl : (rngD lo n).length = n := by unfold rngD; rw [List.length_map, List.length_range]
  refine ⟨fun d e => ?_, fun e => by rw [hl] at e; exact e⟩
  have hi : i < n := by
    rw [← hl]
    exact (List.getElem?_eq_some_iff.mp e).1
  refine ⟨hi, fun x H' y => ?_⟩
  obtain ⟨rfl, rfl⟩ := y
  refine ⟨Same.refl _, ?_⟩
  unfold rngD at e
  rw [List.getElem?_map, List.getElem?_range hi] at e
  cases e
  exact .int _
def rngS (lo c : Int) (n : Nat) : List D := (List.range n).map fun (k : Nat) => .int (lo + k * c)
theorem itok_rngS {B M : Hp} {lo c : Int} {n : Nat} : ItOk (Itc lo c n) B M (rngS lo c n) := by
  intro i H O dm sb sm
  have hl : (rngS lo c n).length = n := by unfold rngS; rw [List.length_map, List.length_range]
  refine ⟨fun d e => ?_, fun e => by rw [hl] at e; exact e⟩
  have hi : i < n := by
    rw [← hl]
    exact (List.getElem?_eq_some_iff.mp e).1
  refine ⟨hi, fun x H' y => ?_⟩
  obtain ⟨rfl, rfl⟩ := y
  refine ⟨Same.refl _, ?_⟩
  unfold rngS at e
  rw [List.getElem?_map, List.getElem?_range hi] at e
  cases e
  exact .int _
def enumD : Nat → List D → List D
  | _, [] => []
  | n, d :: r => .tuple [.int n, d] :: enumD (n + 1) r
theorem enumD_get : ∀ (ds : List D) (n i : Nat), (enumD n ds)[i]? = ds[i]?.map fun d => .tuple [.int ((n + i : Nat) : Int), d]
  | [], n, i => by simp [enumD]
  | d :: r, n, 0 => by simp [enumD]
  | d :: r, n, i + 1 => by
    simp only [enumD, List.getElem?_cons_succ]
    rw [enumD_get r (n + 1) i, show n + 1 + i = n + (i + 1) by omega]
theorem enumD_len : ∀ (ds : List D) (n : Nat), (enumD n ds).length = ds.length
  | [], _ => rfl
  | d :: r, n => by simp only [enumD, List.length_cons, enumD_len r (n + 1)]
theorem itok_enum {K : PySem.W.Frag} {B M : Hp} {a : Addr} {vs : List V} {ds : List D} (h : SqL [] B a vs) (hd : DpAll [] M vs ds) : ItOk (Ite K a) B M (enumD 0 ds) := by
  intro i H O dm sb sm
  refine ⟨fun d e => ?_, fun e => ⟨vs, seq_any (Same.seq sb h), by rw [DpAll.length hd]; rw [enumD_len] at e; exact e⟩⟩
  rw [enumD_get, Nat.zero_add] at e
  obtain ⟨d0, e0, rfl⟩ := Option.map_eq_some_iff.mp e
  obtain ⟨v, hv, kd⟩ := DpAll.get hd e0
  refine ⟨⟨vs, v, seq_any (Same.seq sb h), hv⟩, fun x H' y => ?_⟩
  obtain ⟨T, x0, rfl, hT, rfl, y⟩ := y
  have e2 := y vs (seq_any (Same.seq sb h))
  rw [hv] at e2
  cases e2
  have sn : Same H (upd H T (.tup [.int (i : Nat), v])) := same_new hT
  refine ⟨sn, .tup (mask_of (dm.out hT) upd_same) (.cons (.int _) (.cons (dp_mono (mask_mono sn fun a e => .inl e) _ _ (dp_mono sm _ _ kd)) .nil))⟩
def zipD : List D → List D → List D
  | d :: r, e :: s => .tuple [d, e] :: zipD r s
  | _, _ => []
theorem zipD_get : ∀ (ds es : List D) (i : Nat) (z : D), (zipD ds es)[i]? = some z → ∃ d e, ds[i]? = some d ∧ es[i]? = some e ∧ z = .tuple [d, e]
  | [], _, i, z, h => by simp [zipD] at h
  | _ :: _, [], i, z, h => by simp [zipD] at h
  | d :: r, e :: s, 0, z, h => by
    simp only [zipD, List.getElem?_cons_zero, Option.some.injEq] at h
    exact ⟨d, e, rfl, rfl, h.symm⟩
  | d :: r, e :: s, i + 1, z, h => by
    simp only [zipD, List.getElem?_cons_succ] at h
    exact zipD_get r s i z h
theorem zipD_len : ∀ (ds es : List D), (zipD ds es).length = min ds.length es.length
  | [], _ => by simp [zipD]
  | _ :: _, [] => by simp [zipD]
  | d :: r, e :: s => by
    simp only [zipD, List.length_cons, zipD_len r s]
    omega
theorem itok_zip {K : PySem.W.Frag} {B M : Hp} {a b : Addr} {vs us : List V} {ds es : List D} (h : SqL [] B a vs) (hd : DpAll [] M vs ds) (h2 : SqL [] B b us) (he : DpAll [] M us es) : ItOk (Itz K a b) B M (zipD ds es) := by
  intro i H O dm sb sm
  refine ⟨fun z e => ?_, fun e => ⟨vs, us, seq_any (Same.seq sb h), seq_any (Same.seq sb h2), by rw [DpAll.length hd, DpAll.length he]; rw [zipD_len] at e; omega⟩⟩
  obtain ⟨d, g, e0, e1, rfl⟩ := zipD_get _ _ _ _ e
  obtain ⟨v, hv, kd⟩ := DpAll.get hd e0
  obtain ⟨u, hu, ke⟩ := DpAll.get he e1
  refine ⟨⟨vs, us, v, u, seq_any (Same.seq sb h), seq_any (Same.seq sb h2), hv, hu⟩, fun x H' y => ?_⟩
  obtain ⟨T, x0, y0, rfl, hT, rfl, y1, y2⟩ := y
  have q1 := y1 vs (seq_any (Same.seq sb h))
  rw [hv] at q1
  cases q1
  have q2 := y2 us (seq_any (Same.seq sb h2))
  rw [hu] at q2
  cases q2
  have sn : Same H (upd H T (.tup [v, u])) := same_new hT
  have mm := mask_mono (O := O) (O' := O) sn fun a e => .inl e
  exact ⟨sn, .tup (mask_of (dm.out hT) upd_same) (.cons (dp_mono mm _ _ (dp_mono sm _ _ kd)) (.cons (dp_mono mm _ _ (dp_mono sm _ _ ke)) .nil))⟩

/-! the walks -/
section
variable {X : Cx} {tg : Expr} {c : Ctx}
/-- a list, a tuple, a text that is walked -/
theorem pi_any {l : Expr} {tl : TE} (hl : PE X l tl) : PI X tg l (fun σ H Rr => tl σ H fun x H1 => (∃ a, x = .ref a ∧ (∃ xs, SqL X.K H1 a xs) ∧ Rr (Itl X.K a) H1) ∨ (∃ a, x = .ref a ∧ (∃ xs, SqT X.K H1 a xs) ∧ Rr (Itt X.K a) H1) ∨ ∃ z, x = .str z ∧ Rr (L2.Its z) H1) := by
  refine ⟨fun pins s σ H Rr I h => ?_⟩
  have go : ∀ v s1 x H1, Inv X pins σ H1 s1 → RelV x v → ((∃ a, x = .ref a ∧ (∃ xs, SqL X.K H1 a xs) ∧ Rr (Itl X.K a) H1) ∨ (∃ a, x = .ref a ∧ (∃ xs, SqT X.K H1 a xs) ∧ Rr (Itt X.K a) H1) ∨ ∃ z, x = .str z ∧ Rr (L2.Its z) H1) →
      wpAny (model X.prog X.w) X.A (pyIter v) (PIE X pins σ tg Rr) X.xe s1 := by
    intro v s1 x H1 I1 r1 q1
    have fp : ∀ b ∈ [s1.heap.objs.size], FpOk X pins H1 b := fun b hb => by
      rw [List.mem_singleton.mp hb]
      exact I1.fpOk (Nat.le_refl _) (I1.hok.fresh (Nat.le_refl _))
    rcases q1 with ⟨a, e, ⟨xs, hq⟩, q⟩ | ⟨a, e, ⟨xs, hq⟩, q⟩ | ⟨z, e, q⟩
    · subst e
      cases r1
      obtain ⟨its, rv, p, hz⟩ := I1.list hq
      exact wpAny_pyIter_list p.isList ⟨s1.heap.objs.size, [s1.heap.objs.size], _, _, H1, rfl, I1.kept (t' := s1.toks) fun b o e => Heap.get?_push_of_some _ e, turn_list a _, ⟨_, Heap.get?_push_size _ rfl, rfl, rfl⟩, fp, q⟩
    · subst e
      cases r1
      obtain ⟨its, rv, p, hz⟩ := I1.tuple hq
      exact wpAny_pyIter_tuple (show s1.heap.IsTuple a its.toArray from p) ⟨s1.heap.objs.size, [s1.heap.objs.size], _, _, H1, rfl, I1.kept (t' := s1.toks) fun b o e => Heap.get?_push_of_some _ e, turn_tuple a _, ⟨_, Heap.get?_push_size _ rfl, rfl, rfl⟩, fp, q⟩
    · subst e
      obtain ⟨t, rfl⟩ := r1
      cases ha : z.cps.all (· < 128)
      · exact wpAny_pyIter_wide ha (pi_one (tk := s1.toks) I1 _ (turn_str _ z t "str_iterator" (.inr rfl)) ⟨_, Heap.get?_push_size _ rfl, rfl, rfl⟩ q)
      · exact wpAny_pyIter_ascii ha (pi_one (tk := s1.toks) I1 _ (turn_str _ z t "str_ascii_iterator" (.inl rfl)) ⟨_, Heap.get?_push_size _ rfl, rfl, rfl⟩ q)
  exact thn (hl.run pins s σ H _ I h) fun v s1 ⟨x, H1, I1, r1, q1⟩ => go v s1 x H1 I1 r1 q1
def seqD : D → R (List D)
  | .list ds => .ok ds
  | .tuple ds => .ok ds
  | .str z => .ok (chars z)
  | _ => .no
def walkb (p : Bool) (o : Own) : Bool := if p = true then itmb o else fz o
/-- a temporary's items, by the way it is walked -/
theorem bs_itm {p : Bool} {o : Own} {H : Hp} {O : Addr → Bool} {x : V} {d : D} (hd : Dom H O) (hw : walkb p o = true) (t : Tmp H O x d o) :
    (flatD d = true ∧ Dp [] H x d) ∨ (∃ a vs ds, x = .ref a ∧ d = .list ds ∧ SqL [] (bse p H O) a vs ∧ DpAll [] (mask H O) vs ds) ∨ ((∃ a vs ds, x = .ref a ∧ d = .tuple ds ∧ bse p H O a = some (.tup vs) ∧ DpAll [] (mask H O) vs ds) ∨ ∃ ps, d = .dict ps ∧ DcM [] H O x ps) := by
  cases p with
  | true => exact t.its hd hw
  | false =>
    have k := t.fz hd hw
    cases k with
    | non => exact .inl ⟨rfl, .non⟩
    | bl b => exact .inl ⟨rfl, .bl b⟩
    | int i => exact .inl ⟨rfl, .int i⟩
    | str i => exact .inl ⟨rfl, .str i⟩
    | lst k1 k2 => exact .inr (.inl ⟨_, _, _, rfl, rfl, k1, k2⟩)
    | tup k1 k2 => exact .inr (.inr (.inl ⟨_, _, _, rfl, rfl, k1, k2⟩))
    | dck k1 k2 => exact .inr (.inr (.inr ⟨_, rfl, .inl ⟨_, _, rfl, mask_le _ _ k1, k2⟩⟩))
    | dct k1 k2 => exact .inr (.inr (.inr ⟨_, rfl, .inr ⟨_, _, _, rfl, rfl, mask_le _ _ k1, k2⟩⟩))
theorem bse_le {p : Bool} {H : Hp} {O : Addr → Bool} : Same (bse p H O) H := by
  cases p
  · exact mask_le
  · exact Same.refl _
theorem pi_seq {p : Bool} {l : Expr} {f : Ev → R D} {o : Own} (hl : PE X l (tE c f o)) (hw : walkb p o = true) : PI X tg l (tI c p fun env => f env >>= seqD) := by
  refine PI.imp (pi_any hl) fun σ H Rr ⟨env, O, a, h⟩ => ?_
  refine tE_bind a up_it h fun d x H1 _ s1 a1 t h1 => ?_
  rcases bs_itm a1.dom hw t with ⟨z, k⟩ | ⟨a, vs, ds, rfl, rfl, k1, k2⟩ | ⟨a, vs, ds, rfl, rfl, k1, k2⟩ | ⟨ps, rfl, _⟩
  · cases k <;> first | exact h1.elim | cases z | skip
    exact .inr (.inr ⟨_, rfl, h1 _ H1 (Same.refl _) itok_str⟩)
  · exact .inl ⟨a, rfl, ⟨vs, seq_any (Same.seq bse_le k1)⟩, h1 _ H1 (Same.refl _) (itok_list k1 k2)⟩
  · exact .inr (.inl ⟨a, rfl, ⟨vs, tup_any (bse_le _ _ k1)⟩, h1 _ H1 (Same.refl _) (itok_tup k1 k2)⟩)
  · exact h1.elim
def rngOk (i : Int) : Bool := decide (-4611686018427387904 ≤ i) && decide (i < 4611686018427387904)
theorem rngOk_of {i : Int} (h : rngOk i = true) : -(2 ^ 62) ≤ i ∧ i < 2 ^ 62 := by
  unfold rngOk at h
  simp only [Bool.and_eq_true, decide_eq_true_eq] at h
  omega
def rng1D : List D → R (List D)
  | [.int j] => if rngOk j = true then .ok (rngD 0 j.toNat) else .no
  | _ => .no
def rng2D : List D → R (List D)
  | [.int i, .int j] => if rngOk i = true ∧ rngOk j = true then .ok (rngD i (j - i).toNat) else .no
  | _ => .no
def rngnD : List D → R (List D)
  | [.int i, .int j, .int (-1)] => if rngOk i = true ∧ rngOk j = true then .ok (rngS i (-1) (i - j).toNat) else .no
  | _ => .no
theorem rpS_dp {H : Hp} {O : Addr → Bool} {vs : List V} {ds : List D} {os : Own} {A : List Addr} (h : RpS [] H O vs ds os A) : DpAll [] H vs ds := h.dp
theorem pi_r1 {p : Bool} {a : Expr} {f : Ev → R (List D)} {os : Own} {q pos : Pos} (hg : Gl X "range") (hm : X.mg "range" = none) (ha : PA X [a] (tA c f os)) (hs : starEach [a] X.env = [(false, eval a X.env)]) :
    PI X tg (.Call (.Name "range" q) [a] [] pos) (tI c p fun env => f env >>= rng1D) := by
  refine PI.imp (pi_range1 hg hm ha hs) fun σ H Rr ⟨env, O, at_, h⟩ => ?_
  refine tA_bind at_ h fun ds vs H1 A _ s1 fr r h1 => ?_
  unfold rng1D at h1
  split at h1
  · split at h1
    · rename_i hr
      obtain ⟨v, rfl, k⟩ := dp1 r.dp
      obtain ⟨b1, b2⟩ := rngOk_of hr
      exact ⟨_, by rw [dpInt k], b1, b2, h1 _ H1 s1 itok_rng⟩
    · exact h1.elim
  · exact h1.elim
theorem pi_r2 {p : Bool} {a b : Expr} {f : Ev → R (List D)} {os : Own} {q pos : Pos} (hg : Gl X "range") (hm : X.mg "range" = none) (ha : PA X [a, b] (tA c f os)) (hs : starEach [a, b] X.env = [(false, eval a X.env), (false, eval b X.env)]) (hs2 : starEach [b] X.env = [(false, eval b X.env)]) :
    PI X tg (.Call (.Name "range" q) [a, b] [] pos) (tI c p fun env => f env >>= rng2D) := by
  refine PI.imp (pi_range2 hg hm ha hs hs2) fun σ H Rr ⟨env, O, at_, h⟩ => ?_
  refine tA_bind at_ h fun ds vs H1 A _ s1 fr r h1 => ?_
  unfold rng2D at h1
  split at h1
  · split at h1
    · rename_i hr
      obtain ⟨v, u, rfl, k, k'⟩ := dp2 r.dp
      obtain ⟨b1, b2⟩ := rngOk_of hr.1
      obtain ⟨b3, b4⟩ := rngOk_of hr.2
      exact ⟨_, _, by rw [dpInt k, dpInt k'], ⟨b1, b2, b3, b4⟩, h1 _ H1 s1 itok_rng⟩
    · exact h1.elim
  · exact h1.elim
theorem pi_r3 {p : Bool} {a b d : Expr} {f : Ev → R (List D)} {os : Own} {q pos : Pos} (hg : Gl X "range") (hm : X.mg "range" = none) (ha : PA X [a, b, d] (tA c f os))
    (hs : starEach [a, b, d] X.env = (false, eval a X.env) :: starEach [b, d] X.env) (hpl : (backTo pos (starEach [b, d] X.env)).any (·.1) = false) :
    PI X tg (.Call (.Name "range" q) [a, b, d] [] pos) (tI c p fun env => f env >>= rngnD) := by
  refine PI.imp (pi_range3 hg hm ha hs hpl) fun σ H Rr ⟨env, O, at_, h⟩ => ?_
  refine tA_bind at_ h fun ds vs H1 A _ s1 fr r h1 => ?_
  unfold rngnD at h1
  split at h1
  · split at h1
    · rename_i hr
      obtain ⟨v, u, w, rfl, k, k', k2⟩ := dp3 r.dp
      obtain ⟨b1, b2⟩ := rngOk_of hr.1
      obtain ⟨b3, b4⟩ := rngOk_of hr.2
      exact ⟨_, _, _, _, by rw [dpInt k, dpInt k', dpInt k2], RgC.neg b1 b2 b3 b4, h1 _ H1 s1 itok_rngS⟩
    · exact h1.elim
  · exact h1.elim
def enum1D : List D → R (List D)
  | [.list ds] => .ok (enumD 0 ds)
  | _ => .no
def zip2D : List D → R (List D)
  | [.list ds, .list es] => .ok (zipD ds es)
  | _ => .no
def walks (p : Bool) : Own → Bool
  | .tn => true
  | .tc o r => walkb p o && walks p r
  | _ => false
/-- arguments that are walked -/
theorem rpS_tmp {p : Bool} {H : Hp} {O : Addr → Bool} (hd : Dom H O) : ∀ {ds : List D} {vs : List V} {os : Own} {A : List Addr} {O' : Addr → Bool}, (∀ a ∈ A, O a = false) → (∀ a, O a = true → O' a = true) → (∀ a, O' a = true → O a = true ∨ O' a = true) → walks p os = true → RpS [] H O' vs ds os A →
    ∀ (i : Nat) (v : V) (d : D), vs[i]? = some v → ds[i]? = some d → ∃ o, walkb p o = true ∧ ∃ B, (∀ b ∈ B, O b = false) ∧ Rp [] H O' v d o B
  | _, _, _, _, _, _, _, _, _, .nil, i, v, d, e1, e2 => by simp at e1
  | _, _, _, _, _, hA, h1, h2, hw, .cons r1 r2, i, v, d, e1, e2 => by
    have hw' := Bool.and_eq_true_iff.mp hw
    cases i with
    | zero =>
      simp at e1 e2
      subst e1 e2
      exact ⟨_, hw'.1, _, fun b hb => hA b (List.mem_append_left _ hb), r1⟩
    | succ i =>
      simp at e1 e2
      exact rpS_tmp hd (fun b hb => hA b (List.mem_append_right _ hb)) h1 h2 hw'.2 r2 i v d e1 e2
theorem bs_arg {p : Bool} {H : Hp} {O : Addr → Bool} {A : List Addr} {vs : List V} {ds : List D} {os : Own} (hd : Dom H O) (hA : ∀ a ∈ A, O a = false) (hw : walks p os = true) (r : RpS [] H (add O A) vs ds os A) (i : Nat) (v : V) (es : List D) (e1 : vs[i]? = some v) (e2 : ds[i]? = some (.list es)) :
    ∃ a us, v = .ref a ∧ SqL [] (bse p H O) a us ∧ DpAll [] (mask H O) us es := by
  obtain ⟨o, ho, B, hB, rr⟩ := rpS_tmp (p := p) hd hA (fun a h => add_true.mpr (.inl h)) (fun a h => .inr h) hw r i v _ e1 e2
  have o1 : ∀ a, O a = true → add O A a = true := fun a h => add_true.mpr (.inl h)
  cases p with
  | true =>
    rcases rr.its hd o1 hB ho with ⟨z, _⟩ | ⟨a, us, _, rfl, e, k1, k2⟩ | ⟨_, _, _, _, e, _, _⟩ | ⟨_, e, _⟩
    · cases z
    · cases e
      exact ⟨a, us, rfl, k1, k2⟩
    · cases e
    · cases e
  | false =>
    have k := rr.freeze hd o1 hB ho
    cases k with
    | @lst a us _ k1 k2 => exact ⟨a, us, rfl, k1, k2⟩
theorem pi_en {p : Bool} {a : Expr} {elts : List Expr} {kk : Nat} {tpos : Pos} {f : Ev → R (List D)} {os : Own} {q pos : Pos} (hg : Gl X "enumerate") (hm : X.mg "enumerate" = none) (ha : PA X [a] (tA c f os)) (hw : walks p os = true) (hs : starEach [a] X.env = [(false, eval a X.env)]) :
    PI X (.Tuple elts kk tpos) (.Call (.Name "enumerate" q) [a] [] pos) (tI c p fun env => f env >>= enum1D) := by
  refine PI.imp (pi_enum hg hm ha hs) fun σ H Rr ⟨env, O, at_, h⟩ => ?_
  refine tA_bind at_ h fun ds vs H1 A _ s1 fr r h1 => ?_
  unfold enum1D at h1
  split at h1
  · obtain ⟨v, rfl, k⟩ := dp1 r.dp
    obtain ⟨a, us, rfl, k1, k2⟩ := bs_arg (p := p) (at_.dom.mono s1) (fr.disj at_.dom) hw r 0 v _ rfl rfl
    exact ⟨a, us, rfl, seq_any (Same.seq bse_le k1), h1 _ H1 s1 (itok_enum k1 k2)⟩
  · exact h1.elim
theorem pi_zp {p : Bool} {a b : Expr} {elts : List Expr} {kk : Nat} {tpos : Pos} {f : Ev → R (List D)} {os : Own} {q pos : Pos} (hg : Gl X "zip") (hm : X.mg "zip" = none) (ha : PA X [a, b] (tA c f os)) (hw : walks p os = true)
    (hs : starEach [a, b] X.env = (false, eval a X.env) :: starEach [b] X.env) (hpl : (backTo pos (starEach [b] X.env)).any (·.1) = false) :
    PI X (.Tuple elts kk tpos) (.Call (.Name "zip" q) [a, b] [] pos) (tI c p fun env => f env >>= zip2D) := by
  refine PI.imp (pi_zip hg hm ha hs hpl) fun σ H Rr ⟨env, O, at_, h⟩ => ?_
  refine tA_bind at_ h fun ds vs H1 A _ s1 fr r h1 => ?_
  unfold zip2D at h1
  split at h1
  · obtain ⟨v, u, rfl, k, k'⟩ := dp2 r.dp
    obtain ⟨a, us, rfl, k1, k2⟩ := bs_arg (p := p) (at_.dom.mono s1) (fr.disj at_.dom) hw r 0 v _ rfl rfl
    obtain ⟨b, ws, rfl, k3, k4⟩ := bs_arg (p := p) (at_.dom.mono s1) (fr.disj at_.dom) hw r 1 u _ rfl rfl
    exact ⟨a, b, us, ws, rfl, seq_any (Same.seq bse_le k1), seq_any (Same.seq bse_le k3), h1 _ H1 s1 (itok_zip k1 k2 k3 k4)⟩
  · exact h1.elim
end
end Pv

namespace Pv
open PySem PySem.Spec PyProof.Rows L2

/-! targets -/
mutual
inductive G where
  | nm (i : Nat)
  | tp (gs : Gs)
  | ls (gs : Gs)
inductive Gs where
  | nil
  | cons (g : G) (r : Gs)
end
mutual
def gset : G → D → Ev → R Ev
  | .nm i, d, env => .ok (put env i (some (d, true)))
  | .tp gs, d, env => match d with
    | .tuple ds => gsets gs ds env
    | _ => .no
  | .ls gs, d, env => match d with
    | .list ds => gsets gs ds env
    | _ => .no
def gsets : Gs → List D → Ev → R Ev
  | .nil, [], env => .ok env
  | .cons g r, d :: ds, env => gset g d env >>= fun e => gsets r ds e
  | _, _, _ => .no
end
mutual
def gslots : G → List Nat
  | .nm i => [i]
  | .tp gs => gsslots gs
  | .ls gs => gsslots gs
def gsslots : Gs → List Nat
  | .nil => []
  | .cons g r => gslots g ++ gsslots r
end
def Gs.len : Gs → Nat
  | .nil => 0
  | .cons _ r => r.len + 1
mutual
def tgG (K : PySem.W.Frag) : G → TG
  | .nm i => gName i
  | .tp gs => gTup K gs.len (tgGs K gs)
  | .ls gs => gLst K gs.len (tgGs K gs)
def tgGs (K : PySem.W.Frag) : Gs → TGs
  | .nil => gNil
  | .cons g r => gCons (tgG K g) (tgGs K r)
end

theorem lk_put : ∀ (env : Ev) (i j : Nat) (v : Option (D × Bool)), lk (put env i v) j = if j = i then (if i < env.length then v else none) else lk env j
  | [], i, j, v => by
    show lk [] j = _
    simp [lk]
  | x :: r, 0, 0, v => by simp [put, lk]
  | x :: r, 0, j + 1, v => by simp [put, lk]
  | x :: r, i + 1, 0, v => by simp [put, lk]
  | x :: r, i + 1, j + 1, v => by
    show lk (put r i v) j = _
    rw [lk_put r i j v]
    simp [lk]
theorem put_len : ∀ (env : Ev) (i : Nat) (v : Option (D × Bool)), (put env i v).length = env.length
  | [], _, _ => rfl
  | _ :: _, 0, _ => rfl
  | x :: r, i + 1, v => by
    show (put r i v).length + 1 = r.length + 1
    rw [put_len r i v]
theorem lk_none : ∀ (env : Ev) (i : Nat), env.length ≤ i → lk env i = none
  | [], _, _ => rfl
  | x :: r, 0, h => by simp at h
  | x :: r, i + 1, h => lk_none r i (by simpa using h)

/-- a frozen value is stored -/
theorem EnvR.put {H : Hp} {O : Addr → Bool} {Γ : Nat → Own} {env : Ev} {σ : L2.St} {i : Nat} {d : D} {v : V} (e : EnvR H O Γ env σ) (hl : env.length = σ.length) (k : Dp [] (mask H O) v d) : EnvR H O Γ (put env i (some (d, true))) (σ.set i (some v)) := fun j d' b hj => by
  rw [lk_put] at hj
  by_cases h : j = i
  · rw [if_pos h] at hj
    split at hj
    · rename_i hi
      cases hj
      subst h
      exact ⟨v, by rw [List.getElem?_set_self (by omega)], k⟩
    · cases hj
  · rw [if_neg h] at hj
    obtain ⟨w, hw, q⟩ := e j d' b hj
    exact ⟨w, by rw [List.getElem?_set_ne (Ne.symm h)]; exact hw, q⟩

/-- a general state about which targets are set: an invariant under storing frozen values -/
def Stores (P : Ev → L2.St → Prop) (M : Hp) : Prop := ∀ env σ i d v, P env σ → Dp [] M v d → P (put env i (some (d, true))) (σ.set i (some v))
mutual
theorem gset_ok {K : PySem.W.Frag} {P : Ev → L2.St → Prop} {H : Hp} {O : Addr → Bool} (st : Stores P (mask H O)) : ∀ (g : G) (d : D) (v : V) (env env' : Ev) (σ : L2.St) (Q : L2.St → Hp → Prop), Dp [] (mask H O) v d → gset g d env = .ok env' → P env σ →
    (∀ σ', P env' σ' → (∀ vs, (∀ i ∈ gslots g, i ∈ vs) → wipe σ' vs = wipe σ vs) → Q σ' H) → tgG K g v σ H Q
  | .nm i, d, v, env, env', σ, Q, k, h, p, q => by
    cases h
    refine q _ (st env σ i d v p k) fun vs hv => ?_
    exact wipe_set (hv i (by simp [gslots]))
  | .tp gs, .tuple ds, v, env, env', σ, Q, k, h, p, q => by
    cases k with
    | @tup a vs _ k1 k2 =>
      have hl := gsets_len gs ds env env' h
      exact ⟨a, vs, rfl, tup_any (mask_le _ _ k1), by rw [DpAll.length k2, hl], gsets_ok st gs ds vs env env' σ Q k2 h p q⟩
  | .tp gs, .none, v, env, env', σ, Q, k, h, p, q => by cases h
  | .tp gs, .bool _, v, env, env', σ, Q, k, h, p, q => by cases h
  | .tp gs, .int _, v, env, env', σ, Q, k, h, p, q => by cases h
  | .tp gs, .str _, v, env, env', σ, Q, k, h, p, q => by cases h
  | .tp gs, .list _, v, env, env', σ, Q, k, h, p, q => by cases h
  | .tp gs, .dict _, v, env, env', σ, Q, k, h, p, q => by cases h
  | .ls gs, .list ds, v, env, env', σ, Q, k, h, p, q => by
    cases k with
    | @lst a vs _ k1 k2 =>
      have hl := gsets_len gs ds env env' h
      exact ⟨a, vs, rfl, seq_any (Same.seq mask_le k1), by rw [DpAll.length k2, hl], gsets_ok st gs ds vs env env' σ Q k2 h p q⟩
  | .ls gs, .none, v, env, env', σ, Q, k, h, p, q => by cases h
  | .ls gs, .bool _, v, env, env', σ, Q, k, h, p, q => by cases h
  | .ls gs, .int _, v, env, env', σ, Q, k, h, p, q => by cases h
  | .ls gs, .str _, v, env, env', σ, Q, k, h, p, q => by cases h
  | .ls gs, .tuple _, v, env, env', σ, Q, k, h, p, q => by cases h
  | .ls gs, .dict _, v, env, env', σ, Q, k, h, p, q => by cases h
theorem gsets_ok {K : PySem.W.Frag} {P : Ev → L2.St → Prop} {H : Hp} {O : Addr → Bool} (st : Stores P (mask H O)) : ∀ (gs : Gs) (ds : List D) (vs : List V) (env env' : Ev) (σ : L2.St) (Q : L2.St → Hp → Prop), DpAll [] (mask H O) vs ds → gsets gs ds env = .ok env' → P env σ →
    (∀ σ', P env' σ' → (∀ vs, (∀ i ∈ gsslots gs, i ∈ vs) → wipe σ' vs = wipe σ vs) → Q σ' H) → tgGs K gs vs σ H Q
  | .nil, [], vs, env, env', σ, Q, k, h, p, q => by
    cases k
    cases h
    exact ⟨rfl, q σ p fun _ _ => rfl⟩
  | .nil, _ :: _, vs, env, env', σ, Q, k, h, p, q => by cases h
  | .cons g r, [], vs, env, env', σ, Q, k, h, p, q => by cases h
  | .cons g r, d :: ds, vs, env, env', σ, Q, k, h, p, q => by
    cases k with
    | @cons v vs _ _ k1 k2 =>
      have h : (gset g d env >>= fun e => gsets r ds e) = .ok env' := h
      cases h1 : gset g d env with
      | no => rw [h1] at h; cases h
      | exc c => rw [h1] at h; cases h
      | ok env1 =>
        rw [h1] at h
        refine ⟨v, vs, rfl, gset_ok st g d v env env1 σ _ k1 h1 p fun σ1 p1 w1 => ?_⟩
        refine gsets_ok st r ds vs env1 env' σ1 Q k2 h p1 fun σ2 p2 w2 => q σ2 p2 fun us hu => ?_
        exact (w2 us fun i hi => hu i (by simp only [gsslots, List.mem_append]; exact .inr hi)).trans (w1 us fun i hi => hu i (by simp only [gsslots, List.mem_append]; exact .inl hi))
theorem gsets_len : ∀ (gs : Gs) (ds : List D) (env env' : Ev), gsets gs ds env = .ok env' → ds.length = gs.len
  | .nil, [], _, _, _ => rfl
  | .nil, _ :: _, _, _, h => by cases h
  | .cons g r, [], _, _, h => by cases h
  | .cons g r, d :: ds, env, env', h => by
    have h : (gset g d env >>= fun e => gsets r ds e) = .ok env' := h
    cases h1 : gset g d env with
    | no => rw [h1] at h; cases h
    | exc c => rw [h1] at h; cases h
    | ok env1 =>
      rw [h1] at h
      show ds.length + 1 = r.len + 1
      rw [gsets_len r ds env1 env' h]
theorem wipe_set {σ : L2.St} {i : Nat} {v : Option V} : ∀ {vs : List Nat}, i ∈ vs → wipe (σ.set i v) vs = wipe σ vs
  | u :: vs, h => by
    unfold wipe
    by_cases e : i ∈ vs
    · rw [wipe_set e]
    · have e2 : i = u := by
        rcases List.mem_cons.mp h with z | z
        · exact z
        · exact absurd z e
      subst e2
      apply List.ext_getElem?
      intro j
      by_cases hj : j = i
      · subst hj
        simp only [List.getElem?_set, wipe_length, List.length_set, if_true]
      · rw [List.getElem?_set_ne (Ne.symm hj), List.getElem?_set_ne (Ne.symm hj)]
        by_cases hv : j ∈ vs
        · have w0 : ∀ (τ : L2.St), j < τ.length → (wipe τ vs)[j]? = some none := fun τ ht => wipe_in hv ht
          by_cases hl : j < σ.length
          · rw [w0 _ (by rw [List.length_set]; exact hl), w0 _ hl]
          · rw [List.getElem?_eq_none (by rw [wipe_length, List.length_set]; omega), List.getElem?_eq_none (by rw [wipe_length]; omega)]
        · rw [wipe_out hv, wipe_out hv, List.getElem?_set_ne (Ne.symm hj)]
theorem wipe_in {σ : L2.St} {j : Nat} : ∀ {vs : List Nat}, j ∈ vs → j < σ.length → (wipe σ vs)[j]? = some none
  | u :: vs, h, hl => by
    unfold wipe
    by_cases e : j = u
    · subst e
      rw [List.getElem?_set_self (by rw [wipe_length]; exact hl)]
    · rw [List.getElem?_set_ne (Ne.symm e)]
      rcases List.mem_cons.mp h with z | z
      · exact absurd z e
      · exact wipe_in z hl
end

theorem wipe_twice (σ : L2.St) (vs : List Nat) : wipe (wipe σ vs) vs = wipe σ vs := by
  apply List.ext_getElem?
  intro j
  by_cases h : j ∈ vs
  · by_cases hl : j < σ.length
    · rw [wipe_in h (by rw [wipe_length]; exact hl), wipe_in h hl]
    · rw [List.getElem?_eq_none (by rw [wipe_length, wipe_length]; omega), List.getElem?_eq_none (by rw [wipe_length]; omega)]
  · rw [wipe_out h]
/-! a comprehension -/
def goC (f : D → R (Option D)) : List D → List D → R (List D)
  | [], acc => .ok acc
  | x :: r, acc => match f x with
    | .ok (some d) => if acc.length < 16777216 then goC f r (acc ++ [d]) else .no
    | .ok none => goC f r acc
    | _ => .no
def wipeE (env : Ev) : List Nat → Ev
  | [] => env
  | i :: r => put (wipeE env r) i none
theorem wipeE_len (env : Ev) : ∀ ws, (wipeE env ws).length = env.length
  | [] => rfl
  | i :: r => by
    show (put (wipeE env r) i none).length = _
    rw [put_len, wipeE_len env r]
theorem EnvR.wipe {H : Hp} {O : Addr → Bool} {Γ : Nat → Own} {env : Ev} {σ : L2.St} (e : EnvR H O Γ env σ) : ∀ ws : List Nat, EnvR H O Γ (wipeE env ws) (L2.wipe σ ws)
  | [] => e
  | i :: r => fun j d b hj => by
    have hj : lk (Pv.put (wipeE env r) i none) j = some (d, b) := hj
    rw [lk_put] at hj
    by_cases h : j = i
    · rw [if_pos h] at hj
      split at hj <;> cases hj
    · rw [if_neg h] at hj
      obtain ⟨v, hv, q⟩ := EnvR.wipe e r j d b hj
      refine ⟨v, ?_, q⟩
      show ((L2.wipe σ r).set i none)[j]? = _
      rw [List.getElem?_set_ne (Ne.symm h)]
      exact hv
def step (g : G) (ws : List Nat) (ft : Ev → R Bool) (fe : Ev → R D) (env : Ev) (x : D) : R (Option D) :=
  match gset g x (wipeE env ws) with
  | .ok env1 => match ft env1 with
    | .ok true => match fe env1 with
      | .ok d => .ok (some d)
      | _ => .no
    | .ok false => .ok none
    | _ => .no
  | _ => .no
def ctxB (c : Ctx) : Ctx := { c with W := fun _ _ _ => False }
section
variable {X : Cx} {c : Ctx}
theorem RpA.snoc {K : PySem.W.Frag} {H : Hp} {O : Addr → Bool} {vs : List V} {ds : List D} {o : Own} {A : List Addr} {v : V} {d : D} {B : List Addr} (hr : Rp K H O v d o B) : RpA K H O vs ds o A → RpA K H O (vs ++ [v]) (ds ++ [d]) o (A ++ B)
  | .nil => by
    have := RpA.cons hr (RpA.nil (K := K) (H := H) (O := O) (o := o))
    rw [List.append_nil] at this
    exact this
  | .cons h1 h2 => by
    rw [List.append_assoc]
    exact .cons h1 (RpA.snoc hr h2)
theorem comp_read {wi : TI} {g : G} {tt : TT} {te : TE} {ws : List Nat} {fi : Ev → R (List D)} {ft : Ev → R Bool} {fe : Ev → R D} {o : Own} (hw : wi = tI c true fi) (ht : tt = tT (ctxB c) ft) (he : te = tE (ctxB c) fe o) (hfz : fz o = true) (hs : ∀ i ∈ gslots g, i ∈ ws) {K : PySem.W.Frag} {σ : L2.St} {H0 : Hp} {Q : VK}
    (h : tE c (fun env => fi env >>= fun items => goC (step g ws ft fe env) items [] >>= fun ds => .ok (.list ds)) (.lst o) σ H0 Q) : tLc wi (tgG K g) tt te ws σ H0 Q := by
  subst hw ht he
  obtain ⟨env, O, a, h⟩ := h
  have h : AnsP (c.W σ) H0 (fi env >>= fun items => goC (step g ws ft fe env) items [] >>= fun ds => .ok (.list ds)) (Gv O (.lst o) Q) := h
  refine ⟨env, O, a, ?_⟩
  cases hfi : fi env with
  | no => rw [hfi] at h; exact h
  | exc x => rw [hfi] at h; exact h
  | ok items =>
    rw [hfi] at h
    have h : AnsP (c.W σ) H0 (goC (step g ws ft fe env) items [] >>= fun ds => .ok (.list ds)) (Gv O (.lst o) Q) := h
    intro J H1 s01 hJ D hD
    refine ⟨fun i m H => m = items.length - i ∧ i ≤ items.length ∧ ∃ vs ds A, H D = some (.lst vs) ∧ Same H1 H ∧ A.Nodup ∧ D ∉ A ∧ (∀ b ∈ A, H1 b = none ∧ Mut H b) ∧ RpA [] H (add O (D :: A)) vs ds o A ∧
        AnsP (c.W σ) H0 (goC (step g ws ft fe env) (items.drop i) ds >>= fun ds => .ok (.list ds)) (Gv O (.lst o) Q), ⟨items.length, rfl, Nat.zero_le _, [], [], [], upd_same, same_new hD, List.nodup_nil, (fun z => nomatch z), (fun b z => nomatch z), .nil, h⟩, ?_⟩
    rintro i m H ⟨rfl, hi, vs, ds, A, hHD, s1, nd, hDA, hA, hr, hans⟩
    have dom : Dom H (add O (D :: A)) := fun b hb => by
      rcases add_true.mp hb with z | z
      · exact (a.dom.mono (s01.trans s1)) b z
      · rcases List.mem_cons.mp z with z | z
        · rw [z]; exact .lst hHD
        · exact (hA b z).2
    have newO : ∀ b, add O (D :: A) b = true → O b = true ∨ H1 b = none := fun b hb => by
      rcases add_true.mp hb with z | z
      · exact .inl z
      · rcases List.mem_cons.mp z with z | z
        · rw [z]; exact .inr hD
        · exact .inr (hA b z).1
    obtain ⟨go, stop⟩ := hJ i H (add O (D :: A)) dom s1 (mask_mono s1 newO)
    by_cases hlt : i < items.length
    · have hd : items.drop i = items[i] :: items.drop (i + 1) := List.drop_eq_getElem_cons hlt
      obtain ⟨g1, yl⟩ := go items[i] (List.getElem?_eq_getElem hlt)
      rw [hd] at hans
      refine .inr ⟨g1, fun H' => ∃ vs ds A, H' D = some (.lst vs) ∧ Same H1 H' ∧ A.Nodup ∧ D ∉ A ∧ (∀ b ∈ A, H1 b = none ∧ Mut H' b) ∧ RpA [] H' (add O (D :: A)) vs ds o A ∧
        AnsP (c.W σ) H0 (goC (step g ws ft fe env) (items.drop (i + 1)) ds >>= fun ds => .ok (.list ds)) (Gv O (.lst o) Q), fun H' n => ⟨items.length - (i + 1), by omega, rfl, by omega, n⟩, fun x H2 y => ?_⟩
      obtain ⟨s2, kx⟩ := yl x H2 y
      have at2 : At (ctxB c) H2 (add O (D :: A)) (wipeE env ws) (L2.wipe σ ws) := by
        refine ⟨dom.mono s2, EnvR.wipe (a.er.mono (s01.trans (s1.trans s2)) (fun b hb => ?_) fun b hb => add_true.mpr (.inl hb)) ws, by rw [wipeE_len, L2.wipe_length]; exact a.len⟩
        rcases newO b hb with z | z
        · exact .inl z
        · exact .inr (s01.free z)
      -- what is asked of the turn
      unfold goC at hans
      cases hg : gset g items[i] (wipeE env ws) with
      | no => simp only [step, hg] at hans; exact hans.elim
      | exc z => simp only [step, hg] at hans; exact hans.elim
      | ok env1 =>
        refine gset_ok (P := fun e τ => At (ctxB c) H2 (add O (D :: A)) e τ) (fun e τ j d v p k => ⟨p.dom, EnvR.put p.er p.len k, by rw [put_len, List.length_set]; exact p.len⟩) g _ x _ env1 _ _ kx hg at2 fun σ2 p2 w2 => ⟨(w2 ws hs).trans (wipe_twice σ ws), ?_⟩
        refine ⟨env1, _, p2, ?_⟩
        cases hft : ft env1 with
        | no => simp only [step, hg, hft] at hans; exact hans.elim
        | exc z => simp only [step, hg, hft] at hans; exact hans.elim
        | ok b =>
          intro H3 s3
          cases b with
          | false =>
            simp only [step, hg, hft] at hans
            refine (if_neg (by decide)).mpr ?_
            have s13 : Same H H3 := s2.trans s3
            exact ⟨vs, ds, A, s13 _ _ hHD, s1.trans s13, nd, hDA, fun b hb => ⟨(hA b hb).1, (hA b hb).2.mono s13⟩, RpA.mono s13 (fun b hb => .inl hb) (fun b hb => add_true.mpr (.inr (List.mem_cons_of_mem _ hb))) hr, hans⟩
          | true =>
            refine (if_pos rfl).mpr ⟨env1, _, p2.later s3, ?_⟩
            cases hfe : fe env1 with
            | no => simp only [step, hg, hft, hfe] at hans; exact hans.elim
            | exc z => simp only [step, hg, hft, hfe] at hans; exact hans.elim
            | ok d =>
              simp only [step, hg, hft, hfe] at hans
              intro y H4 B s4 fr ry
              have s14 : Same H H4 := (s2.trans s3).trans s4
              split at hans
              · rename_i hsz
                have hl : vs.length = ds.length := DpAll.length hr.dp
                refine ⟨vs, s14 _ _ hHD, by rw [hl, ← sz]; exact hsz, vs ++ [y], ds ++ [d], A ++ B, upd_same, fun b z e => ?_, ?_, ?_, fun b hb => ?_, ?_, hans⟩
                · have hb : b ≠ D := ne_of_none e hD
                  rw [upd_ne hb]
                  exact s14 _ _ (s1 _ _ e)
                · refine List.nodup_append.mpr ⟨nd, fr.nd, fun p hp q hq e => ?_⟩
                  subst e
                  exact ((hA p hp).2.mono (s2.trans s3)).no (fr.new p hq)
                · intro z
                  rcases List.mem_append.mp z with z | z
                  · exact hDA z
                  · have := (s2.trans s3) _ _ hHD
                    rw [fr.new D z] at this
                    cases this
                · have hbD : b ≠ D := fun e => by
                    subst e
                    rcases List.mem_append.mp hb with z | z
                    · exact hDA z
                    · have := (s2.trans s3) _ _ hHD
                      rw [fr.new b z] at this
                      cases this
                  have keep : Mut H4 b → Mut (upd H4 D (.lst (vs ++ [y]))) b := fun ⟨o, e, q⟩ => ⟨o, by rw [upd_ne hbD]; exact e, q⟩
                  rcases List.mem_append.mp hb with z | z
                  · exact ⟨(hA b z).1, keep ((hA b z).2.mono s14)⟩
                  · exact ⟨Same.free (s1.trans (s2.trans s3)) (fr.new b z), keep (fr.lst b z)⟩
                · have d3 : Dom H3 (add O (D :: A)) := dom.mono (s2.trans s3)
                  have d4 : Dom H4 (add (add O (D :: A)) B) := d3.add s4 fr
                  have kp : ∀ (b : Addr) (z : HO), b ≠ D → H4 b = some z → (upd H4 D (.lst (vs ++ [y]))) b = some z := fun b z hb e => by rw [upd_ne hb]; exact e
                  have oD : ∀ b, add (add O (D :: A)) B b = false → b ≠ D := fun b hb e => by
                    subst e
                    have : add (add O (b :: A)) B b = true := add_true.mpr (.inl (add_true.mpr (.inr List.mem_cons_self)))
                    rw [hb] at this
                    cases this
                  have oo : ∀ b, add O (D :: (A ++ B)) b = true → add (add O (D :: A)) B b = true := fun b hb => by
                    rcases add_true.mp hb with z | z
                    · exact add_true.mpr (.inl (add_true.mpr (.inl z)))
                    · rcases List.mem_cons.mp z with z | z
                      · exact add_true.mpr (.inl (add_true.mpr (.inr (by rw [z]; exact List.mem_cons_self))))
                      · rcases List.mem_append.mp z with z | z
                        · exact add_true.mpr (.inl (add_true.mpr (.inr (List.mem_cons_of_mem _ z))))
                        · exact add_true.mpr (.inr z)
                  have hr4 : RpA [] H4 (add (add O (D :: A)) B) vs ds o A := RpA.mono s14 (fun b hb => (add_true.mp hb).elim .inl fun z => .inr (Same.free (s2.trans s3) (fr.new b z))) (fun b hb => add_true.mpr (.inl (add_true.mpr (.inr (List.mem_cons_of_mem _ hb))))) hr
                  refine RpA.snoc (Rp.keep d4 (fun b z e q => kp b z ?_ e) (fun b hb => .inl (oo b hb)) (fun b hb => add_true.mpr (.inr (List.mem_cons_of_mem _ (List.mem_append_right _ hb)))) hfz ry)
                    (RpA.keep d4 (fun b z e q => kp b z ?_ e) (fun b hb => .inl (oo b hb)) (fun b hb => add_true.mpr (.inr (List.mem_cons_of_mem _ (List.mem_append_left _ hb)))) hfz hr4)
                  · rcases q with q | q
                    · exact oD b q
                    · intro e
                      subst e
                      have := (s2.trans s3) _ _ hHD
                      rw [fr.new b q] at this
                      cases this
                  · rcases q with q | q
                    · exact oD b q
                    · exact fun e => hDA (e ▸ q)
              · exact hans.elim
    · have hn : i = items.length := by omega
      refine .inl ⟨stop (by omega), ?_⟩
      rw [hn, List.drop_length] at hans
      have hans : Gv O (.lst o) Q H0 (.list ds) := hans
      refine hans _ H (D :: A) (s01.trans s1) ⟨List.nodup_cons.mpr ⟨hDA, nd⟩, fun b hb => ?_, fun b hb => ?_⟩ (.lst hHD (add_true.mpr (.inr List.mem_cons_self)) hr)
      · rcases List.mem_cons.mp hb with z | z
        · rw [z]; exact s01.free hD
        · exact s01.free (hA b z).1
      · rcases List.mem_cons.mp hb with z | z
        · rw [z]; exact .lst hHD
        · exact (hA b z).2
end
end Pv

/-! part X: try with any number of clauses, each with a name or without -/
namespace Pv
open PySem PySem.Spec PyProof.Rows L2
structure Hdl where
  cls : Value
  at_ : Option Nat
  ts : Addr → Value → Option Addr → TS
def putO (σ : L2.St) (i : Option Nat) (v : Option V) : L2.St := match i with
  | none => σ
  | some i => σ.set i v
def goneO (D : Ends) (i : Option Nat) : Ends := { nx := fun σ H => D.nx (putO σ i none) H, rt := D.rt, bk := fun σ H => D.bk (putO σ i none) H, ct := fun σ H => D.ct (putO σ i none) H }
/-- the wish behind a try's body, clause by clause; n: the number of slots -/
def wHd (K : PySem.W.Frag) (n : Nat) (Wo : WX) (D : Ends) : List Hdl → WX
  | [] => Wo
  | h :: r => fun cls d σ H => ∃ b, PySem.W.exmOne K cls h.cls = some b ∧ (b = true → σ.length = n → ∀ a, H a = none → h.ts a cls d (goneO D h.at_) (putO σ h.at_ (some (.ref a))) H) ∧ (b = false → wHd K n Wo D r cls d σ H)
def NmOk (X : Cx) (nm : Option Str) (i : Option Nat) : Prop := match nm, i with
  | none, none => True
  | some n, some i => X.N[i]? = some n ∧ X.env.kindOf n = some .local
  | _, _ => False
inductive Hds (X : Cx) : List ExceptHandler → List Hdl → Prop
  | nil : Hds X [] []
  | cons {x : Str} {h : Hdl} {nm : Option Str} {b : Stmt} {bs : List Stmt} {p q : Pos} {es : List ExceptHandler} {l : List Hdl} (c : Names X x h.cls) (n : NmOk X nm h.at_)
      (s : ∀ (a : Addr) (oe : Obj) (cls : Value) (d : Option Addr) (pn : List (Addr × Obj)), Zc cls d oe → (∃ vs, oe.data = .fields vs) → PSs (X.suite a ((a, oe) :: pn)) (b :: bs) (h.ts a cls d)) (r : Hds X es l) :
      Hds X (.ExceptHandler (some (.Name x p)) nm (b :: bs) q :: es) (h :: l)
section
variable {X : Cx} {pins : List (Addr × Obj)} {σ : L2.St} {H : Hp} {sI s' : Shared} {B : Heap}
/-- an exception that landed is handled clause by clause -/
theorem hds_go {D : Ends} {Wo : WX} {a : Addr} {cls : Value} {d : Option Addr} (hN : X.N.Nodup) (hs : X.stack = X.env :: X.outer) (hf : X.env.frame = some X.env.locals) (tk : Takes X Wo) (J : Inv X pins σ H sI)
    (nb : ∀ b o, sI.heap.get? b = some o → b ∉ frs X.stack → B.get? b = some o) (os : s'.os = sI.os) (ag : AllBare s'.gens) (na : H a = none) {h3 : Heap} (fl3 : HandSPX.FlyingZ B (X.env :: X.outer) a (Zc cls d) h3) (up : sI.heap.UpToSlots h3)
    (nL : a ≠ X.env.locals) (nF : a ∉ X.fs) : ∀ {es : List ExceptHandler} {l : List Hdl}, Hds X es l → wHd X.K X.N.length Wo D l cls d σ H →
      wpAny (model X.prog X.w) X.A (handleBy (.ref a) X.env es) (SP X pins D) X.xe { s' with heap := h3 } := by
  intro es l hk
  have J3 : Inv X pins σ H { s' with heap := h3 } := J.landed nb fl3.1 up os ag
  obtain ⟨o3, v3, g3, z3, d3⟩ := fl3.there
  have S3 := J3.suite g3 d3 na nL nF
  induction hk with
  | nil =>
    intro w
    have held : wpAny (model X.prog X.w) X.A (setFlight (.ref a) X.env.frame) (fun _ s4 => wpAny (model X.prog X.w) X.A (throw (.ref a) : Sem Flow) (SP X pins D) X.xe s4) X.xe { s' with heap := h3 } := by
      rw [hf]
      exact HandSPX.setFlight_upZ fl3 fun h4 k4 u4 => wpAny_throw (tk _ _ ⟨a, B, sI, pins, σ, H, cls, d, rfl, J, nb, up.trans u4, .inr (.inr (by rw [hs]; exact k4)), na, os, ag, w⟩)
    have fl := fl3
    obtain ⟨_, _, _, oe, vs, T, oT, ts, he, _, hd, h1, _⟩ := fl
    refine wpAny_handleBy_nil ?_
    unfold PySem.passOn
    refine wpAny_bind (wpAny_field he hd h1 ?_)
    have ne : ¬ ((Value.ref T == Value.none) = true) := by simp
    rw [if_neg ne]
    first
      | exact wpAny_bind (wpAny_pure (wpAny_bind held))
      | exact wpAny_bind held
  | @cons x hd nm b₀ bs p q es2 l2 hc hn hsu r ih =>
    rintro ⟨b, e1, yes, no⟩
    have kind : PySem.W.Looks (model X.prog X.w) h3 (typeOf (.ref a)) cls := fun A Q E s k q => wpAny_typeOf_ref (k _ _ g3) (by rw [z3.1]; exact q)
    have looks := PySem.W.exm_one (M := model X.prog X.w) J3.kIn kind e1
    have named : ∀ {Q E : Value → Shared → Prop}, Q hd.cls { s' with heap := h3 } → wpAny (model X.prog X.w) (X.A.mark (some (.ref a))) (eval (.Name x p) X.env) Q E { s' with heap := h3 } := fun {Q E} q => by
      obtain ⟨g1, g2, g4 | ⟨g4, g5, g6⟩⟩ := hc
      · exact ld_glob (X := X.suite a ((a, o3) :: (X.pn ++ pins))) S3 g1 g4 q g2
      · exact ld_blt (X := X.suite a ((a, o3) :: (X.pn ++ pins))) S3 g1 g4 g5 q g6 g2
    refine wpAny_handleBy_cons (codeAny_handlers_test (named (looks.here ?_))) (fun q => nomatch q)
    cases b with
    | false => exact ih (no rfl)
    | true =>
      have body : ∀ {Q : Flow → Shared → Prop} {σ2 : L2.St} {D2 : Ends} {h4 : Heap} {o4 : Obj} {v4 : Array Value} {s5 : Shared} (e4 : h4.get? a = some o4) (z4 : Zc cls d o4) (d4 : o4.data = .fields v4),
          Inv (X.suite a ((a, o4) :: (X.pn ++ pins))) [] σ2 H s5 → hd.ts a cls d D2 σ2 H → (∀ f s6, SP (X.suite a ((a, o4) :: (X.pn ++ pins))) [] D2 f s6 → Q f s6) →
          wpAny (model X.prog X.w) (X.A.mark (some (.ref a))) (execs (b₀ :: bs) X.env) Q (fun _ _ => False) s5 := fun {Q σ2 D2 h4 o4 v4 s5} e4 z4 d4 S q k =>
        wpAny_mono ((hsu a o4 cls d (X.pn ++ pins) z4 ⟨v4, d4⟩).run [] s5 σ2 H D2 S q) k fun _ _ z => z
      obtain ⟨cc, ii, tt⟩ := hd
      cases nm with
      | none =>
        cases ii with
        | some i => exact hn.elim
        | none =>
          refine codeAny_handlers_suite (HandSPX.lands_againZ fl3 fun h4 fl4 u4 => ?_)
          have J4 : Inv X pins σ H { s' with heap := h4 } := J.landed nb fl4.1 (up.trans u4) os ag
          obtain ⟨o4, v4, g4, z4, d4⟩ := fl4.there
          refine wpAny_mono (body g4 z4 d4 (J4.suite g4 d4 na nL nF) (yes rfl J.len a na) (Q := fun f s6 => SP X pins D f s6) fun f s6 sp => ?_) (fun _ _ z => z) (fun _ _ z => z.elim)
          cases f with
          | ret u => exact let ⟨v, t, G, S, r, q⟩ := sp; ⟨v, t, G, S.unsuite J.ok, r, q⟩
          | next => exact let ⟨t, G, S, q⟩ := sp; ⟨t, G, S.unsuite J.ok, q⟩
          | brk => exact let ⟨t, G, S, q⟩ := sp; ⟨t, G, S.unsuite J.ok, q⟩
          | cont => exact let ⟨t, G, S, q⟩ := sp; ⟨t, G, S.unsuite J.ok, q⟩
      | some n =>
        cases ii with
        | none => exact hn.elim
        | some i =>
          obtain ⟨hi, hl⟩ := hn
          refine codeAny_handlers_suite_as (HandSPX.lands_againZ fl3 fun h4 fl4 u4 => ?_)
          have J4 : Inv X pins σ H { s' with heap := h4 } := J.landed nb fl4.1 (up.trans u4) os ag
          obtain ⟨o4, v4, g4, z4, d4⟩ := fl4.there
          refine store_ok (X := X.suite a ((a, o4) :: (X.pn ++ pins))) (v := .ref a) (J4.suite g4 d4 na nL nF) hN hi (.inl hl) rfl (fun s5 S5 => ?_) (.inr hl)
          refine wpAny_mono (body g4 z4 d4 S5 (yes rfl J.len a na) (Q := fun f s6 => SP (X.suite a ((a, o4) :: (X.pn ++ pins))) [] (goneO D (some i)) f s6) fun f s6 sp => sp) (fun f s6 sp => ?_) (fun _ _ z => z.elim)
          have gone : ∀ {t : L2.St} {G : Hp} {Q : Shared → Prop}, Inv (X.suite a ((a, o4) :: (X.pn ++ pins))) [] t G s6 → (∀ s7, Inv X pins (t.set i none) G s7 → Q s7) →
              wpAny (model X.prog X.w) X.A (do bindName X.env n .none; unbindBehindTheSuite X.env n q) (fun _ s7 => Q s7) X.xe s6 := fun {t G Q} S k => gone_ok (S.unsuite J.ok) hN hi hl k
          cases f with
          | ret u => exact let ⟨v, t, G, S, r, q⟩ := sp; gone S fun s7 J7 => ⟨v, _, G, J7, r, q⟩
          | next => exact let ⟨t, G, S, q⟩ := sp; gone S fun s7 J7 => ⟨_, G, J7, q⟩
          | brk => exact let ⟨t, G, S, q⟩ := sp; gone S fun s7 J7 => ⟨_, G, J7, q⟩
          | cont => exact let ⟨t, G, S, q⟩ := sp; gone S fun s7 J7 => ⟨_, G, J7, q⟩
end
theorem ps_try_hds {X : Cx} {body : List Stmt} {h₀ : ExceptHandler} {es : List ExceptHandler} {l : List Hdl} {pos : Pos} {tb : WX → TS} {Wo : WX} (hN : X.N.Nodup) (hs : X.stack = X.env :: X.outer) (hf : X.env.frame = some X.env.locals) (tk : Takes X Wo)
    (hb : ∀ (W : WX) (pn : List (Addr × Obj)) (xe : Value → Shared → Prop), Takes (X.tr pn xe) W → PassesOwn (model X.prog X.w) X.A X.env xe → PSs (X.tr pn xe) body (tb W)) (hh : Hds X (h₀ :: es) l) :
    PS X (.Try body (h₀ :: es) [] [] pos) (fun D σ H => tb (wHd X.K X.N.length Wo D l) D σ H) := by
  refine ⟨fun pins s σ H D I h => wpAny_Try_except ?_⟩
  have ok := I.ok
  have hfr : X.A.frames = some (X.env :: X.outer) := by rw [ok.frames, hs]
  let air : Value → Shared → Prop := fun e s₁ => wpAny (model X.prog X.w) X.A (noteFrame e X.env) (fun _ s₂ => wpAny (model X.prog X.w) X.A (setFlight e none) (fun _ s₃ => wpAny (model X.prog X.w) X.A (handleBy e X.env (h₀ :: es)) (SP X pins D) X.xe s₃) X.xe s₂) X.xe s₁
  have caught : Takes (X.tr (X.pn ++ pins) air) (wHd X.K X.N.length Wo D l) := by
    rintro u s' ⟨a, B, sI, pins', t, G, cls, d, rfl, J', nb, up, sky, na, os, ag, w⟩
    have J : Inv X pins t G sI := J'.ofTry ok
    rw [show (X.tr (X.pn ++ pins) air).stack = X.env :: X.outer from hs] at sky
    show wpAny (model X.prog X.w) X.A (noteFrame (.ref a) X.env) _ _ _
    refine Sky.land Zc.steady hfr hf sky fun h3 fl3 up3 => ?_
    obtain ⟨o3, v3, g3, z3, d3⟩ := fl3.there
    have nfr : a ∉ frs (X.env :: X.outer) := fun hm => by
      obtain ⟨_, o', e', hnf⟩ := fl3.2.2.1.mem hm
      rw [g3] at e'
      cases e'
      exact hnf _ d3
    refine hds_go hN hs hf tk J nb os ag na fl3 (up.trans up3) (fun z => nfr (List.mem_filterMap.mpr ⟨X.env, List.mem_cons_self, by rw [hf, z]⟩)) (fun hm => ?_) hh w
    obtain ⟨e, he, q⟩ := List.mem_filterMap.mp hm
    exact nfr (List.mem_filterMap.mpr ⟨e, List.mem_cons_of_mem _ he, q⟩)
  refine wpAny_mono ((hb _ _ air caught PassesOwn.looking).run [] s σ H D (I.toTry _) h) (fun f s1 sp => ?_) (fun _ _ z => z)
  cases f with
  | next => exact let ⟨t, G, J, q⟩ := sp; wpAny_execs_nil ⟨t, G, J.ofTry ok, q⟩
  | ret u => exact let ⟨v, t, G, J, r, q⟩ := sp; ⟨v, t, G, J.ofTry ok, r, q⟩
  | brk => exact let ⟨t, G, J, q⟩ := sp; ⟨t, G, J.ofTry ok, q⟩
  | cont => exact let ⟨t, G, J, q⟩ := sp; ⟨t, G, J.ofTry ok, q⟩
end Pv

namespace Pv
open PySem PySem.Spec PyProof.Rows L2

/-! calls of the text's own defs -/
structure Fn where
  name : Str
  n : Nat
  own : Own
  sem : List D → R D
def noX : R D → R D
  | .ok d => .ok d
  | _ => .no
def spF (xs : Nat → Addr) (fn : Fn) : Sp := fun vs H Q E => ∃ O ds, Dom H O ∧ ds.length = fn.n ∧ DpAll [] (mask H O) vs ds ∧ AnsP (fun n H' => E (.ref (xs n)) none H') H (fn.sem ds) (Gv O fn.own Q)
/-- the exceptions that are wished for -/
def WXc (c : Ctx) : WX := fun cls d σ H => ∃ n, cls = .ref (c.xs n) ∧ d = none ∧ c.W σ n H
theorem takesB {X : Cx} {c : Ctx} : Takes X (WXc (ctxB c)) := takes0.imp fun _ _ _ _ ⟨_, _, _, h⟩ => h
mutual
def noL : D → Bool
  | .list _ => false
  | .tuple ds => noLs ds
  | .dict _ => false
  | _ => true
def noLs : List D → Bool
  | [] => true
  | d :: ds => noL d && noLs ds
end
mutual
def cln : Own → D → Bool
  | .lst o, .list ds => clnA o ds
  | .tc o r, .tuple ds => clnS (.tc o r) ds
  | _, d => noL d
def clnA : Own → List D → Bool
  | _, [] => true
  | o, d :: ds => cln o d && clnA o ds
def clnS : Own → List D → Bool
  | .tc o r, d :: ds => cln o d && clnS r ds
  | _, _ => true
end
mutual
theorem noL_mask {H : Hp} {O O' : Addr → Bool} (hd : Dom H O) : ∀ (d : D) (v : V), noL d = true → Dp [] (mask H O') v d → Dp [] (mask H O) v d
  | .none, _, _, h => by cases h; exact .non
  | .bool _, _, _, h => by cases h; exact .bl _
  | .int _, _, _, h => by cases h; exact .int _
  | .str _, _, _, h => by cases h; exact .str _
  | .list _, _, n, _ => by cases n
  | .dict _, _, n, _ => by cases n
  | .tuple ds, _, n, h => by
    cases h with
    | tup h1 h2 => exact .tup (mask_of (hd.tup (mask_le _ _ h1)) (mask_le _ _ h1)) (noLs_mask hd ds _ n h2)
theorem noLs_mask {H : Hp} {O O' : Addr → Bool} (hd : Dom H O) : ∀ (ds : List D) (vs : List V), noLs ds = true → DpAll [] (mask H O') vs ds → DpAll [] (mask H O) vs ds
  | [], _, _, h => by cases h; exact .nil
  | d :: ds, _, n, h => by
    have n' := Bool.and_eq_true_iff.mp n
    cases h with
    | cons h1 h2 => exact .cons (noL_mask hd d _ n'.1 h1) (noLs_mask hd ds _ n'.2 h2)
end
/-! a clean answer leans on nothing that was there -/
mutual
theorem cln_rp {H : Hp} {O O' : Addr → Bool} (hd : Dom H O) {A0 : List Addr} (hA : ∀ a ∈ A0, O a = true) {v : V} {d : D} {o : Own} {A : List Addr} (hs : ∀ a ∈ A, a ∈ A0) (hf : fz o = true) (hc : cln o d = true) : Rp [] H O' v d o A → Rp [] H O v d o A
  | .bw h => by cases hf
  | .sh h => .sh (noL_mask hd _ _ (by cases h <;> first | exact hc | rfl) h)
  | .flat f h => .flat f h
  | .itmL h1 h2 => by cases hf
  | .itmT h1 h2 => by cases hf
  | .itmK h1 h2 => by cases hf
  | .itmX h1 h2 => by cases hf
  | .dck h1 h3 h2 => by cases hc
  | .dct h1 h3 h2 => by cases hc
  | .lst h1 h3 h2 => .lst h1 (hA _ (hs _ List.mem_cons_self)) (clnA_rp hd hA (fun a z => hs a (List.mem_cons_of_mem _ z)) hf hc h2)
  | .tup h1 h2 => .tup h1 (clnS_rp hd hA hs hf hc h2)
theorem clnA_rp {H : Hp} {O O' : Addr → Bool} (hd : Dom H O) {A0 : List Addr} (hA : ∀ a ∈ A0, O a = true) {v : List V} {d : List D} {o : Own} {A : List Addr} (hs : ∀ a ∈ A, a ∈ A0) (hf : fz o = true) (hc : clnA o d = true) : RpA [] H O' v d o A → RpA [] H O v d o A
  | .nil => .nil
  | .cons h1 h2 => by
    have hc' := Bool.and_eq_true_iff.mp hc
    exact .cons (cln_rp hd hA (fun a z => hs a (List.mem_append_left _ z)) hf hc'.1 h1) (clnA_rp hd hA (fun a z => hs a (List.mem_append_right _ z)) hf hc'.2 h2)
theorem clnS_rp {H : Hp} {O O' : Addr → Bool} (hd : Dom H O) {A0 : List Addr} (hA : ∀ a ∈ A0, O a = true) {v : List V} {d : List D} {o : Own} {A : List Addr} (hs : ∀ a ∈ A, a ∈ A0) (hf : fz o = true) (hc : clnS o d = true) : RpS [] H O' v d o A → RpS [] H O v d o A
  | .nil => .nil
  | .cons h1 h2 => by
    have hc' := Bool.and_eq_true_iff.mp hc
    have hf' := Bool.and_eq_true_iff.mp hf
    exact .cons (cln_rp hd hA (fun a z => hs a (List.mem_append_left _ z)) hf'.1 hc'.1 h1) (clnS_rp hd hA (fun a z => hs a (List.mem_append_right _ z)) hf'.2 hc'.2 h2)
end
def evFn (fn : Fn) (k : Bool) (ds : List D) : R D :=
  if ds.length = fn.n then
    match fn.sem ds with
    | .ok d => if k = true then (if cln fn.own d = true then .ok d else .no) else .ok d
    | .exc x => .exc x
    | .no => .no
  else .no
section
variable {X : Cx} {c : Ctx}
structure FnIs (X : Cx) (xs : Nat → Addr) (fn : Fn) : Prop where
  is : ∃ (f : Addr) (fd : FuncData) (ps : List Str) (k : Nat), FnOk X.prog X.w X.K X.mg X.base (L2.CX X.prog X.w) k f fd ps (spF xs fn) ∧ Room k X.A ∧ X.mg fn.name = some (.ref f) ∧ PySem.W.keepIn X.K (.ref f) = true ∧ Binds X.K fd ps []
def fzs : Own → Bool
  | .tn => true
  | .tc o r => fz o && fzs r
  | _ => false
theorem fzs_fz : ∀ {os : Own}, fzs os = true → fz os = true
  | .tn, _ => rfl
  | .tc o r, h => by
    have h' := Bool.and_eq_true_iff.mp h
    show (fz o && fz r) = true
    rw [h'.1, fzs_fz h'.2]
    rfl
/-- the callee's promise from the caller's side -/
theorem sp_of {fn : Fn} {k : Bool} {H0 H : Hp} {O : Addr → Bool} {A : List Addr} {os : Own} {vs : List V} {ds : List D} {Q : VK} {W : Nat → Hp → Prop} (hk : k = true ∨ fzs os = true) (hfz : fz fn.own = true) (s : Same H0 H) (hd0 : Dom H0 O) (fr : Fresh H0 H A) (r : RpS [] H (add O A) vs ds os A)
    (h : AnsP W H0 (evFn fn k ds) (Gv O fn.own Q)) {xs : Nat → Addr} {E : XK} (hE : ∀ n H', W n H' → E (.ref (xs n)) none H') : spF xs fn vs H Q E := by
  have hd : Dom H O := hd0.mono s
  unfold evFn at h
  split at h
  · rename_i hn
    cases k with
    | false =>
      have hfs : fzs os = true := hk.elim (fun z => by cases z) id
      refine ⟨O, ds, hd, hn, r.freeze hd (fun a z => add_true.mpr (.inl z)) (fr.disj hd0) (fzs_fz hfs), ?_⟩
      cases hs : fn.sem ds with
      | no => rw [hs] at h; exact h.elim
      | exc x =>
        rw [hs] at h
        exact fun H' s' => hE x H' (h H' (s.trans s'))
      | ok d =>
        rw [hs] at h
        exact Gv.up _ _ _ s h
    | true =>
      refine ⟨fun _ => false, ds, (fun a z => nomatch z), hn, by rw [mask_none fun _ => rfl]; exact r.dp, ?_⟩
      cases hs : fn.sem ds with
      | no => rw [hs] at h; exact h.elim
      | exc x =>
        rw [hs] at h
        exact fun H' s' => hE x H' (h H' (s.trans s'))
      | ok d =>
        rw [hs] at h
        dsimp only at h
        rw [if_pos rfl] at h
        split at h
        · rename_i hcl
          intro v H' B s' f' rr
          refine h v H' B (s.trans s') (f'.elder s) ?_
          exact cln_rp ((hd.add s' f')) (fun a z => add_true.mpr (.inr z)) (fun a z => z) hfz hcl rr
        · exact h.elim
  · exact h.elim
theorem pe_fn {fn : Fn} {k : Bool} {F : Ev → R (List D)} {os : Own} {e : Expr} {es : List Expr} {p pos : Pos} (hF : FnIs X c.xs fn) (tk : Takes X (WXc c)) (hk : k = true ∨ fzs os = true) (hfz : fz fn.own = true) (hg : Gl X fn.name) (ha : PA X (e :: es) (tA c F os))
    (hdb : (fn.name == ("__debug__" : Str)) = false) (he : starEach (e :: es) X.env = (false, eval e X.env) :: starEach es X.env) (hpl : (backTo pos (starEach es X.env)).any (·.1) = false) :
    PE X (.Call (.Name fn.name p) (e :: es) [] pos) (tE c (fun env => F env >>= evFn fn k) fn.own) := by
  obtain ⟨f, fd, ps, kk, ok, hr, hm, kp, hb⟩ := hF.is
  refine PE.imp (pe_callS ok hr hg hm kp hb (fun σ => passAt tk σ) ha hdb he hpl) fun σ H Q ⟨env, O, a, h⟩ => ?_
  have h : AnsP (c.W σ) H (F env >>= evFn fn k) (Gv O fn.own Q) := h
  refine ⟨env, O, a, ?_⟩
  cases hf : F env with
  | no => rw [hf] at h; exact h
  | exc x => rw [hf] at h; exact h
  | ok ds =>
    rw [hf] at h
    intro vs H1 A s fr r
    exact sp_of hk hfz s a.dom fr r h fun n H' w => ⟨n, rfl, rfl, w⟩
/-! arguments -/
theorem pa_n : PA X [] (tA c (fun _ => .ok []) .tn) := PA.imp pa_nil fun σ H Q ⟨env, O, a, h⟩ => h [] H [] (Same.refl _) Fresh.nil .nil
theorem pa_c {e : Expr} {es : List Expr} {f : Ev → R D} {o : Own} {F : Ev → R (List D)} {os : Own} (h1 : PE X e (tE c f o)) (h2 : PA X es (tA c F os)) (hs : starEach (e :: es) X.env = (false, eval e X.env) :: starEach es X.env) :
    PA X (e :: es) (tA c (fun env => f env >>= fun d => F env >>= fun ds => .ok (d :: ds)) (.tc o os)) := by
  refine PA.imp (pa_cons h1 h2 hs) fun σ H Q ⟨env, O, a, h⟩ => ?_
  refine tE_own a h fun d v H1 A hf s1 f1 r1 h1 => ?_
  have a1 := a.add s1 f1
  refine ⟨env, _, a1, ?_⟩
  cases hF : F env with
  | no => rw [hF] at h1; exact h1
  | exc x =>
    rw [hF] at h1
    exact fun H' s' => h1 H' (s1.trans s')
  | ok ds =>
    rw [hF] at h1
    intro vs H2 B s2 f2 r2
    refine h1 (v :: vs) H2 (A ++ B) (s1.trans s2) (f1.add s1 s2 f2) (.cons ?_ ?_)
    · refine Rp.mono s2 (fun b hb => ?_) (fun b hb => add_true.mpr (.inr (List.mem_append_left _ hb))) r1
      rcases add_true.mp hb with z | z
      · exact .inl (add_true.mpr (.inl z))
      · rcases List.mem_append.mp z with z | z
        · exact .inl (add_true.mpr (.inr z))
        · exact .inr (f2.new b z)
    · refine RpS.mono (Same.refl _) (fun b hb => ?_) (fun b hb => add_true.mpr (.inr (List.mem_append_right _ hb))) r2
      rcases add_true.mp hb with z | z
      · exact .inl (add_true.mpr (.inl (add_true.mpr (.inl z))))
      · rcases List.mem_append.mp z with z | z
        · exact .inl (add_true.mpr (.inl (add_true.mpr (.inr z))))
        · exact .inl (add_true.mpr (.inr z))

/-! the forms of expressions -/
def evVar (i : Nat) (m : Bool) (env : Ev) : R D :=
  match lk env i with
  | some (d, b) => if m = true then (if b = true then .ok d else .no) else .ok d
  | none => .no
def nown : Own → Bool
  | .sh | .tn => true
  | .tc o r => nown o && nown r
  | _ => false
def bty : Own → Own
  | .lst o => if nown o = true then .itm else .bw
  | .sh => .sh
  | .dct => .itm
  | _ => .bw
mutual
theorem nown_rp {K : PySem.W.Frag} {H : Hp} {O : Addr → Bool} {v : V} {d : D} {o : Own} {A : List Addr} (h : nown o = true) : Rp K H O v d o A → A = []
  | .bw _ => rfl
  | .sh _ => rfl
  | .flat _ _ => rfl
  | .itmL _ _ => rfl
  | .itmT _ _ => rfl
  | .itmK _ _ => rfl
  | .itmX _ _ => rfl
  | .lst _ _ _ => by cases h
  | .tup _ h2 => nown_rpS h h2
theorem nown_rpA {K : PySem.W.Frag} {H : Hp} {O : Addr → Bool} {v : List V} {d : List D} {o : Own} {A : List Addr} (h : nown o = true) : RpA K H O v d o A → A = []
  | .nil => rfl
  | .cons h1 h2 => by rw [nown_rp h h1, nown_rpA h h2]; rfl
theorem nown_rpS {K : PySem.W.Frag} {H : Hp} {O : Addr → Bool} {v : List V} {d : List D} {o : Own} {A : List Addr} (h : nown o = true) : RpS K H O v d o A → A = []
  | .nil => rfl
  | .cons h1 h2 => by
    have h' := Bool.and_eq_true_iff.mp h
    rw [nown_rp h'.1 h1, nown_rpS h'.2 h2]
    rfl
end
theorem nown_fz : ∀ {o : Own}, nown o = true → fz o = true
  | .sh, _ => rfl
  | .tn, _ => rfl
  | .tc o r, h => by
    have h' := Bool.and_eq_true_iff.mp h
    show (fz o && fz r) = true
    rw [nown_fz h'.1, nown_fz h'.2]
    rfl
theorem rp_bty {H : Hp} {O : Addr → Bool} {v : V} {d : D} {o : Own} {A : List Addr} (hd : Dom H O) (r : Rp [] H O v d o A) : Rp [] H O v d (bty o) [] := by
  cases o with
  | lst o =>
    show Rp [] H O v d (if nown o = true then .itm else .bw) []
    split
    · rename_i hn
      cases r with
      | flat f h => exact .flat f h
      | lst h1 h3 h2 =>
        have e := nown_rpA hn h2
        subst e
        exact .itmL (.inl (.inl h1)) (h2.freeze hd (fun _ z => z) (by intro a z; cases z) (nown_fz hn))
    · exact .bw r.dp
  | sh =>
    cases r with
    | sh h => exact .sh h
    | flat f h => exact .flat f h
  | bw => exact .bw r.dp
  | itm => exact .bw r.dp
  | tn => exact .bw r.dp
  | tc o r' => exact .bw r.dp
  | dct =>
    cases r with
    | flat f h => exact .flat f h
    | dck h1 h3 h2 => exact .itmK h1 h2
    | dct h1 h3 h2 => exact .itmX h1 h2
theorem sh_bty {H : Hp} {O : Addr → Bool} {v : V} {d : D} {o : Own} (r : Dp [] (mask H O) v d) : Rp [] H O v d (bty o) [] := by
  cases o with
  | lst o =>
    show Rp [] H O v d (if nown o = true then .itm else .bw) []
    split
    · cases r with
      | non => exact .flat rfl .non
      | bl b => exact .flat rfl (.bl b)
      | int b => exact .flat rfl (.int b)
      | str b => exact .flat rfl (.str b)
      | lst k1 k2 => exact .itmL (Same.seq mask_le k1) k2
      | tup k1 k2 => exact .itmT (mask_le _ _ k1) k2
      | dck k1 k2 => exact .itmK (mask_le _ _ k1) k2
      | dct k1 k2 => exact .itmX (mask_le _ _ k1) k2
    · exact .bw (dp_mono mask_le _ _ r)
  | sh => exact .sh r
  | bw => exact .bw (dp_mono mask_le _ _ r)
  | itm => exact .bw (dp_mono mask_le _ _ r)
  | tn => exact .bw (dp_mono mask_le _ _ r)
  | tc o r' => exact .bw (dp_mono mask_le _ _ r)
  | dct =>
    cases r with
    | non => exact .flat rfl .non
    | bl b => exact .flat rfl (.bl b)
    | int b => exact .flat rfl (.int b)
    | str b => exact .flat rfl (.str b)
    | lst k1 k2 => exact .itmL (Same.seq mask_le k1) k2
    | tup k1 k2 => exact .itmT (mask_le _ _ k1) k2
    | dck k1 k2 => exact .itmK (mask_le _ _ k1) k2
    | dct k1 k2 => exact .itmX (mask_le _ _ k1) k2
theorem pe_v {i : Nat} {m : Bool} {x : Str} {pos : Pos} (hN : X.N[i]? = some x) (hv : Vis X.env.scope x) (hd : (x == ("__debug__" : Str)) = false) (hcd : (x == ("__classdict__" : Str)) = false) :
    PE X (.Name x pos) (tE c (evVar i m) (if m = true then .sh else bty (c.Γ i))) := by
  refine PE.imp (pe_var hN hv hd hcd) fun σ H Q ⟨env, O, a, h⟩ => ?_
  unfold evVar at h
  split at h
  · rename_i d b hl
    obtain ⟨v, hs, q⟩ := a.er i d b hl
    refine ⟨v, hs, ?_⟩
    cases m with
    | true =>
      cases b with
      | true => exact Gv.give h (Same.refl _) (.sh q)
      | false => exact h.elim
    | false =>
      refine Gv.give h (Same.refl _) ?_
      cases b with
      | true => exact sh_bty q
      | false =>
        obtain ⟨A, _, r⟩ := q
        exact rp_bty a.dom r
  · exact h.elim
theorem flat_sh {H : Hp} {O : Addr → Bool} {v : V} {d : D} {o : Own} (f : flatD d = true) (h : Dp [] H v d) : Rp [] H O v d o [] := .flat f h
theorem pe_k {v : V} {d : D} {e : Expr} (he : PE X e (tC v)) (f : flatD d = true) (h : ∀ H, Dp [] H v d) : PE X e (tE c (fun _ => .ok d) .sh) :=
  PE.imp he fun σ H Q ⟨env, O, a, q⟩ => Gv.flat q f (h H)
def evNeg : D → R D
  | .int i => .ok (.int (-i))
  | _ => .no
theorem pe_neg {a : Expr} {pos : Pos} {f : Ev → R D} {o : Own} (ha : PE X a (tE c f o)) : PE X (.UnaryOp .USub a pos) (tE c (fun env => f env >>= evNeg) .sh) := by
  refine PE.imp (pe_un un_neg ha) fun σ H Q ⟨env, O, at_, h⟩ => tE_bind at_ Gv.up h fun d v H1 _ s1 a1 t h1 => ?_
  unfold evNeg at h1
  split at h1
  · exact ⟨_, dpInt t.dp, flat_out h1⟩
  · exact h1.elim
theorem pe_bin {op : BOp} {o oa ob : Own} {a b : Expr} {pos : Pos} {fa fb : Ev → R D} (ha : PE X a (tE c fa oa)) (hb : PE X b (tE c fb ob)) (h0 : newO o = true) (h1 : itmb oa = true) (h2 : itmb ob = true) :
    PE X (.BinOp a op.op b pos) (tE c (fun env => fa env >>= fun x => fb env >>= fun y => evBin op o x y) o) := by
  refine PE.imp (pe_op (opr_bin h0) ha hb) fun σ H Q ⟨env, O, at_, h⟩ => tE_bind at_ Gv.up h fun d v H1 _ s1 a1 t g1 => tE_bind a1 Gv.up g1 fun e u H2 _ s2 a2 t2 g2 => ?_
  cases hz : evBin op o d e with
  | no => rw [hz] at g2; exact g2.elim
  | exc x =>
    exfalso
    unfold evBin at hz
    split at hz <;> first | cases hz | (split at hz <;> cases hz)
  | ok z =>
    rw [hz] at g2
    exact ⟨d, e, z, O, a2.dom, (t.later s2).its a2.dom h1, t2.its a2.dom h2, hz, g2⟩
theorem evIn_exc {x y : D} {z : Nat} : evIn x y ≠ .exc z := by
  intro h
  unfold evIn at h
  split at h
  · split at h <;> cases h
  · split at h <;> cases h
  · split at h <;> cases h
  · cases h
theorem lexCmp_exc {lt : Bool} {x y : List D} {z : Nat} : lexCmp lt x y ≠ .exc z := by
  intro h
  unfold lexCmp at h
  split at h <;> cases h
theorem isBo_exc {x y : D} {z : Nat} : isBo x y ≠ .exc z := by
  intro h
  unfold isBo at h
  split at h <;> cases h
theorem evCmp_exc {op : COp} {x y : D} {z : Nat} : evCmp op x y ≠ .exc z := by
  intro h
  cases op <;> unfold evCmp at h <;> dsimp only at h
  case lt => split at h <;> first | exact lexCmp_exc h | cases h
  case le => split at h <;> first | exact lexCmp_exc h | cases h
  case isin => exact evIn_exc h
  case notin =>
    cases e : evIn x y with
    | no => rw [e] at h; cases h
    | exc w => exact evIn_exc e
    | ok b => rw [e] at h; cases h
  case isn => split at h <;> first | cases h | exact isBo_exc h
  case notn =>
    split at h
    · cases h
    · cases e : isBo x y with
      | no => rw [e] at h; cases h
      | exc w => exact isBo_exc e
      | ok b => rw [e] at h; cases h
  all_goals (split at h <;> first | cases h | (unfold strC at h; split at h <;> cases h))
theorem pe_cm {op : COp} {oa ob : Own} {a b : Expr} {pos : Pos} {fa fb : Ev → R D} (hu : X.A.units + 65 < cLine) (ha : PE X a (tE c fa oa)) (hb : PE X b (tE c fb ob)) (hm : behindInMarks op.op b = false) :
    PE X (.Compare a [op.op] [b] pos) (tE c (fun env => fa env >>= fun x => fb env >>= fun y => evCmp op x y >>= fun b => .ok (.bool b)) .sh) := by
  refine PE.imp (pe_cmpR (opr_cmp hu) ha hb hm) fun σ H Q ⟨env, O, at_, h⟩ => tE_bind at_ Gv.up h fun d v H1 _ s1 a1 t g1 => tE_bind a1 Gv.up g1 fun e u H2 _ s2 a2 t2 g2 => ?_
  cases hz : evCmp op d e with
  | no => rw [hz] at g2; exact g2.elim
  | exc x => exact (evCmp_exc hz).elim
  | ok z =>
    rw [hz] at g2
    exact ⟨d, e, z, (t.later s2).dp, t2.dp, hz, Gv.flat g2 rfl (.bl z)⟩
theorem pt_cm {op : COp} {oa ob : Own} {a b : Expr} {pos : Pos} {fa fb : Ev → R D} (hu : X.A.units + 65 < cLine) (ha : PE X a (tE c fa oa)) (hb : PE X b (tE c fb ob)) (hm : behindInMarks op.op b = false) :
    PT X (.Compare a [op.op] [b] pos) (tT c (fun env => fa env >>= fun x => fb env >>= fun y => evCmp op x y)) := by
  refine PT.imp (pt_cmpR (opr_cmp hu) ha hb hm) fun σ H Q ⟨env, O, at_, h⟩ => tE_bind at_ Gb.up h fun d v H1 _ s1 a1 t g1 => tE_bind a1 Gb.up g1 fun e u H2 _ s2 a2 t2 g2 => ?_
  cases hz : evCmp op d e with
  | no => rw [hz] at g2; exact g2.elim
  | exc x => exact (evCmp_exc hz).elim
  | ok z =>
    rw [hz] at g2
    exact ⟨d, e, z, (t.later s2).dp, t2.dp, hz, z, rfl, g2 _ (Same.refl _)⟩
/-- a < b < c -/
theorem pe_ch {op op' : COp} {oa ob oc : Own} {a b d : Expr} {pos : Pos} {fa fb fc : Ev → R D} (hu : X.A.units + 65 < cLine) (ha : PE X a (tE c fa oa)) (hb : PE X b (tE c fb ob)) (hc : PE X d (tE c fc oc)) (hm : lastMarks [op.op, op'.op] [b, d] = false) :
    PE X (.Compare a [op.op, op'.op] [b, d] pos) (tE c (fun env => fa env >>= fun x => fb env >>= fun y => evCmp op x y >>= fun r => if r = true then (fc env >>= fun z => evCmp op' y z >>= fun q => .ok (.bool q)) else .ok (.bool false)) .sh) := by
  refine PE.imp (pe_chain (opr_cmp hu) (opr_cmp hu) ha hb hc hm) fun σ H Q ⟨env, O, at_, h⟩ => tE_bind at_ Gv.up h fun x v H1 _ s1 a1 t1 g1 => tE_bind a1 Gv.up g1 fun y u H2 _ s2 a2 t2 g2 => ?_
  cases hz : evCmp op x y with
  | no => rw [hz] at g2; exact g2.elim
  | exc x => exact (evCmp_exc hz).elim
  | ok r =>
    rw [hz] at g2
    refine ⟨x, y, r, (t1.later s2).dp, t2.dp, hz, r, rfl, ?_⟩
    cases r with
    | false =>
      have g2 : AnsP (c.W σ) H2 (.ok (.bool false)) (Gv O .sh Q) := g2
      exact Gv.flat g2 rfl (.bl false)
    | true =>
      have g2 : AnsP (c.W σ) H2 (fc env >>= fun z => evCmp op' y z >>= fun q => .ok (.bool q)) (Gv O .sh Q) := g2
      refine tE_bind a2 Gv.up g2 fun z w H3 _ s3 a3 t3 g3 => ?_
      cases hq : evCmp op' y z with
      | no => rw [hq] at g3; exact g3.elim
      | exc x => exact (evCmp_exc hq).elim
      | ok q =>
        rw [hq] at g3
        exact ⟨y, z, q, (t2.later s3).dp, t3.dp, hq, Gv.flat g3 rfl (.bl q)⟩
theorem pt_ch {op op' : COp} {oa ob oc : Own} {a b d : Expr} {pos : Pos} {fa fb fc : Ev → R D} (hu : X.A.units + 65 < cLine) (ha : PE X a (tE c fa oa)) (hb : PE X b (tE c fb ob)) (hc : PE X d (tE c fc oc)) (hm : lastMarks [op.op, op'.op] [b, d] = false) :
    PT X (.Compare a [op.op, op'.op] [b, d] pos) (tT c (fun env => fa env >>= fun x => fb env >>= fun y => evCmp op x y >>= fun r => if r = true then (fc env >>= fun z => evCmp op' y z) else .ok false)) := by
  refine PT.imp (pt_chain (opr_cmp hu) (opr_cmp hu) ha hb hc hm) fun σ H Q ⟨env, O, at_, h⟩ => tE_bind at_ Gb.up h fun x v H1 _ s1 a1 t1 g1 => tE_bind a1 Gb.up g1 fun y u H2 _ s2 a2 t2 g2 => ?_
  cases hz : evCmp op x y with
  | no => rw [hz] at g2; exact g2.elim
  | exc x => exact (evCmp_exc hz).elim
  | ok r =>
    rw [hz] at g2
    refine ⟨x, y, r, (t1.later s2).dp, t2.dp, hz, r, rfl, ?_⟩
    cases r with
    | false =>
      have g2 : AnsP (c.W σ) H2 (.ok false) (Gb Q) := g2
      exact ⟨false, rfl, g2 _ (Same.refl _)⟩
    | true =>
      have g2 : AnsP (c.W σ) H2 (fc env >>= fun z => evCmp op' y z) (Gb Q) := g2
      refine tE_bind a2 Gb.up g2 fun z w H3 _ s3 a3 t3 g3 => ?_
      cases hq : evCmp op' y z with
      | no => rw [hq] at g3; exact g3.elim
      | exc x => exact (evCmp_exc hq).elim
      | ok q =>
        rw [hq] at g3
        exact ⟨y, z, q, (t2.later s3).dp, t3.dp, hq, q, rfl, g3 _ (Same.refl _)⟩
/-! truth -/
theorem truthD_exc {d : D} {z : Nat} : truthD d ≠ .exc z := by
  intro h
  cases d <;> first | cases h | (unfold truthD at h; dsimp only at h; split at h <;> cases h)
theorem pt_tr {a : Expr} {f : Ev → R D} {o : Own} (ha : PE X a (tE c f o)) (he : ∀ whole, isTrue a X.env whole = (do let v ← whole; standAt a.pos; holding [v] (truthy v))) : PT X a (tT c fun env => f env >>= truthD) := by
  refine PT.imp (pt_truth ha he) fun σ H Q ⟨env, O, at_, h⟩ => tE_bind at_ Gb.up h fun d v H1 _ s1 a1 t g1 => ?_
  cases hz : truthD d with
  | no => rw [hz] at g1; exact g1.elim
  | exc x => exact (truthD_exc hz).elim
  | ok b =>
    rw [hz] at g1
    exact ⟨b, tru_of t.dp hz, g1 _ (Same.refl _)⟩
theorem pt_n {a : Expr} {pos : Pos} {f : Ev → R Bool} (ha : PT X a (tT c f)) : PT X (.UnaryOp .Not a pos) (tT c fun env => f env >>= fun b => .ok (!b)) := by
  refine PT.imp (pt_not ha) fun σ H Q ⟨env, O, at_, h⟩ => tT_bind at_ Gb.up h fun b H1 _ s1 a1 g1 => g1 _ (Same.refl _)
theorem pe_n {a : Expr} {pos : Pos} {f : Ev → R D} {o : Own} (ha : PE X a (tE c f o)) : PE X (.UnaryOp .Not a pos) (tE c (fun env => f env >>= fun d => truthD d >>= fun b => .ok (.bool (!b))) .sh) := by
  refine PE.imp (pe_notT ha) fun σ H Q ⟨env, O, at_, h⟩ => tE_bind at_ Gv.up h fun d v H1 _ s1 a1 t g1 => ?_
  cases hz : truthD d with
  | no => rw [hz] at g1; exact g1.elim
  | exc x => exact (truthD_exc hz).elim
  | ok b =>
    rw [hz] at g1
    exact ⟨b, tru_of t.dp hz, Gv.flat g1 rfl (.bl _)⟩
/-! and, or: values -/
theorem pe_an1 {op : BoolOp} {a : Expr} {pos : Pos} {t : TE} (h : PE X a t) : PE X (.BoolOp op [a] pos) t := pe_one h
theorem pe_an {a b : Expr} {rest : List Expr} {pos : Pos} {fa fb : Ev → R D} {o : Own} (ho : o = .sh) (ha : PE X a (tE c fa o)) (hb : PE X (.BoolOp .And (b :: rest) pos) (tE c fb .sh)) :
    PE X (.BoolOp .And (a :: b :: rest) pos) (tE c (fun env => fa env >>= fun x => truthD x >>= fun r => if r = true then fb env else .ok x) .sh) := by
  subst ho
  refine PE.imp (pe_andT ha hb) fun σ H Q ⟨env, O, at_, h⟩ => tE_bind at_ Gv.up h fun d v H1 _ s1 a1 t g1 => ?_
  cases hz : truthD d with
  | no => rw [hz] at g1; exact g1.elim
  | exc x => exact (truthD_exc hz).elim
  | ok b =>
    rw [hz] at g1
    refine ⟨b, tru_of t.dp hz, ?_⟩
    cases b with
    | true => exact ⟨env, O, a1, g1⟩
    | false =>
      have g1 : AnsP (c.W σ) H1 (.ok d) (Gv O .sh Q) := g1
      exact Gv.give g1 (Same.refl _) (.sh (t.fz a1.dom rfl))
theorem pe_or {a b : Expr} {rest : List Expr} {pos : Pos} {fa fb : Ev → R D} {o : Own} (ho : o = .sh) (ha : PE X a (tE c fa o)) (hb : PE X (.BoolOp .Or (b :: rest) pos) (tE c fb .sh)) :
    PE X (.BoolOp .Or (a :: b :: rest) pos) (tE c (fun env => fa env >>= fun x => truthD x >>= fun r => if r = true then .ok x else fb env) .sh) := by
  subst ho
  refine PE.imp (pe_orT ha hb) fun σ H Q ⟨env, O, at_, h⟩ => tE_bind at_ Gv.up h fun d v H1 _ s1 a1 t g1 => ?_
  cases hz : truthD d with
  | no => rw [hz] at g1; exact g1.elim
  | exc x => exact (truthD_exc hz).elim
  | ok b =>
    rw [hz] at g1
    refine ⟨b, tru_of t.dp hz, ?_⟩
    cases b with
    | false => exact ⟨env, O, a1, g1⟩
    | true =>
      have g1 : AnsP (c.W σ) H1 (.ok d) (Gv O .sh Q) := g1
      exact Gv.give g1 (Same.refl _) (.sh (t.fz a1.dom rfl))
/-! .. tests -/
theorem pw_a1 {a : Expr} {pos : Pos} {f : Ev → R Bool} (ha : PT X a (tT c f)) : PW X (.BoolOp .And [a] pos) (tT c f) := pw_and1 ha
theorem pw_o1 {a : Expr} {pos : Pos} {f : Ev → R Bool} (ha : PT X a (tT c f)) : PW X (.BoolOp .Or [a] pos) (tT c f) := pw_or1 ha
theorem pw_a {a b : Expr} {rest : List Expr} {pos : Pos} {fa fb : Ev → R Bool} (ha : PT X a (tT c fa)) (hb : PW X (.BoolOp .And (b :: rest) pos) (tT c fb)) :
    PW X (.BoolOp .And (a :: b :: rest) pos) (tT c fun env => fa env >>= fun r => if r = true then fb env else .ok false) := by
  refine PW.imp (pw_and ha hb) fun σ H Q ⟨env, O, at_, h⟩ => tT_bind at_ Gb.up h fun b H1 _ s1 a1 g1 => ?_
  cases b with
  | true => exact ⟨env, O, a1, g1⟩
  | false =>
    have g1 : AnsP (c.W σ) H1 (.ok false) (Gb Q) := g1
    exact g1 _ (Same.refl _)
theorem pw_o {a b : Expr} {rest : List Expr} {pos : Pos} {fa fb : Ev → R Bool} (ha : PT X a (tT c fa)) (hb : PW X (.BoolOp .Or (b :: rest) pos) (tT c fb)) :
    PW X (.BoolOp .Or (a :: b :: rest) pos) (tT c fun env => fa env >>= fun r => if r = true then .ok true else fb env) := by
  refine PW.imp (pw_or ha hb) fun σ H Q ⟨env, O, at_, h⟩ => tT_bind at_ Gb.up h fun b H1 _ s1 a1 g1 => ?_
  cases b with
  | false => exact ⟨env, O, a1, g1⟩
  | true =>
    have g1 : AnsP (c.W σ) H1 (.ok true) (Gb Q) := g1
    exact g1 _ (Same.refl _)
/-! a if t else b -/
theorem pe_it {t a b : Expr} {pos : Pos} {ft : Ev → R Bool} {fa fb : Ev → R D} {o : Own} (ht : PT X t (tT c ft)) (ha : PE X a (tE c fa o)) (hb : PE X b (tE c fb o)) :
    PE X (.IfExp t a b pos) (tE c (fun env => ft env >>= fun r => if r = true then fa env else fb env) o) := by
  refine PE.imp (pe_ifExp ht ha hb) fun σ H Q ⟨env, O, at_, h⟩ => tT_bind at_ Gv.up h fun b H1 _ s1 a1 g1 => ?_
  cases b with
  | true => exact ⟨env, O, a1, g1⟩
  | false => exact ⟨env, O, a1, g1⟩
/-! subscripts, slices -/
theorem evIdx_exc {x y : D} {z : Nat} : evIdx x y ≠ .exc z := by
  intro h
  unfold evIdx at h
  split at h
  · split at h <;> cases h
  · split at h <;> cases h
  · split at h
    · split at h <;> cases h
    · cases h
  · cases h
theorem pe_id {a b : Expr} {pos : Pos} {fa fb : Ev → R D} {oa ob : Own} (ha : PE X a (tE c fa oa)) (hb : PE X b (tE c fb ob)) (hs : PlainIx b) :
    PE X (.Subscript a b pos) (tE c (fun env => fa env >>= fun x => fb env >>= fun y => evIdx x y) (if itmb oa = true then .sh else .bw)) := by
  have ho : (if itmb oa = true then Own.sh else .bw) = .sh ∨ (if itmb oa = true then Own.sh else .bw) = .bw := by split <;> simp
  refine PE.imp (pe_ix (ixr ho) ha hb hs) fun σ H Q ⟨env, O, at_, h⟩ => tE_bind at_ Gv.up h fun d v H1 _ s1 a1 t g1 => tE_bind a1 Gv.up g1 fun e u H2 _ s2 a2 t2 g2 => ?_
  cases hz : evIdx d e with
  | no => rw [hz] at g2; exact g2.elim
  | exc x => exact (evIdx_exc hz).elim
  | ok z =>
    rw [hz] at g2
    refine ⟨d, e, z, O, a2.dom, (t.later s2).dp, fun q => ?_, t2.dp, hz, g2⟩
    split at q
    · rename_i hi
      exact (t.later s2).its a2.dom hi
    · cases q
def evPart (f : Option (Ev → R D)) (env : Ev) : R (Option Int) :=
  match f with
  | none => .ok none
  | some f => f env >>= fun d => match d with
    | .int i => .ok (some i)
    | _ => .no
def tO (c : Ctx) (f : Ev → R (Option Int)) : TO := fun σ H Q => ∃ env O, At c H O env σ ∧ AnsP (c.W σ) H (f env) (fun H i => ∀ H', Same H H' → Q i H')
theorem PO.imp {e : Option Expr} {t t' : TO} (h : PO X e t) (i : ∀ σ H Q, t' σ H Q → t σ H Q) : PO X e t' := ⟨fun pins s σ H Q I q => h.run pins s σ H Q I (i _ _ _ q)⟩
theorem up_o {Q : Option Int → Hp → Prop} : Up (fun H i => ∀ H', Same H H' → Q i H') := fun _ _ _ s h H' s' => h H' (s.trans s')
theorem po_n : PO X none (tO c (evPart none)) := PO.imp po_none fun σ H Q ⟨env, O, at_, h⟩ => h H (Same.refl _)
theorem po_s {e : Expr} {f : Ev → R D} {o : Own} (he : PE X e (tE c f o)) : PO X (some e) (tO c (evPart (some f))) := by
  refine PO.imp (po_some he) fun σ H Q ⟨env, O, at_, h⟩ => ?_
  refine tE_bind at_ up_o h fun d v H1 _ s1 a1 t g1 => ?_
  split at g1
  · exact ⟨_, dpInt t.dp, g1 _ (Same.refl _)⟩
  · exact g1.elim
theorem tO_bind {α : Type} {f : Ev → R (Option Int)} {g : Option Int → R α} {σ : L2.St} {H : Hp} {P : Hp → α → Prop} {Q' : Option Int → Hp → Prop}
    {env : Ev} {O : Addr → Bool} (a : At c H O env σ) (u : Up P) (h : AnsP (c.W σ) H (f env >>= g) P)
    (k : ∀ d H1, Same H H1 → At c H1 O env σ → AnsP (c.W σ) H1 (g d) P → Q' d H1) : tO c f σ H Q' := by
  refine ⟨env, O, a, ?_⟩
  cases hf : f env with
  | no => rw [hf] at h; exact h
  | exc x => rw [hf] at h; exact h
  | ok d =>
    rw [hf] at h
    exact fun H1 s => k d H1 s (a.later s) (AnsP.later u s h)
theorem evSl_exc {o : Own} {x : D} {lo hi : Option Int} {z : Nat} : evSl o x lo hi ≠ .exc z := by
  intro h
  unfold evSl at h
  split at h
  · cases h
  · split at h <;> cases h
  · split at h <;> cases h
  · cases h
theorem pe_sl {a : Expr} {lo hi : Option Expr} {p2 pos : Pos} {fa : Ev → R D} {fl fh : Ev → R (Option Int)} {o oa : Own} (ho : newO o = true) (hi' : itmb oa = true) (ha : PE X a (tE c fa oa)) (hl : PO X lo (tO c fl)) (hh : PO X hi (tO c fh)) :
    PE X (.Subscript a (.Slice lo hi none p2) pos) (tE c (fun env => fa env >>= fun x => fl env >>= fun l => fh env >>= fun h => evSl o x l h) o) := by
  refine PE.imp (pe_slice (slr ho) ha hl hh) fun σ H Q ⟨env, O, at_, h⟩ => tE_bind at_ Gv.up h fun d v H1 _ s1 a1 t g1 => tO_bind a1 Gv.up g1 fun l H2 s2 a2 g2 => tO_bind a2 Gv.up g2 fun r H3 s3 a3 g3 => ?_
  cases hz : evSl o d l r with
  | no => rw [hz] at g3; exact g3.elim
  | exc x => exact (evSl_exc hz).elim
  | ok z =>
    rw [hz] at g3
    exact ⟨d, z, O, a3.dom, ((t.later s2).later s3).its a3.dom hi', hz, g3⟩
/-! displays -/
theorem RpS.length {K : PySem.W.Frag} {H : Hp} {O : Addr → Bool} {vs : List V} {ds : List D} {o : Own} {A : List Addr} (h : RpS K H O vs ds o A) : vs.length = ds.length := DpAll.length h.dp
def evTup (ds : List D) : R D := if ds.length ≤ 16777216 then .ok (.tuple ds) else .no
def evLst (ds : List D) : R D := if ds.length ≤ 16777216 then .ok (.list ds) else .no
def isTc : Own → Bool
  | .tc _ _ => true
  | _ => false
theorem pe_tu {es : List Expr} {k : Nat} {pos : Pos} {F : Ev → R (List D)} {os : Own} (ht : isTc os = true) (h : PA X es (tA c F os)) : PE X (.Tuple es k pos) (tE c (fun env => F env >>= evTup) os) := by
  refine PE.imp (L2.pe_tup h) fun σ H Q ⟨env, O, at_, h⟩ => tA_bind at_ h fun ds vs H1 A _ s1 fr r g1 => ?_
  unfold evTup at g1
  split at g1
  · rename_i hz
    refine ⟨by rw [r.length, ← sz]; exact hz, fun p hp => ?_⟩
    have sn : Same H1 (upd H1 p (.tup vs)) := same_new hp
    have g1 : Gv O os Q H (.tuple ds) := g1
    refine g1 _ _ A (s1.trans sn) ⟨fr.nd, fr.new, fun a ha => (fr.lst a ha).mono sn⟩ ?_
    match os, ht with
    | .tc o r', _ => exact .tup upd_same (RpS.mono sn (fun b hb => .inl hb) (fun b hb => add_true.mpr (.inr hb)) r)
  · exact g1.elim
/-- all of one kind -/
def allO (o : Own) : Own → Bool
  | .tn => true
  | .tc o' r => decide (o' = o) && allO o r
  | _ => false
theorem rpA_of {K : PySem.W.Frag} {H : Hp} {O : Addr → Bool} {o : Own} : ∀ {vs : List V} {ds : List D} {os : Own} {A : List Addr}, allO o os = true → RpS K H O vs ds os A → RpA K H O vs ds o A
  | _, _, _, _, _, .nil => .nil
  | _, _, _, _, h, .cons h1 h2 => by
    have h' := Bool.and_eq_true_iff.mp h
    have e := of_decide_eq_true h'.1
    subst e
    exact .cons h1 (rpA_of h'.2 h2)
theorem pe_li {es : List Expr} {pos : Pos} {F : Ev → R (List D)} {o os : Own} (ho : allO o os = true) (h : PA X es (tA c F os)) : PE X (.List es pos) (tE c (fun env => F env >>= evLst) (.lst o)) := by
  refine PE.imp (L2.pe_lst h) fun σ H Q ⟨env, O, at_, h⟩ => tA_bind at_ h fun ds vs H1 A _ s1 fr r g1 => ?_
  unfold evLst at g1
  split at g1
  · rename_i hz
    refine ⟨by rw [r.length, ← sz]; exact hz, fun p hp => ?_⟩
    have sn : Same H1 (upd H1 p (.lst vs)) := same_new hp
    have g1 : Gv O (.lst o) Q H (.list ds) := g1
    have hpA : p ∉ A := fun z => (fr.lst p z).no hp
    refine g1 _ _ (p :: A) (s1.trans sn) ⟨List.nodup_cons.mpr ⟨hpA, fr.nd⟩, fun a ha => ?_, fun a ha => ?_⟩ (.lst upd_same (add_true.mpr (.inr List.mem_cons_self)) (rpA_of ho (RpS.mono sn (fun b hb => ?_) (fun b hb => add_true.mpr (.inr (List.mem_cons_of_mem _ hb))) r)))
    · rcases List.mem_cons.mp ha with z | z
      · rw [z]; exact s1.free hp
      · exact fr.new a z
    · rcases List.mem_cons.mp ha with z | z
      · rw [z]; exact .lst upd_same
      · exact (fr.lst a z).mono sn
    · rcases add_true.mp hb with z | z
      · exact .inl (add_true.mpr (.inl z))
      · rcases List.mem_cons.mp z with z | z
        · rw [z]; exact .inr hp
        · exact .inl (add_true.mpr (.inr z))
  · exact g1.elim
/-! built-in functions -/
theorem evBi_exc {b : Bi} {o : Own} {ds : List D} {z : Nat} : evBi b o ds ≠ .exc z := by
  intro h
  unfold evBi at h
  split at h <;> first | (cases h; done) | (split at h <;> first | (cases h; done) | (unfold srtA at h; split at h <;> cases h))
def itm1 : Own → Bool
  | .tc o _ => itmb o
  | _ => false
theorem rps_it {H : Hp} {O : Addr → Bool} {vs : List V} {ds : List D} {os : Own} {A : List Addr} (hd : Dom H O) (hA : ∀ a ∈ A, O a = false) (h1 : itm1 os = true) (r : RpS [] H (add O A) vs ds os A) : ∀ v d, vs = [v] → ds = [d] → Itm [] H O v d := by
  rintro v d rfl rfl
  cases r with
  | cons r1 r2 => exact r1.its hd (fun a h => add_true.mpr (.inl h)) (fun a h => hA a (List.mem_append_left _ h)) h1
theorem pe_bf {b : Bi} {o : Own} {e : Expr} {es : List Expr} {p pos : Pos} {F : Ev → R (List D)} {os : Own} (ho : newO o = true) (hc : X.calm = true) (hu : X.A.units + 65 < cLine) (hi : itms b = true → itm1 os = true) (hg : Gl X b.nm) (hm : X.mg b.nm = none) (ha : PA X (e :: es) (tA c F os))
    (he : starEach (e :: es) X.env = (false, eval e X.env) :: starEach es X.env) (hpl : (backTo pos (starEach es X.env)).any (·.1) = false) :
    PE X (.Call (.Name b.nm p) (e :: es) [] pos) (tE c (fun env => F env >>= evBi b o) o) := by
  have go : PE X (.Call (.Name b.nm p) (e :: es) [] pos) (tCB (rF b o) (tA c F os)) := by
    have hcr := cr_bi (X := X) (b := b) (o := o) ho hc hu
    have hb := b.boot
    have hn : b.nm ≠ "__name__" := by cases b <;> decide +kernel
    have hd : (b.nm == ("__debug__" : Str)) = false := by cases b <;> decide +kernel
    cases b
    case int => exact pe_callTy hcr hg hm hb ha hn hd he hpl
    case list => exact pe_callTy hcr hg hm hb ha hn hd he hpl
    case tuple => exact pe_callTy hcr hg hm hb ha hn hd he hpl
    all_goals exact pe_callB hcr hg hm hb ha hn hd he hpl
  refine PE.imp go fun σ H Q ⟨env, O, at_, h⟩ => tA_bind at_ h fun ds vs H1 A _ s1 fr r g1 => ?_
  have g1 := AnsP.later Gv.up s1 g1
  cases hz : evBi b o ds with
  | no => rw [hz] at g1; exact g1.elim
  | exc x => exact (evBi_exc hz).elim
  | ok z =>
    rw [hz] at g1
    exact ⟨ds, z, O, at_.dom.mono s1, r.dp, fun hb => rps_it (at_.dom.mono s1) (fr.disj at_.dom) (hi hb) r, hz, g1⟩
/-! isinstance -/
inductive Ty where
  | int | bool | str | list | tuple
  deriving DecidableEq
def Ty.s : Ty → String
  | .int => "int" | .bool => "bool" | .str => "str" | .list => "list" | .tuple => "tuple"
def Ty.nm (t : Ty) : Str := Str.ofString t.s
def isD (t : Ty) (d : D) : Bool :=
  match t, d with
  | .int, .int _ | .int, .bool _ | .bool, .bool _ | .str, .str _ | .list, .list _ | .tuple, .tuple _ => true
  | _, _ => false
def dTy : D → String
  | .none => "NoneType" | .bool _ => "bool" | .int _ => "int" | .str _ => "str" | .list _ => "list" | .tuple _ => "tuple" | .dict _ => "dict"
theorem kit_is (t : Ty) (d : D) : kitB (dTy d) t.s = some (isD t d) := by
  cases d <;> cases t <;> (simp only [dTy, Ty.s, isD]; decide +kernel)
theorem tyx {K : PySem.W.Frag} {H : Hp} {v : V} {d : D} (h : Dp [] H v d) : TyX K H v (.type (dTy d)) := by
  cases h with
  | non => exact .base .non
  | bl b => exact .base (.bl b)
  | int b => exact .base (.int b)
  | str b => exact .base (.str b)
  | lst k1 k2 =>
    rcases rd_of k1 with k | ⟨o, k⟩
    · exact .base (.lst k)
    · exact .base (.frz k)
  | tup k1 k2 =>
    exact .base (.tup k1)
  | dck k1 k2 => exact .base (.dK k1)
  | dct k1 k2 => exact .base (.dT k1)
theorem pe_is {t : Ty} {a : Expr} {p p' pos : Pos} {f : Ev → R D} {o : Own} (hg : Gl X "isinstance") (hm : X.mg "isinstance" = none) (hg2 : Gl X t.nm) (hm2 : X.mg t.nm = none) (ha : PE X a (tE c f o))
    (he : starEach [a, .Name t.nm p'] X.env = (false, eval a X.env) :: starEach [.Name t.nm p'] X.env) :
    PE X (.Call (.Name "isinstance" p) [a, .Name t.nm p'] [] pos) (tE c (fun env => f env >>= fun d => .ok (.bool (isD t d))) .sh) := by
  have hb : bootBuiltins t.nm = some (.type t.s) := by cases t <;> decide +kernel
  have hn : t.nm ≠ "__name__" := by cases t <;> decide +kernel
  have hd : (t.nm == ("__debug__" : Str)) = false := by cases t <;> decide +kernel
  have pt : PE X (.Name t.nm p') (tC (.ty t.s)) := pe_bltn hg2 hm2 hb rfl hn hd
  refine PE.imp (pe_callB call_isi hg hm (by decide +kernel) (pa_cons ha (pa_cons pt pa_nil) he) (by decide +kernel) (by decide +kernel) he rfl) fun σ H Q ⟨env, O, at_, h⟩ => ?_
  refine tE_bind at_ Gv.up h fun d v H1 _ s1 a1 t1 g1 => ?_
  exact ⟨v, .ty t.s, .type (dTy d), .type t.s, isD t d, rfl, .ty _, tyx t1.dp, kit_ty (kit_is t d), Gv.flat g1 rfl (.bl _)⟩
/-! coercions -/
theorem pe_fz {e : Expr} {f : Ev → R D} {o : Own} (hf : fz o = true) (h : PE X e (tE c f o)) : PE X e (tE c f .sh) := by
  refine PE.imp h fun σ H Q ⟨env, O, at_, h⟩ => ⟨env, O, at_, AnsP.imp h fun d _ g v H' A s fr r => ?_⟩
  exact Gv.give g s (.sh (r.freeze (at_.dom.mono s) (fun a z => add_true.mpr (.inl z)) (fr.disj at_.dom) hf))
def evFl (d : D) : R D := if flatD d = true then .ok d else .no
theorem pe_fl {e : Expr} {f : Ev → R D} {o : Own} (h : PE X e (tE c f o)) : PE X e (tE c (fun env => f env >>= evFl) .sh) := by
  refine PE.imp h fun σ H Q ⟨env, O, at_, h⟩ => tE_bind at_ Gv.up h fun d v H1 _ s1 a1 t g1 => ?_
  unfold evFl at g1
  split at g1
  · rename_i hf
    exact Gv.flat g1 hf t.dp
  · exact g1.elim
end
end Pv

/-! part Gc: math.gcd -/
namespace Pv
open PySem PySem.Spec PyProof.Rows L2
def evGcd (x y : D) : R D := match x, y with
  | .int i, .int j => .ok (.int ((Nat.gcd i.natAbs j.natAbs : Nat) : Int))
  | _, _ => .no
section
variable {X : Cx} {c : Ctx}
theorem pe_gc {x : Str} {a b : Expr} {p pos : Pos} {fa fb : Ev → R D} {oa ob : Own} (hx : x = "gcd") (hg : Gl X x) (hm : X.mg x = some (.builtin "math.gcd")) (ha : PE X a (tE c fa oa)) (hb : PE X b (tE c fb ob))
    (sa : starEach [a, b] X.env = (false, eval a X.env) :: starEach [b] X.env) (sb : starEach [b] X.env = (false, eval b X.env) :: starEach [] X.env) (hpl : (backTo pos (starEach [b] X.env)).any (·.1) = false) :
    PE X (.Call (.Name x p) [a, b] [] pos) (tE c (fun env => fa env >>= fun d => fb env >>= fun e => evGcd d e) .sh) := by
  subst hx
  refine PE.imp (pe_callBfun cr_gcd hg hm (pa_cons ha (pa_cons hb pa_nil sb) sa) (by decide +kernel) sa hpl) fun σ H Q ⟨env, O, at_, h⟩ => ?_
  refine tE_bind at_ Gv.up h fun d v H1 _ s1 a1 t1 h1 => ?_
  refine tE_bind a1 Gv.up h1 fun e u H2 _ s2 a2 t2 h2 => ?_
  unfold evGcd at h2
  split at h2
  · have e1 := dpInt (dp_mono s2 _ _ t1.dp)
    have e2 := dpInt t2.dp
    subst e1
    subst e2
    exact ⟨_, _, rfl, flat_out h2⟩
  · exact h2.elim
end
end Pv

/-! special forms -/
namespace Pv
open PySem PySem.Spec PyProof.Rows L2
inductive X1 where
  | rev
  deriving DecidableEq
inductive X3 where
  | lr1 | lr2
  deriving DecidableEq
def evX1 (k : X1) (o : Own) (d : D) : R D :=
  match k with
  | .rev => match d with
    | .list xs => .ok (.list xs.reverse)
    | _ => .no
def rngCk (a b : Int) : Bool := decide (-4611686018427387904 ≤ a) && decide (a < 4611686018427387904) && decide (-4611686018427387904 ≤ b) && decide (b < 4611686018427387904) && decide ((b - a).toNat ≤ 16777216)
def evX3 (k : X3) (o : Own) (ds : List D) : R D :=
  match k with
  | .lr1 => match ds with
    | [.int j] => if rngCk 0 j = true then .ok (.list (rngD 0 j.toNat)) else .no
    | _ => .no
  | .lr2 => match ds with
    | [.int i, .int j] => if rngCk i j = true then .ok (.list (rngD i (j - i).toNat)) else .no
    | _ => .no
theorem dpAll_rev {K : PySem.W.Frag} {H : Hp} {vs : List V} {ds : List D} (h : DpAll K H vs ds) : DpAll K H vs.reverse ds.reverse := DpAll.rev h
theorem rgCk_of {a b : Int} (h : rngCk a b = true) : RgOk a b := by
  unfold rngCk at h
  simp only [Bool.and_eq_true, decide_eq_true_eq] at h
  unfold RgOk
  omega
theorem rgV_dp {H : Hp} (a b : Int) : DpAll [] H (rgV a b) (rngD a (b - a).toNat) := by
  unfold rgV rngD
  induction List.range (b - a).toNat with
  | nil => exact .nil
  | cons x r ih => exact .cons (.int _) ih
section
variable {X : Cx} {c : Ctx}
theorem pe_rev {e : Expr} {k : Nat} {p1 p2 p3 pos : Pos} {f : Ev → R D} {o oa : Own} (ho : newO o = true) (hi : itmb oa = true) (he : PE X e (tE c f oa)) :
    PE X (.Subscript e (.Slice none none (some (.UnaryOp .USub (.Constant (.int 1) k p1) p2)) p3) pos) (tE c (fun env => f env >>= evX1 .rev o) o) := by
  refine PE.imp (pe_revL he) fun σ H Q ⟨env, O, at_, h⟩ => tE_bind at_ Gv.up h fun d v H1 _ s1 a1 t g1 => ?_
  cases d with
  | list xs =>
    have it := t.its a1.dom hi
    rcases it with ⟨z, _⟩ | ⟨a, vs, ds, rfl, e0, h1, h2⟩ | ⟨a, vs, ds, rfl, e0, _, _⟩ | ⟨_, e0, _⟩
    · cases z
    · cases e0
      refine ⟨a, vs, rfl, .inl (rd_of h1), fun p hp => ?_⟩
      exact Gv.newList ho a1.dom (Same.refl _) g1 (dpAll_rev h2) hp
    · cases e0
    · cases e0
  | none => exact g1.elim
  | bool _ => exact g1.elim
  | int _ => exact g1.elim
  | str _ => exact g1.elim
  | tuple _ => exact g1.elim
  | dict _ => exact g1.elim
theorem pe_lr1 {a : Expr} {p q pos pos' : Pos} {f : Ev → R D} {oa o : Own} (ho : newO o = true) (hc : X.calm = true) (hg : Gl X "list") (hm : X.mg "list" = none) (hg2 : Gl X "range") (hm2 : X.mg "range" = none) (ha : PE X a (tE c f oa)) (na : starEach [a] X.env = (false, eval a X.env) :: starEach [] X.env) :
    PE X (.Call (.Name "list" p) [.Call (.Name "range" q) [a] [] pos'] [] pos) (tE c (fun env => f env >>= fun d => evX3 .lr1 o [d]) o) := by
  refine PE.imp (pe_listRg hc hg hm (prg_1 hg2 hm2 ha na)) fun σ H Q ⟨env, O, at_, h⟩ => tE_bind at_ Gv.up h fun d v H1 _ s1 a1 t g1 => ?_
  cases d with
  | int j =>
    have hv := t.dp
    cases hv
    unfold evX3 at g1
    dsimp only at g1
    split at g1
    · rename_i hk
      refine ⟨j, rfl, rgCk_of hk, fun q hq => ?_⟩
      have hd := rgV_dp (H := mask H1 O) 0 j
      rw [Int.sub_zero] at hd
      exact Gv.newList ho a1.dom (Same.refl _) g1 hd hq
    · exact g1.elim
  | none => exact g1.elim
  | bool _ => exact g1.elim
  | list _ => exact g1.elim
  | str _ => exact g1.elim
  | tuple _ => exact g1.elim
  | dict _ => exact g1.elim
theorem pe_lr2 {a b : Expr} {p q pos pos' : Pos} {fa fb : Ev → R D} {oa ob o : Own} (ho : newO o = true) (hc : X.calm = true) (hg : Gl X "list") (hm : X.mg "list" = none) (hg2 : Gl X "range") (hm2 : X.mg "range" = none) (ha : PE X a (tE c fa oa)) (hb : PE X b (tE c fb ob))
    (na : starEach [a, b] X.env = (false, eval a X.env) :: starEach [b] X.env) (nb : starEach [b] X.env = (false, eval b X.env) :: starEach [] X.env) (hp : (backTo pos' (starEach [b] X.env)).any (·.1) = false) :
    PE X (.Call (.Name "list" p) [.Call (.Name "range" q) [a, b] [] pos'] [] pos) (tE c (fun env => fa env >>= fun d => fb env >>= fun e => evX3 .lr2 o [d, e]) o) := by
  refine PE.imp (pe_listRg hc hg hm (prg_2 hg2 hm2 ha hb na nb hp)) fun σ H Q ⟨env, O, at_, h⟩ => tE_bind at_ Gv.up h fun d v H1 _ s1 a1 t g1 => tE_bind a1 Gv.up g1 fun e u H2 _ s2 a2 t2 g2 => ?_
  cases d with
  | int i =>
    cases e with
    | int j =>
      have hv := t.dp
      have hu := t2.dp
      cases hv
      cases hu
      unfold evX3 at g2
      dsimp only at g2
      split at g2
      · rename_i hk
        refine ⟨i, j, rfl, rfl, rgCk_of hk, fun q hq => ?_⟩
        exact Gv.newList ho a2.dom (Same.refl _) g2 (rgV_dp i j) hq
      · exact g2.elim
    | none => exact g2.elim
    | bool _ => exact g2.elim
    | list _ => exact g2.elim
    | str _ => exact g2.elim
    | tuple _ => exact g2.elim
    | dict _ => exact g2.elim
  | none => exact g2.elim
  | bool _ => exact g2.elim
  | list _ => exact g2.elim
  | str _ => exact g2.elim
  | tuple _ => exact g2.elim
  | dict _ => exact g2.elim
end
end Pv

/-! part Xh: the classes of exceptions; what an except suite hands back -/
namespace Pv
open PySem PySem.Spec PyProof.Rows L2
/-- the classes: name, numbers of those it is under (itself too) -/
abbrev Xc := List (Str × List Nat)
def under (xc : Xc) (n m : Nat) : Bool := match xc[n]? with
  | some p => p.2.contains m
  | none => false
abbrev veM : List Value := [.type "ValueError", .type "Exception", .type "BaseException", .type "object"]
def xAt (K : PySem.W.Frag) (a : Addr) : Bool :=
  PySem.W.excIn K a veM "ValueError.__new__" && (PySem.W.keepIn K (.ref a) && ((PySem.W.subIn K (.ref a) (.type "BaseException") == some true) && ((PySem.W.typeIn K (.ref a) == some (.type "type")) &&
  ((PySem.W.findIn K (.ref a) "__getattribute__" == some (some (.builtin "BaseException.__getattribute__"))) && ((PySem.W.findIn K (.ref a) "__getattr__" == some none) && (PySem.W.hasDictIn K a && ((PySem.W.findIn K (.ref a) "__class__" == some (some (.builtin "object.__class__"))) &&
  ((PySem.W.specialIn K (.builtin "object.__class__") "__get__" == some (some (.builtin "getset_descriptor.__get__"))) && ((PySem.W.takesIn K (.builtin "object.__class__") == some true) && ((PySem.W.mroIn K a (.type "object") == some true) && (PySem.W.kitOne K (.ref a) (.type "ValueError") == some true)))))))))))
def xPair (K : PySem.W.Frag) (a b : Addr) (v : Bool) : Bool := (PySem.W.exmOne K (.ref a) (.ref b) == some v) && (PySem.W.kitOne K (.ref a) (.ref b) == some v)
def xAll (K : PySem.W.Frag) (as : List Addr) (xc : Xc) : Bool :=
  (as.length == xc.length) && ((List.range xc.length).all fun i => xAt K (as.getD i 0) && (List.range xc.length).all fun j => xPair K (as.getD i 0) (as.getD j 0) (under xc i j))
structure XcG (xs : Nat → Addr) (K : PySem.W.Frag) (mg : Str → Option Value) (xc : Xc) : Prop where
  mg : ∀ (i : Nat) (p : Str × List Nat), xc[i]? = some p → mg p.1 = some (.ref (xs i))
  one : ∀ i < xc.length, xAt K (xs i) = true
  two : ∀ i < xc.length, ∀ j < xc.length, xPair K (xs i) (xs j) (under xc i j) = true
theorem XcG.nil {xs : Nat → Addr} {K : PySem.W.Frag} {mg : Str → Option Value} : XcG xs K mg [] := ⟨fun i p h => by simp at h, fun i h => by simp at h, fun i h => by simp at h⟩
section
variable {xs : Nat → Addr} {K : PySem.W.Frag} {mg : Str → Option Value} {xc : Xc}
theorem XcG.exm (G : XcG xs K mg xc) {i j : Nat} (hi : i < xc.length) (hj : j < xc.length) : PySem.W.exmOne K (.ref (xs i)) (.ref (xs j)) = some (under xc i j) := by
  have h := G.two i hi j hj
  unfold xPair at h
  simp only [Bool.and_eq_true, beq_iff_eq] at h
  exact h.1
theorem XcG.kit (G : XcG xs K mg xc) {i j : Nat} (hi : i < xc.length) (hj : j < xc.length) : PySem.W.kitOne K (.ref (xs i)) (.ref (xs j)) = some (under xc i j) := by
  have h := G.two i hi j hj
  unfold xPair at h
  simp only [Bool.and_eq_true, beq_iff_eq] at h
  exact h.2
structure XAt (K : PySem.W.Frag) (a : Addr) : Prop where
  exc : PySem.W.excIn K a veM "ValueError.__new__" = true
  keep : PySem.W.keepIn K (.ref a) = true
  sub : PySem.W.subIn K (.ref a) (.type "BaseException") = some true
  typ : PySem.W.typeIn K (.ref a) = some (.type "type")
  cls : ExcC K a
  kv : PySem.W.kitOne K (.ref a) (.type "ValueError") = some true
theorem XcG.at_ (G : XcG xs K mg xc) {i : Nat} (hi : i < xc.length) : XAt K (xs i) := by
  have h := G.one i hi
  unfold xAt at h
  simp only [Bool.and_eq_true, beq_iff_eq] at h
  obtain ⟨h1, h2, h3, h4, h5, h6, h7, h8, h9, h10, h11, h12⟩ := h
  exact ⟨h1, h2, h3, h4, ⟨h5, h6, h3, h7, h8, h9, h10, h11⟩, h12⟩
end
/-! what a suite hands back -/
inductive HB where
  | isx (c : Nat)
  | isv
  | nt (a : HB)
  | an (a b : HB)
  | orr (a b : HB)
  | one (a : HB)
inductive HE where
  | cst (d : D)
  | bo (b : HB)
  | pick (x y : D) (b : HB)
structure Hn where
  c : Nat
  i : Option Nat
  e : HE
def evHB (xc : Xc) (n : Nat) : HB → Bool
  | .isx c => under xc n c
  | .isv => true
  | .nt a => !evHB xc n a
  | .an a b => evHB xc n a && evHB xc n b
  | .orr a b => evHB xc n a || evHB xc n b
  | .one a => evHB xc n a
def evHE (xc : Xc) (n : Nat) : HE → D
  | .cst d => d
  | .bo b => .bool (evHB xc n b)
  | .pick x y b => if evHB xc n b = true then y else x
structure Hcf where
  N : List Str
  sc : Scope
  bis : List Str
  xc : Xc
def Hcf.gl (g : Hcf) (x : Str) : Bool := match g.sc.names.lookup x with
  | some .globalImplicit => true
  | _ => false
def Hcf.bi (g : Hcf) (x : Str) : Bool := g.gl x && g.bis.any fun y => decide (y = x)
def Hcf.vis (g : Hcf) (x : Str) : Bool := match g.sc.names.lookup x with
  | some .local => true
  | _ => false
def mCst : Const → D → Bool
  | .none, .none => true
  | .bool a, .bool b => a == b
  | .int a, .int b => a == b
  | .str a, .str b => decide (a = b)
  | _, _ => false
/-- i: the slot of the clause's name -/
def mHB (g : Hcf) (i : Nat) : HB → Expr → Bool
  | .isx c, e => match e with
    | .Call (.Name x _) [.Name y _, .Name z _] [] _ => decide (x = "isinstance") && g.bi x && decide (g.N[i]? = some y) && g.vis y && (match g.xc[c]? with
      | some p => decide (p.1 = z)
      | none => false) && g.gl z && !(y == ("__debug__" : Str)) && !(y == ("__classdict__" : Str)) && !(z == ("__debug__" : Str))
    | _ => false
  | .isv, e => match e with
    | .Call (.Name x _) [.Name y _, .Name z _] [] _ => decide (x = "isinstance") && g.bi x && decide (g.N[i]? = some y) && g.vis y && decide (z = "ValueError") && g.bi z && !(y == ("__debug__" : Str)) && !(y == ("__classdict__" : Str))
    | _ => false
  | .nt a, e => match e with
    | .UnaryOp .Not l _ => mHB g i a l
    | _ => false
  | .an a b, e => match e with
    | .BoolOp .And (l :: r :: q) p => mHB g i a l && mHB g i b (.BoolOp .And (r :: q) p)
    | _ => false
  | .orr a b, e => match e with
    | .BoolOp .Or (l :: r :: q) p => mHB g i a l && mHB g i b (.BoolOp .Or (r :: q) p)
    | _ => false
  | .one a, e => match e with
    | .BoolOp _ [l] _ => mHB g i a l
    | _ => false
def mHE (g : Hcf) (i : Option Nat) : HE → Expr → Bool
  | .cst d, e => match e with
    | .Constant k _ _ => mCst k d
    | _ => false
  | .bo b, e => match i with
    | some i => mHB g i b e
    | none => false
  | .pick x y b, e => match e, i with
    | .Subscript (.List [.Constant k _ _, .Constant l _ _] _) (.Call (.Name z _) [a] [] _) _, some i => mCst k x && mCst l y && decide (z = "int") && g.bi z && mHB g i b a
    | _, _ => false
structure HG (g : Hcf) (xs : Nat → Addr) (X : Cx) : Prop where
  N : X.N = g.N
  sc : X.env.scope = g.sc
  bi : ∀ x, (g.bis.any fun y => decide (y = x)) = true → X.mg x = none
  xc : XcG xs X.K X.mg g.xc
section
variable {g : Hcf} {xs : Nat → Addr} {X : Cx}
theorem HG.gl (G : HG g xs X) {x : Str} (h : g.gl x = true) : Gl X x := by
  show X.env.scope.names.lookup x = some .globalImplicit
  rw [G.sc]
  unfold Hcf.gl at h
  split at h
  · rename_i e; exact e
  · cases h
theorem HG.bl (G : HG g xs X) {x : Str} (h : g.bi x = true) : Gl X x ∧ X.mg x = none := by
  have h' := Bool.and_eq_true_iff.mp h
  exact ⟨G.gl h'.1, G.bi x h'.2⟩
theorem HG.vis (G : HG g xs X) {x : Str} (h : g.vis x = true) : Vis X.env.scope x := by
  unfold Hcf.vis at h
  split at h
  · rename_i e
    exact .inl (by rw [G.sc]; exact e)
  · cases h
def tHv (i : Nat) (a : Addr) (v : V) : TE := fun σ H Q => σ[i]? = some (some (.ref a)) ∧ ∀ H', Same H H' → Q v H'
variable {i n : Nat} {a : Addr} {oe : Obj} {pn : List (Addr × Obj)}
theorem boot_isinstance : bootBuiltins "isinstance" = some (.builtin "isinstance") := by decide +kernel
theorem boot_ve : bootBuiltins "ValueError" = some (.type "ValueError") := by decide +kernel
theorem boot_int1 : bootBuiltins "int" = some (.type "int") := by decide +kernel
theorem sHis {c : V} {cv : Value} {b : Bool} {y z : Str} {p q r s : Pos} (G : HG g xs X) (hn : n < g.xc.length) (hz : Zc (.ref (xs n)) none oe) (hf : ∃ vs, oe.data = .fields vs) (h1 : Gl X "isinstance" ∧ X.mg "isinstance" = none) (hy : g.N[i]? = some y) (hv : Vis X.env.scope y)
    (hd : (y == ("__debug__" : Str)) = false) (hc : (y == ("__classdict__" : Str)) = false) (he : PE (X.suite a ((a, oe) :: pn)) (.Name z q) (tC c)) (hcv : ∀ u, RelV c u → u = cv) (hk : PySem.W.kitOne X.K (.ref (xs n)) cv = some b) :
    PE (X.suite a ((a, oe) :: pn)) (.Call (.Name "isinstance" p) [.Name y r, .Name z q] [] s) (tHv i a (.bl b)) := by
  have hv' : PE (X.suite a ((a, oe) :: pn)) (.Name y r) (tVar i) := pe_var (i := i) (by show X.N[i]? = _; rw [G.N]; exact hy) hv hd hc
  refine PE.imp (pe_callB (call_isE (X := X) (a := a) (pn := pn) (G.xc.at_ hn).cls hz hf) h1.1 h1.2 boot_isinstance (pa_cons hv' (pa_cons he pa_nil))) fun σ H Q ⟨hs, k⟩ => ?_
  exact ⟨_, hs, c, cv, b, rfl, hcv, hk, k H (Same.refl _)⟩
theorem sHB : ∀ {b : HB} {e : Expr}, HG g xs X → n < g.xc.length → Zc (.ref (xs n)) none oe → (∃ vs, oe.data = .fields vs) → mHB g i b e = true → PE (X.suite a ((a, oe) :: pn)) e (tHv i a (.bl (evHB g.xc n b)))
  | .isx c, e, G, hn, hz, hf, h => by
    unfold mHB at h
    split at h
    · simp only [Bool.and_eq_true, Bool.not_eq_true', decide_eq_true_eq] at h
      obtain ⟨⟨⟨⟨⟨⟨⟨⟨h1, h2⟩, h3⟩, h4⟩, h5⟩, h6⟩, h7⟩, h8⟩, h9⟩ := h
      subst h1
      split at h5
      · rename_i p hp
        have e1 := of_decide_eq_true h5
        have hc : c < g.xc.length := (List.getElem?_eq_some_iff.mp hp).1
        have hm : X.mg _ = some (.ref (xs c)) := e1 ▸ G.xc.mg c p hp
        exact sHis (c := .ref (xs c)) (cv := .ref (xs c)) G hn hz hf (G.bl h2) h3 (G.vis h4) h7 h8 (pe_glob (X := X.suite a ((a, oe) :: pn)) (G.gl h6) hm rfl h9) (fun u r => r) (G.xc.kit hn hc)
      · cases h5
    · cases h
  | .isv, e, G, hn, hz, hf, h => by
    unfold mHB at h
    split at h
    · simp only [Bool.and_eq_true, Bool.not_eq_true', decide_eq_true_eq] at h
      obtain ⟨⟨⟨⟨⟨⟨⟨h1, h2⟩, h3⟩, h4⟩, h5⟩, h6⟩, h7⟩, h8⟩ := h
      subst h1
      subst h5
      exact sHis (c := .ty "ValueError") (cv := .type "ValueError") G hn hz hf (G.bl h2) h3 (G.vis h4) h7 h8 (pe_bltn (X := X.suite a ((a, oe) :: pn)) (G.bl h6).1 (G.bl h6).2 boot_ve rfl) (fun u r => r) (G.xc.at_ hn).kv
    · cases h
  | .nt b, e, G, hn, hz, hf, h => by
    unfold mHB at h
    split at h
    · exact PE.imp (pe_not (sHB G hn hz hf h)) fun σ H Q ⟨hs, k⟩ => ⟨hs, fun H' s => ⟨_, rfl, k H' s⟩⟩
    · cases h
  | .an x y, e, G, hn, hz, hf, h => by
    unfold mHB at h
    split at h
    · simp only [Bool.and_eq_true] at h
      refine PE.imp (L2.pe_and (sHB G hn hz hf h.1) (sHB G hn hz hf h.2)) fun σ H Q ⟨hs, k⟩ => ⟨hs, fun H' s => ⟨_, rfl, ?_⟩⟩
      unfold evHB at k
      cases hx : evHB g.xc n x with
      | true =>
        rw [hx] at k
        exact ⟨hs, fun H2 s2 => k H2 (s.trans s2)⟩
      | false =>
        rw [hx] at k
        exact k H' s
    · cases h
  | .orr x y, e, G, hn, hz, hf, h => by
    unfold mHB at h
    split at h
    · simp only [Bool.and_eq_true] at h
      refine PE.imp (L2.pe_or (sHB G hn hz hf h.1) (sHB G hn hz hf h.2)) fun σ H Q ⟨hs, k⟩ => ⟨hs, fun H' s => ⟨_, rfl, ?_⟩⟩
      unfold evHB at k
      cases hx : evHB g.xc n x with
      | false =>
        rw [hx] at k
        exact ⟨hs, fun H2 s2 => k H2 (s.trans s2)⟩
      | true =>
        rw [hx] at k
        exact k H' s
    · cases h
  | .one x, e, G, hn, hz, hf, h => by
    unfold mHB at h
    split at h
    · exact PE.imp (L2.pe_one (sHB G hn hz hf h)) fun σ H Q ⟨hs, k⟩ => ⟨hs, k⟩
    · cases h
theorem sCst {k : Const} {d : D} {j : Nat} {p : Pos} {X : Cx} (h : mCst k d = true) : ∃ v : V, PE X (.Constant k j p) (tC v) ∧ flatD d = true ∧ ∀ H, Dp [] H v d := by
  unfold mCst at h
  split at h
  · exact ⟨.non, pe_non, rfl, fun _ => .non⟩
  · rename_i a b
    have e := eq_of_beq h
    subst e
    exact ⟨.bl a, pe_bl, rfl, fun _ => .bl a⟩
  · rename_i a b
    have e := eq_of_beq h
    subst e
    exact ⟨.int a, pe_int, rfl, fun _ => .int a⟩
  · rename_i a b
    have e := of_decide_eq_true h
    subst e
    exact ⟨.str a, pe_str, rfl, fun _ => .str a⟩
  · cases h
def tHe (i : Option Nat) (a : Addr) (d : D) : TE := fun σ H Q => (∀ j, i = some j → σ[j]? = some (some (.ref a))) ∧ ∀ v H', Same H H' → Dp [] H' v d → Q v H'
theorem sHE {io : Option Nat} {b : HE} {e : Expr} (G : HG g xs X) (hn : n < g.xc.length) (hz : Zc (.ref (xs n)) none oe) (hf : ∃ vs, oe.data = .fields vs) (h : mHE g io b e = true) : PE (X.suite a ((a, oe) :: pn)) e (tHe io a (evHE g.xc n b)) ∧ flatD (evHE g.xc n b) = true := by
  cases b with
  | cst d =>
    dsimp only [mHE] at h
    split at h
    · obtain ⟨v, p, f, k⟩ := sCst (X := X.suite a ((a, oe) :: pn)) h
      exact ⟨PE.imp p fun σ H Q ⟨_, q⟩ => q v H (Same.refl _) (k H), f⟩
    · cases h
  | bo b =>
    dsimp only [mHE] at h
    split at h
    · rename_i j
      exact ⟨PE.imp (sHB (i := j) (a := a) (pn := pn) G hn hz hf h) fun σ H Q ⟨hs, q⟩ => ⟨hs j rfl, fun H' s => q _ H' s (.bl _)⟩, rfl⟩
    · cases h
  | pick x y b =>
    dsimp only [mHE] at h
    split at h
    · rename_i k _ _ l _ _ _ _ _ ae _ _ j
      simp only [Bool.and_eq_true, decide_eq_true_eq] at h
      obtain ⟨⟨⟨⟨h1, h2⟩, h3⟩, h4⟩, h5⟩ := h
      subst h3
      obtain ⟨v, p, f, kv⟩ := sCst (X := X.suite a ((a, oe) :: pn)) h1
      obtain ⟨w, q, g1, kw⟩ := sCst (X := X.suite a ((a, oe) :: pn)) h2
      have hb := sHB (i := j) (a := a) (pn := pn) (n := n) G hn hz hf h5
      have st : starEach [ae] (X.suite a ((a, oe) :: pn)).env = (false, eval ae (X.suite a ((a, oe) :: pn)).env) :: starEach [] (X.suite a ((a, oe) :: pn)).env := by
        cases ae <;> first | rfl | (cases b <;> cases h5)
      refine ⟨PE.imp (pe_ix ix_list (pe_lst (pa_cons p (pa_cons q pa_nil))) (pe_callTy call_int1 (G.bl h4).1 (G.bl h4).2 boot_int1 (pa_cons hb pa_nil st) (he := st) (hpl := rfl)) (fun _ _ => rfl)) fun σ H Q ⟨hs, k⟩ => ?_, ?_⟩
      · refine ⟨by show 2 ≤ sizeLine; decide, fun t ht => ⟨hs j rfl, fun H' s => .inr ⟨_, rfl, ?_⟩⟩⟩
        have hr : Rd H' t (.lst [v, w]) := .inl (s _ _ upd_same)
        cases hx : evHB g.xc n b with
        | false =>
          refine ⟨t, [v, w], 0, v, rfl, rfl, .inl hr, rfl, ?_⟩
          exact k v H' ((same_new ht).trans s) (by dsimp only [evHE]; rw [hx]; exact kv H')
        | true =>
          refine ⟨t, [v, w], 1, w, rfl, rfl, .inl hr, rfl, ?_⟩
          exact k w H' ((same_new ht).trans s) (by dsimp only [evHE]; rw [hx]; exact kw H')
      · dsimp only [evHE]
        split
        · exact g1
        · exact f
    · cases h
end
end Pv

/-! part Di: dicts -/
namespace Pv
open PySem PySem.Spec PyProof.Rows L2
/-! keys -/
def toK : D → Option Key
  | .int i => some (.inl i)
  | .str x => some (.inr x)
  | _ => none
def toKs : List D → Option (List Key)
  | [] => some []
  | d :: r => match toK d with
    | some k => (toKs r).map (k :: ·)
    | none => none
def toKT : D → Option (List Key)
  | .tuple ds => toKs ds
  | _ => none
theorem toK_kD (k : Key) : toK (kD k) = some k := by cases k <;> rfl
theorem toKs_kD : ∀ k : List Key, toKs (k.map kD) = some k
  | [] => rfl
  | k :: r => by
    show (match toK (kD k) with | some k => (toKs (r.map kD)).map (k :: ·) | none => none) = _
    rw [toK_kD, toKs_kD r]
    rfl
theorem toKT_kT (k : List Key) : toKT (kTD k) = some k := toKs_kD k
theorem toK_some {d : D} {k : Key} (h : toK d = some k) : d = kD k := by
  cases d <;> first | cases h | skip
  · rfl
  · rfl
theorem toKs_some : ∀ {ds : List D} {k : List Key}, toKs ds = some k → ds = k.map kD
  | [], k, h => by cases h; rfl
  | d :: r, k, h => by
    have h : (match toK d with | some k => (toKs r).map (k :: ·) | none => none) = some k := h
    cases hd : toK d with
    | none => rw [hd] at h; cases h
    | some q =>
      rw [hd] at h
      obtain ⟨z, h1, h2⟩ := Option.map_eq_some_iff.mp h
      rw [toK_some hd, toKs_some h1, ← h2]
      rfl
theorem toKT_some {d : D} {k : List Key} (h : toKT d = some k) : d = kTD k := by
  cases d <;> first | cases h | skip
  rw [toKs_some (show toKs _ = some k from h)]
  rfl
/-! look-up and store, over decoded keys -/
section
variable {κ : Type} [DecidableEq κ]
def lkG (dec : D → Option κ) (ps : List (D × D)) (k : κ) : Option D := (ps.find? fun p => decide (dec p.1 = some k)).map (·.2)
def puG (dec : D → Option κ) (e : κ → D) (ps : List (D × D)) (k : κ) (v : D) : List (D × D) :=
  if (ps.any fun p => decide (dec p.1 = some k)) = true then ps.map (fun p => if dec p.1 = some k then (p.1, v) else p) else ps ++ [(e k, v)]
theorem lkG_nil {dec : D → Option κ} {k : κ} : lkG dec [] k = none := rfl
theorem lkG_cons {dec : D → Option κ} {p : D × D} {r : List (D × D)} {k : κ} : lkG dec (p :: r) k = if dec p.1 = some k then some p.2 else lkG dec r k := by
  unfold lkG
  rw [List.find?_cons]
  by_cases h : dec p.1 = some k
  · rw [decide_eq_true h, if_pos h]; rfl
  · rw [decide_eq_false h, if_neg h]
theorem lkG_any {dec : D → Option κ} {k : κ} : ∀ {ps : List (D × D)}, (ps.any fun p => decide (dec p.1 = some k)) = (lkG dec ps k).isSome
  | [] => rfl
  | p :: r => by
    rw [List.any_cons, lkG_any (ps := r), lkG_cons]
    by_cases h : dec p.1 = some k
    · rw [decide_eq_true h, if_pos h]; rfl
    · rw [decide_eq_false h, if_neg h]; rfl
theorem lkG_map {dec : D → Option κ} {k j : κ} {v : D} : ∀ {ps : List (D × D)}, lkG dec (ps.map fun p => if dec p.1 = some k then (p.1, v) else p) j = (lkG dec ps j).map fun x => if j = k then v else x
  | [] => rfl
  | p :: r => by
    rw [List.map_cons, lkG_cons, lkG_cons, lkG_map (ps := r)]
    by_cases h : dec p.1 = some k
    · rw [if_pos h]
      by_cases q : dec p.1 = some j
      · have e : j = k := Option.some.inj (q.symm.trans h)
        simp [q, e]
      · rw [if_neg q, if_neg q]
    · rw [if_neg h]
      by_cases q : dec p.1 = some j
      · have e : ¬ j = k := fun z => h (by rw [← z]; exact q)
        simp [q, e]
      · rw [if_neg q, if_neg q]
theorem lkG_snoc {dec : D → Option κ} {e : κ → D} (he : ∀ k, dec (e k) = some k) {k j : κ} {v : D} : ∀ {ps : List (D × D)}, lkG dec ps k = none → lkG dec (ps ++ [(e k, v)]) j = if j = k then some v else lkG dec ps j
  | [], _ => by
    rw [List.nil_append, lkG_cons, he, lkG_nil]
    by_cases h : j = k
    · rw [if_pos h, if_pos (by rw [h])]
    · rw [if_neg h, if_neg (fun z => h (Option.some.inj z).symm)]
  | p :: r, hn => by
    rw [lkG_cons] at hn
    by_cases h : dec p.1 = some k
    · rw [if_pos h] at hn; cases hn
    · rw [if_neg h] at hn
      rw [List.cons_append, lkG_cons, lkG_snoc he (ps := r) hn, lkG_cons]
      by_cases q : dec p.1 = some j
      · rw [if_pos q, if_pos q, if_neg (fun z => h (by rw [← z]; exact q))]
      · rw [if_neg q, if_neg q]
/-- what a store leaves -/
theorem lkG_pu {dec : D → Option κ} {e : κ → D} (he : ∀ k, dec (e k) = some k) {ps : List (D × D)} {k j : κ} {v : D} : lkG dec (puG dec e ps k v) j = if j = k then some v else lkG dec ps j := by
  unfold puG
  split
  · rename_i h
    rw [lkG_map]
    rw [lkG_any] at h
    by_cases q : j = k
    · obtain ⟨x, hx⟩ := Option.isSome_iff_exists.mp h
      rw [q, hx]
      simp
    · cases hx : lkG dec ps j <;> simp [q]
  · rename_i h
    rw [lkG_any] at h
    exact lkG_snoc he (by simpa using h)
end
abbrev lkK := lkG toK
abbrev lkT := lkG toKT
abbrev puK := puG toK kD
abbrev puT := puG toKT kTD
section
variable {K : PySem.W.Frag} {H : Hp}
theorem DpK.look {kvs : List (Key × V)} {ps : List (D × D)} (h : DpK K H kvs ps) (k : Key) : (∃ v d, valV kvs k = some v ∧ lkK ps k = some d ∧ Dp K H v d) ∨ (valV kvs k = none ∧ lkK ps k = none) := by
  match h with
  | .nil => exact .inr ⟨rfl, rfl⟩
  | .cons (k := q) (v := v) (d := d) (kvs := kvs) (ps := ps) h1 h2 =>
    by_cases e : q = k
    · subst e
      exact .inl ⟨v, d, valV_pos rfl, by rw [lkK, lkG_cons, if_pos (toK_kD q)], h1⟩
    · have e1 : valV ((q, v) :: kvs) k = valV kvs k := valV_neg (p := (q, v)) e
      have e2 : lkK ((kD q, d) :: ps) k = lkK ps k := by rw [lkK, lkG_cons, if_neg (fun z => e (Option.some.inj ((toK_kD q).symm.trans z)))]
      rw [e1, e2]
      exact h2.look k
theorem DpT.look {kvs : List (List Key × V)} {ps : List (D × D)} (h : DpT K H kvs ps) (k : List Key) : (∃ v d, valV kvs k = some v ∧ lkT ps k = some d ∧ Dp K H v d) ∨ (valV kvs k = none ∧ lkT ps k = none) := by
  match h with
  | .nil => exact .inr ⟨rfl, rfl⟩
  | .cons (k := q) (v := v) (d := d) (kvs := kvs) (ps := ps) h1 h2 =>
    by_cases e : q = k
    · subst e
      exact .inl ⟨v, d, valV_pos rfl, by rw [lkT, lkG_cons, if_pos (toKT_kT q)], h1⟩
    · have e1 : valV ((q, v) :: kvs) k = valV kvs k := valV_neg (p := (q, v)) e
      have e2 : lkT ((kTD q, d) :: ps) k = lkT ps k := by rw [lkT, lkG_cons, if_neg (fun z => e (Option.some.inj ((toKT_kT q).symm.trans z)))]
      rw [e1, e2]
      exact h2.look k
theorem DpK.len : ∀ {kvs : List (Key × V)} {ps : List (D × D)}, DpK K H kvs ps → kvs.length = ps.length
  | _, _, .nil => rfl
  | _, _, .cons _ h => by simp only [List.length_cons, h.len]
theorem DpT.len : ∀ {kvs : List (List Key × V)} {ps : List (D × D)}, DpT K H kvs ps → kvs.length = ps.length
  | _, _, .nil => rfl
  | _, _, .cons _ h => by simp only [List.length_cons, h.len]
theorem DpK.setAll {k : Key} {v : V} {d : D} (hv : Dp K H v d) : ∀ {kvs : List (Key × V)} {ps : List (D × D)}, DpK K H kvs ps → DpK K H (kvs.map fun kv => if kv.1 = k then (kv.1, v) else kv) (ps.map fun p => if toK p.1 = some k then (p.1, d) else p)
  | _, _, .nil => .nil
  | _, _, .cons (k := q) (v := w) (d := e) h1 h2 => by
    rw [List.map_cons, List.map_cons]
    by_cases z : q = k
    · rw [if_pos z, if_pos (by rw [← z]; exact toK_kD q)]
      exact .cons hv (h2.setAll hv)
    · rw [if_neg z, if_neg (fun y => z (Option.some.inj ((toK_kD q).symm.trans y)))]
      exact .cons h1 (h2.setAll hv)
theorem DpT.setAll {k : List Key} {v : V} {d : D} (hv : Dp K H v d) : ∀ {kvs : List (List Key × V)} {ps : List (D × D)}, DpT K H kvs ps → DpT K H (kvs.map fun kv => if kv.1 = k then (kv.1, v) else kv) (ps.map fun p => if toKT p.1 = some k then (p.1, d) else p)
  | _, _, .nil => .nil
  | _, _, .cons (k := q) (v := w) (d := e) h1 h2 => by
    rw [List.map_cons, List.map_cons]
    by_cases z : q = k
    · rw [if_pos z, if_pos (by rw [← z]; exact toKT_kT q)]
      exact .cons hv (h2.setAll hv)
    · rw [if_neg z, if_neg (fun y => z (Option.some.inj ((toKT_kT q).symm.trans y)))]
      exact .cons h1 (h2.setAll hv)
theorem DpK.snoc {k : Key} {v : V} {d : D} (hv : Dp K H v d) : ∀ {kvs : List (Key × V)} {ps : List (D × D)}, DpK K H kvs ps → DpK K H (kvs ++ [(k, v)]) (ps ++ [(kD k, d)])
  | _, _, .nil => .cons hv .nil
  | _, _, .cons h1 h2 => .cons h1 (h2.snoc hv)
theorem DpT.snoc {k : List Key} {v : V} {d : D} (hv : Dp K H v d) : ∀ {kvs : List (List Key × V)} {ps : List (D × D)}, DpT K H kvs ps → DpT K H (kvs ++ [(k, v)]) (ps ++ [(kTD k, d)])
  | _, _, .nil => .cons hv .nil
  | _, _, .cons h1 h2 => .cons h1 (h2.snoc hv)
theorem DpK.put {kvs : List (Key × V)} {ps : List (D × D)} (h : DpK K H kvs ps) {k : Key} {v : V} {d : D} (hv : Dp K H v d) : DpK K H (putK kvs k v) (puK ps k d) := by
  have e : (kvs.any fun kv => decide (kv.1 = k)) = (ps.any fun p => decide (toK p.1 = some k)) := by
    rw [valV_any, lkG_any]
    rcases h.look k with ⟨v, d, e1, e2, _⟩ | ⟨e1, e2⟩
    · rw [e1, show lkG toK ps k = some d from e2]; rfl
    · rw [e1, show lkG toK ps k = none from e2]; rfl
  unfold putK puK puG
  rw [e]
  split
  · exact h.setAll hv
  · exact h.snoc hv
theorem DpT.put {kvs : List (List Key × V)} {ps : List (D × D)} (h : DpT K H kvs ps) {k : List Key} {v : V} {d : D} (hv : Dp K H v d) : DpT K H (putK kvs k v) (puT ps k d) := by
  have e : (kvs.any fun kv => decide (kv.1 = k)) = (ps.any fun p => decide (toKT p.1 = some k)) := by
    rw [valV_any, lkG_any]
    rcases h.look k with ⟨v, d, e1, e2, _⟩ | ⟨e1, e2⟩
    · rw [e1, show lkG toKT ps k = some d from e2]; rfl
    · rw [e1, show lkG toKT ps k = none from e2]; rfl
  unfold putK puT puG
  rw [e]
  split
  · exact h.setAll hv
  · exact h.snoc hv
theorem dp_kV {H : Hp} {v : V} {k : Key} (h : Dp K H v (kD k)) : v = kV k := by
  cases k with
  | inl i => cases h; rfl
  | inr x => cases h; rfl
theorem dps_kV {H : Hp} : ∀ {k : List Key} {vs : List V}, DpAll K H vs (k.map kD) → vs = k.map kV
  | [], _, h => by cases h; rfl
  | k :: r, _, h => by
    cases h with
    | cons h1 h2 => rw [dp_kV h1, dps_kV h2]; rfl
end
/-! a dict is asked -/
inductive DV where
  | k (ps : List (D × D))
  | t (ps : List (D × D))
def asD : D → Option DV
  | .dict ((.none, .none) :: ps) => some (.t ps)
  | .dict ps => some (.k ps)
  | _ => none
def evDgo (d y : D) : R (Option D) := match asD d with
  | some (.k ps) => match toK y with
    | some k => .ok (lkK ps k)
    | none => .no
  | some (.t ps) => match toKT y with
    | some k => .ok (lkT ps k)
    | none => .no
  | none => .no
def ckD (d : D) : R Unit := if (asD d).isSome = true then .ok () else .no
def evDg (d y : D) : R D := evDgo d y >>= fun o => match o with
  | some v => .ok v
  | none => .no
def evDd (d y x : D) : R D := evDgo d y >>= fun o => .ok (o.getD x)
def evDi (n : Bool) (y d : D) : R D := evDgo d y >>= fun o => .ok (.bool (if n = true then !o.isSome else o.isSome))
def evDn (t : Bool) : D := if t = true then .dict [(.none, .none)] else .dict []
def keysD (ps : List (D × D)) : List D := ps.map (·.1)
def evDl (d : D) : R D := match asD d with
  | some (.k ps) => .ok (.int ps.length)
  | some (.t ps) => .ok (.int ps.length)
  | none => .no
def evDs (d : D) : R D := match asD d with
  | some (.k ps) => match intsOf (keysD ps) with
    | some ns => if ns.length < 64 then .ok (.list ((sortI ns).map PyData.int)) else .no
    | none => .no
  | _ => .no
def evDk (d : D) : R D := match asD d with
  | some (.k ps) => .ok (.list (keysD ps))
  | _ => .no
section
variable {H : Hp} {O : Addr → Bool}
theorem DpK.head {K : PySem.W.Frag} {kvs : List (Key × V)} {ps : List (D × D)} (h : DpK K H kvs ps) : asD (.dict ps) = some (.k ps) := by
  match h with
  | .nil => rfl
  | .cons (k := k) _ _ => cases k <;> rfl
/-- a dict's answer to a key -/
theorem dc_get {x y : V} {d e : D} {r : Option D} (hx : Itm [] H O x d) (hy : Dp [] H y e) (hr : evDgo d e = .ok r) : ∃ a o, x = .ref a ∧ DGet H a y o ∧ (∀ v, o = some v → ∃ z, r = some z ∧ Dp [] (mask H O) v z) ∧ (o = none → r = none) := by
  unfold evDgo at hr
  rcases hx with ⟨f, k⟩ | ⟨a, xs, ds, rfl, rfl, _, _⟩ | ⟨a, xs, ds, rfl, rfl, _, _⟩ | ⟨ps, rfl, ⟨a, kvs, rfl, h1, h2⟩ | ⟨a, kvs, qs, rfl, rfl, h1, h2⟩⟩
  · cases k <;> first | (simp [asD] at hr; done) | cases f
  · cases hr
  · cases hr
  · rw [h2.head] at hr
    dsimp only at hr
    split at hr
    · rename_i k hk
      cases hr
      rw [toK_some hk] at hy
      rw [dp_kV hy]
      refine ⟨a, _, rfl, DGet.k h1, ?_⟩
      rcases h2.look k with ⟨v, d, e1, e2, kv⟩ | ⟨e1, e2⟩
      · rw [e1, e2]
        exact ⟨fun w hw => by cases hw; exact ⟨d, rfl, kv⟩, fun z => nomatch z⟩
      · rw [e1, e2]
        exact ⟨fun w hw => (nomatch hw), fun _ => rfl⟩
    · cases hr
  · dsimp only [asD] at hr
    split at hr
    · rename_i k hk
      cases hr
      rw [toKT_some hk] at hy
      cases hy with
      | @tup b xs _ t1 t2 =>
        rw [dps_kV t2] at t1
        refine ⟨a, _, rfl, DGet.t h1 t1, ?_⟩
        rcases h2.look k with ⟨v, d, e1, e2, kv⟩ | ⟨e1, e2⟩
        · rw [e1, e2]
          exact ⟨fun w hw => by cases hw; exact ⟨d, rfl, kv⟩, fun z => nomatch z⟩
        · rw [e1, e2]
          exact ⟨fun w hw => (nomatch hw), fun _ => rfl⟩
    · cases hr
theorem dv_isD {x : V} {d : D} (hx : Itm [] H O x d) (hd : (asD d).isSome = true) : ∃ a, x = .ref a ∧ IsD H a := by
  rcases hx with ⟨f, k⟩ | ⟨a, xs, ds, rfl, rfl, _, _⟩ | ⟨a, xs, ds, rfl, rfl, _, _⟩ | ⟨ps, rfl, ⟨a, kvs, rfl, h1, h2⟩ | ⟨a, kvs, qs, rfl, rfl, h1, h2⟩⟩
  · cases k <;> first | (cases hd; done) | cases f
  · cases hd
  · cases hd
  · exact ⟨a, rfl, .inl ⟨kvs, .inl h1⟩⟩
  · exact ⟨a, rfl, .inr ⟨kvs, .inl h1⟩⟩
theorem evDgo_exc {d y : D} {z : Nat} : evDgo d y ≠ .exc z := by
  unfold evDgo
  split
  · split <;> exact fun h => nomatch h
  · split <;> exact fun h => nomatch h
  · exact fun h => nomatch h
end
theorem Tmp.itsAt {H H' : Hp} {O : Addr → Bool} {v : V} {d : D} {o : Own} (hd : Dom H' O) (s : Same H H') (hf : itmb o = true) (t : Tmp H O v d o) : Itm [] H' O v d := (t.later s).its hd hf
section
variable {X : Cx} {c : Ctx}
theorem pe_dn {pos : Pos} (t : Bool) : PE X (.Dict [] [] pos) (tE c (fun _ => .ok (evDn t)) .dct) := by
  cases t with
  | false =>
    refine PE.imp pe_dnewK fun σ H Q ⟨env, O, a, h⟩ p hp => ?_
    have h : Gv O .dct Q H (.dict []) := h
    exact h _ _ [p] (same_new hp) (Fresh.one hp) (.dck upd_same (add_true.mpr (.inr (List.mem_singleton.mpr rfl))) .nil)
  | true =>
    refine PE.imp pe_dnewT fun σ H Q ⟨env, O, a, h⟩ p hp => ?_
    have h : Gv O .dct Q H (.dict [(.none, .none)]) := h
    exact h _ _ [p] (same_new hp) (Fresh.one hp) (.dct upd_same (add_true.mpr (.inr (List.mem_singleton.mpr rfl))) .nil)
theorem pe_dg {a k : Expr} {pos : Pos} {f g : Ev → R D} {o o' : Own} (hu : X.A.units + 1 < cLine) (ho : itmb o = true) (ha : PE X a (tE c f o)) (hk : PE X k (tE c g o')) (hs : NoSl k) : PE X (.Subscript a k pos) (tE c (fun env => f env >>= fun d => g env >>= fun y => evDg d y) .sh) := by
  refine PE.imp (pe_dget hu ha hk hs) fun σ H Q ⟨env, O, at_, h⟩ => tE_bind at_ Gv.up h fun d x H1 _ s1 a1 t1 h1 => tE_bind a1 Gv.up h1 fun e y H2 _ s2 a2 t2 h2 => ?_
  cases hr : evDgo d e with
  | no => unfold evDg at h2; rw [hr] at h2; exact h2.elim
  | exc z => exact (evDgo_exc hr).elim
  | ok r =>
    obtain ⟨p, q, ex, hg, hv, hn⟩ := dc_get (t1.itsAt a2.dom s2 ho) t2.dp hr
    unfold evDg at h2
    rw [hr] at h2
    cases q with
    | none =>
      rw [hn rfl] at h2
      exact h2.elim
    | some v =>
      obtain ⟨z, ez, kz⟩ := hv v rfl
      subst ez
      have h2 : Gv O .sh Q H2 z := h2
      exact ⟨p, v, ex, hg, h2.give (Same.refl _) (.sh kz)⟩
theorem pe_di {a k : Expr} {pos : Pos} {f g : Ev → R D} {o o' : Own} {n : Bool} (hu : X.A.units + 1 < cLine) (ho : itmb o = true) (hk : PE X k (tE c g o')) (ha : PE X a (tE c f o)) (hb : behindInMarks (if n = true then CmpOp.NotIn else CmpOp.In) a = false) :
    PE X (.Compare k [if n = true then .NotIn else .In] [a] pos) (tE c (fun env => g env >>= fun y => f env >>= fun d => evDi n y d) .sh) := by
  have go : ∀ σ H Q, tE c (fun env => g env >>= fun y => f env >>= fun d => evDi n y d) .sh σ H Q → tE c g o' σ H fun y H1 => tE c f o σ H1 fun x H2 => ∃ a q, x = .ref a ∧ DGet H2 a y q ∧ Q (.bl (if n = true then !q.isSome else q.isSome)) H2 := by
    rintro σ H Q ⟨env, O, at_, h⟩
    refine tE_bind at_ Gv.up h fun e y H1 _ s1 a1 t1 h1 => tE_bind a1 Gv.up h1 fun d x H2 _ s2 a2 t2 h2 => ?_
    cases hr : evDgo d e with
    | no => unfold evDi at h2; rw [hr] at h2; exact h2.elim
    | exc z => exact (evDgo_exc hr).elim
    | ok r =>
      obtain ⟨p, q, ex, hg, hv, hn⟩ := dc_get (t2.its a2.dom ho) (dp_mono s2 _ _ t1.dp) hr
      unfold evDi at h2
      rw [hr] at h2
      have h2 : Gv O .sh Q H2 (.bool (if n = true then !r.isSome else r.isSome)) := h2
      refine ⟨p, q, ex, hg, ?_⟩
      have e2 : q.isSome = r.isSome := by
        cases q with
        | none => rw [hn rfl]; rfl
        | some v => obtain ⟨z, ez, _⟩ := hv v rfl; rw [ez]; rfl
      rw [e2]
      exact h2.flat rfl (.bl _)
  cases n with
  | false => exact PE.imp (pe_cmp (pc_din hu hk ha) hb) fun σ H Q h => go σ H Q h
  | true => exact PE.imp (pe_cmp (pc_dnotin hu hk ha) hb) fun σ H Q h => go σ H Q h
theorem pt_di {a k : Expr} {pos : Pos} {f g : Ev → R D} {o o' : Own} {n : Bool} (hu : X.A.units + 1 < cLine) (ho : itmb o = true) (hk : PE X k (tE c g o')) (ha : PE X a (tE c f o)) (hb : behindInMarks (if n = true then CmpOp.NotIn else CmpOp.In) a = false) :
    PT X (.Compare k [if n = true then .NotIn else .In] [a] pos) (tT c (fun env => (g env >>= fun y => f env >>= fun d => evDi n y d) >>= truthD)) := by
  have go : ∀ σ H (Q : Bool → Hp → Prop), tT c (fun env => (g env >>= fun y => f env >>= fun d => evDi n y d) >>= truthD) σ H Q → tE c g o' σ H fun y H1 => tE c f o σ H1 fun x H2 => ∃ a q, x = .ref a ∧ DGet H2 a y q ∧ ∃ b, (V.bl (if n = true then !q.isSome else q.isSome)) = .bl b ∧ Q b H2 := by
    rintro σ H Q ⟨env, O, at_, h⟩
    have h : AnsP (c.W σ) H (g env >>= fun y => f env >>= fun d => evDi n y d >>= truthD) (Gb Q) := by
      have e : ((g env >>= fun y => f env >>= fun d => evDi n y d) >>= truthD) = (g env >>= fun y => f env >>= fun d => evDi n y d >>= truthD) := by
        cases g env <;> first | rfl | (show ((f env >>= _) >>= _) = _; cases f env <;> rfl)
      rw [← e]
      exact h
    refine tE_bind at_ Gb.up h fun e y H1 _ s1 a1 t1 h1 => tE_bind a1 Gb.up h1 fun d x H2 _ s2 a2 t2 h2 => ?_
    cases hr : evDgo d e with
    | no => unfold evDi at h2; rw [hr] at h2; exact h2.elim
    | exc z => exact (evDgo_exc hr).elim
    | ok r =>
      obtain ⟨p, q, ex, hg, hv, hn⟩ := dc_get (t2.its a2.dom ho) (dp_mono s2 _ _ t1.dp) hr
      unfold evDi at h2
      rw [hr] at h2
      have h2 : Gb Q H2 (if n = true then !r.isSome else r.isSome) := h2
      refine ⟨p, q, ex, hg, _, rfl, ?_⟩
      have e2 : q.isSome = r.isSome := by
        cases q with
        | none => rw [hn rfl]; rfl
        | some v => obtain ⟨z, ez, _⟩ := hv v rfl; rw [ez]; rfl
      rw [e2]
      exact h2 H2 (Same.refl _)
  cases n with
  | false => exact PT.imp (pt_cmp (pc_din hu hk ha) hb) fun σ H Q h => go σ H Q h
  | true => exact PT.imp (pt_cmp (pc_dnotin hu hk ha) hb) fun σ H Q h => go σ H Q h
theorem pe_d1 {a k : Expr} {ap cp : Pos} {f g : Ev → R D} {o o' : Own} (hu : X.A.units + 1 < cLine) (ho : itmb o = true) (ha : PE X a (tE c f o)) (hk : PE X k (tE c g o')) (m : M1 X a "get" ap k cp) :
    PE X (.Call (.Attribute a "get" ap) [k] [] cp) (tE c (fun env => f env >>= fun d => ckD d >>= fun _ => g env >>= fun y => evDd d y .none) .sh) := by
  refine PE.imp (pe_dget1 hu ha hk m) fun σ H Q ⟨env, O, at_, h⟩ => tE_bind at_ Gv.up h fun d x H1 _ s1 a1 t1 h1 => ?_
  unfold ckD at h1
  split at h1
  · rename_i hd
    obtain ⟨p, ep, id⟩ := dv_isD (t1.its a1.dom ho) hd
    have h1 : AnsP (c.W σ) H1 (g env >>= fun y => evDd d y .none) (Gv O .sh Q) := h1
    refine ⟨p, ep, id, tE_bind a1 Gv.up h1 fun e y H2 _ s2 a2 t2 h2 => ?_⟩
    cases hr : evDgo d e with
    | no => unfold evDd at h2; rw [hr] at h2; exact h2.elim
    | exc z => exact (evDgo_exc hr).elim
    | ok r =>
      obtain ⟨p', q, ex, hg, hv, hn⟩ := dc_get (t1.itsAt a2.dom s2 ho) t2.dp hr
      have e0 : p' = p := by rw [ep] at ex; cases ex; rfl
      subst e0
      unfold evDd at h2
      rw [hr] at h2
      have h2 : Gv O .sh Q H2 (r.getD .none) := h2
      refine ⟨q, hg, ?_⟩
      cases q with
      | none =>
        rw [hn rfl] at h2
        exact h2.flat rfl .non
      | some v =>
        obtain ⟨z, ez, kz⟩ := hv v rfl
        subst ez
        exact h2.give (Same.refl _) (.sh kz)
  · exact h1.elim
theorem pe_d2 {a k x : Expr} {ap cp : Pos} {f g gx : Ev → R D} {o o' ox : Own} (hu : X.A.units + 1 < cLine) (ho : itmb o = true) (hx : fz ox = true) (ha : PE X a (tE c f o)) (hk : PE X k (tE c g o')) (hX : PE X x (tE c gx ox)) (m : M2 X a "get" ap k x cp) :
    PE X (.Call (.Attribute a "get" ap) [k, x] [] cp) (tE c (fun env => f env >>= fun d => ckD d >>= fun _ => g env >>= fun y => gx env >>= fun x => evDd d y x) .sh) := by
  refine PE.imp (pe_dget2 hu ha hk hX m) fun σ H Q ⟨env, O, at_, h⟩ => tE_bind at_ Gv.up h fun d v0 H1 _ s1 a1 t1 h1 => ?_
  unfold ckD at h1
  split at h1
  · rename_i hd
    obtain ⟨p, ep, id⟩ := dv_isD (t1.its a1.dom ho) hd
    have h1 : AnsP (c.W σ) H1 (g env >>= fun y => gx env >>= fun x => evDd d y x) (Gv O .sh Q) := h1
    refine ⟨p, ep, id, tE_bind a1 Gv.up h1 fun e y H2 _ s2 a2 t2 h2 => tE_bind a2 Gv.up h2 fun e3 z H3 _ s3 a3 t3 h3 => ?_⟩
    cases hr : evDgo d e with
    | no => unfold evDd at h3; rw [hr] at h3; exact h3.elim
    | exc z => exact (evDgo_exc hr).elim
    | ok r =>
      obtain ⟨p', q, ex, hg, hv, hn⟩ := dc_get (t1.itsAt a3.dom (s2.trans s3) ho) (dp_mono s3 _ _ t2.dp) hr
      have e0 : p' = p := by rw [ep] at ex; cases ex; rfl
      subst e0
      unfold evDd at h3
      rw [hr] at h3
      have h3 : Gv O .sh Q H3 (r.getD e3) := h3
      refine ⟨q, hg, ?_⟩
      cases q with
      | none =>
        rw [hn rfl] at h3
        exact h3.give (Same.refl _) (.sh (t3.fz a3.dom hx))
      | some v =>
        obtain ⟨z, ez, kz⟩ := hv v rfl
        subst ez
        exact h3.give (Same.refl _) (.sh kz)
  · exact h1.elim
/-! built-in functions upon a dict -/
theorem call_lenAny : CallR X (.builtin "len") (fun xs H Q => (∃ (p : Addr) (kvs : List (Key × V)), xs = [.ref p] ∧ H p = some (.dK kvs) ∧ Q (.int ((kvs.length : Nat) : Int)) H) ∨ ∃ (p : Addr) (kvs : List (List Key × V)), xs = [.ref p] ∧ H p = some (.dT kvs) ∧ Q (.int ((kvs.length : Nat) : Int)) H) := by
  intro pins s σ H xs us Q I r h
  rcases h with ⟨p, kvs, rfl, hp, q⟩ | ⟨p, kvs, rfl, hp, q⟩
  · obtain ⟨u, rfl, rx⟩ := vals1 r
    cases rx
    exact d_len I (.inl hp) fun t s' I' => ⟨.int ((kvs.length : Nat) : Int), H, I', ⟨t, rfl⟩, q⟩
  · exact call_len_dT pins s σ H _ us Q I r ⟨p, kvs, rfl, hp, q⟩
theorem dc_k {H : Hp} {O : Addr → Bool} {x : V} {d : D} {ps : List (D × D)} (hx : Itm [] H O x d) (hd : asD d = some (.k ps)) : ∃ a kvs, x = .ref a ∧ H a = some (.dK kvs) ∧ DpK [] (mask H O) kvs ps := by
  rcases hx with ⟨f, k⟩ | ⟨a, xs, ds, rfl, rfl, _, _⟩ | ⟨a, xs, ds, rfl, rfl, _, _⟩ | ⟨qs, rfl, ⟨a, kvs, rfl, h1, h2⟩ | ⟨a, kvs, rs, rfl, rfl, h1, h2⟩⟩
  · cases k <;> first | (cases hd; done) | cases f
  · cases hd
  · cases hd
  · rw [h2.head] at hd
    cases hd
    exact ⟨a, kvs, rfl, h1, h2⟩
  · cases hd
theorem dc_t {H : Hp} {O : Addr → Bool} {x : V} {d : D} {ps : List (D × D)} (hx : Itm [] H O x d) (hd : asD d = some (.t ps)) : ∃ a kvs, x = .ref a ∧ H a = some (.dT kvs) ∧ DpT [] (mask H O) kvs ps := by
  rcases hx with ⟨f, k⟩ | ⟨a, xs, ds, rfl, rfl, _, _⟩ | ⟨a, xs, ds, rfl, rfl, _, _⟩ | ⟨qs, rfl, ⟨a, kvs, rfl, h1, h2⟩ | ⟨a, kvs, rs, rfl, rfl, h1, h2⟩⟩
  · cases k <;> first | (cases hd; done) | cases f
  · cases hd
  · cases hd
  · rw [h2.head] at hd
    cases hd
  · cases hd
    exact ⟨a, kvs, rfl, h1, h2⟩
theorem keys_ints {kvs : List (Key × V)} {ps : List (D × D)} {H : Hp} : ∀ {ns : List Int}, DpK [] H kvs ps → keysD ps = ns.map PyData.int → kvs.map (·.1) = ns.map Sum.inl
  | [], .nil, _ => rfl
  | _ :: _, .nil, h => by cases h
  | [], .cons _ _, h => by cases h
  | n :: ns, .cons (k := k) h1 h2, h => by
    have e := List.cons.inj h
    cases k with
    | inl i =>
      have e1 : i = n := PyData.int.inj e.1
      rw [List.map_cons, List.map_cons, keys_ints h2 e.2, e1]
    | inr x => cases e.1
theorem keys_dp {kvs : List (Key × V)} {ps : List (D × D)} {H H' : Hp} : DpK [] H kvs ps → DpAll [] H' (kvs.map fun kv => kV kv.1) (keysD ps)
  | .nil => .nil
  | .cons (k := k) _ h2 => by
    refine .cons ?_ (keys_dp h2)
    cases k with
    | inl i => exact .int i
    | inr x => exact .str x
/-! repr of a list or tuple, at the law's own def -/
def ltD : D → Bool
  | .list _ | .tuple _ => true
  | _ => false
def evRpr (d : D) : R D := if ltD d = true ∧ SeqAt.shaped d = true ∧ d.showable = true ∧ d.shown.length ≤ 16777216 then .ok (.str d.shown) else .no
theorem call_repr (hg : X.A.guards = some []) (hu : X.A.units + 65 < cLine) : CallR X (.builtin "repr") (fun xs H Q => ∃ v d, xs = [v] ∧ L2.Dp X.K H v d ∧ ltD d = true ∧ SeqAt.shaped d = true ∧ d.showable = true ∧ d.shown.length ≤ 16777216 ∧ Q (.str d.shown) H) := by
  intro pins s σ H xs us Q I r ⟨v, d, e, hd, hl, h1, h2, h3, q⟩
  subst e
  obtain ⟨u, rfl, ru⟩ := vals1 r
  obtain ⟨as, rd⟩ := L2.Dp.reads I d v u hd ru
  have hdep : d.depth ≤ 64 := by
    unfold SeqAt.shaped at h1
    simp only [Bool.and_eq_true, decide_eq_true_eq] at h1
    exact h1.2
  have nd := PyData.noDict_hsm (as := as) (PyData.hasDict_of_canLay d (SeqAt.canLay_of_shaped h1))
  have sz' : d.shown.length ≤ sizeLine := by rw [← sz]; exact h3
  cases rd with
  | list a1 a2 a3 a4 =>
    exact repr_of_reads' (.list a1 a2 a3 a4) h2 nd hg (by omega) (fun _ _ e => e) (fun h' u tk k => ⟨.str _, H, I.kept k, ⟨_, rfl⟩, q⟩) sz'
  | tuple a1 a2 a3 a4 =>
    exact repr_of_reads' (.tuple a1 a2 a3 a4) h2 nd hg (by omega) (fun _ _ e => e) (fun h' u tk k => ⟨.str _, H, I.kept k, ⟨_, rfl⟩, q⟩) sz'
  | none => cases hl
  | bool _ => cases hl
  | int _ _ => cases hl
  | str _ _ => cases hl
  | dict _ _ _ _ _ => cases hl
theorem pe_rpr {a : Expr} {p pos : Pos} {f : Ev → R D} {o : Own} (ho : itmb o = true) (hgd : X.A.guards = some []) (hu : X.A.units + 65 < cLine) (hg : Gl X "repr") (hm : X.mg "repr" = none) (ha : PE X a (tE c f o)) (hs : starEach [a] X.env = (false, eval a X.env) :: starEach [] X.env) :
    PE X (.Call (.Name "repr" p) [a] [] pos) (tE c (fun env => f env >>= evRpr) .sh) := by
  refine PE.imp (pe_callB (call_repr hgd hu) hg hm (by decide +kernel) (pa_cons ha pa_nil hs) (by decide +kernel) (by decide +kernel) hs rfl) fun σ H Q ⟨env, O, at_, h⟩ => tE_bind at_ Gv.up h fun d x H1 _ s1 a1 t1 h1 => ?_
  unfold evRpr at h1
  have it := t1.its a1.dom ho
  split at h1
  · rename_i hd
    have h1 : Gv O .sh Q H1 (.str d.shown) := h1
    exact ⟨x, d, rfl, dp_sh (itm_dp it) hd.2.1, hd.1, hd.2.1, hd.2.2.1, hd.2.2.2, h1.flat rfl (.str _)⟩
  · exact h1.elim
theorem pe_dl {a : Expr} {p pos : Pos} {f : Ev → R D} {o : Own} (ho : itmb o = true) (hg : Gl X "len") (hm : X.mg "len" = none) (ha : PE X a (tE c f o)) (hs : starEach [a] X.env = (false, eval a X.env) :: starEach [] X.env) :
    PE X (.Call (.Name "len" p) [a] [] pos) (tE c (fun env => f env >>= evDl) .sh) := by
  refine PE.imp (pe_callB (call_lenAny) hg hm (Bi.boot .len) (pa_cons ha pa_nil hs) (by decide +kernel) (by decide +kernel) hs rfl) fun σ H Q ⟨env, O, at_, h⟩ => tE_bind at_ Gv.up h fun d x H1 _ s1 a1 t1 h1 => ?_
  unfold evDl at h1
  have it := t1.its a1.dom ho
  split at h1
  · rename_i ps hd
    obtain ⟨q, kvs, ex, h2, h3⟩ := dc_k it hd
    have h1 : Gv O .sh Q H1 (.int ps.length) := h1
    exact .inl ⟨q, kvs, by rw [ex], h2, by rw [h3.len]; exact flat_out h1⟩
  · rename_i ps hd
    obtain ⟨q, kvs, ex, h2, h3⟩ := dc_t it hd
    have h1 : Gv O .sh Q H1 (.int ps.length) := h1
    exact .inr ⟨q, kvs, by rw [ex], h2, by rw [h3.len]; exact flat_out h1⟩
  · exact h1.elim
theorem pe_ds {a : Expr} {p pos : Pos} {f : Ev → R D} {o oa : Own} (ho : newO o = true) (hi : itmb oa = true) (hc : X.calm = true) (hg : Gl X "sorted") (hm : X.mg "sorted" = none) (ha : PE X a (tE c f oa)) (hs : starEach [a] X.env = (false, eval a X.env) :: starEach [] X.env) :
    PE X (.Call (.Name "sorted" p) [a] [] pos) (tE c (fun env => f env >>= evDs) o) := by
  refine PE.imp (pe_callB (call_sortedDI hc) hg hm (Bi.boot .sorted) (pa_cons ha pa_nil hs) (by decide +kernel) (by decide +kernel) hs rfl) fun σ H Q ⟨env, O, at_, h⟩ => tE_bind at_ Gv.up h fun d x H1 _ s1 a1 t1 h1 => ?_
  unfold evDs at h1
  have it := t1.its a1.dom hi
  split at h1
  · rename_i ps hd
    obtain ⟨q, kvs, ex, h2, h3⟩ := dc_k it hd
    split at h1
    · rename_i ns hn
      split at h1
      · rename_i hl
        have h1 : Gv O o Q H1 (.list ((sortI ns).map PyData.int)) := h1
        refine ⟨q, kvs, ns, by rw [ex], .inl h2, keys_ints h3 (intsOf_some hn), hl, fun ys p hp hs hn => ?_⟩
        rw [sortI_eq hp hs]
        exact h1.newList ho a1.dom (Same.refl _) (DpAll.of_ints _) hn
      · exact h1.elim
    · exact h1.elim
  · exact h1.elim
theorem pe_dk {a : Expr} {p pos : Pos} {f : Ev → R D} {o oa : Own} (ho : newO o = true) (hi : itmb oa = true) (hc : X.calm = true) (hg : Gl X "list") (hm : X.mg "list" = none) (ha : PE X a (tE c f oa)) (hs : starEach [a] X.env = (false, eval a X.env) :: starEach [] X.env) :
    PE X (.Call (.Name "list" p) [a] [] pos) (tE c (fun env => f env >>= evDk) o) := by
  refine PE.imp (pe_callTy (call_listD hc) hg hm (Bi.boot .list) (pa_cons ha pa_nil hs) (by decide +kernel) (by decide +kernel) hs rfl) fun σ H Q ⟨env, O, at_, h⟩ => tE_bind at_ Gv.up h fun d x H1 _ s1 a1 t1 h1 => ?_
  unfold evDk at h1
  have it := t1.its a1.dom hi
  split at h1
  · rename_i ps hd
    obtain ⟨q, kvs, ex, h2, h3⟩ := dc_k it hd
    have h1 : Gv O o Q H1 (.list (keysD ps)) := h1
    exact ⟨q, kvs, by rw [ex], .inl h2, fun p hp => h1.newList ho a1.dom (Same.refl _) (keys_dp h3) hp⟩
  · exact h1.elim
end
end Pv

/-! part Dj: the empty tuple, dicts of one written entry, list.index -/
namespace Pv
open PySem PySem.Spec PyProof.Rows L2
section
variable {X : Cx} {c : Ctx}
theorem pe_et {k : Nat} {pos : Pos} : PE X (.Tuple [] k pos) (tE c (fun _ => .ok (.tuple [])) .sh) :=
  PE.imp (L2.pe_tup pa_nil) fun σ H Q ⟨env, O, a, h⟩ => ⟨Nat.zero_le _, fun p hp => Gv.newTup a.dom (Same.refl _) (show Gv O .sh Q H (.tuple []) from h) .nil hp⟩
/-- a new dict of one entry -/
def evD1 (y z : D) : R D := match toK y with
  | some _ => .ok (.dict [(y, z)])
  | none => .no
theorem pe_d1d {k v : Expr} {pos : Pos} {f g : Ev → R D} {o o' : Own} (hf : fz o' = true) (hk : PE X k (tE c f o)) (hv : PE X v (tE c g o')) :
    PE X (.Dict [some k] [v] pos) (tE c (fun env => f env >>= fun y => g env >>= fun z => evD1 y z) .dct) := by
  refine PE.imp (pe_disp (pps_cons hk hv pps_nil) rfl rfl (by simp) (by simp)) fun σ H Q ⟨env, O, a, h⟩ p hp => ?_
  have sn : Same H (upd H p (.dK [])) := same_new hp
  have fr : Fresh H (upd H p (.dK [])) [p] := Fresh.one hp
  have a' := a.add sn fr
  have h : AnsP (c.W σ) H (f env >>= fun y => g env >>= fun z => evD1 y z) (Gv O .dct Q) := h
  cases hy : f env with
  | no => rw [hy] at h; exact h.elim
  | exc n =>
    rw [hy] at h
    exact ⟨env, _, a', by rw [hy]; exact fun H' s' => h H' (sn.trans s')⟩
  | ok y =>
    rw [hy] at h
    have h : AnsP (c.W σ) H (g env >>= fun z => evD1 y z) (Gv O .dct Q) := h
    refine ⟨env, _, a', ?_⟩
    rw [hy]
    intro yv H1 A1 s1 fr1 r1
    have a1 := a'.later s1
    cases hz : g env with
    | no => rw [hz] at h; exact h.elim
    | exc n =>
      rw [hz] at h
      exact ⟨env, _, a1, by rw [hz]; exact fun H' s' => h H' ((sn.trans s1).trans s')⟩
    | ok z =>
      rw [hz] at h
      have h : AnsP (c.W σ) H (evD1 y z) (Gv O .dct Q) := h
      refine ⟨env, _, a1, ?_⟩
      rw [hz]
      intro zv H2 A2 s2 fr2 r2
      unfold evD1 at h
      split at h
      · rename_i key hkey
        have h : Gv O .dct Q H (.dict [(y, z)]) := h
        have s12 := s1.trans s2
        have hp2 : H2 p = some (.dK []) := s12 _ _ upd_same
        have e1 : yv = kV key := by
          have := r1.dp
          rw [toK_some hkey] at this
          exact dp_kV this
        have tz : Tmp H2 (add O [p]) zv z o' := ⟨A2, fr2.disj a1.dom, r2⟩
        have dz := tz.fz (a1.later s2).dom hf
        refine ⟨hp2, [(key, zv)], by rw [e1]; rfl, by simp, ?_⟩
        have pO : O p = false := by
          cases q : O p with
          | false => rfl
          | true => exact ((a.dom p q).no hp).elim
        refine h _ _ [p] (fun b u e => ?_) ⟨by simp, fun b hb => by rw [List.mem_singleton.mp hb]; exact hp, fun b hb => by rw [List.mem_singleton.mp hb]; exact ⟨_, upd_same, rfl⟩⟩ ?_
        · have ne : b ≠ p := fun q => by rw [q, hp] at e; cases e
          rw [upd_ne ne]
          exact s12 _ _ (by rw [upd_ne ne]; exact e)
        · rw [toK_some hkey]
          refine .dck upd_same (add_true.mpr (.inr (List.mem_singleton.mpr rfl))) (.cons (dz.mono fun b u e => ?_) .nil)
          obtain ⟨e0, e1⟩ := mask_some.mp e
          have ne : b ≠ p := fun q => by rw [q, add_true.mpr (.inr (List.mem_singleton.mpr rfl))] at e0; cases e0
          exact mask_of e0 (by rw [upd_ne ne]; exact e1)
      · exact h.elim
/-! list.index -/
def ckL : D → R Unit
  | .list _ => .ok ()
  | _ => .no
def evXi (x y : D) : R D := match x with
  | .list ds => if flatD y = true ∧ flats ds = true then (match ds.findIdx? (fun z => PyData.eqv z y) with
    | some j => .ok (.int j)
    | none => .no) else .no
  | _ => .no
theorem xi_few {v : Expr} {cp : Pos} {env : Env} (e : starEach [v] env = [(false, eval v env)]) : ((backTo cp (starEach [v] env)).all (fun x => !x.1) && (backToKw cp (keywordEach [] env)).all (fun x => x.1.isSome) && decide (([v] : List Expr).length + ([] : List Keyword).length + (if ([] : List Keyword).isEmpty then 0 else 1) < 30)) = true := by
  rw [e]
  rfl
theorem pe_xi {b u : Expr} {ap cp : Pos} {f g : Ev → R D} {o o' : Own} (ho : itmb o = true) (hb : ∀ env : Env, attributeBase b "index" env (eval b env) = eval b env) (hl : (ap.endLine == cp.line) = true) (hs : ∀ env : Env, starEach [u] env = [(false, eval u env)]) (ha : PE X b (tE c f o)) (hk : PE X u (tE c g o')) :
    PE X (.Call (.Attribute b "index" ap) [u] [] cp) (tE c (fun env => f env >>= fun x => ckL x >>= fun _ => g env >>= fun y => evXi x y) .sh) := by
  refine PE.imp (pe_bm PySem.F.plainAttrs_list PySem.F.slot_list_index PySem.F.type_list_index mt_index ha (pa_cons hk pa_nil (hs _)) (hb _) (xi_few (hs _)) hl (hs _) rfl) fun σ H Q ⟨env, O, at_, h⟩ => tE_bind at_ Gv.up h fun d x H1 _ s1 a1 t1 h1 => ?_
  cases d with
  | list ds =>
    have h1 : AnsP (c.W σ) H1 (g env >>= fun y => evXi (.list ds) y) (Gv O .sh Q) := h1
    rcases t1.its a1.dom ho with ⟨z0, _⟩ | ⟨a, xs, ds', rfl, e0, k1, k2⟩ | ⟨_, _, _, _, e0, _, _⟩ | ⟨_, e0, _⟩
    · cases z0
    · cases e0
      refine ⟨.inl ⟨rfl, xs, seq_any k1⟩, tE_bind a1 Gv.up h1 fun e y H2 _ s2 a2 t2 h2 => ?_⟩
      unfold evXi at h2
      dsimp only at h2
      split at h2
      · rename_i hm
        split at h2
        · rename_i j hj
          have h2 : Gv O .sh Q H2 (.int j) := h2
          have kd : DpAll [] H2 xs ds := dpAll_mono (fun b u q => s2 _ _ (mask_le _ _ q)) _ _ k2
          obtain ⟨hjl, hjt, hjn⟩ := List.findIdx?_eq_some_iff_getElem.mp hj
          obtain ⟨zv, hzv, kz⟩ := DpAll.get kd (List.getElem?_eq_getElem hjl)
          have fl : ∀ {i : Nat} {w : V} (hi : i < ds.length), xs[i]? = some w → eqV w y = PyData.eqv ds[i] e := fun {i w} hi hw => by
            obtain ⟨w', hw', kw⟩ := DpAll.get kd (List.getElem?_eq_getElem hi)
            rw [hw] at hw'
            cases hw'
            refine eqV_of ?_ hm.1 kw t2.dp
            have : ∀ {ds : List D} {i : Nat} (hi : i < ds.length), flats ds = true → flatD ds[i] = true := fun {ds} => by
              induction ds with
              | nil => intro i hi; simp at hi
              | cons d ds ih =>
                intro i hi f
                have f' := Bool.and_eq_true_iff.mp f
                cases i with
                | zero => exact f'.1
                | succ i => exact ih (by simpa using hi) f'.2
            exact this hi hm.2
          refine ⟨a, xs, y, j, zv, rfl, rfl, seq_any (Same.seq s2 k1), flatV_of hm.1 t2.dp, flatVs_of hm.2 kd, hzv, by rw [fl hjl hzv]; exact hjt, fun m z' hm' hz' => ?_, h2.flat rfl (.int _)⟩
          have hml : m < ds.length := by omega
          rw [fl hml hz']
          simpa using hjn m hm'
        · exact h2.elim
      · exact h2.elim
    · cases e0
    · cases e0
  | _ => exact h1.elim
end
end Pv

/-! part Sc: how many different numbers: len({elt for .. in ..}) -/
namespace Pv
open PySem PySem.Spec PyProof.Rows L2
/-- the set of ints at a, as a tracked thing -/
def SI (w : World) (a : Addr) (l : List Int) : HO := .ext fun h => L2.SetR w h a (fun j => decide (j ∈ l)) l.length
def dadd (l : List Int) (k : Int) : List Int := if k ∈ l then l else l ++ [k]
theorem si_new {w : World} {P : Program} {H : Hp} {h : Heap} {a : Addr} {l : List Int} (R : L2.SetR w h a (fun j => decide (j ∈ l)) l.length) : ObjOk P w H h a (SI w a l) := by
  have ⟨o, _, _, _, ho, _⟩ := R
  exact ⟨R, ⟨o, ho⟩, fun h1 h2 p k => L2.SetR.at p k⟩
theorem dadd_set {w : World} {h : Heap} {a : Addr} {l : List Int} {k : Int} (R : L2.SetR w h a (fun j => decide (j ∈ l) || decide (j = k)) (if decide (k ∈ l) = true then l.length else l.length + 1)) : L2.SetR w h a (fun j => decide (j ∈ dadd l k)) (dadd l k).length := by
  by_cases hk : k ∈ l
  · have e : dadd l k = l := if_pos hk
    rw [if_pos (decide_eq_true hk)] at R
    rw [e]
    refine R.congr fun j => ?_
    by_cases hj : j ∈ l
    · simp [hj]
    · have : j ≠ k := fun z => hj (z ▸ hk)
      simp [hj, this]
  · have e : dadd l k = l ++ [k] := if_neg hk
    rw [if_neg (by simpa using hk)] at R
    rw [e, List.length_append]
    exact R.congr fun j => by simp
section
variable {X : Cx}
theorem si_add {pins : List (Addr × Obj)} {σ : L2.St} {H : Hp} {s : Shared} {E : Value → Shared → Prop} {D : Addr} {l : List Int} {k : Int} {tk : Tok} {Q : Value → Shared → Prop} (inv : Inv X pins σ H s) (at_ : H D = some (SI X.w D l)) (room : l.length + 1 < 4096)
    (go_on : ∀ t, Inv X pins σ (upd H D (SI X.w D (dadd l k))) t → Q .none t) : wpAny (model X.prog X.w) X.A (call (.builtin "set.add") [.ref D, .int k tk]) Q E s :=
  L2.setR_add (S := fun j => decide (j ∈ l)) (n := l.length) (inv.hok D _ at_).1 room fun h' keeps now => go_on _ <|
    inv.write (e := D) (t' := s.toks + 1) (by rw [at_]; trivial) (.inl rfl) (fun b u hb hu => (keeps.2 b hb).trans hu) (now.elim fun ob r => r.elim fun _ r => r.elim fun _ r => r.elim fun _ r => ⟨ob, r.1⟩) (si_new (dadd_set now))
theorem si_len : CallR X (.builtin "len") (fun xs H Q => ∃ a l, xs = [.ref a] ∧ H a = some (SI X.w a l) ∧ Q (.int ((l.length : Nat) : Int)) H) := by
  rintro pins s σ H xs us Q I r ⟨a, l, rfl, ha, q⟩
  obtain ⟨v, rfl, rv⟩ := vals1 r
  cases rv
  have set_ : L2.SetR X.w s.heap a (fun j => decide (j ∈ l)) l.length := (I.hok a _ ha).1
  obtain ⟨ob, ms, _, _, at_, exact_, data, _, _, _, few, fit, many, _⟩ := set_
  have few' : ms.size < 4096 := few
  refine call_len_set at_ exact_ data fit (by omega) ?_
  rw [many]
  exact ⟨.int l.length, H, I.tok _, ⟨_, rfl⟩, q⟩
/-- what a set comprehension of ints asks: from the start to the set at D; St i k: the state ahead of item i, k goes down -/
def tSi (w : World) (wi : TI) (g : TG) (tt : TT) (te : TE) (vs : List Nat) : TE := fun σ H Q =>
  wi σ H fun walk B0 => ∀ D, B0 D = none → ∃ St : Nat → Nat → Hp → Prop, (∃ k, St 0 k (upd B0 D (SI w D []))) ∧
    ∀ i k B, St i k B → (walk.stop i B ∧ Q (.ref D) B) ∨
      (walk.go i B ∧ ∃ Nx : Hp → Prop, (∀ B', Nx B' → ∃ k', k' < k ∧ St (i + 1) k' B') ∧
        ∀ x B', walk.yld i B x B' → g x (wipe σ vs) B' fun τ B2 => wipe τ vs = wipe σ vs ∧ tt τ B2 fun ok B3 =>
          if ok = true then te τ B3 fun y B4 => ∃ (k : Int) (l : List Int), y = .int k ∧ B4 D = some (SI w D l) ∧ l.length + 1 < 4096 ∧ Nx (upd B4 D (SI w D (dadd l k)))
          else Nx B3)
end
/-- the numbers, each once, in the order of their first coming -/
def goS (f : D → R (Option D)) : List D → List Int → R (List Int)
  | [], acc => .ok acc
  | x :: r, acc => match f x with
    | .ok (some (.int k)) => if acc.length + 1 < 4096 then goS f r (dadd acc k) else .no
    | .ok (some _) => .no
    | .ok none => goS f r acc
    | _ => .no
def ckN (l : List Int) : R D := .ok (.int ((l.length : Nat) : Int))
section
variable {X : Cx} {c : Ctx}
theorem si_read {w : World} {wi : TI} {g : G} {tt : TT} {te : TE} {ws : List Nat} {fi : Ev → R (List D)} {ft : Ev → R Bool} {fe : Ev → R D} {o : Own} (hw : wi = tI c true fi) (ht : tt = tT (ctxB c) ft) (he : te = tE (ctxB c) fe o) (hs : ∀ i ∈ gslots g, i ∈ ws) {K : PySem.W.Frag} {σ : L2.St} {H0 : Hp} {Q : VK}
    (h : tE c (fun env => fi env >>= fun items => goS (step g ws ft fe env) items [] >>= fun l => ckN l) .sh σ H0 Q) :
    tSi w wi (tgG K g) tt te ws σ H0 fun x H => ∃ a l, [x] = [.ref a] ∧ H a = some (SI w a l) ∧ Q (.int ((l.length : Nat) : Int)) H := by
  subst hw ht he
  obtain ⟨env, O, a, h⟩ := h
  have h : AnsP (c.W σ) H0 (fi env >>= fun items => goS (step g ws ft fe env) items [] >>= fun l => ckN l) (Gv O .sh Q) := h
  refine ⟨env, O, a, ?_⟩
  cases hfi : fi env with
  | no => rw [hfi] at h; exact h
  | exc x => rw [hfi] at h; exact h
  | ok items =>
    rw [hfi] at h
    have h : AnsP (c.W σ) H0 (goS (step g ws ft fe env) items [] >>= fun l => ckN l) (Gv O .sh Q) := h
    intro J H1 s01 hJ D hD
    refine ⟨fun i m H => m = items.length - i ∧ i ≤ items.length ∧ ∃ l, H D = some (SI w D l) ∧ Same H1 H ∧
        AnsP (c.W σ) H0 (goS (step g ws ft fe env) (items.drop i) l >>= fun l => ckN l) (Gv O .sh Q), ⟨items.length, rfl, Nat.zero_le _, [], upd_same, same_new hD, h⟩, ?_⟩
    rintro i m H ⟨rfl, hi, l, hHD, s1, hans⟩
    have dom : Dom H O := a.dom.mono (s01.trans s1)
    obtain ⟨go, stop⟩ := hJ i H O dom s1 (mask_mono s1 fun b hb => .inl hb)
    by_cases hlt : i < items.length
    · have hd : items.drop i = items[i] :: items.drop (i + 1) := List.drop_eq_getElem_cons hlt
      obtain ⟨g1, yl⟩ := go items[i] (List.getElem?_eq_getElem hlt)
      rw [hd] at hans
      refine .inr ⟨g1, fun H' => ∃ l, H' D = some (SI w D l) ∧ Same H1 H' ∧
        AnsP (c.W σ) H0 (goS (step g ws ft fe env) (items.drop (i + 1)) l >>= fun l => ckN l) (Gv O .sh Q), fun H' n => ⟨items.length - (i + 1), by omega, rfl, by omega, n⟩, fun x H2 y => ?_⟩
      obtain ⟨s2, kx⟩ := yl x H2 y
      have at2 : At (ctxB c) H2 O (wipeE env ws) (L2.wipe σ ws) := by
        refine ⟨dom.mono s2, EnvR.wipe (a.er.mono (s01.trans (s1.trans s2)) (fun b hb => .inl hb) fun b hb => hb) ws, by rw [wipeE_len, L2.wipe_length]; exact a.len⟩
      unfold goS at hans
      cases hg : gset g items[i] (wipeE env ws) with
      | no => simp only [step, hg] at hans; exact hans.elim
      | exc z => simp only [step, hg] at hans; exact hans.elim
      | ok env1 =>
        refine gset_ok (P := fun e τ => At (ctxB c) H2 O e τ) (fun e τ j d v p k => ⟨p.dom, EnvR.put p.er p.len k, by rw [put_len, List.length_set]; exact p.len⟩) g _ x _ env1 _ _ kx hg at2 fun σ2 p2 w2 => ⟨(w2 ws hs).trans (wipe_twice σ ws), ?_⟩
        refine ⟨env1, _, p2, ?_⟩
        cases hft : ft env1 with
        | no => simp only [step, hg, hft] at hans; exact hans.elim
        | exc z => simp only [step, hg, hft] at hans; exact hans.elim
        | ok b =>
          intro H3 s3
          cases b with
          | false =>
            simp only [step, hg, hft] at hans
            refine (if_neg (by decide)).mpr ?_
            have s13 : Same H H3 := s2.trans s3
            exact ⟨l, s13 _ _ hHD, s1.trans s13, hans⟩
          | true =>
            refine (if_pos rfl).mpr ⟨env1, _, p2.later s3, ?_⟩
            cases hfe : fe env1 with
            | no => simp only [step, hg, hft, hfe] at hans; exact hans.elim
            | exc z => simp only [step, hg, hft, hfe] at hans; exact hans.elim
            | ok d =>
              simp only [step, hg, hft, hfe] at hans
              intro y H4 B s4 fr ry
              have s14 : Same H H4 := (s2.trans s3).trans s4
              cases d with
              | int k =>
                have hans : AnsP (c.W σ) H0 ((if l.length + 1 < 4096 then goS (step g ws ft fe env) (items.drop (i + 1)) (dadd l k) else .no) >>= fun l => ckN l) (Gv O .sh Q) := hans
                split at hans
                · rename_i hsz
                  have ey : y = .int k := by cases ry <;> first | rfl | (rename_i q; cases q <;> first | rfl | (rename_i q; cases q; rfl)) 
                  refine ⟨k, l, ey, s14 _ _ hHD, hsz, dadd l k, upd_same, fun b z e => ?_, hans⟩
                  have hb : b ≠ D := ne_of_none e hD
                  rw [upd_ne hb]
                  exact s14 _ _ (s1 _ _ e)
                · exact hans.elim
              | _ => exact hans.elim
    · have hn : i = items.length := by omega
      refine .inl ⟨stop (by omega), ?_⟩
      rw [hn, List.drop_length] at hans
      have hans : Gv O .sh Q H0 (.int ((l.length : Nat) : Int)) := hans
      exact ⟨D, l, rfl, hHD, hans.give (s01.trans s1) (.flat rfl (.int _))⟩
end
def emptySet (w : World) : Obj := { cls := .type "set", dict := none, data := .set #[] 0 (.fresh 0 0 (!w.params.followText "set-order")) }
theorem si_fresh {P : Program} {w : World} {H : Hp} {h : Heap} : ObjOk P w H (h.push (emptySet w)) h.objs.size (SI w h.objs.size []) :=
  si_new ((L2.setR_fresh w).congr fun k => by simp)
section
variable {X : Cx}
/-- the value of a set comprehension of ints. The walk: `wk`; the block: Y; before each turn the walk's objects are untracked and the names of the block are empty -/
theorem pe_si {elt tg iter : Expr} {ifs : List Expr} {sc : Scope} {nm : List (PySem.Str × Nat)} {pos : Pos} {wi : TI} {g : TG} {tt : TT} {te : TE} (calm : X.calm = true) (nodup : X.N.Nodup) (src : PI X tg iter wi) (bo : BlkOk X.N X.env.scope sc nm)
    (tgt : ∀ (a : Shared) (B : Hp) (L : Addr) (cs : List (PySem.Str × Addr)) (w : List Addr), PG (X.blk a B sc (compEnvC sc cs L X.env) w) tg g)
    (tst : ∀ (a : Shared) (B : Hp) (L : Addr) (cs : List (PySem.Str × Addr)) (w : List Addr), PTs (X.blk a B sc (compEnvC sc cs L X.env) w) ifs tt)
    (val : ∀ (a : Shared) (B : Hp) (L : Addr) (cs : List (PySem.Str × Addr)) (w : List Addr), PE (X.blk a B sc (compEnvC sc cs L X.env) w) elt te)
    (nofold : ∀ x, foldedSetIterable iter X.env x = pure x) :
    PE X (.SetComp elt [⟨tg, iter, ifs, 0⟩] sc pos) (tSi X.w wi g tt te (nm.map (·.2))) := by
  constructor
  intro pins s0 σ H Q I0 wish
  rw [PpSet.eval_SetComp]
  have cells : ∀ p ∈ sc.names, p.2 = .free → ∃ c, X.env.cells.lookup p.1 = some c := fun p hp ep =>
    (bo.free p hp ep).elim (fun q => I0.ok.has _ (.inl q)) fun q => I0.ok.has _ (.inr q)
  refine wpAny_comprehension_free (use := none) rfl nofold (closure_ok cells) bo.kind (fun p hp ep => by rw [bo.uniq p hp, ep]) ?_
  refine thn (src.run pins s0 σ H _ I0 wish) fun xv sA yA => thn yA fun iv sB yB => ?_
  obtain ⟨wa, wobs, wk, J, HB, ew, IB, Wk, wkB, offB, goal⟩ := yB
  subst ew
  refine PpSet.newSet_ok (newEnv_comp ?_)
  -- the empty set is laid at D
  obtain ⟨D, eD⟩ : ∃ D, D = sB.heap.objs.size := ⟨_, rfl⟩
  have freeD : HB D = none := IB.hok.fresh (Nat.le_of_eq eD.symm)
  obtain ⟨Wf, ⟨k0, wf0⟩, each⟩ := goal D freeD
  rw [← eD]
  obtain ⟨sC, eC⟩ : ∃ sC : Shared, sC = { sB with heap := sB.heap.push (emptySet X.w) } := ⟨_, rfl⟩
  have grown : ∀ (b : Addr) (u : Obj), sB.heap.get? b = some u → sC.heap.get? b = some u := fun b u q => by
    rw [eC]; exact Heap.get?_push_of_some _ q
  obtain ⟨HC, eH⟩ : ∃ HC, HC = upd HB D (SI X.w D []) := ⟨_, rfl⟩
  have IC : Inv X pins σ HC sC := by
    rw [eC, eH, eD]
    exact IB.laid (t' := sB.toks) (fun b u q => Heap.get?_push_of_some _ q) (Nat.le_refl _) si_fresh
  have old : ∀ b ∈ wobs, b < D := fun b hb => by
    obtain ⟨u, q, _⟩ := Wk.obj _ _ wkB b hb
    rw [eD]
    exact Heap.lt_size q
  have off : ∀ b ∈ wobs, FpOk X pins HC b ∧ b < sC.heap.objs.size := fun b hb => by
    have lt := old b hb
    have f := offB b hb
    refine ⟨⟨?_, f.2⟩, ?_⟩
    · rw [eH, upd_ne (Nat.ne_of_lt lt)]
      exact f.1
    · rw [eC]
      show b < (sB.heap.push _).objs.size
      rw [Heap.size_push, ← eD]
      exact Nat.lt_succ_of_lt lt
  have wkC : wk 0 sC.heap := Wk.keep _ _ _ wkB fun b _ u q => grown b u q
  -- inside the block
  have ID := block_start IC bo nodup off
  have G := tgt sC HC sC.heap.objs.size (cellsFrom (sC.heap.objs.size + 1) sc.names (cloFrom X.env.cells sc.names [])) wobs
  have C := tst sC HC sC.heap.objs.size (cellsFrom (sC.heap.objs.size + 1) sc.names (cloFrom X.env.cells sc.names [])) wobs
  have V := val sC HC sC.heap.objs.size (cellsFrom (sC.heap.objs.size + 1) sc.names (cloFrom X.env.cells sc.names [])) wobs
  have start : Wf 0 k0 HC := by rw [eH]; exact wf0
  obtain ⟨ev, ee⟩ : ∃ ev, ev = compEnvC sc (cellsFrom (sC.heap.objs.size + 1) sc.names (cloFrom X.env.cells sc.names [])) sC.heap.objs.size X.env := ⟨_, rfl⟩
  have eloc : ev.locals = sC.heap.objs.size := by rw [ee]; rfl
  obtain ⟨sD, eDD⟩ : ∃ sD : Shared, sD = { sC with heap := pushCells (sC.heap.push { cls := .type "dict", data := .dict #[] }) sc.names } := ⟨_, rfl⟩
  rw [← ee] at ID G C V
  rw [← eDD] at ID
  have wkD : wk 0 sD.heap := Wk.keep _ _ _ wkC fun b _ u q => by
    rw [eDD]
    exact pushCells_keeps _ _ _ _ (Heap.get?_push_of_some _ q)
  have guard : ∀ {τ : L2.St} {H' : Hp} {s' : Shared}, Inv (X.blk sC HC sc ev wobs) [] τ H' s' → (∀ b ∈ wobs, H' b = none) → ∀ b ∈ wobs, FpOk (X.blk sC HC sc ev wobs) [] H' b := fun {τ H' s'} J' no b hb => by
    have q := J'.ok.exf b hb
    exact ⟨no b hb, q.1, J'.ok.exfs b hb, .inl hb, q.2, fun p hp => by
      have hp : p ∈ ([] : List (Addr × Obj)) := hp
      cases hp⟩
  have round : codeAny (model X.prog X.w) X.A (.compLoop (.SetComp elt [⟨tg, iter, ifs, 0⟩] sc pos) 0 (.ref wa) (.ref D) ev) (compPost (model X.prog X.w) X.A X.xe none (EP X pins σ Q) (.ref D) sC.heap.objs.size) sD := by
    refine PpSet.compLoopS_any (fun k t => ∃ i B, Inv (X.blk sC HC sc ev wobs) [] (wipe σ (nm.map (·.2))) B t ∧ wk i t.heap ∧ (∀ b ∈ wobs, B b = none) ∧ Wf i k B) ?_ k0 ⟨0, HC, ID, wkD, fun b hb => (off b hb).1.1, start⟩
    rintro k t ⟨i, B, IT, wt, no, wf⟩
    rcases each i k B wf with ⟨ends, fin⟩ | ⟨goes, Nx, less, turn⟩
    · -- the walk ends: back to the def, the set is the value
      refine thnF (Wk.done (X.blk sC HC sc ev wobs) rfl rfl rfl calm i [] t _ B (fun _ _ => False) IT (guard IT no) wt ends) fun r t' ⟨er, IE⟩ => ?_
      subst er
      have IF : Inv X pins σ B t' := IC.call' (ch := wobs) IE.os IE.base IE.hok IE.bare fun b hb =>
        have f := (off b hb).1
        ⟨f.2.2.2.1, f.2.1, f.2.2.2.2.1, f.2.2.2.2.2⟩
      have lfree : B sC.heap.objs.size = none := eloc ▸ (show B ev.locals = none from IE.free)
      obtain ⟨m, nsm, _⟩ := IE.loc
      have nsm : t'.heap.Ns sC.heap.objs.size m := eloc ▸ (show t'.heap.Ns ev.locals m from nsm)
      refine ⟨m, nsm, fun h2 sb => ?_⟩
      have f := IC.fpOk (Nat.le_refl _) lfree
      exact ⟨.ref D, B, IF.turned (t' := t'.toks) (fun b u hb q => (sb.2 b hb).trans q) f.1 f.2.1 f.2.2.2.1 f.2.2.2.2.1 f.2.2.2.2.2, rfl, fin⟩
    · -- one item
      refine thnF (Wk.item (X.blk sC HC sc ev wobs) rfl rfl rfl calm i [] t _ B (fun _ _ => False) IT (guard IT no) wt goes) fun r t1 ⟨u, er, more⟩ => ?_
      subst er
      refine thnF more fun _ t2 ⟨x, B2, I2, rx, yx, w2, no2⟩ => ?_
      have I2p := I2.pinned (guard I2 no2) (Wk.obj _ _ w2)
      have close : ∀ {t' : Shared} {B' : Hp} {τ : L2.St}, wipe τ (nm.map (·.2)) = wipe σ (nm.map (·.2)) → Inv (X.blk sC HC sc ev wobs) ([] ++ pinsAt wobs t2.heap) τ B' t' → Nx B' → ∃ k', k' < k ∧ ∃ i' B', Inv (X.blk sC HC sc ev wobs) [] (wipe σ (nm.map (·.2))) B' t' ∧ wk i' t'.heap ∧ (∀ b ∈ wobs, B' b = none) ∧ Wf i' k' B' := fun {t' B' τ} ew IL nx => by
        obtain ⟨k', lt, wf'⟩ := less B' nx
        have held : ∀ b ∈ wobs, ∀ u, t2.heap.get? b = some u → t'.heap.get? b = some u ∧ B' b = none := fun b hb u q =>
          have z := IL.pin (b, u) (List.mem_append_right _ (List.mem_append_right _ (mem_pinsAt hb q)))
          And.intro z.1 z.2.1
        have same : (wipe σ (nm.map (·.2))).length = τ.length := by rw [← ew, wipe_length]
        refine ⟨k', lt, i + 1, B', ?_, Wk.keep _ _ _ w2 fun b hb u q => (held b hb u q).1, fun b hb => ?_, wf'⟩
        · refine (IL.unpinned (pins := [])).weak same fun j v e => ?_
          rw [← ew] at e
          exact (wipe_some e).1
        · obtain ⟨u, q, _⟩ := Wk.obj _ _ w2 b hb
          exact (held b hb u q).2
      refine thnF (G.run _ t2 _ B2 x u _ I2p rx (turn x B2 yx)) fun _ t3 ⟨τ, B3, I3, ew, q3⟩ => ?_
      refine thnF (C.run _ t3 τ B3 _ I3 q3) fun b t4 ⟨B4, I4, q4⟩ => ?_
      cases b with
      | false => exact close ew I4 q4
      | true =>
        refine thnF (V.run _ t4 τ B4 _ I4 q4) fun z t5 ⟨y, B5, I5, ry, kk, ll, ey, at5, room, nx⟩ => ?_
        rw [ey] at ry
        obtain ⟨tk, ez⟩ : ∃ tk, z = Value.int kk tk := ry
        rw [ez]
        exact si_add (X := X.blk sC HC sc ev wobs) I5 at5 room fun t6 I6 => close ew I6 nx
  have whole := PpSet.codeAny_compStart_set round (Wk.self X.A 0 _ _ _ wkD round)
  rw [ee, eDD, eC] at whole
  rw [eC] at *
  exact whole
end

section
variable {X : Cx}
theorem pe_lsc {c : Ctx} {elt tg iter : Expr} {ifs : List Expr} {scope : Scope} {pos p q : Pos} {wi : TI} {g : G} {tt : TT} {te : TE} {ws : List Nat} {fi : Ev → R (List D)} {ft : Ev → R Bool} {fe : Ev → R D} {o : Own} (hg : Gl X "len") (hm : X.mg "len" = none)
    (hp : PE X (.SetComp elt [⟨tg, iter, ifs, 0⟩] scope pos) (tSi X.w wi (tgG X.K g) tt te ws)) (hw : wi = tI c true fi) (ht : tt = tT (ctxB c) ft) (he : te = tE (ctxB c) fe o) (hs : ∀ i ∈ gslots g, i ∈ ws) (hst : starEach [.SetComp elt [⟨tg, iter, ifs, 0⟩] scope pos] X.env = (false, eval (.SetComp elt [⟨tg, iter, ifs, 0⟩] scope pos) X.env) :: starEach [] X.env) :
    PE X (.Call (.Name "len" p) [.SetComp elt [⟨tg, iter, ifs, 0⟩] scope pos] [] q) (tE c (fun env => fi env >>= fun items => goS (step g ws ft fe env) items [] >>= fun l => ckN l) .sh) :=
  PE.imp (pe_callB si_len hg hm (Bi.boot .len) (pa_cons hp pa_nil hst) (by decide +kernel) (by decide +kernel) hst rfl) fun σ H Q h => si_read hw ht he hs h
end
end Pv

/-! part Cc: comprehensions of two clauses -/
namespace Pv
open PySem PySem.Spec PyProof.Rows L2
/-- what is frozen of an environment -/
def frzOnly (env : Ev) : Ev := env.map fun x => match x with
  | some (d, true) => some (d, true)
  | _ => none
def AllF (env : Ev) : Prop := ∀ i d b, lk env i = some (d, b) → b = true
theorem frzOnly_len (env : Ev) : (frzOnly env).length = env.length := List.length_map _
theorem lk_frz : ∀ {env : Ev} {i : Nat} {d : D} {b : Bool}, lk (frzOnly env) i = some (d, b) → b = true ∧ lk env i = some (d, true)
  | [], i, d, b, h => by cases i <;> cases h
  | x :: r, 0, d, b, h => by
    match x, h with
    | some (d', true), h => cases h; exact ⟨rfl, rfl⟩
    | some (d', false), h => cases h
    | none, h => cases h
  | x :: r, i + 1, d, b, h => lk_frz (env := r) (i := i) h
theorem frzOnly_all (env : Ev) : AllF (frzOnly env) := fun i d b h => (lk_frz h).1
theorem EnvR.frz {H : Hp} {O : Addr → Bool} {Γ : Nat → Own} {env : Ev} {σ : L2.St} (e : EnvR H O Γ env σ) : EnvR H O Γ (frzOnly env) σ := fun i d b hl => by
  obtain ⟨rfl, h⟩ := lk_frz hl
  exact e i d true h
theorem EnvR.frzMono {H H' : Hp} {O O' : Addr → Bool} {Γ : Nat → Own} {env : Ev} {σ : L2.St} (f : AllF env) (s : Same (mask H O) (mask H' O')) (e : EnvR H O Γ env σ) : EnvR H' O' Γ env σ := fun i d b hl => by
  have hb := f i d b hl
  subst hb
  obtain ⟨v, hv, q⟩ := e i d true hl
  exact ⟨v, hv, dp_mono s _ _ q⟩
theorem AllF.put {env : Ev} {i : Nat} {d : D} (f : AllF env) : AllF (Pv.put env i (some (d, true))) := fun j d' b h => by
  rw [lk_put] at h
  split at h
  · split at h
    · cases h; rfl
    · cases h
  · exact f j d' b h
theorem AllF.wipe {env : Ev} (f : AllF env) : ∀ ws, AllF (wipeE env ws)
  | [] => f
  | i :: r => fun j d' b h => by
    have h : lk (Pv.put (wipeE env r) i none) j = some (d', b) := h
    rw [lk_put] at h
    split at h
    · split at h <;> cases h
    · exact AllF.wipe f r j d' b h
/-- the first clause at one item -/
def step1 (g : G) (ws : List Nat) (ft : Ev → R Bool) (env : Ev) (x : D) : R (Option Ev) :=
  match gset g x (wipeE env ws) with
  | .ok env1 => match ft env1 with
    | .ok true => .ok (some env1)
    | .ok false => .ok none
    | _ => .no
  | _ => .no
def goC2 (f : D → R (Option Ev)) (h : Ev → R (List D)) (s : Ev → D → R (Option D)) : List D → List D → R (List D)
  | [], acc => .ok acc
  | x :: r, acc => match f x with
    | .ok (some e) => match h e with
      | .ok items => goC (s e) items acc >>= fun acc' => goC2 f h s r acc'
      | _ => .no
    | .ok none => goC2 f h s r acc
    | _ => .no
section
variable {X : Cx} {c : Ctx}
theorem comp2_read {wi wi1 : TI} {g g1 : G} {tt tt1 : TT} {te : TE} {ws ws1 : List Nat} {fi fi1 : Ev → R (List D)} {ft ft1 : Ev → R Bool} {fe : Ev → R D} {o : Own} (hw : wi = tI c true fi) (ht : tt = tT (ctxB c) ft) (hw1 : wi1 = tI (ctxB c) false fi1) (ht1 : tt1 = tT (ctxB c) ft1) (he : te = tE (ctxB c) fe o) (hfz : fz o = true) (hs : ∀ i ∈ gslots g, i ∈ ws) (hs1 : ∀ i ∈ gslots g1, i ∈ ws1) {K : PySem.W.Frag} {σ : L2.St} {H0 : Hp} {Q : VK}
    (h : tE c (fun env => fi env >>= fun items => goC2 (step1 g ws ft (frzOnly env)) fi1 (fun e => step g1 ws1 ft1 fe e) items [] >>= fun ds => .ok (.list ds)) (.lst o) σ H0 Q) : tLc2 wi (tgG K g) tt wi1 (tgG K g1) tt1 te ws ws1 σ H0 Q := by
  subst hw ht hw1 ht1 he
  obtain ⟨env, O, a, h⟩ := h
  have h : AnsP (c.W σ) H0 (fi env >>= fun items => goC2 (step1 g ws ft (frzOnly env)) fi1 (fun e => step g1 ws1 ft1 fe e) items [] >>= fun ds => .ok (.list ds)) (Gv O (.lst o) Q) := h
  refine ⟨env, O, a, ?_⟩
  cases hfi : fi env with
  | no => rw [hfi] at h; exact h
  | exc x => rw [hfi] at h; exact h
  | ok items =>
    rw [hfi] at h
    have h : AnsP (c.W σ) H0 (goC2 (step1 g ws ft (frzOnly env)) fi1 (fun e => step g1 ws1 ft1 fe e) items [] >>= fun ds => .ok (.list ds)) (Gv O (.lst o) Q) := h
    intro J H1 s01 hJ D hD
    let Hd : R PyData → Hp → List PyData → Prop := fun rest H ds => ∃ vs A, H D = some (.lst vs) ∧ Same H1 H ∧ A.Nodup ∧ D ∉ A ∧ (∀ b ∈ A, H1 b = none ∧ Mut H b) ∧ RpA [] H (add O (D :: A)) vs ds o A ∧ AnsP (c.W σ) H0 rest (Gv O (.lst o) Q)
    refine ⟨fun i m H => m = items.length - i ∧ i ≤ items.length ∧ ∃ ds, Hd (goC2 (step1 g ws ft (frzOnly env)) fi1 (fun e => step g1 ws1 ft1 fe e) (items.drop i) ds >>= fun ds => .ok (.list ds)) H ds, ⟨items.length, rfl, Nat.zero_le _, [], [], [], upd_same, same_new hD, List.nodup_nil, (fun z => nomatch z), (fun b z => nomatch z), .nil, h⟩, ?_⟩
    rintro i m H ⟨rfl, hi, ds, vs, A, hHD, s1, nd, hDA, hA, hr, hans⟩
    have domOf : ∀ {H : Hp} {vs : List V} {A : List Addr}, H D = some (.lst vs) → Same H1 H → (∀ b ∈ A, H1 b = none ∧ Mut H b) → Dom H (add O (D :: A)) := fun {H vs A} hHD s1 hA b hb => by
      rcases add_true.mp hb with z | z
      · exact (a.dom.mono (s01.trans s1)) b z
      · rcases List.mem_cons.mp z with z | z
        · rw [z]; exact .lst hHD
        · exact (hA b z).2
    have newO : ∀ {A : List Addr}, (∀ b ∈ A, H1 b = none) → ∀ b, add O (D :: A) b = true → O b = true ∨ H1 b = none := fun {A} hA b hb => by
      rcases add_true.mp hb with z | z
      · exact .inl z
      · rcases List.mem_cons.mp z with z | z
        · rw [z]; exact .inr hD
        · exact .inr (hA b z)
    have dom := domOf hHD s1 hA
    have nA := newO fun b hb => (hA b hb).1
    obtain ⟨go, stop⟩ := hJ i H (add O (D :: A)) dom s1 (mask_mono s1 nA)
    by_cases hlt : i < items.length
    · have hd : items.drop i = items[i] :: items.drop (i + 1) := List.drop_eq_getElem_cons hlt
      obtain ⟨g1', yl⟩ := go items[i] (List.getElem?_eq_getElem hlt)
      rw [hd] at hans
      refine .inr ⟨g1', fun H' => ∃ ds, Hd (goC2 (step1 g ws ft (frzOnly env)) fi1 (fun e => step g1 ws1 ft1 fe e) (items.drop (i + 1)) ds >>= fun ds => .ok (.list ds)) H' ds, fun H' n => ⟨items.length - (i + 1), by omega, rfl, by omega, n⟩, fun x H2 y => ?_⟩
      obtain ⟨s2, kx⟩ := yl x H2 y
      have at2 : At (ctxB c) H2 (add O (D :: A)) (wipeE (frzOnly env) ws) (L2.wipe σ ws) := by
        refine ⟨dom.mono s2, EnvR.wipe (a.er.frz.mono (s01.trans (s1.trans s2)) (fun b hb => ?_) fun b hb => add_true.mpr (.inl hb)) ws, by rw [wipeE_len, L2.wipe_length, frzOnly_len]; exact a.len⟩
        rcases nA b hb with z | z
        · exact .inl z
        · exact .inr (s01.free z)
      unfold goC2 at hans
      cases hg : gset g items[i] (wipeE (frzOnly env) ws) with
      | no => simp only [step1, hg] at hans; exact hans.elim
      | exc z => simp only [step1, hg] at hans; exact hans.elim
      | ok env1 =>
        refine gset_ok (P := fun e τ => At (ctxB c) H2 (add O (D :: A)) e τ ∧ AllF e) (fun e τ j d v p k => ⟨⟨p.1.dom, EnvR.put p.1.er p.1.len k, by rw [put_len, List.length_set]; exact p.1.len⟩, p.2.put⟩) g _ x _ env1 _ _ kx hg ⟨at2, (frzOnly_all env).wipe ws⟩ fun σ2 ⟨p2, f2⟩ w2 => ⟨(w2 ws hs).trans (wipe_twice σ ws), ?_⟩
        refine ⟨env1, _, p2, ?_⟩
        cases hft : ft env1 with
        | no => simp only [step1, hg, hft] at hans; exact hans.elim
        | exc z => simp only [step1, hg, hft] at hans; exact hans.elim
        | ok b =>
          intro H3 s3
          have s13 : Same H H3 := s2.trans s3
          have hA3 : ∀ b ∈ A, H1 b = none ∧ Mut H3 b := fun b hb => ⟨(hA b hb).1, (hA b hb).2.mono s13⟩
          have hr3 : RpA [] H3 (add O (D :: A)) vs ds o A := RpA.mono s13 (fun b hb => .inl hb) (fun b hb => add_true.mpr (.inr (List.mem_cons_of_mem _ hb))) hr
          cases b with
          | false =>
            simp only [step1, hg, hft] at hans
            refine (if_neg (by decide)).mpr ?_
            exact ⟨ds, vs, A, s13 _ _ hHD, s1.trans s13, nd, hDA, hA3, hr3, hans⟩
          | true =>
            simp only [step1, hg, hft] at hans
            have p3 := p2.later s3
            refine (if_pos rfl).mpr ⟨env1, _, p3, ?_⟩
            cases hf1 : fi1 env1 with
            | no => simp only [hf1] at hans; exact hans.elim
            | exc z => simp only [hf1] at hans; exact hans.elim
            | ok its =>
              simp only [hf1] at hans
              intro J1 H4 s34 hJ1
              have p4 := p3.later s34
              have hans : AnsP (c.W σ) H0 (goC (step g1 ws1 ft1 fe env1) its ds >>= fun acc' => goC2 (step1 g ws ft (frzOnly env)) fi1 (fun e => step g1 ws1 ft1 fe e) (items.drop (i + 1)) acc' >>= fun ds => .ok (.list ds)) (Gv O (.lst o) Q) := by
                have e : (goC (step g1 ws1 ft1 fe env1) its ds >>= fun acc' => goC2 (step1 g ws ft (frzOnly env)) fi1 (fun e => step g1 ws1 ft1 fe e) (items.drop (i + 1)) acc' >>= fun ds => (.ok (.list ds) : R PyData)) = ((goC (step g1 ws1 ft1 fe env1) its ds >>= fun acc' => goC2 (step1 g ws ft (frzOnly env)) fi1 (fun e => step g1 ws1 ft1 fe e) (items.drop (i + 1)) acc') >>= fun ds => (.ok (.list ds) : R PyData)) := by
                  cases goC (step g1 ws1 ft1 fe env1) its ds <;> rfl
                rw [e]
                exact hans
              have s14 : Same H H4 := s13.trans s34
              refine ⟨fun j k H => k = its.length - j ∧ j ≤ its.length ∧ ∃ ds vs A', H D = some (.lst vs) ∧ (∀ b z, b ≠ D → H4 b = some z → H b = some z) ∧ A'.Nodup ∧ D ∉ A' ∧ (∀ b ∈ A', H1 b = none ∧ Mut H b) ∧ (∀ b ∈ A', b ∈ A ∨ H4 b = none) ∧ RpA [] H (add O (D :: A')) vs ds o A' ∧ AnsP (c.W σ) H0 (goC (step g1 ws1 ft1 fe env1) (its.drop j) ds >>= fun acc' => goC2 (step1 g ws ft (frzOnly env)) fi1 (fun e => step g1 ws1 ft1 fe e) (items.drop (i + 1)) acc' >>= fun ds => (.ok (.list ds) : R PyData)) (Gv O (.lst o) Q),
                ⟨its.length, rfl, Nat.zero_le _, ds, vs, A, s14 _ _ hHD, fun b z _ e => e, nd, hDA, fun b hb => ⟨(hA b hb).1, (hA b hb).2.mono s14⟩, fun b hb => .inl hb, RpA.mono s14 (fun b hb => .inl hb) (fun b hb => add_true.mpr (.inr (List.mem_cons_of_mem _ hb))) hr, hans⟩, ?_⟩
              rintro j k H5 ⟨rfl, hj, es, us, A', hHD5, sx, nd5, hDA5, hA5, sub, hr5, hans5⟩
              have s15 : Same H1 H5 := fun b z e => sx b z (ne_of_none e hD) (s14 _ _ (s1 _ _ e))
              have dom5 := domOf hHD5 s15 hA5
              have nO4 : ∀ b, add O (D :: A') b = true → add O (D :: A) b = true ∨ H4 b = none := fun b hb => by
                rcases add_true.mp hb with z | z
                · exact .inl (add_true.mpr (.inl z))
                · rcases List.mem_cons.mp z with z | z
                  · exact .inl (add_true.mpr (.inr (by rw [z]; exact List.mem_cons_self)))
                  · rcases sub b z with w | w
                    · exact .inl (add_true.mpr (.inr (List.mem_cons_of_mem _ w)))
                    · exact .inr w
              have sm : Same (mask H4 (add O (D :: A))) (mask H5 (add O (D :: A'))) := fun b z e => by
                obtain ⟨e0, e1⟩ := mask_some.mp e
                have hb : b ≠ D := fun w => by
                  rw [w] at e0
                  have : add O (D :: A) D = true := add_true.mpr (.inr List.mem_cons_self)
                  rw [this] at e0
                  cases e0
                refine mask_of ?_ (sx b z hb e1)
                cases q : add O (D :: A') b with
                | false => rfl
                | true =>
                  rcases nO4 b q with w | w
                  · rw [w] at e0; cases e0
                  · rw [w] at e1; cases e1
              obtain ⟨go5, stop5⟩ := hJ1 j H5 (add O (D :: A')) dom5 (sm.trans mask_le) sm
              by_cases hlt5 : j < its.length
              · have hd5 : its.drop j = its[j] :: its.drop (j + 1) := List.drop_eq_getElem_cons hlt5
                obtain ⟨g5', yl5⟩ := go5 its[j] (List.getElem?_eq_getElem hlt5)
                rw [hd5] at hans5
                refine .inr ⟨g5', fun H' => ∃ ds vs A', H' D = some (.lst vs) ∧ (∀ b z, b ≠ D → H4 b = some z → H' b = some z) ∧ A'.Nodup ∧ D ∉ A' ∧ (∀ b ∈ A', H1 b = none ∧ Mut H' b) ∧ (∀ b ∈ A', b ∈ A ∨ H4 b = none) ∧ RpA [] H' (add O (D :: A')) vs ds o A' ∧ AnsP (c.W σ) H0 (goC (step g1 ws1 ft1 fe env1) (its.drop (j + 1)) ds >>= fun acc' => goC2 (step1 g ws ft (frzOnly env)) fi1 (fun e => step g1 ws1 ft1 fe e) (items.drop (i + 1)) acc' >>= fun ds => (.ok (.list ds) : R PyData)) (Gv O (.lst o) Q), fun H' n => ⟨its.length - (j + 1), by omega, rfl, by omega, n⟩, fun x6 H6 y6 => ?_⟩
                obtain ⟨s56, kx6⟩ := yl5 x6 H6 y6
                have at6 : At (ctxB c) H6 (add O (D :: A')) (wipeE env1 ws1) (L2.wipe σ2 ws1) := by
                  refine ⟨dom5.mono s56, EnvR.wipe (EnvR.frzMono f2 (sm.trans (mask_mono s56 fun b hb => .inl hb)) p4.er) ws1, by rw [wipeE_len, L2.wipe_length]; exact p4.len⟩
                unfold goC at hans5
                cases hg5 : gset g1 its[j] (wipeE env1 ws1) with
                | no => simp only [step, hg5] at hans5; exact hans5.elim
                | exc z => simp only [step, hg5] at hans5; exact hans5.elim
                | ok env6 =>
                  refine gset_ok (P := fun e τ => At (ctxB c) H6 (add O (D :: A')) e τ) (fun e τ j d v p k => ⟨p.dom, EnvR.put p.er p.len k, by rw [put_len, List.length_set]; exact p.len⟩) g1 _ x6 _ env6 _ _ kx6 hg5 at6 fun σ6 p6 w6 => ⟨(w6 ws1 hs1).trans (wipe_twice σ2 ws1), ?_⟩
                  refine ⟨env6, _, p6, ?_⟩
                  cases hft5 : ft1 env6 with
                  | no => simp only [step, hg5, hft5] at hans5; exact hans5.elim
                  | exc z => simp only [step, hg5, hft5] at hans5; exact hans5.elim
                  | ok b =>
                    intro H7 s67
                    have s57 : Same H5 H7 := s56.trans s67
                    cases b with
                    | false =>
                      simp only [step, hg5, hft5] at hans5
                      refine (if_neg (by decide)).mpr ?_
                      exact ⟨es, us, A', s57 _ _ hHD5, fun b z hb e => s57 _ _ (sx b z hb e), nd5, hDA5, fun b hb => ⟨(hA5 b hb).1, (hA5 b hb).2.mono s57⟩, sub, RpA.mono s57 (fun b hb => .inl hb) (fun b hb => add_true.mpr (.inr (List.mem_cons_of_mem _ hb))) hr5, hans5⟩
                    | true =>
                      refine (if_pos rfl).mpr ⟨env6, _, p6.later s67, ?_⟩
                      cases hfe : fe env6 with
                      | no => simp only [step, hg5, hft5, hfe] at hans5; exact hans5.elim
                      | exc z => simp only [step, hg5, hft5, hfe] at hans5; exact hans5.elim
                      | ok d =>
                        simp only [step, hg5, hft5, hfe] at hans5
                        intro y H8 B s78 fr ry
                        have s58 : Same H5 H8 := s57.trans s78
                        split at hans5
                        · rename_i hsz
                          have hl : us.length = es.length := DpAll.length hr5.dp
                          refine ⟨us, s58 _ _ hHD5, by rw [hl, ← sz]; exact hsz, es ++ [d], us ++ [y], A' ++ B, upd_same, fun b z hb e => ?_, ?_, ?_, fun b hb => ?_, fun b hb => ?_, ?_, hans5⟩
                          · rw [upd_ne hb]
                            exact s58 _ _ (sx b z hb e)
                          · refine List.nodup_append.mpr ⟨nd5, fr.nd, fun p hp q hq e => ?_⟩
                            subst e
                            exact ((hA5 p hp).2.mono s57).no (fr.new p hq)
                          · intro z
                            rcases List.mem_append.mp z with z | z
                            · exact hDA5 z
                            · have := s57 _ _ hHD5
                              rw [fr.new D z] at this
                              cases this
                          · have hbD : b ≠ D := fun e => by
                              subst e
                              rcases List.mem_append.mp hb with z | z
                              · exact hDA5 z
                              · have := s57 _ _ hHD5
                                rw [fr.new b z] at this
                                cases this
                            have keep : Mut H8 b → Mut (upd H8 D (.lst (us ++ [y]))) b := fun ⟨o, e, q⟩ => ⟨o, by rw [upd_ne hbD]; exact e, q⟩
                            rcases List.mem_append.mp hb with z | z
                            · exact ⟨(hA5 b z).1, keep ((hA5 b z).2.mono s58)⟩
                            · exact ⟨Same.free (s15.trans s57) (fr.new b z), keep (fr.lst b z)⟩
                          · rcases List.mem_append.mp hb with z | z
                            · exact sub b z
                            · refine .inr ?_
                              cases q : H4 b with
                              | none => rfl
                              | some w =>
                                have hbD : b ≠ D := fun e => by
                                  subst e
                                  have := s57 _ _ hHD5
                                  rw [fr.new b z] at this
                                  cases this
                                have := s57 _ _ (sx b w hbD q)
                                rw [fr.new b z] at this
                                cases this
                          · have d7 : Dom H7 (add O (D :: A')) := dom5.mono s57
                            have d8 : Dom H8 (add (add O (D :: A')) B) := d7.add s78 fr
                            have kp : ∀ (b : Addr) (z : HO), b ≠ D → H8 b = some z → (upd H8 D (.lst (us ++ [y]))) b = some z := fun b z hb e => by rw [upd_ne hb]; exact e
                            have oD : ∀ b, add (add O (D :: A')) B b = false → b ≠ D := fun b hb e => by
                              subst e
                              have : add (add O (b :: A')) B b = true := add_true.mpr (.inl (add_true.mpr (.inr List.mem_cons_self)))
                              rw [hb] at this
                              cases this
                            have oo : ∀ b, add O (D :: (A' ++ B)) b = true → add (add O (D :: A')) B b = true := fun b hb => by
                              rcases add_true.mp hb with z | z
                              · exact add_true.mpr (.inl (add_true.mpr (.inl z)))
                              · rcases List.mem_cons.mp z with z | z
                                · exact add_true.mpr (.inl (add_true.mpr (.inr (by rw [z]; exact List.mem_cons_self))))
                                · rcases List.mem_append.mp z with z | z
                                  · exact add_true.mpr (.inl (add_true.mpr (.inr (List.mem_cons_of_mem _ z))))
                                  · exact add_true.mpr (.inr z)
                            have hr8 : RpA [] H8 (add (add O (D :: A')) B) us es o A' := RpA.mono s58 (fun b hb => (add_true.mp hb).elim .inl fun z => .inr (Same.free s57 (fr.new b z))) (fun b hb => add_true.mpr (.inl (add_true.mpr (.inr (List.mem_cons_of_mem _ hb))))) hr5
                            refine RpA.snoc (Rp.keep d8 (fun b z e q => kp b z ?_ e) (fun b hb => .inl (oo b hb)) (fun b hb => add_true.mpr (.inr (List.mem_cons_of_mem _ (List.mem_append_right _ hb)))) hfz ry)
                              (RpA.keep d8 (fun b z e q => kp b z ?_ e) (fun b hb => .inl (oo b hb)) (fun b hb => add_true.mpr (.inr (List.mem_cons_of_mem _ (List.mem_append_left _ hb)))) hfz hr8)
                            · rcases q with q | q
                              · exact oD b q
                              · intro e
                                subst e
                                have := s57 _ _ hHD5
                                rw [fr.new b q] at this
                                cases this
                            · rcases q with q | q
                              · exact oD b q
                              · exact fun e => hDA5 (e ▸ q)
                        · exact hans5.elim
              · have hn : j = its.length := by omega
                refine .inl ⟨stop5 (by omega), ?_⟩
                rw [hn, List.drop_length] at hans5
                exact ⟨es, us, A', hHD5, s15, nd5, hDA5, hA5, hr5, hans5⟩
    · have hn : i = items.length := by omega
      refine .inl ⟨stop (by omega), ?_⟩
      rw [hn, List.drop_length] at hans
      have hans : Gv O (.lst o) Q H0 (.list ds) := hans
      refine hans _ H (D :: A) (s01.trans s1) ⟨List.nodup_cons.mpr ⟨hDA, nd⟩, fun b hb => ?_, fun b hb => ?_⟩ (.lst hHD (add_true.mpr (.inr List.mem_cons_self)) hr)
      · rcases List.mem_cons.mp hb with z | z
        · rw [z]; exact s01.free hD
        · exact s01.free (hA b z).1
      · rcases List.mem_cons.mp hb with z | z
        · rw [z]; exact .lst hHD
        · exact (hA b z).2
end
end Pv

namespace Pv
open PySem PySem.Spec PyProof.Rows L2

/-! the plain language -/
mutual
inductive E where
  | var (i : Nat) (m : Bool)
  | cst (d : D)
  | gl (i : Nat)
  | neg (a : E)
  | bin (op : BOp) (o : Own) (a b : E)
  | cmp (op : COp) (a b : E)
  | chn (op op' : COp) (a b c : E)
  | nt (a : E)
  | an (es : Es)
  | orr (es : Es)
  | ite (c a b : E)
  | idx (a b : E)
  | sl (o : Own) (a : E) (lo hi : Eo)
  | tup (es : Es)
  | lst (o : Own) (es : Es)
  | bi (b : Bi) (o : Own) (es : Es)
  | isi (t : Ty) (a : E)
  | fn (f : Nat) (k : Bool) (es : Es)
  | comp (o : Own) (elt : E) (g : G) (it : I) (c : Es) (ws : List Nat)
  | frz (a : E)
  | fl (a : E)
  | rv (o : Own) (a : E)
  | lr1 (o : Own) (a : E)
  | lr2 (o : Own) (a b : E)
  | dn (t : Bool)
  | dg (a k : E)
  | dgd (a k x : E)
  | dg1 (a k : E)
  | din (n : Bool) (k a : E)
  | dl (a : E)
  | dso (o : Own) (a : E)
  | dks (o : Own) (a : E)
  | rpr (a : E)
  /-- the empty tuple -/
  | et
  /-- a dict of one written entry -/
  | d1 (k v : E)
  /-- list.index -/
  | xi (a k : E)
  /-- len of a set comprehension of numbers -/
  | lsc (elt : E) (g : G) (it : I) (c : Es) (ws : List Nat)
  /-- a list comprehension of two clauses -/
  | comp2 (o : Own) (elt : E) (g : G) (it : I) (c : Es) (g1 : G) (it1 : I) (c1 : Es) (ws ws1 : List Nat)
  /-- math.gcd -/
  | gcd (a b : E)
inductive Es where
  | nil
  | cons (e : E) (r : Es)
inductive Eo where
  | no
  | sm (e : E)
inductive I where
  | seq (e : E)
  | r1 (es : Es)
  | r2 (es : Es)
  | r3 (es : Es)
  | en (es : Es)
  | zp (es : Es)
end

structure Sg where
  fns : List Fn
  gls : List (Str × D)
  Γ : List Own
  xc : Xc
  top : Bool := false
def Sg.own (S : Sg) (i : Nat) : Own := S.Γ.getD i .sh
def evGl (S : Sg) (i : Nat) : R D :=
  match S.gls[i]? with
  | some p => .ok p.2
  | none => .no
def evF (S : Sg) (f : Nat) (k : Bool) (ds : List D) : R D :=
  match S.fns[f]? with
  | some fn => evFn fn k ds
  | none => .no
mutual
def ev (S : Sg) : E → Ev → R D
  | .var i m, env => evVar i m env
  | .cst d, _ => .ok d
  | .gl i, _ => evGl S i
  | .neg a, env => ev S a env >>= evNeg
  | .bin op o a b, env => ev S a env >>= fun x => ev S b env >>= fun y => evBin op o x y
  | .cmp op a b, env => ev S a env >>= fun x => ev S b env >>= fun y => evCmp op x y >>= fun b => .ok (.bool b)
  | .chn op op' a b d, env => ev S a env >>= fun x => ev S b env >>= fun y => evCmp op x y >>= fun r => if r = true then (ev S d env >>= fun z => evCmp op' y z >>= fun q => .ok (.bool q)) else .ok (.bool false)
  | .nt a, env => ev S a env >>= fun d => truthD d >>= fun b => .ok (.bool (!b))
  | .an es, env => evAn S es env
  | .orr es, env => evOr S es env
  | .ite t a b, env => ev S t env >>= fun d => truthD d >>= fun r => if r = true then ev S a env else ev S b env
  | .idx a b, env => ev S a env >>= fun x => ev S b env >>= fun y => evIdx x y
  | .sl o a lo hi, env => ev S a env >>= fun x => evo S lo env >>= fun l => evo S hi env >>= fun h => evSl o x l h
  | .tup es, env => evs S es env >>= evTup
  | .lst _ es, env => evs S es env >>= evLst
  | .bi b o es, env => evs S es env >>= evBi b o
  | .isi t a, env => ev S a env >>= fun d => .ok (.bool (isD t d))
  | .fn f k es, env => evs S es env >>= evF S f k
  | .comp _ elt g it t ws, env => evi S it env >>= fun items => goC (step g ws (evc S t) (ev S elt) env) items [] >>= fun ds => .ok (.list ds)
  | .frz a, env => ev S a env
  | .fl a, env => ev S a env >>= evFl
  | .rv o a, env => ev S a env >>= evX1 .rev o
  | .lr1 o a, env => ev S a env >>= fun d => evX3 .lr1 o [d]
  | .lr2 o a b, env => ev S a env >>= fun d => ev S b env >>= fun e => evX3 .lr2 o [d, e]
  | .dn t, _ => .ok (evDn t)
  | .dg a k, env => ev S a env >>= fun d => ev S k env >>= fun y => evDg d y
  | .dgd a k x, env => ev S a env >>= fun d => ckD d >>= fun _ => ev S k env >>= fun y => ev S x env >>= fun z => evDd d y z
  | .dg1 a k, env => ev S a env >>= fun d => ckD d >>= fun _ => ev S k env >>= fun y => evDd d y .none
  | .din n k a, env => ev S k env >>= fun y => ev S a env >>= fun d => evDi n y d
  | .dl a, env => ev S a env >>= evDl
  | .dso _ a, env => ev S a env >>= evDs
  | .dks _ a, env => ev S a env >>= evDk
  | .rpr a, env => ev S a env >>= evRpr
  | .et, _ => .ok (.tuple [])
  | .d1 k v, env => ev S k env >>= fun y => ev S v env >>= fun z => evD1 y z
  | .xi a k, env => ev S a env >>= fun x => ckL x >>= fun _ => ev S k env >>= fun y => evXi x y
  | .comp2 _ elt g it t g1 it1 t1 ws ws1, env => evi S it env >>= fun items => goC2 (step1 g ws (evc S t) (frzOnly env)) (evi S it1) (fun e => step g1 ws1 (evc S t1) (ev S elt) e) items [] >>= fun ds => .ok (.list ds)
  | .gcd a b, env => ev S a env >>= fun x => ev S b env >>= fun y => evGcd x y
  | .lsc elt g it t ws, env => evi S it env >>= fun items => goS (step g ws (evc S t) (ev S elt) env) items [] >>= fun l => ckN l
def evs (S : Sg) : Es → Ev → R (List D)
  | .nil, _ => .ok []
  | .cons e r, env => ev S e env >>= fun d => evs S r env >>= fun ds => .ok (d :: ds)
def evAn (S : Sg) : Es → Ev → R D
  | .nil, _ => .no
  | .cons e r, env => match r with
    | .nil => ev S e env
    | .cons _ _ => ev S e env >>= fun x => truthD x >>= fun b => if b = true then evAn S r env else .ok x
def evOr (S : Sg) : Es → Ev → R D
  | .nil, _ => .no
  | .cons e r, env => match r with
    | .nil => ev S e env
    | .cons _ _ => ev S e env >>= fun x => truthD x >>= fun b => if b = true then .ok x else evOr S r env
def evo (S : Sg) : Eo → Ev → R (Option Int)
  | .no, _ => .ok none
  | .sm e, env => ev S e env >>= fun d => match d with
    | .int i => .ok (some i)
    | _ => .no
def evc (S : Sg) : Es → Ev → R Bool
  | .nil, _ => .ok true
  | .cons e _, env => ev S e env >>= truthD
def evi (S : Sg) : I → Ev → R (List D)
  | .seq e, env => ev S e env >>= seqD
  | .r1 es, env => evs S es env >>= rng1D
  | .r2 es, env => evs S es env >>= rng2D
  | .r3 es, env => evs S es env >>= rngnD
  | .en es, env => evs S es env >>= enum1D
  | .zp es, env => evs S es env >>= zip2D
end
mutual
def ty (S : Sg) : E → Own
  | .var i m => if m = true then .sh else bty (S.own i)
  | .bin _ o _ _ => o
  | .ite _ a _ => ty S a
  | .idx a _ => if itmb (ty S a) = true then .sh else .bw
  | .sl o _ _ _ => o
  | .tup es => tys S es
  | .lst o _ => .lst o
  | .bi _ o _ => o
  | .fn f _ _ => match S.fns[f]? with
    | some fn => fn.own
    | none => .sh
  | .comp o _ _ _ _ _ => .lst o
  | .comp2 o _ _ _ _ _ _ _ _ _ => .lst o
  | .rv o _ => o
  | .lr1 o _ => o
  | .lr2 o _ _ => o
  | .dn _ => .dct
  | .d1 _ _ => .dct
  | .dso o _ => o
  | .dks o _ => o
  | _ => .sh
def tys (S : Sg) : Es → Own
  | .nil => .tn
  | .cons e r => .tc (ty S e) (tys S r)
end

/-! the text against the plain language -/
structure Cfg where
  N : List Str
  sc : Scope
  S : Sg
  bis : List Str
  cl : Str → Bool
def Cfg.look (g : Cfg) (x : Str) : Option NameKind := g.sc.names.lookup x
def visB (g : Cfg) (x : Str) : Bool := match g.look x with
  | some .local | some .cell | some .free => true
  | _ => false
def glB (g : Cfg) (x : Str) : Bool := match g.look x with
  | some .globalImplicit => true
  | _ => false
def locB (g : Cfg) (x : Str) : Bool := match g.look x with
  | some .local => true
  | some .cell => g.cl x
  | _ => false
def nmB (x : Str) : Bool := !(x == ("__debug__" : Str)) && !(x == ("__classdict__" : Str))
def mgB (x : Str) : Option Value := if x = "gcd" then some (.builtin "math.gcd") else none
def biB (g : Cfg) (x : Str) : Bool := glB g x && !(decide (x = "gcd")) && g.bis.any fun y => decide (y = x)
def biG (g : Cfg) (x : Str) : Bool := glB g x && decide (x = "gcd") && g.bis.any fun y => decide (y = x)
def cM : Const → D → Bool
  | .none, .none => true
  | .bool a, .bool b => a == b
  | .int a, .int b => a == b
  | .str a, .str b => decide (a = b)
  | _, _ => false
def nstar : Expr → Bool
  | .Starred _ _ => false
  | _ => true
def nsup : Expr → Bool
  | .Call (.Name _ _) [] [] _ => false
  | _ => true
def nslice : Expr → Bool
  | .Slice _ _ _ _ => false
  | _ => true
def nset : Expr → Bool
  | .Set _ _ _ => false
  | _ => true
def isTup : Expr → Bool
  | .Tuple _ _ _ => true
  | _ => false
def allSh : Own → Bool
  | .tc o r => decide (o = .sh) && (decide (r = .tn) || allSh r)
  | _ => false
mutual
def mG (g : Cfg) : G → Expr → Bool
  | .nm i, e => match e with
    | .Name x _ => decide (g.N[i]? = some x) && locB g x
    | _ => false
  | .tp gs, e => match e with
    | .Tuple as _ _ => mGs g gs as
    | _ => false
  | .ls gs, e => match e with
    | .Tuple as _ _ => mGs g gs as
    | _ => false
def mGs (g : Cfg) : Gs → List Expr → Bool
  | .nil, as => as.isEmpty
  | .cons t r, as => match as with
    | a :: as => mG g t a && nstar a && mGs g r as
    | [] => false
end
def ownW (g : Cfg) (ws : List Nat) : List (Str × Nat) := ws.map fun i => (g.N.getD i "", i)
def Cfg.blk (g : Cfg) (sc : Scope) : Cfg := { g with sc := relS sc g.sc, cl := fun x => sc.names.lookup x == some .cell }
mutual
def mE (g : Cfg) : E → Expr → Bool
  | .var i _, e => match e with
    | .Name x _ => decide (g.N[i]? = some x) && visB g x && nmB x
    | _ => false
  | .cst d, e => match e with
    | .Constant k _ _ => cM k d
    | _ => false
  | .gl i, e => match e with
    | .Name x _ => (match g.S.gls[i]? with
      | some p => decide (p.1 = x)
      | none => false) && glB g x && nmB x
    | _ => false
  | .neg a, e => match e with
    | .UnaryOp .USub l _ => mE g a l
    | _ => false
  | .bin op o a b, e => match e with
    | .BinOp l p r _ => decide (p = op.op) && mE g a l && mE g b r && newO o && itmb (ty g.S a) && itmb (ty g.S b)
    | _ => false
  | .cmp op a b, e => match e with
    | .Compare l [p] [r] _ => decide (p = op.op) && mE g a l && mE g b r && !(behindInMarks p r)
    | _ => false
  | .chn op op' a b d, e => match e with
    | .Compare l [p, p'] [r, q] _ => decide (p = op.op) && decide (p' = op'.op) && mE g a l && mE g b r && mE g d q && !(lastMarks [p, p'] [r, q])
    | _ => false
  | .nt a, e => match e with
    | .UnaryOp .Not l _ => mE g a l
    | _ => false
  | .an es, e => match e with
    | .BoolOp .And as _ => mL g es as && allSh (tys g.S es)
    | _ => false
  | .orr es, e => match e with
    | .BoolOp .Or as _ => mL g es as && allSh (tys g.S es)
    | _ => false
  | .ite t a b, e => match e with
    | .IfExp x l r _ => mE g t x && mE g a l && mE g b r && decide (ty g.S a = ty g.S b)
    | _ => false
  | .idx a b, e => match e with
    | .Subscript l r _ => mE g a l && mE g b r && nslice r
    | _ => false
  | .sl o a lo hi, e => match e with
    | .Subscript l (.Slice x y none _) _ => mE g a l && mO g lo x && mO g hi y && newO o && itmb (ty g.S a)
    | _ => false
  | .tup es, e => match e with
    | .Tuple as _ _ => mL g es as && isTc (tys g.S es)
    | _ => false
  | .lst o es, e => match e with
    | .List as _ => mL g es as && allO o (tys g.S es)
    | _ => false
  | .bi b o es, e => match e with
    | .Call (.Name x _) as [] _ => decide (x = b.nm) && biB g x && mL g es as && newO o && (!itms b || itm1 (tys g.S es)) && isTc (tys g.S es)
    | _ => false
  | .isi t a, e => match e with
    | .Call (.Name x _) [l, .Name y _] [] _ => decide (x = "isinstance") && decide (y = t.nm) && biB g x && biB g y && mE g a l && nstar l
    | _ => false
  | .fn f k es, e => match e with
    | .Call (.Name x _) as [] _ => (match g.S.fns[f]? with
      | some fn => decide (fn.name = x) && (k || fzs (tys g.S es)) && fz fn.own
      | none => false) && glB g x && nmB x && mL g es as && isTc (tys g.S es)
    | _ => false
  | .comp o elt t it q ws, e => match e with
    | .ListComp a [⟨tg, i, ifs, z⟩] sc _ => decide (z = 0) && mI g true it tg i && nset i && L2.blkC g.N g.sc sc (ownW g ws) && mG (g.blk sc) t tg && mC (g.blk sc) q ifs && mE (g.blk sc) elt a && decide (ty g.S elt = o) && fz o && (gslots t).all fun j => decide (j ∈ ws)
    | _ => false
  | .frz a, e => mE g a e && fz (ty g.S a)
  | .fl a, e => mE g a e
  | .rv o a, e => match e with
    | .Subscript l (.Slice none none (some (.UnaryOp .USub (.Constant (.int 1) _ _) _)) _) _ => mE g a l && newO o && itmb (ty g.S a)
    | _ => false
  | .lr1 o a, e => match e with
    | .Call (.Name x _) [.Call (.Name y _) [l] [] _] [] _ => decide (x = "list") && decide (y = "range") && biB g x && biB g y && mE g a l && nstar l && newO o
    | _ => false
  | .dn _, e => match e with
    | .Dict [] [] _ => true
    | _ => false
  | .dg a k, e => match e with
    | .Subscript l r _ => mE g a l && mE g k r && nslice r && itmb (ty g.S a)
    | _ => false
  | .dgd a k x, e => match e with
    | .Call (.Attribute b m ap) [u, v] [] cp => decide (m = "get") && (ap.endLine == cp.line) && mE g a b && mE g k u && mE g x v && nstar u && nstar v && nsup b && itmb (ty g.S a) && fz (ty g.S x)
    | _ => false
  | .dg1 a k, e => match e with
    | .Call (.Attribute b m ap) [u] [] cp => decide (m = "get") && (ap.endLine == cp.line) && mE g a b && mE g k u && nstar u && nsup b && itmb (ty g.S a)
    | _ => false
  | .din n k a, e => match e with
    | .Compare l [p] [r] _ => decide (p = if n = true then CmpOp.NotIn else CmpOp.In) && mE g k l && mE g a r && itmb (ty g.S a) && !(behindInMarks p r)
    | _ => false
  | .dl a, e => match e with
    | .Call (.Name x _) [l] [] _ => decide (x = "len") && biB g x && mE g a l && nstar l && itmb (ty g.S a)
    | _ => false
  | .dso o a, e => match e with
    | .Call (.Name x _) [l] [] _ => decide (x = "sorted") && biB g x && mE g a l && nstar l && itmb (ty g.S a) && newO o
    | _ => false
  | .dks o a, e => match e with
    | .Call (.Name x _) [l] [] _ => decide (x = "list") && biB g x && mE g a l && nstar l && itmb (ty g.S a) && newO o
    | _ => false
  | .et, e => match e with
    | .Tuple [] _ _ => true
    | _ => false
  | .d1 k v, e => match e with
    | .Dict [some l] [r] _ => mE g k l && mE g v r && fz (ty g.S v)
    | _ => false
  | .xi a k, e => match e with
    | .Call (.Attribute b m ap) [u] [] cp => decide (m = "index") && (ap.endLine == cp.line) && mE g a b && mE g k u && nstar u && nsup b && itmb (ty g.S a)
    | _ => false
  | .comp2 o elt t it q t1 it1 q1 ws ws1, e => match e with
    | .ListComp a [⟨tg, i, ifs, z⟩, ⟨tg1, i1, ifs1, z1⟩] sc _ => decide (z = 0) && decide (z1 = 0) && mI g true it tg i && nset i && nset i1 && L2.blkC g.N g.sc sc (ownW g ws) && mG (g.blk sc) t tg && mC (g.blk sc) q ifs && mI (g.blk sc) false it1 tg1 i1 && mG (g.blk sc) t1 tg1 && mC (g.blk sc) q1 ifs1 && mE (g.blk sc) elt a && decide (ty g.S elt = o) && fz o && ((gslots t).all fun j => decide (j ∈ ws)) && ((gslots t1).all fun j => decide (j ∈ ws1)) && (ws1.all fun j => decide (j ∈ ws))
    | _ => false
  | .lsc elt t it q ws, e => match e with
    | .Call (.Name x _) [.SetComp a [⟨tg, i, ifs, z⟩] sc _] [] _ => decide (x = "len") && biB g x && decide (z = 0) && mI g true it tg i && nset i && L2.blkC g.N g.sc sc (ownW g ws) && mG (g.blk sc) t tg && mC (g.blk sc) q ifs && mE (g.blk sc) elt a && (gslots t).all fun j => decide (j ∈ ws)
    | _ => false
  | .gcd a b, e => match e with
    | .Call (.Name x _) [l, r] [] _ => biG g x && mE g a l && mE g b r && nstar l && nstar r
    | _ => false
  | .rpr a, e => match e with
    | .Call (.Name x _) [l] [] _ => decide (x = "repr") && biB g x && mE g a l && nstar l && itmb (ty g.S a) && g.S.top
    | _ => false
  | .lr2 o a b, e => match e with
    | .Call (.Name x _) [.Call (.Name y _) [l, r] [] _] [] _ => decide (x = "list") && decide (y = "range") && biB g x && biB g y && mE g a l && mE g b r && nstar l && nstar r && newO o
    | _ => false
def mL (g : Cfg) : Es → List Expr → Bool
  | .nil, as => as.isEmpty
  | .cons x r, as => match as with
    | a :: as => mE g x a && nstar a && mL g r as
    | [] => false
def mO (g : Cfg) : Eo → Option Expr → Bool
  | .no, e => e.isNone
  | .sm x, e => match e with
    | some a => mE g x a
    | none => false
def mC (g : Cfg) : Es → List Expr → Bool
  | .nil, as => as.isEmpty
  | .cons x r, as => match as with
    | [a] => mE g x a && (match r with
      | .nil => true
      | _ => false)
    | _ => false
def mI (g : Cfg) (p : Bool) : I → Expr → Expr → Bool
  | .seq x, _, e => mE g x e && walkb p (ty g.S x)
  | .r1 es, _, e => match e with
    | .Call (.Name x _) [a] [] _ => decide (x = "range") && biB g x && mL g es [a]
    | _ => false
  | .r2 es, _, e => match e with
    | .Call (.Name x _) [a, b] [] _ => decide (x = "range") && biB g x && mL g es [a, b]
    | _ => false
  | .r3 es, _, e => match e with
    | .Call (.Name x _) [a, b, d] [] _ => decide (x = "range") && biB g x && mL g es [a, b, d]
    | _ => false
  | .en es, tg, e => match e with
    | .Call (.Name x _) [a] [] _ => decide (x = "enumerate") && biB g x && mL g es [a] && walks p (tys g.S es) && isTup tg
    | _ => false
  | .zp es, tg, e => match e with
    | .Call (.Name x _) [a, b] [] _ => decide (x = "zip") && biB g x && mL g es [a, b] && walks p (tys g.S es) && isTup tg
    | _ => false
end

structure Good (g : Cfg) (c : Ctx) (X : Cx) : Prop where
  N : X.N = g.N
  nd : g.N.Nodup
  sc : X.env.scope = g.sc
  calm : X.calm = true
  hu : X.A.units + 65 < cLine
  bi : ∀ x, (g.bis.any fun y => decide (y = x)) = true → X.mg x = mgB x
  gls : ∀ (i : Nat) (p : Str × D), g.S.gls[i]? = some p → ∃ u v, X.mg p.1 = some u ∧ RelV v u ∧ flatD p.2 = true ∧ ∀ H, Dp [] H v p.2
  fns : ∀ (i : Nat) (fn : Fn), g.S.fns[i]? = some fn → FnIs X c.xs fn
  tk : Takes X (WXc c)
  own : c.Γ = g.S.own
  cl : ∀ x, g.cl x = true → X.fn x = true
  xcs : XcG c.xs X.K X.mg g.S.xc
  tp : g.S.top = true → X.A.guards = some []

section
variable {g : Cfg} {c : Ctx} {X : Cx}
theorem Good.vis (G : Good g c X) {x : Str} (h : visB g x = true) : Vis X.env.scope x := by
  unfold Vis
  rw [G.sc]
  unfold visB Cfg.look at h
  split at h
  · rename_i e; exact .inl e
  · rename_i e; exact .inr (.inl e)
  · rename_i e; exact .inr (.inr e)
  · cases h
theorem Good.gl (G : Good g c X) {x : Str} (h : glB g x = true) : Gl X x := by
  show X.env.scope.names.lookup x = some .globalImplicit
  rw [G.sc]
  unfold glB Cfg.look at h
  split at h
  · rename_i e; exact e
  · cases h
theorem Good.bl (G : Good g c X) {x : Str} (h : biB g x = true) : Gl X x ∧ X.mg x = none :=
  have h' := Bool.and_eq_true_iff.mp h
  have h2 := Bool.and_eq_true_iff.mp h'.1
  ⟨G.gl h2.1, (G.bi x h'.2).trans (if_neg (by simpa using h2.2))⟩
theorem Good.bf (G : Good g c X) : ∀ x, ((g.bis.filter fun y : Str => !(decide (y = "gcd"))).any fun y => decide (y = x)) = true → X.mg x = none := fun x h => by
  rw [List.any_eq_true] at h
  obtain ⟨y, hy, e⟩ := h
  have e := of_decide_eq_true e
  subst e
  obtain ⟨h1, h2⟩ := List.mem_filter.mp hy
  exact (G.bi y (List.any_eq_true.mpr ⟨y, h1, decide_eq_true rfl⟩)).trans (if_neg (by simpa using h2))
theorem Good.gc (G : Good g c X) {x : Str} (h : biG g x = true) : x = "gcd" ∧ Gl X x ∧ X.mg x = some (.builtin "math.gcd") :=
  have h' := Bool.and_eq_true_iff.mp h
  have h2 := Bool.and_eq_true_iff.mp h'.1
  ⟨of_decide_eq_true h2.2, G.gl h2.1, (G.bi x h'.2).trans (if_pos (of_decide_eq_true h2.2))⟩
theorem Good.loc (G : Good g c X) {x : Str} (h : locB g x = true) : L2.Loc X.env.scope x ∧ (X.fn x = true ∨ X.env.scope.names.lookup x = some .local) := by
  unfold L2.Loc
  rw [G.sc]
  unfold locB Cfg.look at h
  split at h
  · rename_i e; exact ⟨.inl e, .inr e⟩
  · rename_i e; exact ⟨.inr e, .inl (G.cl x h)⟩
  · cases h
theorem nmB_of {x : Str} (h : nmB x = true) : (x == ("__debug__" : Str)) = false ∧ (x == ("__classdict__" : Str)) = false := by
  unfold nmB at h
  simpa using h
theorem star_of {a : Expr} {as : List Expr} {env : Env} (h : nstar a = true) : starEach (a :: as) env = (false, eval a env) :: starEach as env := by
  cases a <;> first | rfl | cases h
theorem back_of {pos : Pos} : ∀ {as : List Expr} {env : Env}, (as.all nstar) = true → (backTo pos (starEach as env)).any (·.1) = false
  | [], _, _ => rfl
  | a :: as, env, h => by
    rw [List.all_cons, Bool.and_eq_true] at h
    rw [star_of h.1]
    have ih := back_of (pos := pos) (env := env) h.2
    unfold backTo at ih ⊢
    rw [List.map_cons, List.any_cons, ih]
    rfl
theorem mL_star : ∀ {es : Es} {as : List Expr}, mL g es as = true → as.all nstar = true
  | .nil, as, h => by
    unfold mL at h
    cases as with
    | nil => rfl
    | cons a as => cases h
  | .cons x r, as, h => by
    unfold mL at h
    split at h
    · simp only [Bool.and_eq_true] at h
      rw [List.all_cons, h.1.2, mL_star h.2]
      rfl
    · cases h
theorem pix_of {r : Expr} (h : nslice r = true) : PlainIx r := by
  intro o i
  cases r <;> first | rfl | cases h
theorem nosl_of {r : Expr} (h : nslice r = true) : NoSl r := by
  intro o i
  cases r <;> first | rfl | cases h
theorem nsup_of {b : Expr} {m : Str} {env : Env} (h : nsup b = true) : attributeBase b m env (eval b env) = eval b env := by
  unfold attributeBase
  split
  · rename_i x
    cases h
  · rfl
theorem m1_of {b u : Expr} {m : Str} {ap cp : Pos} (hb : nsup b = true) (hl : (ap.endLine == cp.line) = true) (hu : nstar u = true) {X : Cx} : M1 X b m ap u cp := by
  have e : starEach [u] X.env = [(false, eval u X.env)] := by rw [star_of hu]; rfl
  exact ⟨nsup_of hb, by rw [e]; rfl, hl, by rw [e]; rfl⟩
theorem m2_of {b u v : Expr} {m : Str} {ap cp : Pos} (hb : nsup b = true) (hl : (ap.endLine == cp.line) = true) (hu : nstar u = true) (hv : nstar v = true) {X : Cx} : M2 X b m ap u v cp := by
  have e : starEach [u, v] X.env = [(false, eval u X.env), (false, eval v X.env)] := by rw [star_of hu, star_of hv]; rfl
  exact ⟨nsup_of hb, by rw [e]; rfl, hl, by rw [e]; rfl⟩
theorem fold_of {e : Expr} {env : Env} (h : nset e = true) : ∀ x, foldedSetIterable e env x = pure x := by
  intro x
  cases e <;> first | rfl | cases h
theorem Good.blk (G : Good g c X) {sc : Scope} {s : Shared} {H : Hp} {C : Addr} {cl : List (Str × Addr)} {fp : List Addr} : Good (g.blk sc) (ctxB c) (X.blk s H sc (compEnvC sc cl C X.env) fp) where
  N := G.N
  nd := G.nd
  sc := by
    show relS sc X.env.scope = relS sc g.sc
    rw [G.sc]
  calm := G.calm
  hu := G.hu
  bi := G.bi
  gls := G.gls
  fns := fun i fn h => let ⟨f, fd, ps, k, h1, h2, h3, h4, h5⟩ := (G.fns i fn h).is; ⟨f, fd, ps, k, h1, h2, h3, h4, h5⟩
  tk := takesB
  own := G.own
  cl := fun x h => h
  xcs := G.xcs
  tp := G.tp
mutual
theorem sG : ∀ (t : G) {g : Cfg} {c : Ctx} {X : Cx} {e : Expr}, Good g c X → mG g t e = true → PG X e (tgG X.K t)
  | .nm i, g, c, X, e, G, h => by
    unfold mG at h
    split at h
    · simp only [Bool.and_eq_true, decide_eq_true_eq] at h
      obtain ⟨l1, l2⟩ := G.loc h.2
      exact pg_name (i := i) (by rw [G.N]; exact G.nd) (by rw [G.N]; exact h.1) l1 l2
    · cases h
  | .tp gs, g, c, X, e, G, h => by
    unfold mG at h
    split at h
    · obtain ⟨p, hl, hs⟩ := sGs gs G h
      exact pg_tup G.calm p hl hs
    · cases h
  | .ls gs, g, c, X, e, G, h => by
    unfold mG at h
    split at h
    · obtain ⟨p, hl, hs⟩ := sGs gs G h
      exact pg_lst G.calm p hl hs
    · cases h
theorem sGs : ∀ (t : Gs) {g : Cfg} {c : Ctx} {X : Cx} {es : List Expr}, Good g c X → mGs g t es = true → PGs X es (tgGs X.K t) ∧ (assignEach es X.env).length = t.len ∧ (assignEach es X.env).findIdx? (·.1) = none
  | .nil, g, c, X, es, G, h => by
    unfold mGs at h
    cases es with
    | nil => exact ⟨pgs_nil, rfl, rfl⟩
    | cons a as => cases h
  | .cons t r, g, c, X, es, G, h => by
    unfold mGs at h
    split at h
    · rename_i a as
      simp only [Bool.and_eq_true] at h
      obtain ⟨p, hl, hs⟩ := sGs r G h.2
      have he : assignEach (a :: as) X.env = (false, assign a X.env) :: assignEach as X.env := by
        have h0 := h.1.2
        cases a <;> first | rfl | cases h0
      refine ⟨pgs_cons (sG t G h.1.1) p (by rw [he]; rfl), ?_, ?_⟩
      · rw [he]
        show (assignEach as X.env).length + 1 = r.len + 1
        rw [hl]
      · rw [he, List.findIdx?_cons]
        simp [hs]
    · cases h
end
end
end Pv

namespace Pv
open PySem PySem.Spec PyProof.Rows L2

theorem R.assoc {α β γ : Type} (m : R α) (f : α → R β) (g : β → R γ) : (m >>= f >>= g) = (m >>= fun x => f x >>= g) := by cases m <;> rfl
theorem PE.cg {X : Cx} {c : Ctx} {e : Expr} {f g : Ev → R D} {o o' : Own} (h : PE X e (tE c f o)) (hf : ∀ env, f env = g env) (ho : o = o') : PE X e (tE c g o') := by
  subst ho
  have : f = g := funext hf
  subst this
  exact h
theorem PT.cg {X : Cx} {c : Ctx} {e : Expr} {f g : Ev → R Bool} (h : PT X e (tT c f)) (hf : ∀ env, f env = g env) : PT X e (tT c g) := by
  have : f = g := funext hf
  subst this
  exact h
theorem PW.cg {X : Cx} {c : Ctx} {e : Expr} {f g : Ev → R Bool} (h : PW X e (tT c f)) (hf : ∀ env, f env = g env) : PW X e (tT c g) := by
  have : f = g := funext hf
  subst this
  exact h
theorem PI.cg {X : Cx} {c : Ctx} {p : Bool} {tg e : Expr} {f g : Ev → R (List D)} (h : PI X tg e (tI c p f)) (hf : ∀ env, f env = g env) : PI X tg e (tI c p g) := by
  have : f = g := funext hf
  subst this
  exact h
theorem PA.cg {X : Cx} {c : Ctx} {es : List Expr} {f g : Ev → R (List D)} {o o' : Own} (h : PA X es (tA c f o)) (hf : ∀ env, f env = g env) (ho : o = o') : PA X es (tA c g o') := by
  subst ho
  have : f = g := funext hf
  subst this
  exact h
@[simp] theorem truthD_bool (b : Bool) : truthD (.bool b) = .ok b := rfl
theorem cmp_tr {op : COp} (x y : D) : ((evCmp op x y >>= fun b => (.ok (.bool b) : R D)) >>= truthD) = evCmp op x y := by cases evCmp op x y <;> rfl

theorem own_ix {g : Cfg} {ws : List Nat} : (ownW g ws).map (·.2) = ws := by
  unfold ownW
  rw [List.map_map]
  exact List.map_id _
theorem tc_len {S : Sg} : ∀ {es : Es}, isTc (tys S es) = true → ∃ e r, es = .cons e r
  | .nil, h => by cases h
  | .cons e r, _ => ⟨e, r, rfl⟩

theorem pt_it {X : Cx} {c : Ctx} {t a b : Expr} {pos : Pos} {ft fa fb : Ev → R Bool} (ht : PT X t (tT c ft)) (ha : PT X a (tT c fa)) (hb : PT X b (tT c fb)) :
    PT X (.IfExp t a b pos) (tT c fun env => ft env >>= fun r => if r = true then fa env else fb env) := by
  refine ⟨fun pins s σ H Q I ⟨env, O, at_, h⟩ => ?_⟩
  show wpAny _ _ (do if ← isTrue t X.env (eval t X.env) then isTrue a X.env (eval a X.env) else isTrue b X.env (eval b X.env)) _ _ _
  refine wpAny_bind (thn (ht.run pins s σ H _ I (tT_bind at_ Gb.up h fun b H1 _ s1 a1 g1 => (⟨env, O, a1, g1⟩ : tT c (fun env => if b = true then fa env else fb env) σ H1 Q))) fun r s1 ⟨H1, I1, q1⟩ => ?_)
  cases r with
  | true => exact ha.run pins s1 σ H1 Q I1 q1
  | false => exact hb.run pins s1 σ H1 Q I1 q1
mutual
theorem sE : ∀ (x : E) {g : Cfg} {c : Ctx} {X : Cx} {e : Expr}, Good g c X → mE g x e = true → PE X e (tE c (ev g.S x) (ty g.S x))
  | .var i m, g, c, X, e, G, h => by
    unfold mE at h
    split at h
    · simp only [Bool.and_eq_true, decide_eq_true_eq] at h
      obtain ⟨n1, n2⟩ := nmB_of h.2
      refine PE.cg (pe_v (c := c) (i := i) (m := m) (by rw [G.N]; exact h.1.1) (G.vis h.1.2) n1 n2) (fun env => by unfold ev; rfl) ?_
      rw [G.own]
      unfold ty
      rfl
    · cases h
  | .cst d, g, c, X, e, G, h => by
    unfold mE at h
    split at h
    · rename_i k _ _
      unfold cM at h
      split at h
      · exact PE.cg (pe_k (v := .non) (d := .none) pe_non rfl fun _ => .non) (fun env => by unfold ev; rfl) (by unfold ty; rfl)
      · rename_i a b
        have e1 := eq_of_beq h
        subst e1
        exact PE.cg (pe_k (v := .bl a) (d := .bool a) pe_bl rfl fun _ => .bl a) (fun env => by unfold ev; rfl) (by unfold ty; rfl)
      · rename_i a b
        have e1 := eq_of_beq h
        subst e1
        exact PE.cg (pe_k (v := .int a) (d := .int a) pe_int rfl fun _ => .int a) (fun env => by unfold ev; rfl) (by unfold ty; rfl)
      · rename_i a b
        have e1 := of_decide_eq_true h
        subst e1
        exact PE.cg (pe_k (v := .str a) (d := .str a) pe_str rfl fun _ => .str a) (fun env => by unfold ev; rfl) (by unfold ty; rfl)
      · cases h
    · cases h
  | .gl i, g, c, X, e, G, h => by
    unfold mE at h
    split at h
    · rename_i x _
      simp only [Bool.and_eq_true] at h
      obtain ⟨⟨h1, h2⟩, h3⟩ := h
      split at h1
      · rename_i p hp
        have e1 := of_decide_eq_true h1
        obtain ⟨u, v, m1, r1, f1, d1⟩ := G.gls i p hp
        rw [e1] at m1
        refine PE.cg (pe_k (v := v) (d := p.2) (pe_glob (G.gl h2) m1 r1 (nmB_of h3).1) f1 d1) (fun env => ?_) (by unfold ty; rfl)
        unfold ev evGl
        rw [hp]
      · cases h1
    · cases h
  | .neg a, g, c, X, e, G, h => by
    unfold mE at h
    split at h
    · exact PE.cg (pe_neg (sE a G h)) (fun env => by rw [ev]) (by unfold ty; rfl)
    · cases h
  | .bin op o a b, g, c, X, e, G, h => by
    unfold mE at h
    split at h
    · simp only [Bool.and_eq_true, decide_eq_true_eq] at h
      obtain ⟨⟨⟨⟨⟨h1, h2⟩, h3⟩, h4⟩, h5⟩, h6⟩ := h
      subst h1
      exact PE.cg (pe_bin (sE a G h2) (sE b G h3) h4 h5 h6) (fun env => by rw [ev]) (by unfold ty; rfl)
    · cases h
  | .cmp op a b, g, c, X, e, G, h => by
    unfold mE at h
    split at h
    · simp only [Bool.and_eq_true, decide_eq_true_eq, Bool.not_eq_true'] at h
      obtain ⟨⟨⟨h1, h2⟩, h3⟩, h4⟩ := h
      subst h1
      exact PE.cg (pe_cm G.hu (sE a G h2) (sE b G h3) h4) (fun env => by rw [ev]) (by unfold ty; rfl)
    · cases h
  | .chn op op' a b d, g, c, X, e, G, h => by
    unfold mE at h
    split at h
    · simp only [Bool.and_eq_true, decide_eq_true_eq, Bool.not_eq_true'] at h
      obtain ⟨⟨⟨⟨⟨h1, h1'⟩, h2⟩, h3⟩, h4⟩, h5⟩ := h
      subst h1
      subst h1'
      exact PE.cg (pe_ch G.hu (sE a G h2) (sE b G h3) (sE d G h4) h5) (fun env => by rw [ev]) (by unfold ty; rfl)
    · cases h
  | .nt a, g, c, X, e, G, h => by
    unfold mE at h
    split at h
    · exact PE.cg (pe_n (sE a G h)) (fun env => by rw [ev]) (by unfold ty; rfl)
    · cases h
  | .an es, g, c, X, e, G, h => by
    unfold mE at h
    split at h
    · simp only [Bool.and_eq_true] at h
      exact PE.cg (sAn es G h.1 h.2) (fun env => by rw [ev]) (by unfold ty; rfl)
    · cases h
  | .orr es, g, c, X, e, G, h => by
    unfold mE at h
    split at h
    · simp only [Bool.and_eq_true] at h
      exact PE.cg (sOr es G h.1 h.2) (fun env => by rw [ev]) (by unfold ty; rfl)
    · cases h
  | .ite t a b, g, c, X, e, G, h => by
    unfold mE at h
    split at h
    · simp only [Bool.and_eq_true, decide_eq_true_eq] at h
      obtain ⟨⟨⟨h1, h2⟩, h3⟩, h4⟩ := h
      refine PE.cg (pe_it (sT t G h1) (sE a G h2) (h4 ▸ sE b G h3)) (fun env => ?_) (by rw [ty])
      rw [ev, R.assoc]
    · cases h
  | .idx a b, g, c, X, e, G, h => by
    unfold mE at h
    split at h
    · simp only [Bool.and_eq_true] at h
      exact PE.cg (pe_id (sE a G h.1.1) (sE b G h.1.2) (pix_of h.2)) (fun env => by rw [ev]) (by rw [ty])
    · cases h
  | .sl o a lo hi, g, c, X, e, G, h => by
    unfold mE at h
    split at h
    · simp only [Bool.and_eq_true] at h
      obtain ⟨⟨⟨⟨h1, h2⟩, h3⟩, h4⟩, h5⟩ := h
      exact PE.cg (pe_sl h4 h5 (sE a G h1) (sO lo G h2) (sO hi G h3)) (fun env => by rw [ev]) (by rw [ty])
    · cases h
  | .tup es, g, c, X, e, G, h => by
    unfold mE at h
    split at h
    · simp only [Bool.and_eq_true] at h
      exact PE.cg (pe_tu h.2 (sL es G h.1)) (fun env => by rw [ev]) (by rw [ty])
    · cases h
  | .lst o es, g, c, X, e, G, h => by
    unfold mE at h
    split at h
    · simp only [Bool.and_eq_true] at h
      exact PE.cg (pe_li h.2 (sL es G h.1)) (fun env => by rw [ev]) (by rw [ty])
    · cases h
  | .bi b o es, g, c, X, e, G, h => by
    unfold mE at h
    split at h
    · simp only [Bool.and_eq_true, decide_eq_true_eq] at h
      obtain ⟨⟨⟨⟨⟨h1, h2⟩, h3⟩, h4⟩, h5⟩, h6⟩ := h
      subst h1
      obtain ⟨b1, b2⟩ := G.bl h2
      have hst := mL_star h3
      obtain ⟨x0, r0, rfl⟩ := tc_len h6
      have hL := sL (.cons x0 r0) G h3
      unfold mL at h3
      split at h3
      · rename_i a as
        rw [List.all_cons, Bool.and_eq_true] at hst
        refine PE.cg (pe_bf h4 G.calm G.hu (fun hb => ?_) b1 b2 hL (star_of hst.1) (back_of hst.2)) (fun env => by rw [ev]) (by rw [ty])
        rw [hb] at h5
        exact h5
      · cases h3
    · cases h
  | .isi t a, g, c, X, e, G, h => by
    unfold mE at h
    split at h
    · simp only [Bool.and_eq_true, decide_eq_true_eq] at h
      obtain ⟨⟨⟨⟨⟨h1, h2⟩, h3⟩, h4⟩, h5⟩, h6⟩ := h
      subst h1
      subst h2
      obtain ⟨b1, b2⟩ := G.bl h3
      obtain ⟨b3, b4⟩ := G.bl h4
      exact PE.cg (pe_is b1 b2 b3 b4 (sE a G h5) (star_of h6)) (fun env => by rw [ev]) (by unfold ty; rfl)
    · cases h
  | .fn f k es, g, c, X, e, G, h => by
    unfold mE at h
    split at h
    · simp only [Bool.and_eq_true] at h
      obtain ⟨⟨⟨⟨h1, h2⟩, h3⟩, h4⟩, h6⟩ := h
      split at h1
      · rename_i fn hfn
        simp only [Bool.and_eq_true, decide_eq_true_eq, Bool.or_eq_true] at h1
        obtain ⟨⟨k1, k2⟩, k3⟩ := h1
        subst k1
        have hst := mL_star h4
        obtain ⟨x0, r0, rfl⟩ := tc_len h6
        have hL := sL (.cons x0 r0) G h4
        unfold mL at h4
        split at h4
        · rename_i a as
          rw [List.all_cons, Bool.and_eq_true] at hst
          refine PE.cg (pe_fn (G.fns f fn hfn) G.tk k2 k3 (G.gl h2) hL (nmB_of h3).1 (star_of hst.1) (back_of hst.2)) (fun env => ?_) ?_
          · rw [ev]
            unfold evF
            rw [hfn]
          · rw [ty, hfn]
        · cases h4
      · cases h1
    · cases h
  | .comp o elt t it q ws, g, c, X, e, G, h => by
    unfold mE at h
    split at h
    · rename_i a tg i ifs z sc pos
      simp only [Bool.and_eq_true, decide_eq_true_eq, List.all_eq_true] at h
      obtain ⟨⟨⟨⟨⟨⟨⟨⟨⟨h1, h2⟩, h3⟩, h4⟩, h5⟩, h6⟩, h7⟩, h8⟩, h9⟩, h10⟩ := h
      subst h1
      have hsc : L2.blkC X.N X.env.scope sc (ownW g ws) = true := by rw [G.N, G.sc]; exact h4
      have hp := pe_lc (X := X) (g := tgG X.K t) (elt := a) (tg := tg) (iter := i) (ifs := ifs) (scope := sc) (own := ownW g ws) (pos := pos) G.calm (by rw [G.N]; exact G.nd) (sI it true G h2) (blkOk_by hsc)
        (fun s H C cl fp => sG t (G.blk (s := s) (H := H) (C := C) (cl := cl) (fp := fp)) h5) (fun s H C cl fp => sC q (G.blk (s := s) (H := H) (C := C) (cl := cl) (fp := fp)) h6)
        (fun s H C cl fp => h8 ▸ sE elt (G.blk (s := s) (H := H) (C := C) (cl := cl) (fp := fp)) h7) (fold_of h3)
      rw [own_ix] at hp
      refine PE.cg (PE.imp hp fun σ H Q hq => comp_read (g := t) (ws := ws) (fi := evi g.S it) (ft := evc g.S q) (fe := ev g.S elt) (o := o) rfl rfl rfl h9 (fun j hj => h10 j hj) hq) (fun env => by rw [ev]) (by rw [ty])
    · cases h
  | .frz a, g, c, X, e, G, h => by
    unfold mE at h
    simp only [Bool.and_eq_true] at h
    exact PE.cg (pe_fz h.2 (sE a G h.1)) (fun env => by rw [ev]) (by unfold ty; rfl)
  | .rv o a, g, c, X, e, G, h => by
    unfold mE at h
    split at h
    · simp only [Bool.and_eq_true] at h
      exact PE.cg (pe_rev (o := o) h.1.2 h.2 (sE a G h.1.1)) (fun env => by rw [ev]) (by rw [ty])
    · cases h
  | .lr1 o a, g, c, X, e, G, h => by
    unfold mE at h
    split at h
    · simp only [Bool.and_eq_true, decide_eq_true_eq] at h
      obtain ⟨⟨⟨⟨⟨⟨h1, h2⟩, h3⟩, h4⟩, h5⟩, h6⟩, h7⟩ := h
      subst h1
      subst h2
      exact PE.cg (pe_lr1 (o := o) h7 G.calm (G.bl h3).1 (G.bl h3).2 (G.bl h4).1 (G.bl h4).2 (sE a G h5) (star_of h6)) (fun env => by rw [ev]) (by rw [ty])
    · cases h
  | .lr2 o a b, g, c, X, e, G, h => by
    unfold mE at h
    split at h
    · simp only [Bool.and_eq_true, decide_eq_true_eq] at h
      obtain ⟨⟨⟨⟨⟨⟨⟨⟨h1, h2⟩, h3⟩, h4⟩, h5⟩, h6⟩, h7⟩, h8⟩, h9⟩ := h
      subst h1
      subst h2
      refine PE.cg (pe_lr2 (o := o) h9 G.calm (G.bl h3).1 (G.bl h3).2 (G.bl h4).1 (G.bl h4).2 (sE a G h5) (sE b G h6) (star_of h7) (star_of h8) ?_) (fun env => by rw [ev]) (by rw [ty])
      exact back_of (by simp [h8])
    · cases h
  | .dn t, g, c, X, e, G, h => by
    unfold mE at h
    split at h
    · exact PE.cg (pe_dn t) (fun env => by rw [ev]) (by rw [ty])
    · cases h
  | .dg a k, g, c, X, e, G, h => by
    unfold mE at h
    split at h
    · simp only [Bool.and_eq_true] at h
      exact PE.cg (pe_dg (by have := G.hu; omega) h.2 (sE a G h.1.1.1) (sE k G h.1.1.2) (nosl_of h.1.2)) (fun env => by rw [ev]) (by unfold ty; rfl)
    · cases h
  | .dgd a k x, g, c, X, e, G, h => by
    unfold mE at h
    split at h
    · simp only [Bool.and_eq_true, decide_eq_true_eq] at h
      obtain ⟨⟨⟨⟨⟨⟨⟨⟨⟨h1, h2⟩, h3⟩, h4⟩, h5⟩, h6⟩, h7⟩, h8⟩, h9⟩, h10⟩ := h
      subst h1
      exact PE.cg (pe_d2 (by have := G.hu; omega) h9 h10 (sE a G h3) (sE k G h4) (sE x G h5) (m2_of h8 h2 h6 h7)) (fun env => by rw [ev]) (by unfold ty; rfl)
    · cases h
  | .dg1 a k, g, c, X, e, G, h => by
    unfold mE at h
    split at h
    · simp only [Bool.and_eq_true, decide_eq_true_eq] at h
      obtain ⟨⟨⟨⟨⟨⟨h1, h2⟩, h3⟩, h4⟩, h6⟩, h8⟩, h9⟩ := h
      subst h1
      exact PE.cg (pe_d1 (by have := G.hu; omega) h9 (sE a G h3) (sE k G h4) (m1_of h8 h2 h6)) (fun env => by rw [ev]) (by unfold ty; rfl)
    · cases h
  | .din n k a, g, c, X, e, G, h => by
    unfold mE at h
    split at h
    · simp only [Bool.and_eq_true, decide_eq_true_eq, Bool.not_eq_true'] at h
      obtain ⟨⟨⟨⟨h1, h2⟩, h3⟩, h4⟩, h5⟩ := h
      subst h1
      exact PE.cg (pe_di (by have := G.hu; omega) h4 (sE k G h2) (sE a G h3) h5) (fun env => by rw [ev]) (by unfold ty; rfl)
    · cases h
  | .dl a, g, c, X, e, G, h => by
    unfold mE at h
    split at h
    · simp only [Bool.and_eq_true, decide_eq_true_eq] at h
      obtain ⟨⟨⟨⟨h1, h2⟩, h3⟩, h4⟩, h5⟩ := h
      subst h1
      exact PE.cg (pe_dl h5 (G.bl h2).1 (G.bl h2).2 (sE a G h3) (star_of h4)) (fun env => by rw [ev]) (by unfold ty; rfl)
    · cases h
  | .et, g, c, X, e, G, h => by
    unfold mE at h
    split at h
    · exact PE.cg pe_et (fun env => by rw [ev]) (by unfold ty; rfl)
    · cases h
  | .d1 k v, g, c, X, e, G, h => by
    unfold mE at h
    split at h
    · simp only [Bool.and_eq_true] at h
      exact PE.cg (pe_d1d h.2 (sE k G h.1.1) (sE v G h.1.2)) (fun env => by rw [ev]) (by unfold ty; rfl)
    · cases h
  | .xi a k, g, c, X, e, G, h => by
    unfold mE at h
    split at h
    · simp only [Bool.and_eq_true, decide_eq_true_eq] at h
      obtain ⟨⟨⟨⟨⟨⟨h1, h2⟩, h3⟩, h4⟩, h6⟩, h8⟩, h9⟩ := h
      subst h1
      exact PE.cg (pe_xi h9 (fun _ => nsup_of h8) h2 (fun _ => by rw [star_of h6]; rfl) (sE a G h3) (sE k G h4)) (fun env => by rw [ev]) (by unfold ty; rfl)
    · cases h
  | .gcd a b, g, c, X, e, G, h => by
    unfold mE at h
    split at h
    · simp only [Bool.and_eq_true] at h
      obtain ⟨⟨⟨⟨h1, h2⟩, h3⟩, h4⟩, h5⟩ := h
      obtain ⟨g1, g2, g3⟩ := G.gc h1
      exact PE.cg (pe_gc g1 g2 g3 (sE a G h2) (sE b G h3) (star_of h4) (star_of h5) (back_of (by rw [List.all_cons, h5]; rfl))) (fun env => by rw [ev]) (by unfold ty; rfl)
    · cases h
  | .comp2 o elt t it q t1 it1 q1 ws ws1, g, c, X, e, G, h => by
    unfold mE at h
    split at h
    · rename_i a tg i ifs z tg1 i1 ifs1 z1 sc pos
      simp only [Bool.and_eq_true, decide_eq_true_eq, List.all_eq_true] at h
      obtain ⟨⟨⟨⟨⟨⟨⟨⟨⟨⟨⟨⟨⟨⟨⟨⟨h1, h2⟩, h3⟩, h4⟩, h5⟩, h6⟩, h7⟩, h8⟩, h9⟩, h10⟩, h11⟩, h12⟩, h13⟩, h14⟩, h15⟩, h16⟩, h17⟩ := h
      subst h1
      subst h2
      have hsc : L2.blkC X.N X.env.scope sc (ownW g ws) = true := by rw [G.N, G.sc]; exact h6
      have hp := pe_lc2 (X := X) (g := tgG X.K t) (g1 := tgG X.K t1) (elt := a) (tg := tg) (iter := i) (ifs := ifs) (tg1 := tg1) (iter1 := i1) (ifs1 := ifs1) (scope := sc) (own := ownW g ws) (vs1 := ws1) (pos := pos) G.calm (by rw [G.N]; exact G.nd) (sI it true G h3) (blkOk_by hsc) (fun j hj => by rw [own_ix]; exact h17 j hj)
        (fun s H C cl fp => sG t (G.blk (s := s) (H := H) (C := C) (cl := cl) (fp := fp)) h7) (fun s H C cl fp => sC q (G.blk (s := s) (H := H) (C := C) (cl := cl) (fp := fp)) h8)
        (fun s H C cl fp => sI it1 false (G.blk (s := s) (H := H) (C := C) (cl := cl) (fp := fp)) h9) (fun s H C cl fp => sG t1 (G.blk (s := s) (H := H) (C := C) (cl := cl) (fp := fp)) h10) (fun s H C cl fp => sC q1 (G.blk (s := s) (H := H) (C := C) (cl := cl) (fp := fp)) h11)
        (fun s H C cl fp => h13 ▸ sE elt (G.blk (s := s) (H := H) (C := C) (cl := cl) (fp := fp)) h12) (fold_of h4) (fun env x => fold_of h5 x)
      rw [own_ix] at hp
      refine PE.cg (PE.imp hp fun σ H Q hq => comp2_read (g := t) (g1 := t1) (ws := ws) (ws1 := ws1) (fi := evi g.S it) (fi1 := evi g.S it1) (ft := evc g.S q) (ft1 := evc g.S q1) (fe := ev g.S elt) (o := o) rfl rfl rfl rfl rfl h14 (fun j hj => h15 j hj) (fun j hj => h16 j hj) hq) (fun env => by rw [ev]) (by rw [ty])
    · cases h
  | .lsc elt t it q ws, g, c, X, e, G, h => by
    unfold mE at h
    split at h
    · rename_i x np a tg i ifs z sc pos cp
      simp only [Bool.and_eq_true, decide_eq_true_eq, List.all_eq_true] at h
      obtain ⟨⟨⟨⟨⟨⟨⟨⟨⟨h0, hb⟩, h1⟩, h2⟩, h3⟩, h4⟩, h5⟩, h6⟩, h7⟩, h10⟩ := h
      subst h1
      subst h0
      have hsc : L2.blkC X.N X.env.scope sc (ownW g ws) = true := by rw [G.N, G.sc]; exact h4
      have hp := pe_si (X := X) (g := tgG X.K t) (elt := a) (tg := tg) (iter := i) (ifs := ifs) (sc := sc) (nm := ownW g ws) (pos := pos) G.calm (by rw [G.N]; exact G.nd) (sI it true G h2) (blkOk_by hsc)
        (fun s H C cl fp => sG t (G.blk (s := s) (H := H) (C := C) (cl := cl) (fp := fp)) h5) (fun s H C cl fp => sC q (G.blk (s := s) (H := H) (C := C) (cl := cl) (fp := fp)) h6)
        (fun s H C cl fp => sE elt (G.blk (s := s) (H := H) (C := C) (cl := cl) (fp := fp)) h7) (fold_of h3)
      rw [own_ix] at hp
      exact PE.cg (pe_lsc (c := c) (G.bl hb).1 (G.bl hb).2 hp rfl rfl rfl (fun j hj => h10 j hj) (star_of rfl)) (fun env => by rw [ev]; rfl) (by unfold ty; rfl)
    · cases h
  | .rpr a, g, c, X, e, G, h => by
    unfold mE at h
    split at h
    · simp only [Bool.and_eq_true, decide_eq_true_eq] at h
      obtain ⟨⟨⟨⟨⟨h1, h2⟩, h3⟩, h4⟩, h5⟩, h6⟩ := h
      subst h1
      exact PE.cg (pe_rpr h5 (G.tp h6) (by have := G.hu; omega) (G.bl h2).1 (G.bl h2).2 (sE a G h3) (star_of h4)) (fun env => by rw [ev]) (by unfold ty; rfl)
    · cases h
  | .dso o a, g, c, X, e, G, h => by
    unfold mE at h
    split at h
    · simp only [Bool.and_eq_true, decide_eq_true_eq] at h
      obtain ⟨⟨⟨⟨⟨h1, h2⟩, h3⟩, h4⟩, h5⟩, h6⟩ := h
      subst h1
      exact PE.cg (pe_ds (o := o) h6 h5 G.calm (G.bl h2).1 (G.bl h2).2 (sE a G h3) (star_of h4)) (fun env => by rw [ev]) (by rw [ty])
    · cases h
  | .dks o a, g, c, X, e, G, h => by
    unfold mE at h
    split at h
    · simp only [Bool.and_eq_true, decide_eq_true_eq] at h
      obtain ⟨⟨⟨⟨⟨h1, h2⟩, h3⟩, h4⟩, h5⟩, h6⟩ := h
      subst h1
      exact PE.cg (pe_dk (o := o) h6 h5 G.calm (G.bl h2).1 (G.bl h2).2 (sE a G h3) (star_of h4)) (fun env => by rw [ev]) (by rw [ty])
    · cases h
  | .fl a, g, c, X, e, G, h => by
    unfold mE at h
    exact PE.cg (pe_fl (sE a G h)) (fun env => by rw [ev]) (by unfold ty; rfl)
theorem sT : ∀ (x : E) {g : Cfg} {c : Ctx} {X : Cx} {e : Expr}, Good g c X → mE g x e = true → PT X e (tT c fun env => ev g.S x env >>= truthD)
  | .cmp op a b, g, c, X, e, G, h => by
    unfold mE at h
    split at h
    · simp only [Bool.and_eq_true, decide_eq_true_eq, Bool.not_eq_true'] at h
      obtain ⟨⟨⟨h1, h2⟩, h3⟩, h4⟩ := h
      subst h1
      refine PT.cg (pt_cm G.hu (sE a G h2) (sE b G h3) h4) fun env => ?_
      rw [ev, R.assoc]
      congr 1
      funext x
      rw [R.assoc]
      congr 1
      funext y
      rw [cmp_tr]
    · cases h
  | .chn op op' a b d, g, c, X, e, G, h => by
    unfold mE at h
    split at h
    · simp only [Bool.and_eq_true, decide_eq_true_eq, Bool.not_eq_true'] at h
      obtain ⟨⟨⟨⟨⟨h1, h1'⟩, h2⟩, h3⟩, h4⟩, h5⟩ := h
      subst h1
      subst h1'
      refine PT.cg (pt_ch G.hu (sE a G h2) (sE b G h3) (sE d G h4) h5) fun env => ?_
      rw [ev, R.assoc]
      congr 1
      funext x
      rw [R.assoc]
      congr 1
      funext y
      rw [R.assoc]
      congr 1
      funext r
      cases r with
      | false => rfl
      | true =>
        show (ev g.S d env >>= fun z => evCmp op' y z) = ((ev g.S d env >>= fun z => evCmp op' y z >>= fun q => .ok (.bool q)) >>= truthD)
        rw [R.assoc]
        congr 1
        funext z
        rw [cmp_tr]
    · cases h
  | .nt a, g, c, X, e, G, h => by
    unfold mE at h
    split at h
    · refine PT.cg (pt_n (sT a G h)) fun env => ?_
      rw [ev, R.assoc, R.assoc]
      congr 1
      funext d
      cases truthD d <;> rfl
    · cases h
  | .an es, g, c, X, e, G, h => by
    unfold mE at h
    split at h
    · simp only [Bool.and_eq_true] at h
      exact PT.cg (PW.pt (sWAn es G h.1 h.2)) fun env => by rw [ev]
    · cases h
  | .orr es, g, c, X, e, G, h => by
    unfold mE at h
    split at h
    · simp only [Bool.and_eq_true] at h
      exact PT.cg (PW.pt (sWOr es G h.1 h.2)) fun env => by rw [ev]
    · cases h
  | .var i m, g, c, X, e, G, h => by
    have hp := sE (.var i m) G h
    unfold mE at h
    split at h
    · exact pt_tr hp fun _ => rfl
    · cases h
  | .cst d, g, c, X, e, G, h => by
    have hp := sE (.cst d) G h
    unfold mE at h
    split at h
    · exact pt_tr hp fun _ => rfl
    · cases h
  | .gl i, g, c, X, e, G, h => by
    have hp := sE (.gl i) G h
    unfold mE at h
    split at h
    · exact pt_tr hp fun _ => rfl
    · cases h
  | .neg a, g, c, X, e, G, h => by
    have hp := sE (.neg a) G h
    unfold mE at h
    split at h
    · exact pt_tr hp fun _ => rfl
    · cases h
  | .bin op o a b, g, c, X, e, G, h => by
    have hp := sE (.bin op o a b) G h
    unfold mE at h
    split at h
    · exact pt_tr hp fun _ => rfl
    · cases h
  | .ite t a b, g, c, X, e, G, h => by
    unfold mE at h
    split at h
    · simp only [Bool.and_eq_true, decide_eq_true_eq] at h
      obtain ⟨⟨⟨h1, h2⟩, h3⟩, h4⟩ := h
      refine PT.cg (pt_it (sT t G h1) (sT a G h2) (sT b G h3)) fun env => ?_
      rw [ev, R.assoc, R.assoc]
      congr 1
      funext d
      cases truthD d with
      | no => rfl
      | exc z => rfl
      | ok r => cases r <;> rfl
    · cases h
  | .idx a b, g, c, X, e, G, h => by
    have hp := sE (.idx a b) G h
    unfold mE at h
    split at h
    · exact pt_tr hp fun _ => rfl
    · cases h
  | .sl o a lo hi, g, c, X, e, G, h => by
    have hp := sE (.sl o a lo hi) G h
    unfold mE at h
    split at h
    · exact pt_tr hp fun _ => rfl
    · cases h
  | .tup es, g, c, X, e, G, h => by
    have hp := sE (.tup es) G h
    unfold mE at h
    split at h
    · exact pt_tr hp fun _ => rfl
    · cases h
  | .lst o es, g, c, X, e, G, h => by
    have hp := sE (.lst o es) G h
    unfold mE at h
    split at h
    · exact pt_tr hp fun _ => rfl
    · cases h
  | .bi b o es, g, c, X, e, G, h => by
    have hp := sE (.bi b o es) G h
    unfold mE at h
    split at h
    · exact pt_tr hp fun _ => rfl
    · cases h
  | .isi t a, g, c, X, e, G, h => by
    have hp := sE (.isi t a) G h
    unfold mE at h
    split at h
    · exact pt_tr hp fun _ => rfl
    · cases h
  | .fn f k es, g, c, X, e, G, h => by
    have hp := sE (.fn f k es) G h
    unfold mE at h
    split at h
    · exact pt_tr hp fun _ => rfl
    · cases h
  | .comp o elt t it q ws, g, c, X, e, G, h => by
    have hp := sE (.comp o elt t it q ws) G h
    unfold mE at h
    split at h
    · exact pt_tr hp fun _ => rfl
    · cases h
  | .frz a, g, c, X, e, G, h => by
    unfold mE at h
    simp only [Bool.and_eq_true] at h
    exact PT.cg (sT a G h.1) fun env => by rw [ev]
  | .rv o a, g, c, X, e, G, h => by
    have hp := sE (.rv o a) G h
    unfold mE at h
    split at h
    · exact pt_tr hp fun _ => rfl
    · cases h
  | .lr1 o a, g, c, X, e, G, h => by
    have hp := sE (.lr1 o a) G h
    unfold mE at h
    split at h
    · exact pt_tr hp fun _ => rfl
    · cases h
  | .lr2 o a b, g, c, X, e, G, h => by
    have hp := sE (.lr2 o a b) G h
    unfold mE at h
    split at h
    · exact pt_tr hp fun _ => rfl
    · cases h
  | .dn t, g, c, X, e, G, h => by
    have hp := sE (.dn t) G h
    unfold mE at h
    split at h
    · exact pt_tr hp fun _ => rfl
    · cases h
  | .dg a k, g, c, X, e, G, h => by
    have hp := sE (.dg a k) G h
    unfold mE at h
    split at h
    · exact pt_tr hp fun _ => rfl
    · cases h
  | .dgd a k x, g, c, X, e, G, h => by
    have hp := sE (.dgd a k x) G h
    unfold mE at h
    split at h
    · exact pt_tr hp fun _ => rfl
    · cases h
  | .dg1 a k, g, c, X, e, G, h => by
    have hp := sE (.dg1 a k) G h
    unfold mE at h
    split at h
    · exact pt_tr hp fun _ => rfl
    · cases h
  | .din n k a, g, c, X, e, G, h => by
    unfold mE at h
    split at h
    · simp only [Bool.and_eq_true, decide_eq_true_eq, Bool.not_eq_true'] at h
      obtain ⟨⟨⟨⟨h1, h2⟩, h3⟩, h4⟩, h5⟩ := h
      subst h1
      exact PT.cg (pt_di (by have := G.hu; omega) h4 (sE k G h2) (sE a G h3) h5) fun env => by rw [ev]
    · cases h
  | .dl a, g, c, X, e, G, h => by
    have hp := sE (.dl a) G h
    unfold mE at h
    split at h
    · exact pt_tr hp fun _ => rfl
    · cases h
  | .et, g, c, X, e, G, h => by
    have hp := sE .et G h
    unfold mE at h
    split at h
    · exact pt_tr hp fun _ => rfl
    · cases h
  | .d1 k v, g, c, X, e, G, h => by
    have hp := sE (.d1 k v) G h
    unfold mE at h
    split at h
    · exact pt_tr hp fun _ => rfl
    · cases h
  | .xi a k, g, c, X, e, G, h => by
    have hp := sE (.xi a k) G h
    unfold mE at h
    split at h
    · exact pt_tr hp fun _ => rfl
    · cases h
  | .gcd a b, g, c, X, e, G, h => by
    have hp := sE (.gcd a b) G h
    unfold mE at h
    split at h
    · exact pt_tr hp fun _ => rfl
    · cases h
  | .comp2 o elt t it q t1 it1 q1 ws ws1, g, c, X, e, G, h => by
    have hp := sE (.comp2 o elt t it q t1 it1 q1 ws ws1) G h
    unfold mE at h
    split at h
    · exact pt_tr hp fun _ => rfl
    · cases h
  | .lsc elt t it q ws, g, c, X, e, G, h => by
    have hp := sE (.lsc elt t it q ws) G h
    unfold mE at h
    split at h
    · exact pt_tr hp fun _ => rfl
    · cases h
  | .rpr a, g, c, X, e, G, h => by
    have hp := sE (.rpr a) G h
    unfold mE at h
    split at h
    · exact pt_tr hp fun _ => rfl
    · cases h
  | .dso o a, g, c, X, e, G, h => by
    have hp := sE (.dso o a) G h
    unfold mE at h
    split at h
    · exact pt_tr hp fun _ => rfl
    · cases h
  | .dks o a, g, c, X, e, G, h => by
    have hp := sE (.dks o a) G h
    unfold mE at h
    split at h
    · exact pt_tr hp fun _ => rfl
    · cases h
  | .fl a, g, c, X, e, G, h => by
    unfold mE at h
    refine PT.imp (sT a G h) fun σ H Q ⟨env, O, at_, hh⟩ => ⟨env, O, at_, ?_⟩
    have hh : AnsP (c.W σ) H (ev g.S (.fl a) env >>= truthD) (Gb Q) := hh
    rw [ev, R.assoc] at hh
    show AnsP (c.W σ) H (ev g.S a env >>= truthD) (Gb Q)
    cases hd : ev g.S a env with
    | no => rw [hd] at hh; exact hh
    | exc z => rw [hd] at hh; exact hh
    | ok d =>
      rw [hd] at hh
      have hh : AnsP (c.W σ) H (evFl d >>= truthD) (Gb Q) := hh
      unfold evFl at hh
      split at hh
      · exact hh
      · exact hh.elim
theorem sL : ∀ (es : Es) {g : Cfg} {c : Ctx} {X : Cx} {as : List Expr}, Good g c X → mL g es as = true → PA X as (tA c (evs g.S es) (tys g.S es))
  | .nil, g, c, X, as, G, h => by
    unfold mL at h
    cases as with
    | nil => exact PA.cg pa_n (fun env => by rw [evs]) (by rw [tys])
    | cons a as => cases h
  | .cons x r, g, c, X, as, G, h => by
    unfold mL at h
    split at h
    · simp only [Bool.and_eq_true] at h
      exact PA.cg (pa_c (sE x G h.1.1) (sL r G h.2) (star_of h.1.2)) (fun env => by rw [evs]) (by rw [tys])
    · cases h
theorem sAn : ∀ (es : Es) {g : Cfg} {c : Ctx} {X : Cx} {as : List Expr} {pos : Pos}, Good g c X → mL g es as = true → allSh (tys g.S es) = true → PE X (.BoolOp .And as pos) (tE c (evAn g.S es) .sh)
  | .nil, g, c, X, as, pos, G, h, hs => by cases hs
  | .cons x .nil, g, c, X, as, pos, G, h, hs => by
    unfold mL at h
    split at h
    · rename_i a as
      simp only [Bool.and_eq_true] at h
      have h2 := h.2
      unfold mL at h2
      cases as with
      | cons _ _ => cases h2
      | nil =>
        rw [tys, allSh] at hs
        simp only [Bool.and_eq_true, decide_eq_true_eq] at hs
        exact PE.cg (pe_an1 (sE x G h.1.1)) (fun env => by rw [evAn]) hs.1
    · cases h
  | .cons x (.cons y r), g, c, X, as, pos, G, h, hs => by
    unfold mL at h
    split at h
    · rename_i a as
      simp only [Bool.and_eq_true] at h
      rw [tys, allSh] at hs
      simp only [Bool.and_eq_true, decide_eq_true_eq, Bool.or_eq_true] at hs
      have hs2 : allSh (tys g.S (.cons y r)) = true := hs.2.elim (fun z => by rw [tys] at z; cases z) id
      have ih := fun pos => sAn (.cons y r) (pos := pos) G h.2 hs2
      have h2 := h.2
      unfold mL at h2
      split at h2
      · rename_i b bs
        exact PE.cg (pe_an hs.1 (sE x G h.1.1) (ih pos)) (fun env => by rw [evAn]) rfl
      · cases h2
    · cases h
theorem sOr : ∀ (es : Es) {g : Cfg} {c : Ctx} {X : Cx} {as : List Expr} {pos : Pos}, Good g c X → mL g es as = true → allSh (tys g.S es) = true → PE X (.BoolOp .Or as pos) (tE c (evOr g.S es) .sh)
  | .nil, g, c, X, as, pos, G, h, hs => by cases hs
  | .cons x .nil, g, c, X, as, pos, G, h, hs => by
    unfold mL at h
    split at h
    · rename_i a as
      simp only [Bool.and_eq_true] at h
      have h2 := h.2
      unfold mL at h2
      cases as with
      | cons _ _ => cases h2
      | nil =>
        rw [tys, allSh] at hs
        simp only [Bool.and_eq_true, decide_eq_true_eq] at hs
        exact PE.cg (pe_an1 (sE x G h.1.1)) (fun env => by rw [evOr]) hs.1
    · cases h
  | .cons x (.cons y r), g, c, X, as, pos, G, h, hs => by
    unfold mL at h
    split at h
    · rename_i a as
      simp only [Bool.and_eq_true] at h
      rw [tys, allSh] at hs
      simp only [Bool.and_eq_true, decide_eq_true_eq, Bool.or_eq_true] at hs
      have hs2 : allSh (tys g.S (.cons y r)) = true := hs.2.elim (fun z => by rw [tys] at z; cases z) id
      have ih := fun pos => sOr (.cons y r) (pos := pos) G h.2 hs2
      have h2 := h.2
      unfold mL at h2
      split at h2
      · rename_i b bs
        exact PE.cg (pe_or hs.1 (sE x G h.1.1) (ih pos)) (fun env => by rw [evOr]) rfl
      · cases h2
    · cases h
theorem sWAn : ∀ (es : Es) {g : Cfg} {c : Ctx} {X : Cx} {as : List Expr} {pos : Pos}, Good g c X → mL g es as = true → allSh (tys g.S es) = true → PW X (.BoolOp .And as pos) (tT c fun env => evAn g.S es env >>= truthD)
  | .nil, g, c, X, as, pos, G, h, hs => by cases hs
  | .cons x .nil, g, c, X, as, pos, G, h, hs => by
    unfold mL at h
    split at h
    · rename_i a as
      simp only [Bool.and_eq_true] at h
      have h2 := h.2
      unfold mL at h2
      cases as with
      | cons _ _ => cases h2
      | nil => exact PW.cg (pw_a1 (sT x G h.1.1)) fun env => by rw [evAn]
    · cases h
  | .cons x (.cons y r), g, c, X, as, pos, G, h, hs => by
    unfold mL at h
    split at h
    · rename_i a as
      simp only [Bool.and_eq_true] at h
      rw [tys, allSh] at hs
      simp only [Bool.and_eq_true, decide_eq_true_eq, Bool.or_eq_true] at hs
      have hs2 : allSh (tys g.S (.cons y r)) = true := hs.2.elim (fun z => by rw [tys] at z; cases z) id
      have ih := fun pos => sWAn (.cons y r) (pos := pos) G h.2 hs2
      have h2 := h.2
      unfold mL at h2
      split at h2
      · rename_i b bs
        refine PW.cg (pw_a (sT x G h.1.1) (ih pos)) fun env => ?_
        rw [evAn, R.assoc, R.assoc]
        congr 1
        funext d
        cases hd : truthD d with
        | no => rfl
        | exc z => rfl
        | ok b =>
          cases b with
          | true => rfl
          | false =>
            show R.ok false = truthD d
            rw [hd]
      · cases h2
    · cases h
theorem sWOr : ∀ (es : Es) {g : Cfg} {c : Ctx} {X : Cx} {as : List Expr} {pos : Pos}, Good g c X → mL g es as = true → allSh (tys g.S es) = true → PW X (.BoolOp .Or as pos) (tT c fun env => evOr g.S es env >>= truthD)
  | .nil, g, c, X, as, pos, G, h, hs => by cases hs
  | .cons x .nil, g, c, X, as, pos, G, h, hs => by
    unfold mL at h
    split at h
    · rename_i a as
      simp only [Bool.and_eq_true] at h
      have h2 := h.2
      unfold mL at h2
      cases as with
      | cons _ _ => cases h2
      | nil => exact PW.cg (pw_o1 (sT x G h.1.1)) fun env => by rw [evOr]
    · cases h
  | .cons x (.cons y r), g, c, X, as, pos, G, h, hs => by
    unfold mL at h
    split at h
    · rename_i a as
      simp only [Bool.and_eq_true] at h
      rw [tys, allSh] at hs
      simp only [Bool.and_eq_true, decide_eq_true_eq, Bool.or_eq_true] at hs
      have hs2 : allSh (tys g.S (.cons y r)) = true := hs.2.elim (fun z => by rw [tys] at z; cases z) id
      have ih := fun pos => sWOr (.cons y r) (pos := pos) G h.2 hs2
      have h2 := h.2
      unfold mL at h2
      split at h2
      · rename_i b bs
        refine PW.cg (pw_o (sT x G h.1.1) (ih pos)) fun env => ?_
        rw [evOr, R.assoc, R.assoc]
        congr 1
        funext d
        cases hd : truthD d with
        | no => rfl
        | exc z => rfl
        | ok b =>
          cases b with
          | false => rfl
          | true =>
            show R.ok true = truthD d
            rw [hd]
      · cases h2
    · cases h
theorem sO : ∀ (x : Eo) {g : Cfg} {c : Ctx} {X : Cx} {e : Option Expr}, Good g c X → mO g x e = true → PO X e (tO c (evo g.S x))
  | .no, g, c, X, e, G, h => by
    unfold mO at h
    cases e with
    | none =>
      have : evo g.S .no = evPart none := by
        funext env
        rw [evo]
        rfl
      rw [this]
      exact po_n
    | some _ => cases h
  | .sm x, g, c, X, e, G, h => by
    unfold mO at h
    split at h
    · have : evo g.S (.sm x) = evPart (some (ev g.S x)) := by
        funext env
        rw [evo]
        rfl
      rw [this]
      exact po_s (sE x G h)
    · cases h
theorem sC : ∀ (x : Es) {g : Cfg} {c : Ctx} {X : Cx} {e : List Expr}, Good g c X → mC g x e = true → PTs X e (tT c (evc g.S x))
  | .nil, g, c, X, e, G, h => by
    unfold mC at h
    cases e with
    | nil =>
      refine ⟨fun pins s σ H Q I ⟨env, O, a, q⟩ => pts_nil.run pins s σ H Q I ?_⟩
      rw [evc] at q
      exact q H (Same.refl _)
    | cons _ _ => cases h
  | .cons x r, g, c, X, e, G, h => by
    unfold mC at h
    split at h
    · simp only [Bool.and_eq_true] at h
      have : evc g.S (.cons x r) = fun env => ev g.S x env >>= truthD := by
        funext env
        rw [evc]
      rw [this]
      exact pts_one (sT x G h.1)
    · cases h
theorem sI : ∀ (x : I) (p : Bool) {g : Cfg} {c : Ctx} {X : Cx} {tg e : Expr}, Good g c X → mI g p x tg e = true → PI X tg e (tI c p (evi g.S x))
  | .seq x, p, g, c, X, tg, e, G, h => by
    unfold mI at h
    simp only [Bool.and_eq_true] at h
    exact PI.cg (pi_seq (sE x G h.1) h.2) fun env => by rw [evi]
  | .r1 es, p, g, c, X, tg, e, G, h => by
    unfold mI at h
    split at h
    · simp only [Bool.and_eq_true, decide_eq_true_eq] at h
      obtain ⟨⟨h1, h2⟩, h3⟩ := h
      subst h1
      obtain ⟨b1, b2⟩ := G.bl h2
      have hst := mL_star h3
      rw [List.all_cons, Bool.and_eq_true] at hst
      exact PI.cg (pi_r1 b1 b2 (sL es G h3) (star_of hst.1)) fun env => by rw [evi]
    · cases h
  | .r2 es, p, g, c, X, tg, e, G, h => by
    unfold mI at h
    split at h
    · simp only [Bool.and_eq_true, decide_eq_true_eq] at h
      obtain ⟨⟨h1, h2⟩, h3⟩ := h
      subst h1
      obtain ⟨b1, b2⟩ := G.bl h2
      have hst := mL_star h3
      rw [List.all_cons, Bool.and_eq_true, List.all_cons, Bool.and_eq_true] at hst
      exact PI.cg (pi_r2 b1 b2 (sL es G h3) (by rw [star_of hst.1, star_of hst.2.1]; rfl) (star_of hst.2.1)) fun env => by rw [evi]
    · cases h
  | .r3 es, p, g, c, X, tg, e, G, h => by
    unfold mI at h
    split at h
    · simp only [Bool.and_eq_true, decide_eq_true_eq] at h
      obtain ⟨⟨h1, h2⟩, h3⟩ := h
      subst h1
      obtain ⟨b1, b2⟩ := G.bl h2
      have hst := mL_star h3
      rw [List.all_cons, Bool.and_eq_true] at hst
      exact PI.cg (pi_r3 b1 b2 (sL es G h3) (star_of hst.1) (back_of hst.2)) fun env => by rw [evi]
    · cases h
  | .en es, p, g, c, X, tg, e, G, h => by
    unfold mI at h
    split at h
    · simp only [Bool.and_eq_true, decide_eq_true_eq] at h
      obtain ⟨⟨⟨⟨h1, h2⟩, h3⟩, h4⟩, h5⟩ := h
      subst h1
      obtain ⟨b1, b2⟩ := G.bl h2
      have hst := mL_star h3
      rw [List.all_cons, Bool.and_eq_true] at hst
      cases tg <;> first | exact PI.cg (pi_en b1 b2 (sL es G h3) h4 (star_of hst.1)) fun env => by rw [evi] | cases h5
    · cases h
  | .zp es, p, g, c, X, tg, e, G, h => by
    unfold mI at h
    split at h
    · simp only [Bool.and_eq_true, decide_eq_true_eq] at h
      obtain ⟨⟨⟨⟨h1, h2⟩, h3⟩, h4⟩, h5⟩ := h
      subst h1
      obtain ⟨b1, b2⟩ := G.bl h2
      have hst := mL_star h3
      rw [List.all_cons, Bool.and_eq_true] at hst
      cases tg <;> first | exact PI.cg (pi_zp b1 b2 (sL es G h3) h4 (star_of hst.1) (back_of hst.2)) fun env => by rw [evi] | cases h5
    · cases h
end
end Pv

namespace Pv
open PySem PySem.Spec PyProof.Rows L2

/-! who owns a list: nobody, one who stands outside (0), the slot i (i + 1) -/
abbrev Om := Addr → Option Nat
def ow (ω : Om) : Addr → Bool := fun a => (ω a).isSome
theorem ow_true {ω : Om} {a : Addr} : ow ω a = true ↔ ∃ i, ω a = some i := by
  unfold ow
  exact Option.isSome_iff_exists
theorem ow_false {ω : Om} {a : Addr} : ow ω a = false ↔ ω a = none := by
  unfold ow
  cases ω a <;> simp

structure AtS (c : Ctx) (H : Hp) (ω : Om) (env : Ev) (σ : L2.St) : Prop where
  dom : Dom H (ow ω)
  er : ∀ i d b, lk env i = some (d, b) → ∃ v, σ[i]? = some (some v) ∧ (if b = true then Dp [] (mask H (ow ω)) v d else ∃ A, A.Nodup ∧ (∀ a ∈ A, ω a = some (i + 1)) ∧ Rp [] H (ow ω) v d (c.Γ i) A)
  len : env.length = σ.length
  pn : ∀ i v, c.pn i = some v → lk env i = none → σ[i]? = some (some v)
theorem lk_put_none {env : Ev} {i j : Nat} {x : D × Bool} (h : lk (put env i (some x)) j = none) : lk env j = none ∧ (j = i → env.length ≤ i) := by
  rw [lk_put] at h
  split at h
  · rename_i e
    split at h
    · cases h
    · subst e
      refine ⟨?_, fun _ => by omega⟩
      have : ∀ (env : Ev) (j : Nat), env.length ≤ j → lk env j = none := fun env => by
        induction env with
        | nil => intro j _; simp [lk]
        | cons x r ih =>
          intro j hj
          cases j with
          | zero => simp at hj
          | succ j => exact ih j (by simpa using hj)
      exact this env j (by omega)
  · rename_i e
    exact ⟨h, fun z => absurd z e⟩
structure Eff (H : Hp) (ω : Om) (H' : Hp) (ω' : Om) : Prop where
  keep : ∀ a o, H a = some o → (∀ i, ω a ≠ some (i + 1)) → H' a = some o
  own : ∀ a i, ω' a = some (i + 1) → (∃ j, ω a = some (j + 1)) ∨ H a = none
  out : ∀ a, ω' a = some 0 ↔ ω a = some 0
  there : ∀ a, H' a = none → H a = none
theorem Eff.refl {H : Hp} {ω : Om} : Eff H ω H ω := ⟨fun _ _ h _ => h, fun _ i h => .inl ⟨i, h⟩, fun _ => Iff.rfl, fun _ h => h⟩
theorem Eff.trans {H H1 H2 : Hp} {ω ω1 ω2 : Om} (a : Eff H ω H1 ω1) (b : Eff H1 ω1 H2 ω2) : Eff H ω H2 ω2 where
  keep := fun x o e h => b.keep x o (a.keep x o e h) fun i q => by
    rcases a.own x i q with ⟨j, z⟩ | z
    · exact h j z
    · rw [z] at e; cases e
  own := fun x i q => by
    rcases b.own x i q with ⟨j, z⟩ | z
    · exact a.own x j z
    · exact .inr (a.there x z)
  out := fun x => (b.out x).trans (a.out x)
  there := fun x h => a.there x (b.there x h)
theorem Eff.same {H H' : Hp} {ω : Om} (s : Same H H') : Eff H ω H' ω := ⟨fun a o e _ => s a o e, fun _ i h => .inl ⟨i, h⟩, fun _ => Iff.rfl, fun _ h => s.free h⟩
/-- what was free of owners is so, and as it was -/
theorem Eff.mask {H H' : Hp} {ω ω' : Om} (e : Eff H ω H' ω') : Same (mask H (ow ω)) (mask H' (ow ω')) := fun a o h => by
  obtain ⟨h0, h1⟩ := mask_some.mp h
  have w0 := ow_false.mp h0
  have k := e.keep a o h1 fun i q => by rw [w0] at q; cases q
  refine mask_of (ow_false.mpr ?_) k
  cases q : ω' a with
  | none => rfl
  | some n =>
    cases n with
    | zero =>
      have := (e.out a).mp q
      rw [w0] at this
      cases this
    | succ i =>
      rcases e.own a i q with ⟨j, z⟩ | z
      · rw [w0] at z; cases z
      · rw [h1] at z; cases z
theorem AtS.at {c : Ctx} {H : Hp} {ω : Om} {env : Ev} {σ : L2.St} (a : AtS c H ω env σ) : At c H (ow ω) env σ :=
  ⟨a.dom, fun i d b h => by
    obtain ⟨v, hv, q⟩ := a.er i d b h
    refine ⟨v, hv, ?_⟩
    cases b with
    | true => exact q
    | false =>
      obtain ⟨A, _, hA, r⟩ := q
      exact ⟨A, fun x hx => ow_true.mpr ⟨_, hA x hx⟩, r⟩, a.len⟩
theorem AtS.later {c : Ctx} {H H' : Hp} {ω : Om} {env : Ev} {σ : L2.St} (a : AtS c H ω env σ) (s : Same H H') : AtS c H' ω env σ :=
  ⟨a.dom.mono s, fun i d b h => by
    obtain ⟨v, hv, q⟩ := a.er i d b h
    refine ⟨v, hv, ?_⟩
    cases b with
    | true => exact dp_mono (mask_mono s fun _ z => .inl z) _ _ q
    | false =>
      obtain ⟨A, nd, hA, r⟩ := q
      exact ⟨A, nd, hA, Rp.mono s (fun _ z => .inl z) (fun x hx => ow_true.mpr ⟨_, hA x hx⟩) r⟩, a.len, a.pn⟩

/-! where a statement may end -/
inductive Fl where
  | nx (env : Ev)
  | rt (d : D)
  | bk (env : Ev)
  | ct (env : Ev)
  | ex (n : Nat)
structure Lnd (c : Ctx) (own : Own) (H : Hp) (ω : Om) (d : D) (v : V) (H' : Hp) : Prop where
  is : ∃ (ω' : Om) (A : List Addr), Eff H ω H' ω' ∧ A.Nodup ∧ (∀ a ∈ A, ∃ i, ω' a = some (i + 1)) ∧ Dom H' (ow ω') ∧ Rp [] H' (ow ω') v d own A
def Gs' (c : Ctx) (own : Own) (H : Hp) (ω : Om) (K : Ends) : Fl → Prop
  | .nx env => ∀ σ' H' ω', AtS c H' ω' env σ' → Eff H ω H' ω' → K.nx σ' H'
  | .rt d => ∀ v H', Lnd c own H ω d v H' → K.rt v H'
  | .bk env => ∀ σ' H' ω', AtS c H' ω' env σ' → Eff H ω H' ω' → K.bk σ' H'
  | .ct env => ∀ σ' H' ω', AtS c H' ω' env σ' → Eff H ω H' ω' → K.ct σ' H'
  | .ex n => ∀ σ H' ω', Eff H ω H' ω' → c.W σ n H'
def AnsS (c : Ctx) (own : Own) (H : Hp) (ω : Om) (r : R Fl) (K : Ends) : Prop :=
  match r with
  | .ok f => Gs' c own H ω K f
  | .exc x => ∀ σ H' ω', Eff H ω H' ω' → c.W σ x H'
  | .no => False
theorem Lnd.elder {c : Ctx} {own : Own} {H H1 : Hp} {ω ω1 : Om} {d : D} {v : V} {H' : Hp} (e : Eff H ω H1 ω1) (l : Lnd c own H1 ω1 d v H') : Lnd c own H ω d v H' := by
  obtain ⟨ω', A, e', r⟩ := l.is
  exact ⟨ω', A, e.trans e', r⟩
theorem AnsS.later {c : Ctx} {own : Own} {H H1 : Hp} {ω ω1 : Om} {r : R Fl} {K : Ends} (e : Eff H ω H1 ω1) (h : AnsS c own H ω r K) : AnsS c own H1 ω1 r K := by
  cases r with
  | no => exact h
  | exc x => exact fun σ' H' ω' e' => h σ' H' ω' (e.trans e')
  | ok f =>
    cases f with
    | nx env => exact fun σ' H' ω' a e' => h σ' H' ω' a (e.trans e')
    | rt d => exact fun v H' l => h v H' (l.elder e)
    | bk env => exact fun σ' H' ω' a e' => h σ' H' ω' a (e.trans e')
    | ct env => exact fun σ' H' ω' a e' => h σ' H' ω' a (e.trans e')
    | ex n => exact fun σ' H' ω' e' => h σ' H' ω' (e.trans e')
def tS (c : Ctx) (own : Own) (f : Ev → R Fl) : TS := fun K σ H => ∃ env ω, AtS c H ω env σ ∧ AnsS c own H ω (f env) K
/-- a statement's own expression first -/
theorem AnsS.val {α : Type} {c : Ctx} {own : Own} {H : Hp} {ω : Om} {r : R α} {g : α → R Fl} {K : Ends} {P : Hp → α → Prop} (h : AnsS c own H ω (r >>= g) K) (k : ∀ a, r = .ok a → AnsS c own H ω (g a) K → P H a) : AnsP (c.W σ) H r P := by
  cases r with
  | no => exact h
  | exc x => exact fun H' s => h _ H' ω (.same s)
  | ok a => exact k a rfl h

/-! owners changed -/
/-- the slot's lists become nobody's -/
def drp (ω : Om) (i : Nat) : Om := fun a => if ω a = some (i + 1) then none else ω a
theorem drp_ow {ω : Om} {i : Nat} {a : Addr} (h : ow (drp ω i) a = true) : ow ω a = true ∧ ω a ≠ some (i + 1) := by
  obtain ⟨j, e⟩ := ow_true.mp h
  unfold drp at e
  split at e
  · cases e
  · rename_i hn
    exact ⟨ow_true.mpr ⟨j, e⟩, hn⟩
theorem drp_of {ω : Om} {i : Nat} {a : Addr} {n : Nat} (h : ω a = some n) (hn : n ≠ i + 1) : drp ω i a = some n := by
  unfold drp
  rw [if_neg (by rw [h]; simpa using hn)]
  exact h
theorem Eff.drp {H : Hp} {ω : Om} {i : Nat} : Eff H ω H (drp ω i) := by
  refine ⟨fun _ _ h _ => h, fun a j h => ?_, fun a => ?_, fun _ h => h⟩
  · obtain ⟨k, e⟩ := ow_true.mp (drp_ow (ow_true.mpr ⟨_, h⟩)).1
    unfold Pv.drp at h
    split at h
    · cases h
    · exact .inl ⟨j, h⟩
  · constructor
    · intro h
      unfold Pv.drp at h
      split at h
      · cases h
      · exact h
    · exact fun h => drp_of h (by omega)
/-- freezing a slot -/
def frzE (env : Ev) (i : Nat) : Ev :=
  match lk env i with
  | some (d, _) => put env i (some (d, true))
  | none => env
theorem AtS.freeze {c : Ctx} {H : Hp} {ω : Om} {env : Ev} {σ : L2.St} (a : AtS c H ω env σ) {i : Nat} (hf : fz (c.Γ i) = true) : AtS c H (drp ω i) (frzE env i) σ := by
  have dom : Dom H (ow (drp ω i)) := fun x h => a.dom x (drp_ow h).1
  have mm : Same (mask H (ow ω)) (mask H (ow (drp ω i))) := mask_mono (Same.refl _) fun x h => .inl (drp_ow h).1
  have oth : ∀ (j : Nat) (d : D) (v : V) (A : List Addr), j ≠ i → A.Nodup → (∀ x ∈ A, ω x = some (j + 1)) → Rp [] H (ow ω) v d (c.Γ j) A → ∃ A, A.Nodup ∧ (∀ x ∈ A, drp ω i x = some (j + 1)) ∧ Rp [] H (ow (drp ω i)) v d (c.Γ j) A := fun j d v A hj nd hA r => by
    have h1 : ∀ x ∈ A, drp ω i x = some (j + 1) := fun x hx => drp_of (hA x hx) (by omega)
    exact ⟨A, nd, h1, Rp.mono (Same.refl _) (fun x h => .inl (drp_ow h).1) (fun x hx => ow_true.mpr ⟨_, h1 x hx⟩) r⟩
  refine ⟨dom, fun j d b h => ?_, ?_, fun j v h1 h2 => a.pn j v h1 ?_⟩
  · unfold frzE at h
    split at h
    · rename_i d0 b0 hi
      rw [lk_put] at h
      by_cases hj : j = i
      · rw [if_pos hj] at h
        split at h
        · cases h
          subst hj
          obtain ⟨v, hv, q⟩ := a.er j d b0 hi
          refine ⟨v, hv, ?_⟩
          cases b0 with
          | true => exact dp_mono mm _ _ q
          | false =>
            obtain ⟨A, nd, hA, r⟩ := q
            refine r.freeze dom (fun x h => (drp_ow h).1) (fun x hx => ?_) hf
            refine ow_false.mpr ?_
            unfold drp
            rw [if_pos (hA x hx)]
        · cases h
      · rw [if_neg hj] at h
        obtain ⟨v, hv, q⟩ := a.er j d b h
        refine ⟨v, hv, ?_⟩
        cases b with
        | true => exact dp_mono mm _ _ q
        | false =>
          obtain ⟨A, nd, hA, r⟩ := q
          exact oth j d v A hj nd hA r
    · rename_i hi
      obtain ⟨v, hv, q⟩ := a.er j d b h
      refine ⟨v, hv, ?_⟩
      have hj : j ≠ i := fun e => by subst e; rw [h] at hi; cases hi
      cases b with
      | true => exact dp_mono mm _ _ q
      | false =>
        obtain ⟨A, nd, hA, r⟩ := q
        exact oth j d v A hj nd hA r
  · unfold frzE
    split
    · rw [put_len]; exact a.len
    · exact a.len
  · unfold frzE at h2
    split at h2
    · exact (lk_put_none h2).1
    · exact h2
/-- a frozen value stored -/
theorem AtS.put {c : Ctx} {H : Hp} {ω : Om} {env : Ev} {σ : L2.St} (a : AtS c H ω env σ) {i : Nat} {d : D} {v : V} (k : Dp [] (mask H (ow ω)) v d) : AtS c H ω (put env i (some (d, true))) (σ.set i (some v)) := by
  refine ⟨a.dom, fun j d' b hj => ?_, by rw [put_len, List.length_set]; exact a.len, fun j w h1 h2 => by
    obtain ⟨h3, h4⟩ := lk_put_none h2
    have := a.pn j w h1 h3
    have hl := a.len
    by_cases e : i = j
    · subst e
      have := (List.getElem?_eq_some_iff.mp this).1
      have := h4 rfl
      omega
    · rw [List.getElem?_set_ne e]; exact this⟩
  rw [lk_put] at hj
  by_cases h : j = i
  · rw [if_pos h] at hj
    split at hj
    · rename_i hi
      cases hj
      subst h
      have hl := a.len
      exact ⟨v, by rw [List.getElem?_set_self (by omega)], k⟩
    · cases hj
  · rw [if_neg h] at hj
    obtain ⟨w, hw, q⟩ := a.er j d' b hj
    exact ⟨w, by rw [List.getElem?_set_ne (Ne.symm h)]; exact hw, q⟩
/-- the slot's new owned lists; what it had before is given up -/
def tkn (ω : Om) (i : Nat) (A : List Addr) : Om := fun a => if a ∈ A then some (i + 1) else if ω a = some (i + 1) then none else ω a
theorem tkn_in {ω : Om} {i : Nat} {A : List Addr} {a : Addr} (h : a ∈ A) : tkn ω i A a = some (i + 1) := by unfold tkn; rw [if_pos h]
theorem tkn_ow {ω : Om} {i : Nat} {A : List Addr} {a : Addr} (h : ow (tkn ω i A) a = true) : a ∈ A ∨ ow (drp ω i) a = true := by
  obtain ⟨j, e⟩ := ow_true.mp h
  unfold tkn at e
  split at e
  · exact .inl (by assumption)
  · refine .inr (ow_true.mpr ⟨j, ?_⟩)
    unfold drp
    exact e
theorem AtS.own {c : Ctx} {H H1 : Hp} {ω : Om} {env : Ev} {σ : L2.St} (a0 : AtS c H ω env σ) (s : Same H H1) {i : Nat} {d : D} {v : V} {A : List Addr} (fr : Fresh H H1 A) (r : Rp [] H1 (add (ow ω) A) v d (c.Γ i) A) :
    AtS c H1 (tkn ω i A) (Pv.put env i (some (d, false))) (σ.set i (some v)) ∧ Eff H ω H1 (tkn ω i A) := by
  have a := a0.later s
  have out : ∀ x ∈ A, ω x = none := fun x hx => ow_false.mp (fr.disj a0.dom x hx)
  have sub : ∀ x, ow (tkn ω i A) x = true → x ∈ A ∨ ow ω x = true := fun x hx => (tkn_ow hx).elim .inl fun z => .inr (drp_ow z).1
  have dom : Dom H1 (ow (tkn ω i A)) := fun x hx => (sub x hx).elim (fr.lst x) (a.dom x)
  have mm : Same (mask H (ow ω)) (mask H1 (ow (tkn ω i A))) := mask_mono s fun x hx => (sub x hx).elim (fun z => .inr (fr.new x z)) .inl
  refine ⟨⟨dom, fun j d' b hj => ?_, by rw [put_len, List.length_set]; exact a.len, fun j w h1 h2 => by
    obtain ⟨h3, h4⟩ := lk_put_none h2
    have := a.pn j w h1 h3
    have hl := a.len
    by_cases e : i = j
    · subst e
      have := (List.getElem?_eq_some_iff.mp this).1
      have := h4 rfl
      omega
    · rw [List.getElem?_set_ne e]; exact this⟩, ⟨fun x o e _ => s x o e, fun x j h => ?_, fun x => ?_, fun x h => s.free h⟩⟩
  · rw [lk_put] at hj
    by_cases h : j = i
    · rw [if_pos h] at hj
      split at hj
      · rename_i hi
        cases hj
        subst h
        have hl := a.len
        refine ⟨v, by rw [List.getElem?_set_self (by omega)], A, fr.nd, fun x hx => tkn_in hx, ?_⟩
        exact Rp.mono (Same.refl _) (fun x hx => .inl ((sub x hx).elim (fun z => add_true.mpr (.inr z)) fun z => add_true.mpr (.inl z))) (fun x hx => ow_true.mpr ⟨_, tkn_in hx⟩) r
      · cases hj
    · rw [if_neg h] at hj
      obtain ⟨w, hw, q⟩ := a0.er j d' b hj
      refine ⟨w, by rw [List.getElem?_set_ne (Ne.symm h)]; exact hw, ?_⟩
      cases b with
      | true => exact dp_mono mm _ _ q
      | false =>
        obtain ⟨B, nd, hB, rb⟩ := q
        have h1 : ∀ x ∈ B, tkn ω i A x = some (j + 1) := fun x hx => by
          have e := hB x hx
          unfold tkn
          rw [if_neg (fun z => by rw [out x z] at e; cases e), if_neg (by rw [e]; simpa using h)]
          exact e
        exact ⟨B, nd, h1, Rp.mono s (fun x hx => (sub x hx).elim (fun z => .inr (fr.new x z)) .inl) (fun x hx => ow_true.mpr ⟨_, h1 x hx⟩) rb⟩
  · rcases sub x (ow_true.mpr ⟨_, h⟩) with z | z
    · exact .inr (fr.new x z)
    · unfold tkn at h
      split at h
      · exact .inr (fr.new x (by assumption))
      · split at h
        · cases h
        · exact .inl ⟨j, h⟩
  · constructor
    · intro h
      unfold tkn at h
      split at h
      · cases h
      · split at h
        · cases h
        · exact h
    · intro h
      unfold tkn
      rw [if_neg (fun z => by rw [out x z] at h; cases h), if_neg (by rw [h]; simp)]
      exact h

/-! a list at the end of a path changes -/
inductive Reach (H : Hp) : V → List Int → V → Prop
  | nil {v : V} : Reach H v [] v
  | cons {p : Addr} {xs : List V} {k : Int} {u w : V} {ks : List Int} : (SqL [] H p xs ∨ SqT [] H p xs) → atI xs k = some u → Reach H u ks w → Reach H (.ref p) (k :: ks) w
theorem Reach.mono {H H' : Hp} (s : Same H H') {w : V} : ∀ {v : V} {ks : List Int}, Reach H v ks w → Reach H' v ks w
  | _, _, .nil => .nil
  | _, _, .cons h1 h2 h3 => .cons (h1.elim (fun z => .inl (Same.seq s z)) fun z => .inr (Same.seqT s z)) h2 (Reach.mono s h3)
theorem Reach.snoc {H : Hp} {p : Addr} {xs : List V} {k : Int} {u : V} (h1 : SqL [] H p xs ∨ SqT [] H p xs) (h2 : atI xs k = some u) : ∀ {v : V} {ks : List Int}, Reach H v ks (.ref p) → Reach H v (ks ++ [k]) u
  | _, _, .nil => .cons h1 h2 .nil
  | _, _, .cons g1 g2 g3 => .cons g1 g2 (Reach.snoc h1 h2 g3)
theorem Reach.init {H : Hp} {u : V} {k : Int} : ∀ {v : V} {ks : List Int}, Reach H v (ks ++ [k]) u → ∃ p xs, Reach H v ks (.ref p) ∧ (SqL [] H p xs ∨ SqT [] H p xs) ∧ atI xs k = some u
  | _, [], .cons h1 h2 .nil => ⟨_, _, .nil, h1, h2⟩
  | _, j :: ks, .cons h1 h2 h3 => by
    obtain ⟨p, xs, g1, g2, g3⟩ := Reach.init h3
    exact ⟨p, xs, .cons h1 h2 g1, g2, g3⟩
def nthO : Own → Nat → Own
  | .tc o _, 0 => o
  | .tc _ r, n + 1 => nthO r n
  | _, _ => .bw
def updD (f : List D → R (List D)) : List Int → Own → D → R D
  | [], o, d => match o, d with
    | .lst .sh, .list ds => f ds >>= fun es => .ok (.list es)
    | _, _ => .no
  | k :: ks, o, d => match o, d with
    | .lst o', .list ds => match ixN ds.length k with
      | some j => match ds[j]? with
        | some x => updD f ks o' x >>= fun y => .ok (.list (ds.set j y))
        | none => .no
      | none => .no
    | .tc o' r', .tuple ds => match ixN ds.length k with
      | some j => match ds[j]? with
        | some x => updD f ks (nthO (.tc o' r') j) x >>= fun y => .ok (.tuple (ds.set j y))
        | none => .no
      | none => .no
    | _, _ => .no

section
variable {H : Hp} {O : Addr → Bool}
theorem sh_all {vs : List V} {ds : List D} {A : List Addr} (hd : Dom H O) (h : RpA [] H O vs ds .sh A) : A = [] ∧ DpAll [] (mask H O) vs ds := by
  have e := nown_rpA rfl h
  subst e
  exact ⟨rfl, h.freeze hd (fun _ z => z) (by intro a z; cases z) rfl⟩
theorem rpA_at : ∀ {vs : List V} {ds : List D} {o : Own} {A : List Addr} {j : Nat} {x : D}, RpA [] H O vs ds o A → ds[j]? = some x →
    ∃ v B C E, vs[j]? = some v ∧ A = B ++ C ++ E ∧ Rp [] H O v x o C ∧ ∀ (H' : Hp) (O' : Addr → Bool) v' x', (∀ (w : V) (y : D) (F : List Addr), (∀ a ∈ F, a ∈ B ∨ a ∈ E) → Rp [] H O w y o F → Rp [] H' O' w y o F) → Rp [] H' O' v' x' o C → RpA [] H' O' (vs.set j v') (ds.set j x') o A
  | _, _, _, _, 0, x, .cons (o := o) (A := A) (B := B) h1 h2, e => by
    simp at e
    subst e
    refine ⟨_, [], A, B, rfl, rfl, h1, fun H' O' v' x' k r => .cons r ?_⟩
    have go : ∀ {vs : List V} {ds : List D} {F : List Addr}, (∀ a ∈ F, a ∈ B) → RpA [] H O vs ds o F → RpA [] H' O' vs ds o F := by
      intro vs ds F hF h
      induction ds generalizing vs F with
      | nil => cases h; exact .nil
      | cons d ds ih =>
        cases h with
        | cons g1 g2 => exact .cons (k _ _ _ (fun a z => .inr (hF a (List.mem_append_left _ z))) g1) (ih (fun a z => hF a (List.mem_append_right _ z)) g2)
    exact go (fun _ z => z) h2
  | _, _, _, _, j + 1, x, .cons (A := A) (B := B) h1 h2, e => by
    simp at e
    obtain ⟨v, P, C, E, hv, eA, r, up⟩ := rpA_at h2 e
    refine ⟨v, A ++ P, C, E, by simpa using hv, by rw [eA]; simp only [List.append_assoc], r, fun H' O' v' x' k r' => .cons (k _ _ _ (fun a z => .inl (List.mem_append_left _ z)) h1) (up H' O' v' x' (fun w y F hF => k w y F fun a z => (hF a z).elim (fun q => .inl (List.mem_append_right _ q)) .inr) r')⟩
theorem rpS_at : ∀ {vs : List V} {ds : List D} {o : Own} {A : List Addr} {j : Nat} {x : D}, RpS [] H O vs ds o A → ds[j]? = some x →
    ∃ v B C E, vs[j]? = some v ∧ A = B ++ C ++ E ∧ Rp [] H O v x (nthO o j) C ∧ ∀ (H' : Hp) (O' : Addr → Bool) x', (∀ (w : V) (y : D) (o' : Own) (F : List Addr), (∀ a ∈ F, a ∈ B ∨ a ∈ E) → (fz o = true → fz o' = true) → Rp [] H O w y o' F → Rp [] H' O' w y o' F) → Rp [] H' O' v x' (nthO o j) C → RpS [] H' O' vs (ds.set j x') o A
  | _, _, _, _, 0, x, .cons (o := o) (r := rr) (A := A) (B := B) h1 h2, e => by
    simp at e
    subst e
    refine ⟨_, [], A, B, rfl, rfl, h1, fun H' O' x' k r => .cons r ?_⟩
    have go : ∀ {vs : List V} {ds : List D} {q : Own} {F : List Addr}, (∀ a ∈ F, a ∈ B) → (fz (.tc o rr) = true → fz q = true) → RpS [] H O vs ds q F → RpS [] H' O' vs ds q F := by
      intro vs ds q F hF hq h
      induction ds generalizing vs F q with
      | nil => cases h; exact .nil
      | cons d ds ih =>
        cases h with
        | cons g1 g2 => exact .cons (k _ _ _ _ (fun a z => .inr (hF a (List.mem_append_left _ z))) (fun z => (Bool.and_eq_true_iff.mp (hq z)).1) g1) (ih (fun a z => hF a (List.mem_append_right _ z)) (fun z => (Bool.and_eq_true_iff.mp (hq z)).2) g2)
    exact go (fun _ z => z) (fun z => (Bool.and_eq_true_iff.mp z).2) h2
  | _, _, _, _, j + 1, x, .cons (o := o) (r := rr) (A := A) (B := B) h1 h2, e => by
    simp at e
    obtain ⟨v, P, C, E, hv, eA, r, up⟩ := rpS_at h2 e
    refine ⟨v, A ++ P, C, E, by simpa using hv, by rw [eA]; simp only [List.append_assoc], r, fun H' O' x' k r' => .cons (k _ _ _ _ (fun a z => .inl (List.mem_append_left _ z)) (fun z => (Bool.and_eq_true_iff.mp z).1) h1) (up H' O' x' (fun w y o' F hF hq => k w y o' F (fun a z => (hF a z).elim (fun q => .inl (List.mem_append_right _ q)) .inr) fun z => hq (Bool.and_eq_true_iff.mp z).2) r')⟩
theorem set_same {α : Type} : ∀ {xs : List α} {j : Nat} {v : α}, xs[j]? = some v → xs.set j v = xs
  | [], _, _, h => by simp at h
  | x :: xs, 0, v, h => by simp at h; subst h; rfl
  | x :: xs, j + 1, v, h => by
    simp at h
    rw [List.set_cons_succ, set_same h]
def olen : Own → Nat
  | .tc _ r => olen r + 1
  | _ => 0
theorem dp_all_upd {l : Addr} {ys : List V} {zs : List V} {es : List D} (h3 : O l = true) (hy : DpAll [] (mask H O) zs es) : DpAll [] (mask (upd H l (.lst ys)) O) zs es := by
  refine dpAll_mono (fun b q e => ?_) _ _ hy
  obtain ⟨e0, e1⟩ := mask_some.mp e
  refine mask_of e0 ?_
  rw [upd_ne (fun z => by subst z; rw [h3] at e0; cases e0)]
  exact e1
theorem rpS_len : ∀ {vs : List V} {ds : List D} {o : Own} {A : List Addr}, RpS [] H O vs ds o A → ds.length ≤ olen o
  | _, _, _, _, .nil => Nat.zero_le _
  | _, _, _, _, .cons (ds := ds) (r := r) g1 g2 => by
    have := rpS_len g2
    show ds.length + 1 ≤ olen r + 1
    omega
theorem fz_nth : ∀ {o : Own} {j : Nat}, fz o = true → j < olen o → fz (nthO o j) = true
  | .tc o r, 0, h, hj => (Bool.and_eq_true_iff.mp h).1
  | .tc o r, j + 1, h, hj => fz_nth (o := r) (Bool.and_eq_true_iff.mp h).2 (by have : j + 1 < olen r + 1 := hj; omega)
  | .bw, _, h, hj => by cases h
  | .itm, _, h, hj => by cases h
  | .sh, _, h, hj => absurd hj (Nat.not_lt_zero _)
  | .tn, _, h, hj => absurd hj (Nat.not_lt_zero _)
  | .lst _, _, h, hj => absurd hj (Nat.not_lt_zero _)
theorem upd_rp (hd : Dom H O) (f : List D → R (List D)) : ∀ {ks : List Int} {v : V} {d d' : D} {o : Own} {A : List Addr}, fz o = true → A.Nodup → Rp [] H O v d o A → updD f ks o d = .ok d' →
    ∃ l xs ds es, Reach H v ks (.ref l) ∧ l ∈ A ∧ H l = some (.lst xs) ∧ DpAll [] (mask H O) xs ds ∧ f ds = .ok es ∧ ∀ ys, DpAll [] (mask H O) ys es → Rp [] (upd H l (.lst ys)) O v d' o A
  | [], v, d, d', o, A, hf, nd, r, h => by
    unfold updD at h
    split at h
    · rename_i ds
      cases hfd : f ds with
      | no => rw [hfd] at h; cases h
      | exc z => rw [hfd] at h; cases h
      | ok es =>
        rw [hfd] at h
        cases h
        cases r with
        | flat z _ => cases z
        | @lst l xs _ _ B h1 h3 h2 =>
          obtain ⟨e, k⟩ := sh_all hd h2
          subst e
          refine ⟨l, xs, ds, es, .nil, List.mem_cons_self, h1, k, hfd, fun ys hy => .lst upd_same h3 (rpA_sh ?_)⟩
          refine dp_all_upd h3 hy
    · cases h
  | k :: ks, v, d, d', o, A, hf, nd, r, h => by
    unfold updD at h
    split at h
    · rename_i o' ds
      split at h
      · rename_i j hj
        split at h
        · rename_i x hx
          cases hu : updD f ks o' x with
          | no => rw [hu] at h; cases h
          | exc z => rw [hu] at h; cases h
          | ok y =>
            rw [hu] at h
            cases h
            cases r with
            | flat z _ => cases z
            | @lst a xs _ _ B h1 h3 h2 =>
              obtain ⟨w, P, C, E, hw, eB, rw', up⟩ := rpA_at h2 hx
              have ndB := (List.nodup_cons.mp nd).2
              have ndC : C.Nodup := by
                rw [eB, List.append_assoc] at ndB
                exact (List.nodup_append.mp (List.nodup_append.mp ndB).2.1).1
              obtain ⟨l, zs, gs, es, re, lC, hl, kk, hfg, fin⟩ := upd_rp hd f (show fz o' = true from hf) ndC rw' hu
              have lB : l ∈ B := by rw [eB]; simp [lC]
              have la : a ≠ l := fun e => (List.nodup_cons.mp nd).1 (e ▸ lB)
              have disj : ∀ b, b ∈ P ∨ b ∈ E → b ≠ l := fun b hb e => by
                subst e
                rw [eB, List.append_assoc] at ndB
                obtain ⟨_, n2, n3⟩ := List.nodup_append.mp ndB
                obtain ⟨_, _, n4⟩ := List.nodup_append.mp n2
                rcases hb with hb | hb
                · exact n3 b hb b (List.mem_append_left _ lC) rfl
                · exact n4 b lC b hb rfl
              have ol : O l = true := (rw'.owned l lC).1
              have hat : atI xs k = some w := by
                unfold atI
                rw [DpAll.length h2.dp, hj]
                exact hw
              refine ⟨l, zs, gs, es, .cons (.inl (.inl (.inl h1))) hat re, List.mem_cons_of_mem _ lB, hl, kk, hfg, fun ys hy => ?_⟩
              have hset := up (upd H l (.lst ys)) O w y (fun u z F hF rr => Rp.keep hd (fun b q e hb => by
                have hne : b ≠ l := by
                  rcases hb with hb | hb
                  · intro e; subst e; rw [ol] at hb; cases hb
                  · exact disj b (hF b hb)
                rw [upd_ne hne]; exact e) (fun b hb => .inl hb) (fun b hb => (rr.owned b hb).1) (show fz o' = true from hf) rr) (fin ys hy)
              rw [set_same hw] at hset
              exact .lst (by rw [upd_ne la]; exact h1) h3 hset
        · cases h
      · cases h
    · rename_i o' r' ds
      split at h
      · rename_i j hj
        split at h
        · rename_i x hx
          cases hu : updD f ks (nthO (.tc o' r') j) x with
          | no => rw [hu] at h; cases h
          | exc z => rw [hu] at h; cases h
          | ok y =>
            rw [hu] at h
            cases h
            cases r with
            | flat z _ => cases z
            | @tup a xs _ _ _ B h1 h2 =>
              obtain ⟨w, P, C, E, hw, eB, rw', up⟩ := rpS_at h2 hx
              have ndC : C.Nodup := by
                rw [eB, List.append_assoc] at nd
                exact (List.nodup_append.mp (List.nodup_append.mp nd).2.1).1
              have hfn : fz (nthO (.tc o' r') j) = true := fz_nth hf (by
                obtain ⟨hlt, _⟩ := List.getElem?_eq_some_iff.mp hx
                have := rpS_len h2
                omega)
              obtain ⟨l, zs, gs, es, re, lC, hl, kk, hfg, fin⟩ := upd_rp hd f hfn ndC rw' hu
              have lB : l ∈ A := by rw [eB]; simp [lC]
              have la : a ≠ l := fun e => by subst e; rw [h1] at hl; cases hl
              have disj : ∀ b, b ∈ P ∨ b ∈ E → b ≠ l := fun b hb e => by
                subst e
                rw [eB, List.append_assoc] at nd
                obtain ⟨_, n2, n3⟩ := List.nodup_append.mp nd
                obtain ⟨_, _, n4⟩ := List.nodup_append.mp n2
                rcases hb with hb | hb
                · exact n3 b hb b (List.mem_append_left _ lC) rfl
                · exact n4 b lC b hb rfl
              have ol : O l = true := (rw'.owned l lC).1
              have hat : atI xs k = some w := by
                unfold atI
                rw [DpAll.length h2.dp, hj]
                exact hw
              refine ⟨l, zs, gs, es, .cons (.inr (.inl (.inl h1))) hat re, lB, hl, kk, hfg, fun ys hy => ?_⟩
              have hset := up (upd H l (.lst ys)) O y (fun u z q F hF hq rr => Rp.keep hd (fun b t e hb => by
                have hne : b ≠ l := by
                  rcases hb with hb | hb
                  · intro e; subst e; rw [ol] at hb; cases hb
                  · exact disj b (hF b hb)
                rw [upd_ne hne]; exact e) (fun b hb => .inl hb) (fun b hb => (rr.owned b hb).1) (hq hf) rr) (fin ys hy)
              exact .tup (by rw [upd_ne la]; exact h1) hset
        · cases h
      · cases h
    · cases h
end
end Pv

namespace Pv
open PySem PySem.Spec PyProof.Rows L2

/-! paths -/
inductive Pa where
  | nil
  | snoc (r : Pa) (e : E)
def toInt : R D → R Int
  | .ok (.int k) => .ok k
  | _ => .no
def evPa (S : Sg) : Pa → Ev → R (List Int)
  | .nil, _ => .ok []
  | .snoc r e, env => evPa S r env >>= fun ks => toInt (ev S e env) >>= fun k => .ok (ks ++ [k])
def mPa (g : Cfg) (i : Nat) : Pa → Expr → Bool
  | .nil, e => match e with
    | .Name x _ => decide (g.N[i]? = some x) && visB g x && nmB x && (x != "super")
    | _ => false
  | .snoc r k, e => match e with
    | .Subscript a b _ => mPa g i r a && mE g k b && nslice b
    | _ => false
def tPa (c : Ctx) (i : Nat) (f : Ev → R (List Int)) : TE := fun σ H Q => ∃ env O v0, At c H O env σ ∧ σ[i]? = some (some v0) ∧ AnsP (c.W σ) H (f env) (fun H1 ks => ∃ w, Reach H1 v0 ks w ∧ ∀ H', Same H1 H' → Q w H')
theorem toInt_ok {r : R D} {k : Int} (h : toInt r = .ok k) : r = .ok (.int k) := by
  unfold toInt at h
  split at h
  · cases h; rfl
  · cases h
theorem toInt_exc {r : R D} {z : Nat} : toInt r ≠ .exc z := by
  unfold toInt
  split <;> exact fun h => nomatch h
theorem evPa_exc {S : Sg} {env : Ev} {z : Nat} : ∀ {p : Pa}, evPa S p env ≠ .exc z
  | .nil => fun h => nomatch h
  | .snoc r e => fun h => by
    unfold evPa at h
    cases hr : evPa S r env with
    | no => rw [hr] at h; cases h
    | exc w => exact evPa_exc hr
    | ok ks =>
      rw [hr] at h
      have h : (toInt (ev S e env) >>= fun k => (R.ok (ks ++ [k]) : R (List Int))) = .exc z := h
      cases hk : toInt (ev S e env) with
      | no => rw [hk] at h; cases h
      | exc w => exact toInt_exc hk
      | ok k => rw [hk] at h; cases h
theorem up_pa {v0 : V} {Q : V → Hp → Prop} : Up (fun H1 (ks : List Int) => ∃ w, Reach H1 v0 ks w ∧ ∀ H', Same H1 H' → Q w H') := fun _ _ _ s ⟨w, r, q⟩ => ⟨w, r.mono s, fun H' s' => q H' (s.trans s')⟩
theorem sPa : ∀ (p : Pa) {i : Nat} {g : Cfg} {c : Ctx} {X : Cx} {e : Expr}, Good g c X → mPa g i p e = true → PE X e (tPa c i (evPa g.S p))
  | .nil, i, g, c, X, e, G, h => by
    unfold mPa at h
    split at h
    · simp only [Bool.and_eq_true, decide_eq_true_eq] at h
      obtain ⟨n1, n2⟩ := nmB_of h.1.2
      refine PE.imp (pe_var (i := i) (by rw [G.N]; exact h.1.1.1) (G.vis h.1.1.2) n1 n2) fun σ H Q ⟨env, O, v0, a, hs, q⟩ => ⟨v0, hs, ?_⟩
      obtain ⟨w, r, q⟩ := (show ∃ w, Reach H v0 [] w ∧ ∀ H', Same H H' → Q w H' from q)
      cases r
      exact q H (Same.refl _)
    · cases h
  | .snoc p k, i, g, c, X, e, G, h => by
    unfold mPa at h
    split at h
    · simp only [Bool.and_eq_true] at h
      refine PE.imp (pe_ix ix_seq (sPa p G h.1.1) (sE k G h.1.2) (pix_of h.2)) fun σ H Q ⟨env, O, v0, a, hs, q⟩ => ⟨env, O, v0, a, hs, ?_⟩
      have q : AnsP (c.W σ) H (evPa g.S p env >>= fun ks => toInt (ev g.S k env) >>= fun k => .ok (ks ++ [k])) (fun H1 ks => ∃ w, Reach H1 v0 ks w ∧ ∀ H', Same H1 H' → Q w H') := q
      cases hp : evPa g.S p env with
      | no => rw [hp] at q; exact q.elim
      | exc z => exact (evPa_exc hp).elim
      | ok ks =>
        rw [hp] at q
        have q : AnsP (c.W σ) H (toInt (ev g.S k env) >>= fun k => .ok (ks ++ [k])) (fun H1 ks => ∃ w, Reach H1 v0 ks w ∧ ∀ H', Same H1 H' → Q w H') := q
        cases hk : toInt (ev g.S k env) with
        | no => rw [hk] at q; exact q.elim
        | exc z => exact (toInt_exc hk).elim
        | ok n =>
          rw [hk] at q
          obtain ⟨w, r, q⟩ := (show ∃ w, Reach H v0 (ks ++ [n]) w ∧ ∀ H', Same H H' → Q w H' from q)
          obtain ⟨b, xs, r1, r2, r3⟩ := Reach.init r
          refine ⟨.ref b, r1, fun H1 s1 => ⟨env, O, a.later s1, ?_⟩⟩
          rw [toInt_ok hk]
          intro v H2 A s2 fr rv
          have s12 : Same H H2 := s1.trans s2
          have ev : v = .int n := dpInt rv.dp
          rcases r2 with r2 | r2
          · exact .inl ⟨b, xs, n, w, rfl, ev, seq_any (Same.seq s12 r2), r3, q H2 s12⟩
          · exact .inr (.inl ⟨b, xs, n, w, rfl, ev, seqT_any (Same.seqT s12 r2), r3, q H2 s12⟩)
    · cases h

section
variable {c : Ctx} {own : Own}
theorem ats_upd {H : Hp} {ω : Om} {env : Ev} {σ : L2.St} {i : Nat} {d d' : D} {ks : List Int} {f : List D → R (List D)} (hΓ : ∀ i, fz (c.Γ i) = true) (a : AtS c H ω env σ) (hl : lk env i = some (d, false)) (hu : updD f ks (c.Γ i) d = .ok d') :
    ∃ v0 l xs ds es, σ[i]? = some (some v0) ∧ Reach H v0 ks (.ref l) ∧ H l = some (.lst xs) ∧ DpAll [] (mask H (ow ω)) xs ds ∧ f ds = .ok es ∧
      ∀ ys, DpAll [] (mask H (ow ω)) ys es → AtS c (upd H l (.lst ys)) ω (put env i (some (d', false))) σ ∧ Eff H ω (upd H l (.lst ys)) ω := by
  obtain ⟨v0, hv, q⟩ := a.er i d false hl
  obtain ⟨A, nd, hA, r⟩ := (show ∃ A, A.Nodup ∧ (∀ a ∈ A, ω a = some (i + 1)) ∧ Rp [] H (ow ω) v0 d (c.Γ i) A from q)
  obtain ⟨l, xs, ds, es, re, lA, hl', kk, hf, up⟩ := upd_rp a.dom f (hΓ i) nd r hu
  have wl := hA l lA
  have ol : ow ω l = true := ow_true.mpr ⟨_, wl⟩
  refine ⟨v0, l, xs, ds, es, hv, re, hl', kk, hf, fun ys hy => ⟨⟨fun x hx => ?_, fun j d2 b hj => ?_, by rw [put_len]; exact a.len, fun j w h1 h2 => a.pn j w h1 (lk_put_none h2).1⟩, ⟨fun x o e hn => ?_, fun x j h => .inl ⟨j, h⟩, fun _ => Iff.rfl, fun x hx => ?_⟩⟩⟩
  · by_cases e : x = l
    · subst e; exact .lst upd_same
    · obtain ⟨zs, hz, hq⟩ := a.dom x hx
      exact ⟨zs, by rw [upd_ne e]; exact hz, hq⟩
  · rw [lk_put] at hj
    by_cases h : j = i
    · rw [if_pos h] at hj
      split at hj
      · cases hj
        subst h
        exact ⟨v0, hv, A, nd, hA, up ys hy⟩
      · cases hj
    · rw [if_neg h] at hj
      obtain ⟨w, hw, q⟩ := a.er j d2 b hj
      refine ⟨w, hw, ?_⟩
      cases b with
      | true =>
        refine dp_mono (fun x o e => ?_) _ _ q
        obtain ⟨e0, e1⟩ := mask_some.mp e
        exact mask_of e0 (by rw [upd_ne (fun z => by subst z; rw [ol] at e0; cases e0)]; exact e1)
      | false =>
        obtain ⟨B, nd2, hB, rb⟩ := q
        refine ⟨B, nd2, hB, Rp.keep a.dom (fun x o e hx => ?_) (fun x hx => .inl hx) (fun x hx => ow_true.mpr ⟨_, hB x hx⟩) (hΓ j) rb⟩
        have hne : x ≠ l := by
          rintro rfl
          rcases hx with hx | hx
          · rw [ol] at hx; cases hx
          · have := hB x hx
            rw [wl] at this
            have := Option.some.inj this
            omega
        rw [upd_ne hne]
        exact e
  · rw [upd_ne (fun z => by subst z; exact hn i wl)]
    exact e
  · by_cases e : x = l
    · subst e
      rw [upd_same] at hx
      cases hx
    · rw [upd_ne e] at hx
      exact hx
/-- a slot's own dict changes -/
theorem ats_obj {H : Hp} {ω : Om} {env : Ev} {σ : L2.St} {i : Nat} {d d' : D} {v0 : V} {l : Addr} {o : HO} (hΓ : ∀ i, fz (c.Γ i) = true) (a : AtS c H ω env σ) (hl : lk env i = some (d, false)) (hv : σ[i]? = some (some v0)) (wl : ω l = some (i + 1)) (mo : isMut o = true)
    (hn : ∃ A, A.Nodup ∧ (∀ a ∈ A, ω a = some (i + 1)) ∧ Rp [] (upd H l o) (ow ω) v0 d' (c.Γ i) A) : AtS c (upd H l o) ω (put env i (some (d', false))) σ ∧ Eff H ω (upd H l o) ω := by
  have ol : ow ω l = true := ow_true.mpr ⟨_, wl⟩
  have far : ∀ x o', ow ω x = false → H x = some o' → upd H l o x = some o' := fun x o' e0 e => by rw [upd_ne (fun z => by subst z; rw [ol] at e0; cases e0)]; exact e
  refine ⟨⟨fun x hx => ?_, fun j d2 b hj => ?_, by rw [put_len]; exact a.len, fun j w h1 h2 => a.pn j w h1 (lk_put_none h2).1⟩, ⟨fun x o' e q => ?_, fun x j h => .inl ⟨j, h⟩, fun _ => Iff.rfl, fun x hx => ?_⟩⟩
  · by_cases e : x = l
    · subst e; exact ⟨o, upd_same, mo⟩
    · obtain ⟨z, hz, hq⟩ := a.dom x hx
      exact ⟨z, by rw [upd_ne e]; exact hz, hq⟩
  · rw [lk_put] at hj
    by_cases h : j = i
    · rw [if_pos h] at hj
      split at hj
      · cases hj
        subst h
        exact ⟨v0, hv, hn⟩
      · cases hj
    · rw [if_neg h] at hj
      obtain ⟨w, hw, q⟩ := a.er j d2 b hj
      refine ⟨w, hw, ?_⟩
      cases b with
      | true => exact q.mono fun x o' e => let ⟨e0, e1⟩ := mask_some.mp e; mask_of e0 (far x o' e0 e1)
      | false =>
        obtain ⟨B, nd2, hB, rb⟩ := q
        refine ⟨B, nd2, hB, Rp.keep a.dom (fun x o' e hx => ?_) (fun x hx => .inl hx) (fun x hx => ow_true.mpr ⟨_, hB x hx⟩) (hΓ j) rb⟩
        rcases hx with hx | hx
        · exact far x o' hx e
        · have hne : x ≠ l := by
            rintro rfl
            have := hB x hx
            rw [wl] at this
            have := Option.some.inj this
            omega
          rw [upd_ne hne]
          exact e
  · rw [upd_ne (fun z => by subst z; exact q i wl)]
    exact e
  · by_cases e : x = l
    · subst e
      rw [upd_same] at hx
      cases hx
    · rw [upd_ne e] at hx
      exact hx
def evDp (q y d : D) : R D := match asD q with
  | some (.k ps) => match toK y with
    | some k => if ps.length < 16777216 then .ok (.dict (puK ps k d)) else .no
    | none => .no
  | some (.t ps) => match toKT y with
    | some k => if ps.length < 16777216 then .ok (.dict ((.none, .none) :: puT ps k d)) else .no
    | none => .no
  | none => .no
theorem evDp_exc {q y d : D} {z : Nat} : evDp q y d ≠ .exc z := by
  unfold evDp
  split <;> first | (split <;> first | (split <;> exact fun h => nomatch h) | exact fun h => nomatch h) | exact fun h => nomatch h
/-- .. by a store -/
theorem ats_dput {H : Hp} {ω : Om} {env : Ev} {σ : L2.St} {i : Nat} {q q' y d : D} {yv v : V} (hΓ : ∀ i, fz (c.Γ i) = true) (hi : c.Γ i = .dct) (a : AtS c H ω env σ) (hl : lk env i = some (q, false)) (hq : evDp q y d = .ok q') (hy : Dp [] H yv y) (hv : Dp [] (mask H (ow ω)) v d) :
    ∃ l H4, σ[i]? = some (some (.ref l)) ∧ DPut H l yv v H4 ∧ AtS c H4 ω (put env i (some (q', false))) σ ∧ Eff H ω H4 ω := by
  obtain ⟨v0, hs, r⟩ := a.er i q false hl
  obtain ⟨A, nd, hA, r⟩ := (show ∃ A, A.Nodup ∧ (∀ a ∈ A, ω a = some (i + 1)) ∧ Rp [] H (ow ω) v0 q (c.Γ i) A from r)
  rw [hi] at r
  unfold evDp at hq
  have keep : ∀ {l : Addr} {o : HO}, ω l = some (i + 1) → Same (mask H (ow ω)) (mask (upd H l o) (ow ω)) := fun {l o} wl x o' e => by
    obtain ⟨e0, e1⟩ := mask_some.mp e
    refine mask_of e0 ?_
    rw [upd_ne (fun z => by subst z; rw [ow_true.mpr ⟨_, wl⟩] at e0; cases e0)]
    exact e1
  cases r with
  | flat f k => cases k <;> first | (cases hq; done) | cases f
  | @dck l kvs ps h1 h2 h3 =>
    rw [h3.head] at hq
    dsimp only at hq
    split at hq
    · rename_i k hk
      split at hq
      · rename_i hz
        cases hq
        rw [toK_some hk] at hy
        have e1 := dp_kV hy
        have wl := hA l (List.mem_singleton.mpr rfl)
        have ho := ats_obj (o := .dK (putK kvs k v)) (d' := .dict (puK ps k d)) hΓ a hl hs wl rfl ⟨[l], nd, hA, by rw [hi]; exact .dck upd_same h2 ((h3.put hv).mono (keep wl))⟩
        exact ⟨l, _, hs, by rw [e1]; exact DPut.k h1 (by rw [h3.len, ← sz]; exact hz), ho.1, ho.2⟩
      · cases hq
    · cases hq
  | @dct l kvs ps h1 h2 h3 =>
    dsimp only [asD] at hq
    split at hq
    · rename_i k hk
      split at hq
      · rename_i hz
        cases hq
        rw [toKT_some hk] at hy
        have wl := hA l (List.mem_singleton.mpr rfl)
        have ho := ats_obj (o := .dT (putK kvs k v)) (d' := .dict ((.none, .none) :: puT ps k d)) hΓ a hl hs wl rfl ⟨[l], nd, hA, by rw [hi]; exact .dct upd_same h2 ((h3.put hv).mono (keep wl))⟩
        cases hy with
        | @tup b xs _ t1 t2 =>
          rw [dps_kV t2] at t1
          exact ⟨l, _, hs, DPut.t h1 t1 (by rw [h3.len, ← sz]; exact hz), ho.1, ho.2⟩
      · cases hq
    · cases hq
end
end Pv

namespace Pv
open PySem PySem.Spec PyProof.Rows L2

/-! statements -/
inductive Q1 where
  | e (x : E)
  | mv (i : Nat)
  /-- an owned list turned round: a new list, its items go over -/
  | rv (i : Nat)
inductive RT where
  | one (q : Q1)
  | tp (qs : List Q1)
  | nl
/-- expressions that change a slot's list -/
inductive EX where
  | pop (i : Nat) (k : E)
  | popl (i : Nat)
mutual
inductive S where
  | asg (t : G) (e : E)
  | own (i : Nat) (e : E)
  | aug (i : Nat) (op : BOp) (e : E)
  | drop (e : E)
  | app (i : Nat) (p : Pa) (e : E)
  | ins (i : Nat) (p : Pa) (k e : E)
  /-- an owned item put behind an owned list -/
  | apo (i : Nat) (e : E)
  | pop (i : Nat) (p : Pa)
  /-- list.extend by a list -/
  | ext (i : Nat) (p : Pa) (e : E)
  | st (i : Nat) (p : Pa) (k e : E)
  | sau (i : Nat) (p : Pa) (k : E) (op : BOp) (e : E)
  | iff (t : E) (a b : Ss)
  | fr (t : G) (it : I) (b : Ss)
  | wh (t : E) (b : Ss)
  | ret (r : RT)
  | brk
  | cnt
  | pass
  | fzz (i : Nat) (s : S)
  | rse (n : Nat)
  | tr (b : Ss) (hs : List Hn)
  | dst (i : Nat) (k e : E)
  /-- over the list that the slot owns; the slot is not to be seen meanwhile -/
  | fo (t : G) (i : Nat) (b : Ss)
  /-- a name or a list takes what an expression gives that changes a slot -/
  | xa (i : Nat) (x : EX)
  | xp (j : Nat) (x : EX)
  /-- two names at once -/
  | par (i j : Nat) (a b : E)
inductive Ss where
  | nil
  | cons (s : S) (r : Ss)
end

def evQ (S : Sg) (q : Q1) (env : Ev) : R D :=
  match q with
  | .e x => ev S x env
  | .mv i => match lk env i with
    | some (d, false) => .ok d
    | _ => .no
  | .rv i => match lk env i with
    | some (.list ds, false) => match S.own i with
      | .lst _ => .ok (.list ds.reverse)
      | _ => .no
    | _ => .no
def evQs (S : Sg) : List Q1 → Ev → R (List D)
  | [], _ => .ok []
  | q :: r, env => evQ S q env >>= fun d => evQs S r env >>= fun ds => .ok (d :: ds)
def evR (S : Sg) (r : RT) (env : Ev) : R D :=
  match r with
  | .one q => evQ S q env
  | .tp qs => evQs S qs env >>= evTup
  | .nl => .ok .none
def mutE (S : Sg) (i : Nat) (ks : List Int) (f : List D → R (List D)) (env : Ev) : R Fl :=
  match lk env i with
  | some (d, false) => updD f ks (S.own i) d >>= fun d' => .ok (.nx (put env i (some (d', false))))
  | _ => .no
def pushE (S : Sg) (i : Nat) (d : D) (env : Ev) : R Fl :=
  match lk env i, S.own i with
  | some (.list ds, false), .lst _ => if ds.length < 16777216 then .ok (.nx (put env i (some (.list (ds ++ [d]), false)))) else .no
  | _, _ => .no
def fApp (d : D) (ds : List D) : R (List D) := if ds.length < 16777216 then .ok (ds ++ [d]) else .no
def fIns (k : Int) (d : D) (ds : List D) : R (List D) := if ds.length < 16777216 ∧ 0 ≤ k ∧ k < 9223372036854775808 then .ok (ds.take k.toNat ++ [d] ++ ds.drop k.toNat) else .no
def fExt (d : D) (ds : List D) : R (List D) := match d with
  | .list es => if ds.length + es.length ≤ 16777216 then .ok (ds ++ es) else .no
  | _ => .no
def fPop (ds : List D) : R (List D) := if ds.length = 0 then .no else .ok ds.dropLast
def fSet (k : Int) (d : D) (ds : List D) : R (List D) := match ixN ds.length k with
  | some j => .ok (ds.set j d)
  | none => .no
def evAug (op : BOp) (x y : D) : R D :=
  match op with
  | .add | .sub | .mul | .fdiv | .mod => match x, y with
    | .int _, .int _ => evBin op .sh x y
    | _, _ => .no
  | _ => .no
def fAug (k : Int) (op : BOp) (y : D) (ds : List D) : R (List D) := match ixN ds.length k with
  | some j => match ds[j]? with
    | some x => evAug op x y >>= fun z => .ok (ds.set j z)
    | none => .no
  | none => .no
def delX (S : Sg) (i : Nat) (n : Int) (env : Ev) : R (D × Ev) :=
  match lk env i, S.own i with
  | some (.list ds, false), .lst .sh => if -9223372036854775808 ≤ n ∧ n < 9223372036854775808 then (match ixN ds.length n with
    | some j => .ok (ds.getD j .none, put env i (some (.list (ds.eraseIdx j), false)))
    | none => .no) else .no
  | _, _ => .no
def evX (S : Sg) : EX → Ev → R (D × Ev)
  | .pop i k, env => toInt (ev S k env) >>= fun n => delX S i n env
  | .popl i, env => delX S i (-1) env
def evB (S : Sg) (t : E) (env : Ev) : R Bool := ev S t env >>= truthD
def loopF (f : D → Ev → R Fl) : List D → Ev → R Fl
  | [], env => .ok (.nx env)
  | x :: r, env => f x env >>= fun fl => match fl with
    | .nx e => loopF f r e
    | .ct e => loopF f r e
    | .bk e => .ok (.nx e)
    | .rt d => .ok (.rt d)
    | .ex n => .ok (.ex n)
def loopW (t : Ev → R Bool) (f : Ev → R Fl) : Nat → Ev → R Fl
  | 0, _ => .no
  | n + 1, env => t env >>= fun b => if b = true then (f env >>= fun fl => match fl with
    | .nx e => loopW t f n e
    | .ct e => loopW t f n e
    | .bk e => .ok (.nx e)
    | .rt d => .ok (.rt d)
    | .ex n => .ok (.ex n)) else .ok (.nx env)
def fuel : Nat := 1000000
/-- an exception of an expression leaves the statement -/
def catchX : R Fl → R Fl
  | .exc n => .ok (.ex n)
  | r => r
def hdlR (xc : Xc) (n : Nat) : List Hn → R Fl
  | [] => .ok (.ex n)
  | h :: r => if under xc n h.c = true then .ok (.rt (evHE xc n h.e)) else hdlR xc n r
def tryR (xc : Xc) (hs : List Hn) : R Fl → R Fl
  | .ok (.ex n) => if n < xc.length then hdlR xc n hs else .no
  | r => r
def foP (i : Nat) (ds : List D) : Fl → R Fl
  | .nx e => match lk e i with
    | none => .ok (.nx (put e i (some (.list ds, false))))
    | some _ => .no
  | .rt d => .ok (.rt d)
  | .ex n => .ok (.ex n)
  | _ => .no
mutual
def evS (T : Sg) : S → Ev → R Fl
  | .asg t e, env => ev T e env >>= fun d => gset t d env >>= fun e' => .ok (.nx e')
  | .own i e, env => ev T e env >>= fun d => .ok (.nx (put env i (some (d, false))))
  | .aug i op e, env => evVar i false env >>= fun x => ev T e env >>= fun y => evAug op x y >>= fun z => .ok (.nx (put env i (some (z, true))))
  | .drop e, env => ev T e env >>= fun _ => .ok (.nx env)
  | .app i p e, env => evPa T p env >>= fun ks => noX (ev T e env) >>= fun d => mutE T i ks (fApp d) env
  | .ins i p k e, env => evPa T p env >>= fun ks => toInt (ev T k env) >>= fun n => noX (ev T e env) >>= fun d => mutE T i ks (fIns n d) env
  | .apo i e, env => noX (ev T e env) >>= fun d => pushE T i d env
  | .ext i p e, env => evPa T p env >>= fun ks => noX (ev T e env) >>= fun d => mutE T i ks (fExt d) env
  | .pop i p, env => evPa T p env >>= fun ks => mutE T i ks fPop env
  | .st i p k e, env => ev T e env >>= fun d => evPa T p env >>= fun ks => toInt (ev T k env) >>= fun n => mutE T i ks (fSet n d) env
  | .sau i p k op e, env => evPa T p env >>= fun ks => toInt (ev T k env) >>= fun n => noX (ev T e env) >>= fun d => mutE T i ks (fAug n op d) env
  | .iff t a b, env => evB T t env >>= fun r => if r = true then evSs T a env else evSs T b env
  | .fr t it b, env => evi T it env >>= fun items => loopF (fun x e => gset t x e >>= fun e' => evSs T b e') items env
  | .wh t b, env => loopW (evB T t) (evSs T b) fuel env
  | .fo t i b, env => match lk env i with
    | some (.list ds, false) => if T.own i = .lst .sh then (loopF (fun x e => gset t x e >>= fun e' => evSs T b e') ds (put env i none) >>= foP i ds) else .no
    | _ => .no
  | .ret r, env => evR T r env >>= fun d => .ok (.rt d)
  | .brk, env => .ok (.bk env)
  | .cnt, env => .ok (.ct env)
  | .pass, env => .ok (.nx env)
  | .fzz i s, env => evS T s (frzE env i)
  | .rse n, _ => if n < T.xc.length then .ok (.ex n) else .no
  | .tr b hs, env => tryR T.xc hs (evSs T b env)
  | .xa i x, env => evX T x env >>= fun p => .ok (.nx (put p.2 i (some (p.1, true))))
  | .xp j x, env => evX T x env >>= fun p => mutE T j [] (fApp p.1) p.2
  | .par i j a b, env => ev T a env >>= fun x => ev T b env >>= fun y => .ok (.nx (put (put env i (some (x, true))) j (some (y, true))))
  | .dst i k e, env => ev T e env >>= fun d => match lk env i with
    | some (q, false) => if T.own i = .dct then (ev T k env >>= fun y => evDp q y d >>= fun q' => .ok (.nx (put env i (some (q', false))))) else .no
    | _ => .no
def evSs (T : Sg) : Ss → Ev → R Fl
  | .nil, env => .ok (.nx env)
  | .cons s r, env => catchX (evS T s env) >>= fun fl => match fl with
    | .nx e => evSs T r e
    | f => .ok f
end

/-! the text against it -/
def isComp : Expr → Bool
  | .ListComp _ _ _ _ | .SetComp _ _ _ _ | .DictComp _ _ _ _ _ => true
  | _ => false
def coreC : E → Bool
  | .comp _ _ _ _ _ _ => true
  | .frz a => match a with
    | .comp _ _ _ _ _ _ => true
    | _ => false
  | _ => false
def asgB (t : G) (tg : Expr) (x : E) (v : Expr) : Bool :=
  match t with
  | .nm _ => !(isComp v) || coreC x
  | .tp _ => !(isComp v) && !(isTup v) && isTup tg
  | .ls _ => !(isComp v) && !(isTup v) && isTup tg
def tyQ (S : Sg) : Q1 → Own
  | .e x => ty S x
  | .mv i => S.own i
  | .rv i => S.own i
def tyQs (S : Sg) : List Q1 → Own
  | [] => .tn
  | q :: r => .tc (tyQ S q) (tyQs S r)
def mQ (g : Cfg) : Q1 → Expr → Bool
  | .e x, e => mE g x e && fz (ty g.S x)
  | .mv i, e => match e with
    | .Name x _ => decide (g.N[i]? = some x) && visB g x && nmB x
    | _ => false
  | .rv i, e => match e with
    | .Subscript (.Name x _) (.Slice none none (some (.UnaryOp .USub (.Constant (.int 1) _ _) _)) _) _ => decide (g.N[i]? = some x) && visB g x && nmB x
    | _ => false
def mQs (g : Cfg) : List Q1 → List Expr → Bool
  | [], as => as.isEmpty
  | q :: r, as => match as with
    | a :: as => mQ g q a && nstar a && mQs g r as
    | [] => false
def mvs : List Q1 → List Nat
  | [] => []
  | .mv i :: r => i :: mvs r
  | .rv i :: r => i :: mvs r
  | .e _ :: r => mvs r
def tyR (S : Sg) : RT → Own
  | .one q => tyQ S q
  | .tp qs => tyQs S qs
  | .nl => .sh
def isFlE : E → Bool
  | .fl _ => true
  | _ => false
def isFlQ : Q1 → Bool
  | .e x => isFlE x
  | .mv _ => false
  | .rv _ => false
theorem isFlQ_of {q : Q1} (h : isFlQ q = true) : ∃ y, q = .e (.fl y) := by
  cases q with
  | mv i => cases h
  | rv i => cases h
  | e x => cases x <;> first | exact ⟨_, rfl⟩ | cases h
def okQs (S : Sg) : List Q1 → Own → Bool
  | [], _ => true
  | q :: r, o => match o with
    | .tc o p => (decide (tyQ S q = o) || isFlQ q) && okQs S r p
    | _ => false
def mR (g : Cfg) (own : Own) : RT → Option Expr → Bool
  | .one q, e => match e with
    | some a => mQ g q a && (decide (tyQ g.S q = own) || isFlQ q)
    | none => false
  | .tp qs, e => match e with
    | some (.Tuple as _ _) => mQs g qs as && okQs g.S qs own && isTc own && decide (mvs qs).Nodup && (mvs qs).all fun j => decide (j < 1000000)
    | _ => false
  | .nl, e => e.isNone
def mMeth (m : Str) (e : Expr) : Option (Expr × List Expr) :=
  match e with
  | .Call (.Attribute b a ap) as [] cp => if a = m ∧ (ap.endLine == cp.line) = true then some (b, as) else none
  | _ => none
def Cfg.h (g : Cfg) : Hcf := ⟨g.N, g.sc, g.bis.filter fun y : Str => !(decide (y = "gcd")), g.S.xc⟩
def mHn (g : Cfg) (h : Hn) : ExceptHandler → Bool
  | .ExceptHandler (some (.Name x _)) nm [.Return (some e) _] _ => (match g.S.xc[h.c]? with
    | some p => decide (p.1 = x)
    | none => false) && glB g x && nmB x && (match nm, h.i with
    | none, none => true
    | some y, some i => decide (g.N[i]? = some y) && decide (g.look y = some .local)
    | _, _ => false) && mHE g.h h.i h.e e
  | _ => false
def mHns (g : Cfg) : List Hn → List ExceptHandler → Bool
  | [], l => l.isEmpty
  | h :: r, l => match l with
    | x :: l => mHn g h x && mHns g r l
    | [] => false
def pathB (S : Sg) (i : Nat) : Bool := fz (S.own i)
def mX (g : Cfg) : EX → Expr → Bool
  | .pop i k, e => match e with
    | .Call (.Attribute b m ap) [u] [] cp => decide (m = "pop") && (ap.endLine == cp.line) && mPa g i .nil b && mE g k u && nstar u
    | _ => false
  | .popl i, e => match e with
    | .Call (.Attribute b m ap) [] [] cp => decide (m = "pop") && (ap.endLine == cp.line) && mPa g i .nil b
    | _ => false
mutual
def mS (g : Cfg) (own : Own) : S → Stmt → Bool
  | .asg t x, s => match s with
    | .Assign [tg] v _ => mG g t tg && mE g x v && fz (ty g.S x) && asgB t tg x v
    | _ => false
  | .own i x, s => match s with
    | .Assign [tg] v _ => mG g (.nm i) tg && mE g x v && decide (ty g.S x = g.S.own i) && asgB (.nm i) tg x v
    | _ => false
  | .aug i op x, s => match s with
    | .AugAssign (.Name y _) p v _ => decide (p = op.op) && decide (g.N[i]? = some y) && locB g y && mE g x v
    | _ => false
  | .drop x, s => match s with
    | .Expr v _ => mE g x v && !(isComp v)
    | _ => false
  | .app i p x, s => match s with
    | .Expr (.Call (.Attribute b a ap) [v] [] cp) _ => decide (a = "append") && (ap.endLine == cp.line) && mPa g i p b && mE g x v && nstar v && fz (ty g.S x)
    | _ => false
  | .ins i p k x, s => match s with
    | .Expr (.Call (.Attribute b a ap) [u, v] [] cp) _ => decide (a = "insert") && (ap.endLine == cp.line) && mPa g i p b && mE g k u && mE g x v && nstar u && nstar v && fz (ty g.S x)
    | _ => false
  | .apo i x, s => match s with
    | .Expr (.Call (.Attribute b a ap) [v] [] cp) _ => decide (a = "append") && (ap.endLine == cp.line) && mPa g i .nil b && mE g x v && nstar v && fz (ty g.S x) && decide (g.S.own i = .lst (ty g.S x))
    | _ => false
  | .ext i p x, s => match s with
    | .Expr (.Call (.Attribute b a ap) [v] [] cp) _ => decide (a = "extend") && (ap.endLine == cp.line) && mPa g i p b && mE g x v && nstar v && fz (ty g.S x)
    | _ => false
  | .pop i p, s => match s with
    | .Expr (.Call (.Attribute b a ap) [] [] cp) _ => decide (a = "pop") && (ap.endLine == cp.line) && mPa g i p b
    | _ => false
  | .st i p k x, s => match s with
    | .Assign [.Subscript b u _] v _ => mPa g i p b && mE g k u && mE g x v && fz (ty g.S x) && !(isComp v) && nslice u
    | _ => false
  | .sau i p k op x, s => match s with
    | .AugAssign (.Subscript b u _) q v _ => decide (q = op.op) && mPa g i p b && mE g k u && mE g x v && nslice u
    | _ => false
  | .iff t a b, s => match s with
    | .If c x y _ => mE g t c && mSs g own a x && mSs g own b y
    | _ => false
  | .fr t it b, s => match s with
    | .For tg i body [] _ => mG g t tg && mI g false it tg i && nset i && mSs g own b body
    | _ => false
  | .fo t i b, s => match s with
    | .For tg (.Name x _) body [] _ => mG g t tg && decide (g.N[i]? = some x) && visB g x && nmB x && mSs g own b body
    | _ => false
  | .wh t b, s => match s with
    | .While c body [] _ => mE g t c && mSs g own b body
    | _ => false
  | .ret r, s => match s with
    | .Return e _ => mR g own r e
    | _ => false
  | .brk, s => match s with
    | .Break _ => true
    | _ => false
  | .cnt, s => match s with
    | .Continue _ => true
    | _ => false
  | .pass, s => match s with
    | .Pass _ => true
    | .Expr (.Constant (.str _) _ _) _ => true
    | _ => false
  | .fzz _ s', s => mS g own s' s
  | .rse n, s => match s with
    | .Raise (some (.Call (.Name x _) [.Constant (.str _) _ _] [] _)) none _ => (match g.S.xc[n]? with
      | some p => decide (p.1 = x)
      | none => false) && glB g x && nmB x
    | _ => false
  | .dst i k x, s => match s with
    | .Assign [.Subscript b u _] v _ => mPa g i .nil b && mE g k u && mE g x v && fz (ty g.S x) && !(isComp v)
    | _ => false
  | .xa i x, s => match s with
    | .Assign [.Name y _] v _ => decide (g.N[i]? = some y) && locB g y && mX g x v
    | _ => false
  | .xp j x, s => match s with
    | .Expr (.Call (.Attribute b a ap) [v] [] cp) _ => decide (a = "append") && (ap.endLine == cp.line) && mPa g j .nil b && mX g x v && nstar v
    | _ => false
  | .par i j a b, s => match s with
    | .Assign [.Tuple [.Name x px, .Name y py] _ _] (.Tuple [l, r] _ _) _ => decide (g.N[i]? = some x) && decide (g.N[j]? = some y) && decide (i ≠ j) && decide (g.look x = some .local) && decide (g.look y = some .local) && decide (py.line = px.line) && mE g a l && mE g b r && fz (ty g.S a) && fz (ty g.S b) && nstar l && nstar r && !(foldedForSure 8 l) && !(constantsAlone 8 l)
    | _ => false
  | .tr b hs, s => match s with
    | .Try body l [] [] _ => mSs g own b body && mHns g hs l && !(l.isEmpty)
    | _ => false
def mSs (g : Cfg) (own : Own) : Ss → List Stmt → Bool
  | .nil, l => l.isEmpty
  | .cons s r, l => match l with
    | x :: l => mS g own s x && mSs g own r l
    | [] => false
end

structure GoodS (g : Cfg) (c : Ctx) (X : Cx) : Prop where
  E : Good g c X
  po : PassesOwn (model X.prog X.w) X.A X.env X.xe
  kd : g.sc.kind = .function
  fz : ∀ i, fz (g.S.own i) = true
  stk : X.stack = X.env :: X.outer
  frm : X.env.frame = some X.env.locals

section
variable {g : Cfg} {c : Ctx} {X : Cx} {own : Own}
theorem GoodS.fzΓ (G : GoodS g c X) : ∀ i, Pv.fz (c.Γ i) = true := fun i => by rw [G.E.own]; exact G.fz i
theorem swaps_no {v : Expr} {t : Option Expr} {l : Nat} {env : Env} (h : isComp v = false) : swapsWith v t l env = pure false := by
  cases v <;> first | rfl | cases h
/-! assignment to a name -/
theorem te_fz {f : Ev → R D} {o : Own} (hf : Pv.fz o = true) {σ : L2.St} {H : Hp} {Q : VK} (h : tE c f .sh σ H Q) : tE c f o σ H Q := by
  obtain ⟨env, O, at_, h⟩ := h
  exact ⟨env, O, at_, AnsP.imp h fun d _ g v H' A s fr r => Gv.give g s (.sh (r.freeze (at_.dom.mono s) (fun a z => add_true.mpr (.inl z)) (fr.disj at_.dom) hf))⟩
theorem sAsComp {o : Own} {elt : E} {t : G} {it : I} {q : Es} {ws : List Nat} {i : Nat} {y : Str} {py spos : Pos} {v : Expr} (G : GoodS g c X) (h : mE g (.comp o elt t it q ws) v = true) (hy : g.N[i]? = some y) (hl : locB g y = true) :
    PS X (.Assign [.Name y py] v spos) (tAsg (tE c (ev g.S (.comp o elt t it q ws)) (.lst o)) (gName i)) := by
  have hp := sE (.comp o elt t it q ws) G.E h
  obtain ⟨l1, l2⟩ := G.E.loc hl
  unfold mE at h
  split at h
  · rename_i a tg iter ifs z sc pos
    simp only [Bool.and_eq_true, decide_eq_true_eq, List.all_eq_true] at h
    obtain ⟨⟨⟨⟨⟨⟨⟨⟨⟨h1, h2⟩, h3⟩, h4⟩, h5⟩, h6⟩, h7⟩, h8⟩, h9⟩, h10⟩ := h
    subst h1
    have hk : X.env.scope.kind = .function := by rw [G.E.sc]; exact G.kd
    have hb : X.env.blockKind = .function := by unfold Env.blockKind; rw [hk]; rfl
    cases hsw : (X.env.blockKind == .function && X.env.kindOf y == some .local && py.line == pos.line && !(sc.names.any fun (n, k) => n == y && (k == .local || k == .cell))) with
    | false =>
      have hs : swapsWith (.ListComp a [⟨tg, iter, ifs, 0⟩] sc pos) (some (.Name y py)) spos.line X.env = pure false := by
        show (pure (X.env.blockKind == .function && X.env.kindOf y == some .local && py.line == pos.line && !(sc.names.any fun (n, k) => n == y && (k == .local || k == .cell))) : Sem Bool) = pure false
        rw [hsw]
      have hp' : PE X (.ListComp a [⟨tg, iter, ifs, 0⟩] sc pos) (tE c (ev g.S (.comp o elt t it q ws)) (.lst o)) := PE.cg hp (fun _ => rfl) (by rw [ty])
      exact ps_set (by rw [G.E.N]; exact G.E.nd) (by rw [G.E.N]; exact hy) l1 hp' hs l2
    | true =>
      have hs : swapsWith (.ListComp a [⟨tg, iter, ifs, 0⟩] sc pos) (some (.Name y py)) spos.line X.env = pure true := by
        show (pure (X.env.blockKind == .function && X.env.kindOf y == some .local && py.line == pos.line && !(sc.names.any fun (n, k) => n == y && (k == .local || k == .cell))) : Sem Bool) = pure true
        rw [hsw]
      have hloc : X.env.scope.names.lookup y = some .local := by
        simp only [Bool.and_eq_true] at hsw
        exact eq_of_beq hsw.1.1.2
      have hsc : L2.blkC X.N X.env.scope sc (ownW g ws) = true := by rw [G.E.N, G.E.sc]; exact h4
      have hq := ps_setLc (i := i) (y := y) (py := py) (spos := spos) (X := X) (g := tgG X.K t) (elt := a) (tg := tg) (iter := iter) (ifs := ifs) (scope := sc) (own := ownW g ws) (pos := pos) G.E.calm (by rw [G.E.N]; exact G.E.nd) (by rw [G.E.N]; exact hy) hloc hs (sI it true G.E h2) (blkOk_by hsc)
        (fun s H C cl fp => sG t (G.E.blk (s := s) (H := H) (C := C) (cl := cl) (fp := fp)) h5) (fun s H C cl fp => sC q (G.E.blk (s := s) (H := H) (C := C) (cl := cl) (fp := fp)) h6)
        (fun s H C cl fp => h8 ▸ sE elt (G.E.blk (s := s) (H := H) (C := C) (cl := cl) (fp := fp)) h7) (fold_of h3)
      rw [own_ix] at hq
      refine PS.imp hq fun K σ H hh => ?_
      refine comp_read (g := t) (ws := ws) (fi := evi g.S it) (ft := evc g.S q) (fe := ev g.S elt) (o := o) rfl rfl rfl h9 (fun j hj => h10 j hj) ?_
      obtain ⟨env, O, at_, ha⟩ := hh
      refine ⟨env, O, at_, ?_⟩
      rw [ev] at ha
      exact ha
  · cases h
theorem sAs {x : E} {i : Nat} {y : Str} {py spos : Pos} {v : Expr} (G : GoodS g c X) (h : mE g x v = true) (hy : g.N[i]? = some y) (hl : locB g y = true) (hc : (!(isComp v) || coreC x) = true) :
    PS X (.Assign [.Name y py] v spos) (tAsg (tE c (ev g.S x) (ty g.S x)) (gName i)) := by
  by_cases hv : isComp v = true
  · rw [hv] at hc
    cases x with
    | comp o elt t it q ws =>
      refine PS.imp (sAsComp (py := py) (spos := spos) G h hy hl) fun K σ H hh => ?_
      rw [ty] at hh
      exact hh
    | frz a =>
      cases a with
      | comp o elt t it q ws =>
        unfold mE at h
        simp only [Bool.and_eq_true] at h
        refine PS.imp (sAsComp (py := py) (spos := spos) G h.1 hy hl) fun K σ H hh => ?_
        have h2 := h.2
        rw [ty] at h2
        have hh : tE c (ev g.S (.frz (.comp o elt t it q ws))) .sh σ H (fun x H1 => K.nx (σ.set i (some x)) H1) := hh
        rw [show ev g.S (.frz (.comp o elt t it q ws)) = ev g.S (.comp o elt t it q ws) from by funext env; conv => lhs; rw [ev]] at hh
        exact te_fz h2 hh
      | _ => cases hc
    | _ => cases hc
  · obtain ⟨l1, l2⟩ := G.E.loc hl
    exact ps_set (by rw [G.E.N]; exact G.E.nd) (by rw [G.E.N]; exact hy) l1 (sE x G.E h) (swaps_no (by simpa using hv)) l2
/-! what a name's store reaches -/
theorem tE_st {f : Ev → R D} {o : Own} {σ : L2.St} {H : Hp} {Q' : V → Hp → Prop} {env : Ev} {ω : Om} {K : Ends} {k : D → R Fl} (a : AtS c H ω env σ) (h : AnsS c own H ω (f env >>= k) K)
    (q : ∀ d v H1 A, f env = .ok d → Same H H1 → Fresh H H1 A → Rp [] H1 (add (ow ω) A) v d o A → AnsS c own H ω (k d) K → Q' v H1) : tE c f o σ H Q' :=
  ⟨env, ow ω, a.at, AnsS.val h fun d hd hk v H1 A s fr r => q d v H1 A hd s fr r hk⟩
/-- .. a temporary -/
theorem tE_stT {f : Ev → R D} {o : Own} {σ : L2.St} {H : Hp} {Q' : V → Hp → Prop} {env : Ev} {ω : Om} {K : Ends} {k : D → R Fl} (a : AtS c H ω env σ) (h : AnsS c own H ω (f env >>= k) K)
    (q : ∀ d v H1, f env = .ok d → AtS c H1 ω env σ → Eff H ω H1 ω → Tmp H1 (ow ω) v d o → AnsS c own H1 ω (k d) K → Q' v H1) : tE c f o σ H Q' :=
  tE_st a h fun d v H1 A hd s fr r hk => q d v H1 hd (a.later s) (.same s) ⟨A, fr.disj a.dom, r⟩ (hk.later (.same s))
theorem tT_st {f : Ev → R Bool} {σ : L2.St} {H : Hp} {Q' : Bool → Hp → Prop} {env : Ev} {ω : Om} {K : Ends} {k : Bool → R Fl} (a : AtS c H ω env σ) (h : AnsS c own H ω (f env >>= k) K)
    (q : ∀ d H1, f env = .ok d → AtS c H1 ω env σ → Eff H ω H1 ω → AnsS c own H1 ω (k d) K → Q' d H1) : tT c f σ H Q' :=
  ⟨env, ow ω, a.at, AnsS.val h fun d hd hk H1 s => q d H1 hd (a.later s) (.same s) (hk.later (.same s))⟩
theorem tup_of {e : Expr} (h : isTup e = true) : ∃ as k p, e = .Tuple as k p := by
  cases e <;> first | exact ⟨_, _, _, rfl⟩ | cases h
theorem ps_tp {t : G} {tg v : Expr} {pos : Pos} {f : Ev → R D} {o : Own} (hf : Pv.fz o = true) (he : PE X v (tE c f o)) (hg : PG X tg (tgG X.K t)) (hc : isComp v = false) (ht : isTup v = false) (htg : isTup tg = true) :
    PS X (.Assign [tg] v pos) (tS c own fun env => f env >>= fun d => gset t d env >>= fun e => .ok (.nx e)) := by
  have h1 : (assignEach [tg] X.env).map (·.2) = [assign tg X.env] := by cases tg <;> first | rfl | cases htg
  have h2 : swapsWithSole [tg] v pos.line X.env = pure false := swaps_no hc
  have h3 : swappedStores [tg] v X.env = pure none := by
    obtain ⟨as, kk, pp, rfl⟩ := tup_of htg
    cases v <;> first | rfl | cases ht
  refine PS.imp (ps_asg he hg h2 h3 h1) fun K σ H ⟨env, ω, a, h⟩ => ?_
  refine tE_stT a h fun d x H1 _ a1 e1 t1 k1 => ?_
  have kx := t1.fz a1.dom hf
  cases hgs : gset t d env with
  | no => rw [hgs] at k1; exact k1.elim
  | exc z => exact (gset_exc _ hgs).elim
  | ok env1 =>
    rw [hgs] at k1
    exact gset_ok (P := fun e τ => AtS c H1 ω e τ) (fun e τ j d v p k => AtS.put p k) t d x env env1 σ _ kx hgs a1 fun σ' p' _ => k1 σ' H1 ω p' .refl
where
  gset_exc : ∀ (t : G) {d : D} {env : Ev} {z : Nat}, gset t d env ≠ .exc z
    | .nm _, _, _, _ => fun h => nomatch h
    | .tp gs, d, env, z => fun h => by
      cases d with
      | tuple ds => exact gsets_exc gs ds env h
      | _ => cases h
    | .ls gs, d, env, z => fun h => by
      cases d with
      | list ds => exact gsets_exc gs ds env h
      | _ => cases h
  gsets_exc : ∀ (t : Gs) (ds : List D) (env : Ev) {z : Nat}, gsets t ds env ≠ .exc z
    | .nil, [], _, _ => fun h => nomatch h
    | .nil, _ :: _, _, _ => fun h => nomatch h
    | .cons _ _, [], _, _ => fun h => nomatch h
    | .cons t r, d :: ds, env, z => fun h => by
      have h : (gset t d env >>= fun e => gsets r ds e) = .exc z := h
      cases hq : gset t d env with
      | no => rw [hq] at h; cases h
      | exc w => exact gset_exc t hq
      | ok e =>
        rw [hq] at h
        exact gsets_exc r ds e h
end
end Pv

namespace Pv
open PySem PySem.Spec PyProof.Rows L2

/-! what is handed back -/
def mk : Nat := 1000001
structure Ext (H : Hp) (ω ω' : Om) : Prop where
  is : ∀ a, ω' a = ω a ∨ (H a = none ∧ ω' a = some mk)
theorem Ext.refl {H : Hp} {ω : Om} : Ext H ω ω := ⟨fun _ => .inl rfl⟩
theorem Ext.trans {H H1 : Hp} {ω ω1 ω2 : Om} (s : Same H H1) (a : Ext H ω ω1) (b : Ext H1 ω1 ω2) : Ext H ω ω2 := ⟨fun x => by
  rcases b.is x with e | ⟨e1, e2⟩
  · rw [e]; exact a.is x
  · exact .inr ⟨s.free e1, e2⟩⟩
theorem Ext.eff {H H' : Hp} {ω ω' : Om} (hd : Dom H (ow ω)) (s : Same H H') (x : Ext H ω ω') : Eff H ω H' ω' := by
  refine ⟨fun a o e _ => s a o e, fun a i h => ?_, fun a => ?_, fun a h => s.free h⟩
  · rcases x.is a with e | ⟨e, _⟩
    · exact .inl ⟨i, by rw [← e]; exact h⟩
    · exact .inr e
  · rcases x.is a with e | ⟨e1, e2⟩
    · rw [e]
    · constructor
      · intro h
        rw [e2] at h
        cases h
      · intro h
        exact ((hd a (ow_true.mpr ⟨_, h⟩)).no e1).elim
def ext (ω : Om) (A : List Addr) : Om := fun a => if a ∈ A then some mk else ω a
theorem ext_ow {ω : Om} {A : List Addr} {a : Addr} : ow (ext ω A) a = true ↔ add (ow ω) A a = true := by
  rw [add_true]
  unfold ext
  by_cases h : a ∈ A
  · constructor
    · exact fun _ => .inr h
    · intro _
      show (if a ∈ A then some mk else ω a).isSome = true
      rw [if_pos h]
      rfl
  · constructor
    · intro q
      have q : (if a ∈ A then some mk else ω a).isSome = true := q
      rw [if_neg h] at q
      exact .inl q
    · intro q
      show (if a ∈ A then some mk else ω a).isSome = true
      rw [if_neg h]
      exact q.elim id fun z => absurd z h
theorem AtS.ext {c : Ctx} {H H1 : Hp} {ω : Om} {env : Ev} {σ : L2.St} {A : List Addr} (a : AtS c H ω env σ) (s : Same H H1) (fr : Fresh H H1 A) : AtS c H1 (ext ω A) env σ ∧ Ext H ω (Pv.ext ω A) := by
  have keep : ∀ x, ω x ≠ none → Pv.ext ω A x = ω x := fun x h => by
    unfold Pv.ext
    rw [if_neg (fun z => h (ow_false.mp (fr.disj a.dom x z)))]
  refine ⟨⟨fun x hx => ?_, fun i d b h => ?_, a.len, a.pn⟩, ⟨fun x => ?_⟩⟩
  · rcases add_true.mp (ext_ow.mp hx) with z | z
    · exact (a.dom.mono s) x z
    · exact fr.lst x z
  · obtain ⟨v, hv, q⟩ := a.er i d b h
    refine ⟨v, hv, ?_⟩
    have nn : ∀ x, ow (Pv.ext ω A) x = true → ow ω x = true ∨ H x = none := fun x hx => add_new fr x (ext_ow.mp hx)
    cases b with
    | true => exact dp_mono (mask_mono s nn) _ _ q
    | false =>
      obtain ⟨B, nd, hB, r⟩ := q
      have h1 : ∀ x ∈ B, Pv.ext ω A x = some (i + 1) := fun x hx => by rw [keep x (by rw [hB x hx]; exact fun z => nomatch z)]; exact hB x hx
      exact ⟨B, nd, h1, Rp.mono s nn (fun x hx => ow_true.mpr ⟨_, h1 x hx⟩) r⟩
  · by_cases h : x ∈ A
    · exact .inr ⟨fr.new x h, by unfold Pv.ext; rw [if_pos h]⟩
    · exact .inl (by unfold Pv.ext; rw [if_neg h])
def mvQ : Q1 → List Nat
  | .mv i => [i]
  | .rv i => [i]
  | .e _ => []
def Fr (ω : Om) (H : Hp) (ω' : Om) (H' : Hp) (ms : List Nat) (A : List Addr) : Prop := A.Nodup ∧ ∀ a ∈ A, Mut H' a ∧ ((H a = none ∧ ω' a = some mk) ∨ ∃ j ∈ ms, ω a = some (j + 1))
def Pq (c : Ctx) (env : Ev) (σ : L2.St) (ω : Om) (o : Own) (ms : List Nat) (Q : V → Hp → Prop) : Hp → D → Prop := fun H d => ∀ v H' ω' A, AtS c H' ω' env σ → Same H H' → Ext H ω ω' → Fr ω H ω' H' ms A → Rp [] H' (ow ω') v d o A → Q v H'
def tQ (c : Ctx) (f : Ev → R D) (o : Own) (ms : List Nat) : TE := fun σ H Q => ∃ env ω, AtS c H ω env σ ∧ AnsP (c.W σ) H (f env) (Pq c env σ ω o ms Q)
def Pqs (c : Ctx) (env : Ev) (σ : L2.St) (ω : Om) (o : Own) (ms : List Nat) (Q : List V → Hp → Prop) : Hp → List D → Prop := fun H ds => ∀ vs H' ω' A, AtS c H' ω' env σ → Same H H' → Ext H ω ω' → Fr ω H ω' H' ms A → RpS [] H' (ow ω') vs ds o A → Q vs H'
def tQs (c : Ctx) (f : Ev → R (List D)) (o : Own) (ms : List Nat) : TA := fun σ H Q => ∃ env ω, AtS c H ω env σ ∧ AnsP (c.W σ) H (f env) (Pqs c env σ ω o ms Q)
section
variable {g : Cfg} {c : Ctx} {X : Cx} {own : Own}
theorem RpA.rev {K : PySem.W.Frag} {H : Hp} {O : Addr → Bool} {o : Own} : ∀ {vs : List V} {ds : List D} {A : List Addr}, RpA K H O vs ds o A → ∃ B : List Addr, B.Perm A ∧ RpA K H O vs.reverse ds.reverse o B
  | _, _, _, .nil => ⟨[], .refl _, .nil⟩
  | _, _, _, @RpA.cons _ _ _ v vs d ds _ A1 A2 h1 h2 => by
    obtain ⟨B, p, r⟩ := RpA.rev h2
    refine ⟨B ++ A1, List.perm_append_comm.trans (p.append_left A1), ?_⟩
    rw [List.reverse_cons, List.reverse_cons]
    exact RpA.snoc h1 r
theorem sQ {q : Q1} {e : Expr} (G : GoodS g c X) (h : mQ g q e = true) : PE X e (tQ c (evQ g.S q) (tyQ g.S q) (mvQ q)) := by
  cases q with
  | e x =>
    dsimp only [mQ] at h
    simp only [Bool.and_eq_true] at h
    refine PE.imp (sE x G.E h.1) fun σ H Q ⟨env, ω, a, hh⟩ => ⟨env, ow ω, a.at, AnsP.imp hh fun d _ p v H' A s fr r => ?_⟩
    obtain ⟨a', x'⟩ := a.ext s fr
    refine p v H' (ext ω A) A a' s x' ⟨fr.nd, fun b hb => ⟨fr.lst b hb, .inl ⟨fr.new b hb, by unfold ext; rw [if_pos hb]⟩⟩⟩ ?_
    exact Rp.mono (Same.refl _) (fun b hb => .inl (ext_ow.mp hb)) (fun b hb => ext_ow.mpr (add_true.mpr (.inr hb))) r
  | mv i =>
    dsimp only [mQ] at h
    split at h
    · simp only [Bool.and_eq_true, decide_eq_true_eq] at h
      obtain ⟨n1, n2⟩ := nmB_of h.2
      refine PE.imp (pe_var (i := i) (by rw [G.E.N]; exact h.1.1) (G.E.vis h.1.2) n1 n2) fun σ H Q ⟨env, ω, a, hh⟩ => ?_
      unfold evQ at hh
      dsimp only at hh
      split at hh
      · rename_i d hl
        obtain ⟨v, hv, q⟩ := a.er i d false hl
        obtain ⟨A, nd, hA, r⟩ := (show ∃ A, A.Nodup ∧ (∀ a ∈ A, ω a = some (i + 1)) ∧ Rp [] H (ow ω) v d (c.Γ i) A from q)
        rw [G.E.own] at r
        exact ⟨v, hv, hh v H ω A a (Same.refl _) .refl ⟨nd, fun b hb => ⟨(r.owned b hb).2, .inr ⟨i, List.mem_singleton.mpr rfl, hA b hb⟩⟩⟩ r⟩
      · exact hh.elim
    · cases h
  | rv i =>
    dsimp only [mQ] at h
    split at h
    · simp only [Bool.and_eq_true, decide_eq_true_eq] at h
      obtain ⟨n1, n2⟩ := nmB_of h.2
      refine PE.imp (pe_revL (pe_var (i := i) (by rw [G.E.N]; exact h.1.1) (G.E.vis h.1.2) n1 n2)) fun σ H Q ⟨env, ω, a, hh⟩ => ?_
      unfold evQ at hh
      dsimp only at hh
      split at hh
      · rename_i ds hl
        split at hh
        · rename_i o ho
          obtain ⟨v, hv, q⟩ := a.er i (.list ds) false hl
          obtain ⟨A, nd, hA, r⟩ := (show ∃ A, A.Nodup ∧ (∀ a ∈ A, ω a = some (i + 1)) ∧ Rp [] H (ow ω) v (.list ds) (c.Γ i) A from q)
          rw [G.E.own, ho] at r
          cases r with
          | flat f _ => cases f
          | @lst a0 xs _ _ A' hx hO hr =>
            obtain ⟨B, pm, hr'⟩ := RpA.rev hr
            refine ⟨.ref a0, hv, a0, xs, rfl, .inl (rd_of (SqL.of hx)), fun p hp => ?_⟩
            have sn : Same H (upd H p (.lst xs.reverse)) := same_new hp
            have fr : Fresh H (upd H p (.lst xs.reverse)) [p] := Fresh.one hp
            obtain ⟨a', x'⟩ := a.ext sn fr
            have inA : ∀ b ∈ B, ω b = some (i + 1) := fun b hb => hA b (List.mem_cons_of_mem _ (pm.mem_iff.mp hb))
            have mB : ∀ b ∈ B, Mut H b := fun b hb => a.dom b (ow_true.mpr ⟨_, inA b hb⟩)
            have onB : ∀ b ∈ B, ow (ext ω [p]) b = true := fun b hb => ext_ow.mpr (add_true.mpr (.inl (ow_true.mpr ⟨_, inA b hb⟩)))
            have onp : ow (ext ω [p]) p = true := ext_ow.mpr (add_true.mpr (.inr List.mem_cons_self))
            refine hh (.ref p) _ (ext ω [p]) (p :: B) a' sn x' ⟨List.nodup_cons.mpr ⟨fun hb => (mB p hb).no hp, pm.nodup_iff.mpr (List.nodup_cons.mp nd).2⟩, fun b hb => ?_⟩ ?_
            · rcases List.mem_cons.mp hb with e | e
              · subst e
                exact ⟨.lst upd_same, .inl ⟨hp, by unfold ext; rw [if_pos List.mem_cons_self]⟩⟩
              · exact ⟨(mB b e).mono sn, .inr ⟨i, List.mem_singleton.mpr rfl, inA b e⟩⟩
            · show Rp [] _ _ _ _ (g.S.own i) _
              rw [ho]
              exact .lst upd_same onp (RpA.mono sn (fun x hx => add_new fr x (ext_ow.mp hx)) onB hr')
        · exact hh.elim
      · exact hh.elim
    · cases h
theorem flQ {y : E} {env : Ev} {d : D} (hd : ev g.S (.fl y) env = .ok d) : flatD d = true := by
  rw [ev] at hd
  cases hy : ev g.S y env with
  | no => rw [hy] at hd; cases hd
  | exc z => rw [hy] at hd; cases hd
  | ok w =>
    rw [hy] at hd
    have hd : evFl w = .ok d := hd
    unfold evFl at hd
    split at hd
    · cases hd; assumption
    · cases hd
theorem rpS_cast : ∀ {qs : List Q1} {own : Own} {env : Ev} {H : Hp} {O : Addr → Bool} {vs : List V} {ds : List D} {A : List Addr}, okQs g.S qs own = true → evQs g.S qs env = .ok ds → RpS [] H O vs ds (tyQs g.S qs) A → RpS [] H O vs ds own A
  | [], own, env, H, O, vs, ds, A, _, he, r => by
    cases he
    cases r
    exact .nil
  | q :: qs, own, env, H, O, vs, ds, A, h, he, r => by
    unfold okQs at h
    split at h
    · rename_i o p
      simp only [Bool.and_eq_true, Bool.or_eq_true, decide_eq_true_eq] at h
      unfold evQs at he
      cases h1 : evQ g.S q env with
      | no => rw [h1] at he; cases he
      | exc z => rw [h1] at he; cases he
      | ok d =>
        rw [h1] at he
        have he : (evQs g.S qs env >>= fun ds => (.ok (d :: ds) : R (List D))) = .ok ds := he
        cases h2 : evQs g.S qs env with
        | no => rw [h2] at he; cases he
        | exc z => rw [h2] at he; cases he
        | ok es =>
          rw [h2] at he
          cases he
          have r : RpS [] H O vs (d :: es) (.tc (tyQ g.S q) (tyQs g.S qs)) A := r
          cases r with
          | @cons v vs _ _ _ _ A B r1 r2 =>
            refine .cons ?_ (rpS_cast h.2 h2 r2)
            rcases h.1 with e | e
            · rw [← e]; exact r1
            · obtain ⟨y, rfl⟩ := isFlQ_of e
              have hA : A = [] := nown_rp (o := .sh) rfl r1
              subst hA
              exact .flat (flQ h1) r1.dp
    · cases h
theorem sQs : ∀ {qs : List Q1} {es : List Expr}, GoodS g c X → mQs g qs es = true → (mvs qs).Nodup → (∀ j ∈ mvs qs, j < 1000000) → PA X es (tQs c (evQs g.S qs) (tyQs g.S qs) (mvs qs))
  | [], es, G, h, _, _ => by
    unfold mQs at h
    cases es with
    | nil => exact PA.imp pa_nil fun σ H Q ⟨env, ω, a, hh⟩ => hh [] H ω [] a (Same.refl _) .refl ⟨List.nodup_nil, fun _ z => (nomatch z)⟩ .nil
    | cons _ _ => cases h
  | q :: r, es, G, h, nd, lt => by
    unfold mQs at h
    split at h
    · simp only [Bool.and_eq_true] at h
      have em : mvs (q :: r) = mvQ q ++ mvs r := by cases q <;> rfl
      rw [em] at nd lt
      obtain ⟨nd1, nd2, nd3⟩ := List.nodup_append.mp nd
      refine PA.imp (pa_cons (sQ G h.1.1) (sQs G h.2 nd2 fun j hj => lt j (List.mem_append_right _ hj)) (star_of h.1.2)) fun σ H Q ⟨env, ω, a, hh⟩ => ⟨env, ω, a, ?_⟩
      unfold evQs at hh
      cases h1 : evQ g.S q env with
      | no => rw [h1] at hh; exact hh
      | exc z => rw [h1] at hh; exact hh
      | ok d =>
        rw [h1] at hh
        intro v H1 ω1 A a1 s1 x1 f1 r1
        refine ⟨env, ω1, a1, ?_⟩
        cases h2 : evQs g.S r env with
        | no => rw [h2] at hh; exact hh
        | exc z => rw [h2] at hh; exact fun H' s' => hh H' (s1.trans s')
        | ok ds =>
          rw [h2] at hh
          intro vs H2 ω2 B a2 s2 x2 f2 r2
          have key : ∀ b ∈ A, ω1 b = some mk ∨ ∃ j ∈ mvQ q, ω1 b = some (j + 1) := fun b hb => by
            rcases (f1.2 b hb).2 with ⟨_, e⟩ | ⟨j, hj, e⟩
            · exact .inl e
            · rcases x1.is b with z | ⟨z, _⟩
              · exact .inr ⟨j, hj, z.trans e⟩
              · exact ((a.dom b (ow_true.mpr ⟨_, e⟩)).no z).elim
          have keep : ∀ b ∈ A, ω2 b = ω1 b := fun b hb => by
            rcases x2.is b with z | ⟨z, _⟩
            · exact z
            · exact ((f1.2 b hb).1.no z).elim
          refine hh (v :: vs) H2 ω2 (A ++ B) a2 (s1.trans s2) (x1.trans s1 x2) ⟨List.nodup_append.mpr ⟨f1.1, f2.1, fun b hb b' hb' e => ?_⟩, fun b hb => ?_⟩ (.cons ?_ r2)
          · subst e
            rcases (f2.2 b hb').2 with ⟨e, _⟩ | ⟨j, hj, e⟩
            · exact ((f1.2 b hb).1.no e).elim
            · rcases key b hb with z | ⟨i, hi, z⟩
              · rw [e] at z
                have z := Option.some.inj z
                have := lt j (List.mem_append_right _ hj)
                unfold mk at z
                omega
              · rw [e] at z
                have z := Option.some.inj z
                have z : i = j := by omega
                subst z
                exact nd3 i hi i hj rfl
          · rcases List.mem_append.mp hb with hb | hb
            · obtain ⟨e, w⟩ := f1.2 b hb
              refine ⟨e.mono s2, ?_⟩
              rw [em]
              rcases w with ⟨w1, w2⟩ | ⟨j, hj, w⟩
              · exact .inl ⟨w1, (keep b hb).trans w2⟩
              · exact .inr ⟨j, List.mem_append_left _ hj, w⟩
            · obtain ⟨e, w⟩ := f2.2 b hb
              refine ⟨e, ?_⟩
              rw [em]
              rcases w with ⟨w1, w2⟩ | ⟨j, hj, w⟩
              · exact .inl ⟨s1.free w1, w2⟩
              · rcases x1.is b with z | ⟨z1, z2⟩
                · exact .inr ⟨j, List.mem_append_right _ hj, z.symm.trans w⟩
                · rw [w] at z2
                  have z2 := Option.some.inj z2
                  have := lt j (List.mem_append_right _ hj)
                  unfold mk at z2
                  omega
          · refine Rp.mono s2 (fun b hb => ?_) (fun b hb => ?_) r1
            · obtain ⟨n, e⟩ := ow_true.mp hb
              rcases x2.is b with z | ⟨z, _⟩
              · exact .inl (ow_true.mpr ⟨n, by rw [← z]; exact e⟩)
              · exact .inr z
            · rw [ow_true]
              rcases key b hb with z | ⟨j, _, z⟩
              · exact ⟨_, (keep b hb).trans z⟩
              · exact ⟨_, (keep b hb).trans z⟩
    · cases h
theorem Fr.owned {ω : Om} {H : Hp} {ω' : Om} {H' : Hp} {ms : List Nat} {A : List Addr} (hd : Dom H (ow ω)) (x : Ext H ω ω') (f : Fr ω H ω' H' ms A) : ∀ a ∈ A, ∃ i, ω' a = some (i + 1) := fun a ha => by
  rcases (f.2 a ha).2 with ⟨_, e⟩ | ⟨j, _, e⟩
  · exact ⟨1000000, e⟩
  · rcases x.is a with z | ⟨z, _⟩
    · exact ⟨j, z.trans e⟩
    · exact ((hd a (ow_true.mpr ⟨_, e⟩)).no z).elim
theorem sR {r : RT} {e : Option Expr} {pos : Pos} (G : GoodS g c X) (h : mR g own r e = true) : PS X (.Return e pos) (tS c own fun env => evR g.S r env >>= fun d => .ok (.rt d)) := by
  cases r with
  | nl =>
    dsimp only [mR] at h
    cases e with
    | none =>
      refine PS.imp ps_retN fun K σ H ⟨env, ω, a, hh⟩ => ?_
      exact hh .non H ⟨ω, [], .refl, List.nodup_nil, (fun _ z => (nomatch z)), a.dom, .flat rfl .non⟩
    | some _ => cases h
  | one q =>
    dsimp only [mR] at h
    split at h
    · simp only [Bool.and_eq_true, Bool.or_eq_true, decide_eq_true_eq] at h
      refine PS.imp (ps_ret (sQ G h.1)) fun K σ H ⟨env, ω, a, hh⟩ => ⟨env, ω, a, ?_⟩
      have hh : AnsS c own H ω (evQ g.S q env >>= fun d => .ok (.rt d)) K := hh
      refine AnsS.val hh fun d hd hk v H' ω' A a' s' x' f' r' => ?_
      refine hk v H' ⟨ω', A, x'.eff a.dom s', f'.1, f'.owned a.dom x', a'.dom, ?_⟩
      rcases h.2 with e | e
      · rw [← e]; exact r'
      · obtain ⟨y, rfl⟩ := isFlQ_of e
        have hd : ev g.S (.fl y) env = .ok d := hd
        rw [ev] at hd
        have fl : flatD d = true := by
          cases hy : ev g.S y env with
          | no => rw [hy] at hd; cases hd
          | exc z => rw [hy] at hd; cases hd
          | ok w =>
            rw [hy] at hd
            have hd : evFl w = .ok d := hd
            unfold evFl at hd
            split at hd
            · cases hd; assumption
            · cases hd
        have k := r'.dp
        have hA : A = [] := nown_rp (o := .sh) rfl r'
        subst hA
        exact .flat fl k
    · cases h
  | tp qs =>
    dsimp only [mR] at h
    split at h
    · simp only [Bool.and_eq_true, decide_eq_true_eq, List.all_eq_true] at h
      obtain ⟨⟨⟨⟨h1, h2⟩, h3⟩, h4⟩, h5⟩ := h
      refine PS.imp (ps_ret (L2.pe_tup (sQs G h1 h4 h5))) fun K σ H ⟨env, ω, a, hh⟩ => ⟨env, ω, a, ?_⟩
      have hh : AnsS c own H ω ((evQs g.S qs env >>= evTup) >>= fun d => .ok (.rt d)) K := hh
      rw [R.assoc] at hh
      refine AnsS.val hh fun ds hd hk vs H' ω' A a' s' x' f' r' => ?_
      unfold evTup at hk
      split at hk
      · rename_i hz
        refine ⟨by rw [RpS.length r', ← sz]; exact hz, fun p hp => ?_⟩
        have sn : Same H' (upd H' p (.tup vs)) := same_new hp
        refine hk (.ref p) _ ⟨ω', A, x'.eff a.dom (s'.trans sn), f'.1, f'.owned a.dom x', a'.dom.mono sn, ?_⟩
        have r2 := RpS.mono sn (fun b hb => .inl hb) (fun b hb => (r'.owned b hb).1) (rpS_cast h2 hd r')
        match own, h3 with
        | .tc o r', _ => exact .tup upd_same r2
      · exact hk.elim
    · cases h
end
end Pv

namespace Pv
open PySem PySem.Spec PyProof.Rows L2

theorem rd_inj {H : Hp} {a : Addr} {xs ys : List V} (h : Rd H a (.lst xs)) (g : Rd H a (.lst ys)) : xs = ys := by
  rcases h with h | ⟨o, h⟩ <;> rcases g with g | ⟨o', g⟩ <;> (rw [h] at g; cases g) <;> rfl
theorem rdT_inj {H : Hp} {a : Addr} {xs ys : List V} (h : Rd H a (.tup xs)) (g : Rd H a (.tup ys)) : xs = ys := by
  rcases h with h | ⟨o, h⟩ <;> rcases g with g | ⟨o', g⟩ <;> (rw [h] at g; cases g) <;> rfl
theorem rd_no {H : Hp} {a : Addr} {xs ys : List V} (h : Rd H a (.lst xs)) (g : Rd H a (.tup ys)) : False := by
  rcases h with h | ⟨o, h⟩ <;> rcases g with g | ⟨o', g⟩ <;> (rw [h] at g; cases g)
theorem Reach.uniq {H : Hp} : ∀ {v w w' : V} {ks : List Int}, Reach H v ks w → Reach H v ks w' → w = w'
  | _, _, _, _, .nil, .nil => rfl
  | _, _, _, _, .cons h1 h2 h3, .cons g1 g2 g3 => by
    have e : _ = _ := (show _ = _ from by
      rcases h1 with h1 | h1 <;> rcases g1 with g1 | g1
      · exact rd_inj (rd_of h1) (rd_of g1)
      · exact (rd_no (rd_of h1) (rdT_of g1)).elim
      · exact (rd_no (rd_of g1) (rdT_of h1)).elim
      · exact rdT_inj (rdT_of h1) (rdT_of g1))
    rw [e] at h2
    rw [h2] at g2
    have e2 := Option.some.inj g2
    rw [e2] at h3
    exact Reach.uniq h3 g3
theorem updD_exc {f : List D → R (List D)} (hf : ∀ ds z, f ds ≠ .exc z) : ∀ {ks : List Int} {o : Own} {d : D} {z : Nat}, updD f ks o d ≠ .exc z
  | [], o, d, z => fun h => by
    unfold updD at h
    split at h
    · cases hd : f _ with
      | no => rw [hd] at h; cases h
      | exc w => exact hf _ _ hd
      | ok es => rw [hd] at h; cases h
    · cases h
  | k :: ks, o, d, z => fun h => by
    unfold updD at h
    split at h
    · split at h
      · split at h
        · cases hd : updD f ks _ _ with
          | no => rw [hd] at h; cases h
          | exc w => exact updD_exc hf hd
          | ok es => rw [hd] at h; cases h
        · cases h
      · cases h
    · split at h
      · split at h
        · cases hd : updD f ks _ _ with
          | no => rw [hd] at h; cases h
          | exc w => exact updD_exc hf hd
          | ok es => rw [hd] at h; cases h
        · cases h
      · cases h
    · cases h
theorem noX_ok {r : R D} {d : D} (h : noX r = .ok d) : r = .ok d := by
  cases r <;> first | exact h | cases h
theorem noX_exc {r : R D} {z : Nat} : noX r ≠ .exc z := by
  cases r <;> exact fun h => nomatch h
section
variable {g : Cfg} {c : Ctx} {X : Cx} {own : Own}
/-- a written slot: the list reached, and what its change brings about at any later heap -/
theorem mut_go {H : Hp} {ω : Om} {env : Ev} {σ : L2.St} {i : Nat} {ks : List Int} {f : List D → R (List D)} {K : Ends} (G : GoodS g c X) (hf : ∀ ds z, f ds ≠ .exc z) (a : AtS c H ω env σ) (h : AnsS c own H ω (mutE g.S i ks f env) K) :
    ∃ v0 l, σ[i]? = some (some v0) ∧ Reach H v0 ks (.ref l) ∧ ∀ H1, Same H H1 → ∃ xs ds es, H1 l = some (.lst xs) ∧ DpAll [] (mask H1 (ow ω)) xs ds ∧ f ds = .ok es ∧ ∀ ys, DpAll [] (mask H1 (ow ω)) ys es → K.nx σ (upd H1 l (.lst ys)) := by
  unfold mutE at h
  split at h
  · rename_i d hl
    cases hu : updD f ks (g.S.own i) d with
    | no => rw [hu] at h; exact h.elim
    | exc z => exact (updD_exc hf hu).elim
    | ok d' =>
      rw [hu] at h
      have hu' : updD f ks (c.Γ i) d = .ok d' := by rw [G.E.own]; exact hu
      obtain ⟨v0, l, xs, ds, es, hv, re, _⟩ := ats_upd G.fzΓ a hl hu'
      refine ⟨v0, l, hv, re, fun H1 s1 => ?_⟩
      obtain ⟨v1, l1, xs1, ds1, es1, hv1, re1, hl1, k1, f1, u1⟩ := ats_upd G.fzΓ (a.later s1) hl hu'
      rw [hv] at hv1
      cases hv1
      have e : l = l1 := V.ref.inj (Reach.uniq (re.mono s1) re1)
      subst e
      refine ⟨xs1, ds1, es1, hl1, k1, f1, fun ys hy => ?_⟩
      obtain ⟨a', e'⟩ := u1 ys hy
      exact h σ _ ω a' ((Eff.same s1).trans e')
  · exact h.elim
theorem base_of {b : Expr} {m : Str} {i : Nat} {p : Pa} (h : mPa g i p b = true) : attributeBase b m X.env (eval b X.env) = eval b X.env := by
  cases p with
  | nil =>
    unfold mPa at h
    split at h
    · simp only [Bool.and_eq_true] at h
      unfold attributeBase
      simp only [h.2, Bool.true_or, if_true]
    · cases h
  | snoc r k =>
    unfold mPa at h
    split at h
    · rfl
    · cases h
theorem few_of {v : Expr} {cp : Pos} {env : Env} (h : nstar v = true) : ((backTo cp (starEach [v] env)).all (fun x => !x.1) && (backToKw cp (keywordEach [] env)).all (fun x => x.1.isSome) && decide (([v] : List Expr).length + ([] : List Keyword).length + (if ([] : List Keyword).isEmpty then 0 else 1) < 30)) = true := by
  rw [star_of h]
  rfl
theorem few_of2 {u v : Expr} {cp : Pos} {env : Env} (h : nstar u = true) (h' : nstar v = true) : ((backTo cp (starEach [u, v] env)).all (fun x => !x.1) && (backToKw cp (keywordEach [] env)).all (fun x => x.1.isSome) && decide (([u, v] : List Expr).length + ([] : List Keyword).length + (if ([] : List Keyword).isEmpty then 0 else 1) < 30)) = true := by
  rw [star_of h, star_of h']
  rfl
theorem pa_at {σ : L2.St} {H : Hp} {Q : VK} {env : Ev} {O : Addr → Bool} {i : Nat} {p : Pa} {ks : List Int} {v0 : V} {l : Addr} (a : At c H O env σ) (hk : evPa g.S p env = .ok ks) (hv : σ[i]? = some (some v0)) (re : Reach H v0 ks (.ref l)) (q : ∀ H', Same H H' → Q (.ref l) H') : tPa c i (evPa g.S p) σ H Q :=
  ⟨env, O, v0, a, hv, by rw [hk]; exact ⟨.ref l, re, q⟩⟩
theorem te_at {f : Ev → R D} {o : Own} {σ : L2.St} {H : Hp} {Q : VK} {env : Ev} {ω : Om} {d : D} (hf : Pv.fz o = true) (a : AtS c H ω env σ) (hd : f env = .ok d) (q : ∀ v H', Same H H' → Dp [] (mask H' (ow ω)) v d → Q v H') : tE c f o σ H Q :=
  ⟨env, ow ω, a.at, by
    rw [hd]
    intro v H' A s fr r
    exact q v H' s (r.freeze (a.dom.mono s) (fun b z => add_true.mpr (.inl z)) (fr.disj a.dom) hf)⟩
theorem te_int {f : Ev → R D} {o : Own} {σ : L2.St} {H : Hp} {Q : VK} {env : Ev} {ω : Om} {n : Int} (a : AtS c H ω env σ) (hd : f env = .ok (.int n)) (q : ∀ H', Same H H' → Q (.int n) H') : tE c f o σ H Q :=
  ⟨env, ow ω, a.at, by
    rw [hd]
    intro v H' A s fr r
    have := dpInt r.dp
    subst this
    exact q H' s⟩
theorem te_dp {f : Ev → R D} {o : Own} {σ : L2.St} {H : Hp} {Q : VK} {env : Ev} {ω : Om} {d : D} (a : AtS c H ω env σ) (hd : f env = .ok d) (q : ∀ v H', Same H H' → Dp [] H' v d → Q v H') : tE c f o σ H Q :=
  ⟨env, ow ω, a.at, by
    rw [hd]
    intro v H' A s fr r
    exact q v H' s r.dp⟩
theorem fApp_exc {d : D} : ∀ ds z, fApp d ds ≠ .exc z := fun ds z h => by
  unfold fApp at h
  split at h <;> cases h
theorem fIns_exc {n : Int} {d : D} : ∀ ds z, fIns n d ds ≠ .exc z := fun ds z h => by
  unfold fIns at h
  split at h <;> cases h
theorem fPop_exc : ∀ ds z, fPop ds ≠ .exc z := fun ds z h => by
  unfold fPop at h
  split at h <;> cases h
theorem fSet_exc {n : Int} {d : D} : ∀ ds z, fSet n d ds ≠ .exc z := fun ds z h => by
  unfold fSet at h
  split at h <;> cases h
theorem evBin_exc {op : BOp} {o : Own} {x y : D} {z : Nat} : evBin op o x y ≠ .exc z := by
  intro h
  unfold evBin at h
  split at h <;> first | cases h | (split at h <;> cases h)
theorem evAug_exc {op : BOp} {x y : D} {z : Nat} : evAug op x y ≠ .exc z := by
  intro h
  unfold evAug at h
  split at h <;> first | cases h | (split at h <;> first | exact evBin_exc h | cases h)
theorem fAug_exc {n : Int} {op : BOp} {d : D} : ∀ ds z, fAug n op d ds ≠ .exc z := fun ds z h => by
  unfold fAug at h
  split at h
  · split at h
    · cases hz : evAug op _ d with
      | no => rw [hz] at h; cases h
      | exc w => exact evAug_exc hz
      | ok w => rw [hz] at h; cases h
    · cases h
  · cases h
theorem sApp {i : Nat} {p : Pa} {x : E} {b v : Expr} {ap cp pos : Pos} (G : GoodS g c X) (hl : (ap.endLine == cp.line) = true) (hp : mPa g i p b = true) (hx : mE g x v = true) (hs : nstar v = true) (hf : Pv.fz (ty g.S x) = true) :
    PS X (.Expr (.Call (.Attribute b "append" ap) [v] [] cp) pos) (tS c own (evS g.S (.app i p x))) := by
  refine PS.imp (ps_expr (pe_bm PySem.F.plainAttrs_list PySem.F.slot_list_append PySem.F.type_list_append mt_append (sPa p G.E hp) (pa_cons (sE x G.E hx) pa_nil (star_of hs)) (base_of hp) (few_of hs) hl (star_of hs) rfl) rfl) fun K σ H ⟨env, ω, a, h⟩ => ?_
  rw [evS] at h
  cases hk : evPa g.S p env with
  | no => rw [hk] at h; exact h.elim
  | exc z => exact (evPa_exc hk).elim
  | ok ks =>
    rw [hk] at h
    have h : AnsS c own H ω (noX (ev g.S x env) >>= fun d => mutE g.S i ks (fApp d) env) K := h
    cases hd : noX (ev g.S x env) with
    | no => rw [hd] at h; exact h.elim
    | exc z => exact (noX_exc hd).elim
    | ok d =>
      rw [hd] at h
      obtain ⟨v0, l, hv, re, go⟩ := mut_go G fApp_exc a h
      refine pa_at a.at hk hv re fun H1 s1 => ?_
      obtain ⟨xs, _, _, hxs, _⟩ := go H1 s1
      refine ⟨.inl ⟨rfl, xs, SqL.of hxs⟩, te_at hf (a.later s1) (noX_ok hd) fun y H2 s2 ky => ?_⟩
      obtain ⟨xs, ds, es, hxs, kx, hfe, fin⟩ := go H2 (s1.trans s2)
      unfold fApp at hfe
      split at hfe
      · rename_i hz
        cases hfe
        exact ⟨l, xs, y, rfl, rfl, hxs, by rw [DpAll.length kx, ← sz]; exact hz, fin _ (DpAll.append kx (.cons ky .nil))⟩
      · cases hfe
theorem fExt_exc {d : D} : ∀ ds z, fExt d ds ≠ .exc z := fun ds z h => by
  unfold fExt at h
  split at h
  · split at h <;> cases h
  · cases h
def rExt : V → List V → Hp → VK → Prop := fun x vs H Q => ∃ l b xs zs, x = .ref l ∧ vs = [.ref b] ∧ H l = some (.lst xs) ∧ SqL [] H b zs ∧ xs.length + zs.length ≤ sizeLine ∧ Q .non (upd H l (.lst (xs ++ zs)))
theorem mt_ext : MtM X "list.extend" rExt := by
  intro pins s σ H x vs v us Q I rx rv h
  obtain ⟨l, b, xs, zs, rfl, rfl, hH, hB, hz, q⟩ := h
  cases rx
  obtain ⟨u, rfl, ru⟩ := rv.one
  cases ru
  obtain ⟨z, its, n, r, hl, e⟩ := I.lstM hH
  rcases hB with hB | ⟨o, its2, n2, hk, _⟩
  · obtain ⟨z2, its2, n2, r2, e2⟩ := hB.ok I.hok
    have hl2 := r2.length
    have hsz : its.toArray.size + its2.toArray.size ≤ sizeLine := by rw [List.size_toArray, List.size_toArray]; omega
    have hlong : ¬ (!its.toArray.isEmpty && Builtin.List.listTooLong (its.toArray.size + its2.toArray.size)) = true := by
      rw [notLongL hsz, Bool.and_false]
      exact Bool.false_ne_true
    refine call_meets F.slot_list_extend ⟨_, e, rfl⟩ F.entry_list_extend (F.args_list_extend_2 _ _)
      (AutoSeq1.list_extend_list_list_0 l its.toArray n b its2.toArray n2 hlong (by rw [List.size_toArray]; omega) (by omega)) ⟨e, e2, ?_⟩
    refine ⟨.non, _, I.lset (its' := its ++ its2) hH e (by simp) (r.append r2) ?_, rfl, q⟩
    rw [List.length_append]
    omega
  · cases hk
theorem sExt {i : Nat} {p : Pa} {x : E} {b v : Expr} {ap cp pos : Pos} (G : GoodS g c X) (hl : (ap.endLine == cp.line) = true) (hp : mPa g i p b = true) (hx : mE g x v = true) (hs : nstar v = true) (hf : Pv.fz (ty g.S x) = true) :
    PS X (.Expr (.Call (.Attribute b "extend" ap) [v] [] cp) pos) (tS c own (evS g.S (.ext i p x))) := by
  refine PS.imp (ps_expr (pe_bm PySem.F.plainAttrs_list PySem.F.slot_list_extend PySem.F.type_list_extend mt_ext (sPa p G.E hp) (pa_cons (sE x G.E hx) pa_nil (star_of hs)) (base_of hp) (few_of hs) hl (star_of hs) rfl) rfl) fun K σ H ⟨env, ω, a, h⟩ => ?_
  rw [evS] at h
  cases hk : evPa g.S p env with
  | no => rw [hk] at h; exact h.elim
  | exc z => exact (evPa_exc hk).elim
  | ok ks =>
    rw [hk] at h
    have h : AnsS c own H ω (noX (ev g.S x env) >>= fun d => mutE g.S i ks (fExt d) env) K := h
    cases hd : noX (ev g.S x env) with
    | no => rw [hd] at h; exact h.elim
    | exc z => exact (noX_exc hd).elim
    | ok d =>
      rw [hd] at h
      obtain ⟨v0, l, hv, re, go⟩ := mut_go G fExt_exc a h
      refine pa_at a.at hk hv re fun H1 s1 => ?_
      obtain ⟨xs, _, _, hxs, _⟩ := go H1 s1
      refine ⟨.inl ⟨rfl, xs, SqL.of hxs⟩, te_at hf (a.later s1) (noX_ok hd) fun y H2 s2 ky => ?_⟩
      obtain ⟨xs, ds, es, hxs, kx, hfe, fin⟩ := go H2 (s1.trans s2)
      unfold fExt at hfe
      split at hfe
      · rename_i es'
        split at hfe
        · rename_i hz
          cases hfe
          cases ky with
          | lst hb kb => exact ⟨l, _, xs, _, rfl, rfl, hxs, Same.seq mask_le hb, by rw [DpAll.length kx, DpAll.length kb, ← sz]; exact hz, fin _ (DpAll.append kx kb)⟩
        · cases hfe
      · cases hfe
theorem sIns {i : Nat} {p : Pa} {k x : E} {b u v : Expr} {ap cp pos : Pos} (G : GoodS g c X) (hl : (ap.endLine == cp.line) = true) (hp : mPa g i p b = true) (hk' : mE g k u = true) (hx : mE g x v = true) (hs' : nstar u = true) (hs : nstar v = true) (hf : Pv.fz (ty g.S x) = true) :
    PS X (.Expr (.Call (.Attribute b "insert" ap) [u, v] [] cp) pos) (tS c own (evS g.S (.ins i p k x))) := by
  refine PS.imp (ps_expr (pe_bm PySem.F.plainAttrs_list PySem.F.slot_list_insert PySem.F.type_list_insert mt_insert (sPa p G.E hp) (pa_cons (sE k G.E hk') (pa_cons (sE x G.E hx) pa_nil (star_of hs)) (star_of hs')) (base_of hp) (few_of2 hs' hs) hl (star_of hs') (back_of (by rw [List.all_cons, hs]; rfl))) rfl) fun K σ H ⟨env, ω, a, h⟩ => ?_
  rw [evS] at h
  cases hk : evPa g.S p env with
  | no => rw [hk] at h; exact h.elim
  | exc z => exact (evPa_exc hk).elim
  | ok ks =>
    rw [hk] at h
    have h : AnsS c own H ω (toInt (ev g.S k env) >>= fun n => noX (ev g.S x env) >>= fun d => mutE g.S i ks (fIns n d) env) K := h
    cases hn : toInt (ev g.S k env) with
    | no => rw [hn] at h; exact h.elim
    | exc z => exact (toInt_exc hn).elim
    | ok n =>
      rw [hn] at h
      have h : AnsS c own H ω (noX (ev g.S x env) >>= fun d => mutE g.S i ks (fIns n d) env) K := h
      cases hd : noX (ev g.S x env) with
      | no => rw [hd] at h; exact h.elim
      | exc z => exact (noX_exc hd).elim
      | ok d =>
        rw [hd] at h
        obtain ⟨v0, l, hv, re, go⟩ := mut_go G fIns_exc a h
        refine pa_at a.at hk hv re fun H1 s1 => ?_
        obtain ⟨xs, _, _, hxs, _⟩ := go H1 s1
        refine ⟨.inl ⟨rfl, xs, SqL.of hxs⟩, te_int (a.later s1) (toInt_ok hn) fun H2 s2 => te_at hf (a.later (s1.trans s2)) (noX_ok hd) fun y H3 s3 ky => ?_⟩
        obtain ⟨xs, ds, es, hxs, kx, hfe, fin⟩ := go H3 ((s1.trans s2).trans s3)
        unfold fIns at hfe
        split at hfe
        · rename_i hz
          cases hfe
          exact ⟨l, xs, n, y, rfl, rfl, hxs, by rw [DpAll.length kx, ← sz]; exact hz.1, hz.2.1, by omega, fin _ (DpAll.append (DpAll.append (DpAll.take _ kx) (.cons ky .nil)) (DpAll.drop _ kx))⟩
        · cases hfe
theorem DpAll.dropLast {K : PySem.W.Frag} {H : Hp} {ds : List D} {vs : List V} (h : DpAll K H vs ds) : DpAll K H vs.dropLast ds.dropLast := by
  rw [List.dropLast_eq_take, List.dropLast_eq_take, DpAll.length h]
  exact DpAll.take _ h
theorem sPop {i : Nat} {p : Pa} {b : Expr} {ap cp pos : Pos} (G : GoodS g c X) (hl : (ap.endLine == cp.line) = true) (hp : mPa g i p b = true) :
    PS X (.Expr (.Call (.Attribute b "pop" ap) [] [] cp) pos) (tS c own (evS g.S (.pop i p))) := by
  refine PS.imp (ps_expr (pe_bm0 PySem.F.plainAttrs_list PySem.F.slot_list_pop PySem.F.type_list_pop mt_pop (sPa p G.E hp) (base_of hp) hl) rfl) fun K σ H ⟨env, ω, a, h⟩ => ?_
  rw [evS] at h
  cases hk : evPa g.S p env with
  | no => rw [hk] at h; exact h.elim
  | exc z => exact (evPa_exc hk).elim
  | ok ks =>
    rw [hk] at h
    obtain ⟨v0, l, hv, re, go⟩ := mut_go G fPop_exc a h
    refine pa_at a.at hk hv re fun H1 s1 => ?_
    obtain ⟨xs, ds, es, hxs, kx, hfe, fin⟩ := go H1 s1
    refine ⟨.inl ⟨rfl, xs, SqL.of hxs⟩, ?_⟩
    unfold fPop at hfe
    split at hfe
    · cases hfe
    · rename_i hz
      cases hfe
      have hlen := DpAll.length kx
      have hlt : xs.length - 1 < xs.length := by omega
      exact ⟨l, xs, xs[xs.length - 1], rfl, rfl, hxs, List.getElem?_eq_getElem hlt, fin _ (DpAll.dropLast kx)⟩
theorem asg_sub {o i : Expr} {pos : Pos} {env : Env} (h : nslice i = true) : ∀ v, assign (.Subscript o i pos) env v = (do
      let ov ← holding [v] (eval o env)
      let iv ← holding [v, ov] (eval i env)
      standAt pos
      holding [v, ov, iv] (setItem ov iv v)
      release [v, ov, iv] []) := by
  intro v
  cases i <;> first | rfl | cases h
theorem DpAll.set {K : PySem.W.Frag} {H : Hp} : ∀ {ds : List D} {vs : List V} {d : D} {v : V} (j : Nat), DpAll K H vs ds → Dp K H v d → DpAll K H (vs.set j v) (ds.set j d)
  | [], _, _, _, _, h, _ => by cases h; exact .nil
  | _ :: _, _, _, _, 0, h, k => by
    cases h with
    | cons h1 h2 => exact .cons k h2
  | _ :: _, _, _, _, j + 1, h, k => by
    cases h with
    | cons h1 h2 => exact .cons h1 (DpAll.set j h2 k)
theorem sSt {i : Nat} {p : Pa} {k x : E} {b u v : Expr} {sp pos : Pos} (G : GoodS g c X) (hp : mPa g i p b = true) (hk' : mE g k u = true) (hx : mE g x v = true) (hf : Pv.fz (ty g.S x) = true) (hc : isComp v = false) (hs : nslice u = true) :
    PS X (.Assign [.Subscript b u sp] v pos) (tS c own (evS g.S (.st i p k x))) := by
  refine PS.imp (ps_asg (sE x G.E hx) (pg_sub (sPa p G.E hp) (sE k G.E hk') set_list (asg_sub hs)) (swaps_no (t := some (.Subscript b u sp)) (l := pos.line) (env := X.env) hc) rfl rfl) fun K σ H ⟨env, ω, a, h⟩ => ?_
  rw [evS] at h
  refine tE_stT a h fun d y H1 hd a1 e1 t1 h => ?_
  have ky := t1.fz a1.dom hf
  cases hk : evPa g.S p env with
  | no => rw [hk] at h; exact h.elim
  | exc z => exact (evPa_exc hk).elim
  | ok ks =>
    rw [hk] at h
    have h : AnsS c own H1 ω (toInt (ev g.S k env) >>= fun n => mutE g.S i ks (fSet n d) env) K := h
    cases hn : toInt (ev g.S k env) with
    | no => rw [hn] at h; exact h.elim
    | exc z => exact (toInt_exc hn).elim
    | ok n =>
      rw [hn] at h
      obtain ⟨v0, l, hv, re, go⟩ := mut_go G fSet_exc a1 h
      refine pa_at a1.at hk hv re fun H2 s2 => te_int (a1.later s2) (toInt_ok hn) fun H3 s3 => ?_
      have s23 := s2.trans s3
      obtain ⟨xs, ds, es, hxs, kx, hfe, fin⟩ := go H3 s23
      unfold fSet at hfe
      split at hfe
      · rename_i j hj
        cases hfe
        exact ⟨l, xs, n, j, rfl, rfl, hxs, by rw [DpAll.length kx]; exact hj, fin _ (DpAll.set j kx (dp_mono (mask_mono s23 fun _ z => .inl z) _ _ ky))⟩
      · cases hfe
/-! op= -/
def rAug (op : BOp) : TIp := fun x y H Q => ∃ d e z, Dp [] H x d ∧ Dp [] H y e ∧ evAug op d e = .ok z ∧ ∀ v, flatD z = true → Dp [] H v z → Q v H
theorem ipAug {op : BOp} : PIp X op.op (rAug op) := by
  intro pins s σ H x y v u Q I rx ry ⟨d, e, z, hx, hy, hz, q⟩
  have go : ∀ i j, d = .int i → e = .int j → x = .int i ∧ y = .int j := fun i j h1 h2 => by
    subst h1
    subst h2
    exact ⟨dpInt hx, dpInt hy⟩
  unfold evAug at hz
  split at hz
  · split at hz
    · obtain ⟨rfl, rfl⟩ := go _ _ rfl rfl
      cases hz
      exact iop_add pins s σ H _ _ v u Q I rx ry ⟨_, _, rfl, rfl, q _ rfl (.int _)⟩
    · cases hz
  · split at hz
    · obtain ⟨rfl, rfl⟩ := go _ _ rfl rfl
      cases hz
      exact iop_sub pins s σ H _ _ v u Q I rx ry ⟨_, _, rfl, rfl, q _ rfl (.int _)⟩
    · cases hz
  · split at hz
    · obtain ⟨rfl, rfl⟩ := go _ _ rfl rfl
      unfold evBin at hz
      dsimp only at hz
      split at hz
      · rename_i hm
        cases hz
        refine iop_mul pins s σ H _ _ v u Q I rx ry ⟨_, _, rfl, rfl, ?_, q _ rfl (.int _)⟩
        unfold mulOk at hm
        simp only [Bool.or_eq_true, Bool.and_eq_true, decide_eq_true_eq] at hm
        rcases hm with hm | hm
        · exact .inl (by omega)
        · exact .inr (by omega)
      · cases hz
    · cases hz
  · split at hz
    · obtain ⟨rfl, rfl⟩ := go _ _ rfl rfl
      unfold evBin at hz
      dsimp only at hz
      split at hz
      · rename_i hm
        cases hz
        exact iop_fdiv pins s σ H _ _ v u Q I rx ry ⟨_, _, rfl, rfl, hm, q _ rfl (.int _)⟩
      · cases hz
    · cases hz
  · split at hz
    · obtain ⟨rfl, rfl⟩ := go _ _ rfl rfl
      unfold evBin at hz
      dsimp only at hz
      split at hz
      · rename_i hm
        cases hz
        exact iop_mod pins s σ H _ _ v u Q I rx ry ⟨_, _, rfl, rfl, hm, q _ rfl (.int _)⟩
      · cases hz
    · cases hz
  · cases hz
theorem evBin_int {op : BOp} {i j : Int} {z : D} (hz : evBin op .sh (.int i) (.int j) = .ok z) : flatD z = true := by
  cases op <;> unfold evBin at hz <;> dsimp only at hz <;> (try split at hz) <;> cases hz <;> rfl
theorem evAug_flat {op : BOp} {d e z : D} (hz : evAug op d e = .ok z) : flatD z = true := by
  cases op <;> unfold evAug at hz <;> dsimp only at hz <;> (try split at hz) <;> first | exact evBin_int hz | cases hz
theorem sAug {i : Nat} {op : BOp} {x : E} {y : Str} {v : Expr} {py pos : Pos} (G : GoodS g c X) (hy : g.N[i]? = some y) (hl : locB g y = true) (hx : mE g x v = true) :
    PS X (.AugAssign (.Name y py) op.op v pos) (tS c own (evS g.S (.aug i op x))) := by
  obtain ⟨l1, l2⟩ := G.E.loc hl
  refine PS.imp (ps_aug (i := i) (by rw [G.E.N]; exact G.E.nd) (by rw [G.E.N]; exact hy) l1 (sE x G.E hx) ipAug l2) fun K σ H ⟨env, ω, a, h⟩ => ?_
  rw [evS] at h
  unfold evVar at h
  cases hli : lk env i with
  | none => rw [hli] at h; exact h.elim
  | some pr =>
    obtain ⟨d, b⟩ := pr
    rw [hli] at h
    have h : AnsS c own H ω (ev g.S x env >>= fun y => evAug op d y >>= fun z => .ok (.nx (put env i (some (z, true))))) K := h
    obtain ⟨v0, hv, q⟩ := a.er i d b hli
    have kd : Dp [] H v0 d := by
      cases b with
      | true => exact dp_mono mask_le _ _ q
      | false =>
        obtain ⟨A, _, _, r⟩ := q
        exact r.dp
    refine ⟨v0, hv, tE_stT a h fun e w H1 he a1 e1 t1 h => ?_⟩
    cases hz : evAug op d e with
    | no => rw [hz] at h; exact h.elim
    | exc z => exact (evAug_exc hz).elim
    | ok z =>
      rw [hz] at h
      have kd1 : Dp [] H1 v0 d := by
        obtain ⟨v1, hv1, q1⟩ := a1.er i d b hli
        rw [hv] at hv1
        cases hv1
        cases b with
        | true => exact dp_mono mask_le _ _ q1
        | false =>
          obtain ⟨A, _, _, r⟩ := q1
          exact r.dp
      exact ⟨d, e, z, kd1, t1.dp, hz, fun u fu ku => h _ H1 ω (a1.put (dp_flat fu ku)) .refl⟩
def rGet : R2 := fun o i H Q => ∃ p xs k v, o = .ref p ∧ i = .int k ∧ H p = some (.lst xs) ∧ atI xs k = some v ∧ Q v H
theorem pget : PGet X rGet := by
  rintro pins s σ H o i ov iv Q I ro ri ⟨p, xs, k, z, rfl, rfl, hp, he, q⟩
  cases ro
  obtain ⟨t, rfl⟩ := ri
  obtain ⟨its, r, pl, hz⟩ := I.list (SqL.of hp)
  obtain ⟨j, h1, h2, h3, h4, h5⟩ := atI_get he
  obtain ⟨w, ew, rw'⟩ := r.get h2
  have hl := r.length
  have hn := line63
  have fin : EP X pins σ Q w s := ⟨z, H, I, rw', q⟩
  by_cases h0 : 0 ≤ k
  · have hj : k.toNat = j := by
      rw [seqIndex_of h0 h5] at h1
      exact Option.some.inj h1
    exact wpAny_getItem_list pl.isList h0 (by omega) (by rw [hj]; simpa using ew) fin
  · have hj : (k + (its.toArray.size : Int)).toNat = j := by
      rw [seqIndex_neg (by omega) h4] at h1
      rw [List.size_toArray, ← hl]
      exact Option.some.inj h1
    exact wpAny_getItem_list_neg pl.isList (by omega) (by rw [List.size_toArray]; omega) (by omega) (by rw [hj]; simpa using ew) fin
theorem aug_sub {u : Expr} (h : nslice u = true) : ∀ ov iv new, augStore u ov iv new = (do holding [new, ov, iv] (setItem ov iv new); release [new, ov, iv] []; pure .next) := by
  intro ov iv new
  cases u <;> first | rfl | cases h
theorem sSau {i : Nat} {p : Pa} {k x : E} {op : BOp} {b u v : Expr} {sp pos : Pos} (G : GoodS g c X) (hp : mPa g i p b = true) (hk' : mE g k u = true) (hx : mE g x v = true) (hs : nslice u = true) :
    PS X (.AugAssign (.Subscript b u sp) op.op v pos) (tS c own (evS g.S (.sau i p k op x))) := by
  refine PS.imp (ps_augS (sPa p G.E hp) (sE k G.E hk') pget (sE x G.E hx) ipAug set_list (aug_sub hs)) fun K σ H ⟨env, ω, a, h⟩ => ?_
  rw [evS] at h
  cases hk : evPa g.S p env with
  | no => rw [hk] at h; exact h.elim
  | exc z => exact (evPa_exc hk).elim
  | ok ks =>
    rw [hk] at h
    have h : AnsS c own H ω (toInt (ev g.S k env) >>= fun n => noX (ev g.S x env) >>= fun d => mutE g.S i ks (fAug n op d) env) K := h
    cases hn : toInt (ev g.S k env) with
    | no => rw [hn] at h; exact h.elim
    | exc z => exact (toInt_exc hn).elim
    | ok n =>
      rw [hn] at h
      have h : AnsS c own H ω (noX (ev g.S x env) >>= fun d => mutE g.S i ks (fAug n op d) env) K := h
      cases hd : noX (ev g.S x env) with
      | no => rw [hd] at h; exact h.elim
      | exc z => exact (noX_exc hd).elim
      | ok d =>
        rw [hd] at h
        obtain ⟨v0, l, hv, re, go⟩ := mut_go G fAug_exc a h
        refine pa_at a.at hk hv re fun H1 s1 => te_int (a.later s1) (toInt_ok hn) fun H2 s2 => ?_
        have s12 := s1.trans s2
        obtain ⟨xs, ds, es, hxs, kx, hfe, _⟩ := go H2 s12
        unfold fAug at hfe
        split at hfe
        · rename_i j hj
          split at hfe
          · rename_i w hw
            obtain ⟨v1, hv1, k1⟩ := DpAll.get kx hw
            have hat : atI xs n = some v1 := by
              unfold atI
              rw [DpAll.length kx, hj]
              exact hv1
            refine ⟨l, xs, n, v1, rfl, rfl, hxs, hat, te_dp (a.later s12) (noX_ok hd) fun y H3 s3 ky => ?_⟩
            obtain ⟨xs3, ds3, es3, hxs3, kx3, hfe3, fin⟩ := go H3 (s12.trans s3)
            have exs : xs3 = xs := by
              have := s3 _ _ hxs
              rw [hxs3] at this
              injection this with this
              injection this
            subst exs
            unfold fAug at hfe3
            rw [← DpAll.length kx3, DpAll.length kx, hj] at hfe3
            dsimp only at hfe3
            split at hfe3
            · rename_i w3 hw3
              obtain ⟨v3, hv3, k3⟩ := DpAll.get kx3 hw3
              rw [hv1] at hv3
              cases hv3
              cases hz : evAug op w3 d with
              | no => rw [hz] at hfe3; cases hfe3
              | exc q => exact (evAug_exc hz).elim
              | ok z =>
                rw [hz] at hfe3
                cases hfe3
                refine ⟨w3, d, z, dp_mono mask_le _ _ k3, ky, hz, fun u fu ku => ⟨l, xs3, n, j, rfl, rfl, hxs3, by rw [DpAll.length kx]; exact hj, fin _ (DpAll.set j kx3 (dp_flat fu ku))⟩⟩
            · cases hfe3
          · cases hfe
        · cases hfe
end
end Pv

/-! part Ap: an owned item is put behind an owned list (not joined yet) -/
namespace Pv
open PySem PySem.Spec PyProof.Rows L2
/-- A is marked as the slot's -/
def mrk (ω : Om) (i : Nat) (A : List Addr) : Om := fun b => if b ∈ A then some (i + 1) else ω b
theorem mrk_in {ω : Om} {i : Nat} {A : List Addr} {b : Addr} (h : b ∈ A) : mrk ω i A b = some (i + 1) := if_pos h
theorem mrk_out {ω : Om} {i : Nat} {A : List Addr} {b : Addr} (h : b ∉ A) : mrk ω i A b = ω b := if_neg h
theorem mrk_ow {ω : Om} {i : Nat} {A : List Addr} {b : Addr} : ow (mrk ω i A) b = true ↔ add (ow ω) A b = true := by
  rw [add_true]
  by_cases h : b ∈ A
  · exact ⟨fun _ => .inr h, fun _ => ow_true.mpr ⟨_, mrk_in h⟩⟩
  · rw [ow_true, mrk_out h, ← ow_true]
    exact ⟨.inl, fun z => z.elim id fun w => absurd w h⟩
section
variable {c : Ctx} {H H1 : Hp} {ω : Om} {env : Ev} {σ : L2.St} {A : List Addr} {i : Nat}
theorem ats_mark (a : AtS c H ω env σ) (s : Same H H1) (fr : Fresh H H1 A) : AtS c H1 (mrk ω i A) env σ ∧ Eff H ω H1 (mrk ω i A) := by
  have out : ∀ x ∈ A, ω x = none := fun x hx => ow_false.mp (fr.disj a.dom x hx)
  have nn : ∀ x, ow (mrk ω i A) x = true → ow ω x = true ∨ H x = none := fun x hx => add_new fr x (mrk_ow.mp hx)
  refine ⟨⟨fun x hx => ?_, fun j d b h => ?_, a.len, a.pn⟩, ⟨fun x o e _ => s x o e, fun x j h => ?_, fun x => ?_, fun x h => s.free h⟩⟩
  · rcases add_true.mp (mrk_ow.mp hx) with z | z
    · exact (a.dom.mono s) x z
    · exact fr.lst x z
  · obtain ⟨v, hv, q⟩ := a.er j d b h
    refine ⟨v, hv, ?_⟩
    cases b with
    | true => exact dp_mono (mask_mono s nn) _ _ q
    | false =>
      obtain ⟨B, nd, hB, r⟩ := q
      have h1 : ∀ x ∈ B, mrk ω i A x = some (j + 1) := fun x hx => by
        rw [mrk_out fun z => by have := hB x hx; rw [out x z] at this; cases this]
        exact hB x hx
      exact ⟨B, nd, h1, Rp.mono s nn (fun x hx => ow_true.mpr ⟨_, h1 x hx⟩) r⟩
  · by_cases z : x ∈ A
    · exact .inr (fr.new x z)
    · rw [mrk_out z] at h
      exact .inl ⟨j, h⟩
  · by_cases z : x ∈ A
    · rw [mrk_in z, out x z]
      exact ⟨fun w => by simp at w, fun w => by simp at w⟩
    · rw [mrk_out z]
/-- a fresh owned item, put behind the slot's list -/
theorem ats_push {ds : List D} {d : D} {v : V} {o : Own} (hΓ : ∀ i, fz (c.Γ i) = true) (hi : c.Γ i = .lst o) (hf : fz o = true) (a : AtS c H ω env σ) (hl : lk env i = some (.list ds, false)) (s : Same H H1) (fr : Fresh H H1 A) (r : Rp [] H1 (add (ow ω) A) v d o A) :
    ∃ l xs, σ[i]? = some (some (.ref l)) ∧ H l = some (.lst xs) ∧ xs.length = ds.length ∧ AtS c (upd H1 l (.lst (xs ++ [v]))) (mrk ω i A) (put env i (some (.list (ds ++ [d]), false))) σ ∧ Eff H ω (upd H1 l (.lst (xs ++ [v]))) (mrk ω i A) := by
  obtain ⟨v0, hv, B0, nd0, hB0, r0⟩ := a.er i (.list ds) false hl
  have out : ∀ x ∈ A, ω x = none := fun x hx => ow_false.mp (fr.disj a.dom x hx)
  obtain ⟨a1, e1⟩ := ats_mark (i := i) a s fr
  rw [hi] at r0
  cases r0 with
  | flat f _ => cases f
  | @lst l xs _ _ B hx hO hr =>
    have wl : mrk ω i A l = some (i + 1) := by
      rw [mrk_out fun z => by have := hB0 l List.mem_cons_self; rw [out l z] at this; cases this]
      exact hB0 l List.mem_cons_self
    have inB : ∀ b ∈ B, ω b = some (i + 1) := fun b hb => hB0 b (List.mem_cons_of_mem _ hb)
    have nAB : ∀ b ∈ B, b ∉ A := fun b hb z => by have := inB b hb; rw [out b z] at this; cases this
    have lB : l ∉ B := (List.nodup_cons.mp nd0).1
    have lA : l ∉ A := fun z => by have := hB0 l List.mem_cons_self; rw [out l z] at this; cases this
    have onl : ow (mrk ω i A) l = true := ow_true.mpr ⟨_, wl⟩
    have kp : ∀ {C : List Addr}, l ∉ C → ∀ b z, H1 b = some z → (ow (mrk ω i A) b = false ∨ b ∈ C) → upd H1 l (.lst (xs ++ [v])) b = some z := fun {C} hC b z e q => by
      rw [upd_ne fun w => ?_]
      · exact e
      · subst w
        rcases q with q | q
        · rw [onl] at q; cases q
        · exact hC q
    have rv : Rp [] H1 (ow (mrk ω i A)) v d o A := Rp.mono (Same.refl _) (fun x hx => .inl (mrk_ow.mp hx)) (fun x hx => ow_true.mpr ⟨_, mrk_in hx⟩) r
    have rx : RpA [] H1 (ow (mrk ω i A)) xs ds o B := RpA.mono s (fun x hx => add_new fr x (mrk_ow.mp hx)) (fun x hx => ow_true.mpr ⟨_, (mrk_out (nAB x hx)).trans (inB x hx)⟩) hr
    have q := ats_obj (o := .lst (xs ++ [v])) hΓ a1 hl hv wl rfl (d' := .list (ds ++ [d])) ⟨l :: (B ++ A), List.nodup_cons.mpr ⟨fun z => (List.mem_append.mp z).elim lB lA, List.nodup_append.mpr ⟨(List.nodup_cons.mp nd0).2, fr.nd, fun x hx y hy e => nAB x hx (e ▸ hy)⟩⟩, fun b hb => ?_, ?_⟩
    · exact ⟨l, xs, hv, hx, DpAll.length hr.dp, q.1, e1.trans q.2⟩
    · rcases List.mem_cons.mp hb with e | e
      · rw [e]; exact wl
      · rcases List.mem_append.mp e with e | e
        · exact (mrk_out (nAB b e)).trans (inB b e)
        · exact mrk_in e
    · rw [hi]
      refine .lst upd_same onl (RpA.snoc (Rp.keep a1.dom (kp lA) (fun x hx => .inl hx) (fun x hx => ow_true.mpr ⟨_, mrk_in hx⟩) hf rv) (RpA.keep a1.dom (kp lB) (fun x hx => .inl hx) (fun x hx => ow_true.mpr ⟨_, (mrk_out (nAB x hx)).trans (inB x hx)⟩) hf rx))
end
section
variable {g : Cfg} {c : Ctx} {X : Cx} {own : Own}
theorem sApo {i : Nat} {x : E} {b v : Expr} {ap cp pos : Pos} (G : GoodS g c X) (hl : (ap.endLine == cp.line) = true) (hp : mPa g i .nil b = true) (hx : mE g x v = true) (hs : nstar v = true) (hf : Pv.fz (ty g.S x) = true) (ho : g.S.own i = .lst (ty g.S x)) :
    PS X (.Expr (.Call (.Attribute b "append" ap) [v] [] cp) pos) (tS c own (evS g.S (.apo i x))) := by
  refine PS.imp (ps_expr (pe_bm PySem.F.plainAttrs_list PySem.F.slot_list_append PySem.F.type_list_append mt_append (sPa .nil G.E hp) (pa_cons (sE x G.E hx) pa_nil (star_of hs)) (base_of hp) (few_of hs) hl (star_of hs) rfl) rfl) fun K σ H ⟨env, ω, a, h⟩ => ?_
  rw [evS] at h
  cases hd : noX (ev g.S x env) with
  | no => rw [hd] at h; exact h.elim
  | exc z => exact (noX_exc hd).elim
  | ok d =>
    rw [hd] at h
    have h : AnsS c own H ω (pushE g.S i d env) K := h
    unfold pushE at h
    split at h
    · rename_i ds o' hlk ho'
      split at h
      · rename_i hz
        have hi : c.Γ i = .lst (ty g.S x) := by rw [G.E.own]; exact ho
        obtain ⟨v0, hv, B0, nd0, hB0, r0⟩ := a.er i (.list ds) false hlk
        rw [hi] at r0
        cases r0 with
        | flat f _ => cases f
        | @lst l xs _ _ B hxl hO hr =>
          refine pa_at a.at (ks := []) rfl hv .nil fun H1 s1 => ?_
          refine ⟨.inl ⟨rfl, xs, SqL.of (s1 _ _ hxl)⟩, env, ow ω, (a.later s1).at, ?_⟩
          rw [noX_ok hd]
          intro y H2 A s2 fr r
          obtain ⟨l', xs', hv', hx', len, at2, eff⟩ := ats_push G.fzΓ hi hf (a.later s1) hlk s2 fr r
          rw [hv] at hv'
          cases hv'
          exact ⟨l, xs', y, rfl, rfl, s2 _ _ hx', by rw [len, ← sz]; exact hz, h σ _ _ at2 ((Eff.same s1).trans eff)⟩
      · exact h.elim
    · exact h.elim
end
end Pv

/-! part Px: a list's item taken out; two names at once (not joined yet) -/
namespace Pv
open PySem PySem.Spec PyProof.Rows L2
/-- what an expression that changes slots asks -/
def tX (c : Ctx) (f : Ev → R (D × Ev)) : TE := fun σ H Q => ∃ env ω, AtS c H ω env σ ∧ match f env with
  | .ok p => ∀ v H' ω', AtS c H' ω' p.2 σ → Eff H ω H' ω' → Dp [] (mask H' (ow ω')) v p.1 → Q v H'
  | .exc x => ∀ H' ω', Eff H ω H' ω' → c.W σ x H'
  | .no => False
theorem DpAll.eraseIdx {K : PySem.W.Frag} {H : Hp} : ∀ {ds : List D} {vs : List V} (j : Nat), DpAll K H vs ds → DpAll K H (vs.eraseIdx j) (ds.eraseIdx j)
  | _, _, j, .nil => by rw [List.eraseIdx_nil, List.eraseIdx_nil]; exact .nil
  | _, _, 0, .cons _ h2 => h2
  | _, _, j + 1, .cons h1 h2 => .cons h1 (DpAll.eraseIdx j h2)
theorem DpAll.getD {K : PySem.W.Frag} {H : Hp} : ∀ {ds : List D} {vs : List V} {j : Nat} {v : V}, DpAll K H vs ds → vs[j]? = some v → Dp K H v (ds.getD j .none)
  | _, _, j, v, .nil, hv => by simp at hv
  | _, _, 0, v, .cons h1 _, hv => by simp at hv; subst hv; exact h1
  | _, _, j + 1, v, .cons _ h2, hv => DpAll.getD (j := j) h2 (by simpa using hv)
section
variable {g : Cfg} {c : Ctx} {X : Cx} {own : Own}
theorem ixN_seq {n : Nat} {i : Int} {j : Nat} (h : ixN n i = some j) : seqIndex? i n = some j ∧ j < n := by
  unfold ixN at h
  split at h
  · split at h
    · cases h
      refine ⟨?_, by omega⟩
      rw [seqIndex_of (by assumption) (by assumption)]
    · cases h
  · split at h
    · cases h
      refine ⟨?_, by omega⟩
      rw [seqIndex_neg (by omega) (by omega)]
    · cases h
/-- the slot's list, an item taken out -/
theorem del_go {H : Hp} {ω : Om} {env : Ev} {σ : L2.St} {i : Nat} {n : Int} (G : GoodS g c X) (a : AtS c H ω env σ) {p : D × Ev} (h : delX g.S i n env = .ok p) :
    ∃ l, σ[i]? = some (some (.ref l)) ∧ ∀ H1, Same H H1 → ∃ xs j, H1 l = some (.lst xs) ∧ (-9223372036854775808 ≤ n ∧ n < 9223372036854775808) ∧ ixN xs.length n = some j ∧ ∀ y, xs[j]? = some y → ∃ H2, H2 = upd H1 l (.lst (xs.eraseIdx j)) ∧ AtS c H2 ω p.2 σ ∧ Eff H ω H2 ω ∧ Dp [] (mask H2 (ow ω)) y p.1 := by
  unfold delX at h
  split at h
  · rename_i ds hlk ho
    split at h
    · rename_i hb
      split at h
      · rename_i j hj
        cases h
        have hi : c.Γ i = .lst .sh := by rw [G.E.own]; exact ho
        obtain ⟨v0, hv, B0, nd0, hB0, r0⟩ := a.er i (.list ds) false hlk
        rw [hi] at r0
        cases r0 with
        | flat f _ => cases f
        | @lst l xs _ _ B hxl hO hr =>
          obtain ⟨eB, kd⟩ := sh_all a.dom hr
          subst eB
          have len : xs.length = ds.length := DpAll.length kd
          refine ⟨l, hv, fun H1 s1 => ⟨xs, j, s1 _ _ hxl, hb, by rw [len]; exact hj, fun y hy => ⟨_, rfl, ?_⟩⟩⟩
          have wl : ω l = some (i + 1) := hB0 l List.mem_cons_self
          have ol : ow ω l = true := ow_true.mpr ⟨_, wl⟩
          have mm : Same (mask H (ow ω)) (mask (upd H1 l (.lst (xs.eraseIdx j))) (ow ω)) := fun b o e => by
            obtain ⟨e0, e1⟩ := mask_some.mp e
            refine mask_of e0 ?_
            rw [upd_ne (fun z => by subst z; rw [ol] at e0; cases e0)]
            exact s1 _ _ e1
          have q := ats_obj (o := .lst (xs.eraseIdx j)) G.fzΓ (a.later s1) hlk hv wl rfl (d' := .list (ds.eraseIdx j)) ⟨[l], List.nodup_cons.mpr ⟨by simp, List.nodup_nil⟩, fun b hb => by rw [List.mem_singleton.mp hb]; exact wl, by
            rw [hi]
            refine .lst upd_same ol (A := []) ?_
            exact all_sh (DpAll.mono mm (DpAll.eraseIdx j kd))⟩
          exact ⟨q.1, (Eff.same s1).trans q.2, dp_mono mm _ _ (DpAll.getD kd hy)⟩
      · cases h
    · cases h
  · cases h
where
  all_sh {H : Hp} {O : Addr → Bool} : ∀ {vs : List V} {ds : List D}, DpAll [] (mask H O) vs ds → RpA [] H O vs ds .sh []
    | _, _, .nil => .nil
    | _, _, .cons h1 h2 => .cons (A := []) (B := []) (.sh h1) (all_sh h2)
theorem delX_exc {S : Sg} {i : Nat} {n : Int} {env : Ev} {z : Nat} : delX S i n env ≠ .exc z := by
  intro h
  unfold delX at h
  split at h
  · split at h
    · split at h <;> cases h
    · cases h
  · cases h
theorem evX_exc {S : Sg} {x : EX} {env : Ev} {z : Nat} : evX S x env ≠ .exc z := by
  intro h
  cases x with
  | pop i k =>
    have h : (toInt (ev S k env) >>= fun n => delX S i n env) = .exc z := h
    cases hk : toInt (ev S k env) with
    | no => rw [hk] at h; cases h
    | exc w => exact toInt_exc hk
    | ok n => rw [hk] at h; exact delX_exc h
  | popl i => exact delX_exc h
theorem sX {x : EX} {e : Expr} (G : GoodS g c X) (h : mX g x e = true) : PE X e (tX c (evX g.S x)) := by
  cases x with
  | pop i k =>
    dsimp only [mX] at h
    split at h
    · rename_i b m ap u cp
      simp only [Bool.and_eq_true, decide_eq_true_eq] at h
      obtain ⟨⟨⟨⟨h1, hl⟩, hp⟩, hk⟩, hs⟩ := h
      subst h1
      refine PE.imp (pe_bm PySem.F.plainAttrs_list PySem.F.slot_list_pop PySem.F.type_list_pop mt_popAt (sPa .nil G.E hp) (pa_cons (sE k G.E hk) pa_nil (star_of hs)) (base_of hp) (few_of hs) hl (star_of hs) rfl) fun σ H Q ⟨env, ω, a, h⟩ => ?_
      have e0 : evX g.S (.pop i k) env = (toInt (ev g.S k env) >>= fun n => delX g.S i n env) := rfl
      rw [e0] at h
      cases hn : toInt (ev g.S k env) with
      | no => rw [hn] at h; exact h.elim
      | exc z => exact (toInt_exc hn).elim
      | ok n =>
        rw [hn] at h
        have h : (match delX g.S i n env with
          | .ok p => ∀ v H' ω', AtS c H' ω' p.2 σ → Eff H ω H' ω' → Dp [] (mask H' (ow ω')) v p.1 → Q v H'
          | .exc x => ∀ H' ω', Eff H ω H' ω' → c.W σ x H'
          | .no => False) := h
        cases hd : delX g.S i n env with
        | no => rw [hd] at h; exact h.elim
        | exc z => exact (delX_exc hd).elim
        | ok p =>
          rw [hd] at h
          obtain ⟨l, hv, go⟩ := del_go G a hd
          refine pa_at a.at (ks := []) rfl hv .nil fun H1 s1 => ?_
          obtain ⟨xs, j, hxs, _⟩ := go H1 s1
          refine ⟨.inl ⟨rfl, xs, SqL.of hxs⟩, te_int (a.later s1) (toInt_ok hn) fun H2 s2 => ?_⟩
          obtain ⟨xs, j, hxs, hb, hj, fin⟩ := go H2 (s1.trans s2)
          obtain ⟨j1, j2⟩ := ixN_seq hj
          obtain ⟨H3, e3, a3, x3, d3⟩ := fin _ (List.getElem?_eq_getElem j2)
          subst e3
          exact ⟨l, xs, n, j, xs[j], rfl, rfl, hxs, by omega, by omega, j1, List.getElem?_eq_getElem j2, h _ _ _ a3 x3 d3⟩
    · cases h
  | popl i =>
    dsimp only [mX] at h
    split at h
    · rename_i b m ap cp
      simp only [Bool.and_eq_true, decide_eq_true_eq] at h
      obtain ⟨⟨h1, hl⟩, hp⟩ := h
      subst h1
      refine PE.imp (pe_bm0 PySem.F.plainAttrs_list PySem.F.slot_list_pop PySem.F.type_list_pop mt_pop (sPa .nil G.E hp) (base_of hp) hl) fun σ H Q ⟨env, ω, a, h⟩ => ?_
      have h : (match delX g.S i (-1) env with
          | .ok p => ∀ v H' ω', AtS c H' ω' p.2 σ → Eff H ω H' ω' → Dp [] (mask H' (ow ω')) v p.1 → Q v H'
          | .exc x => ∀ H' ω', Eff H ω H' ω' → c.W σ x H'
          | .no => False) := h
      cases hd : delX g.S i (-1) env with
      | no => rw [hd] at h; exact h.elim
      | exc z => exact (delX_exc hd).elim
      | ok p =>
        rw [hd] at h
        obtain ⟨l, hv, go⟩ := del_go G a hd
        refine pa_at a.at (ks := []) rfl hv .nil fun H1 s1 => ?_
        obtain ⟨xs, j, hxs, hb, hj, fin⟩ := go H1 s1
        refine ⟨.inl ⟨rfl, xs, SqL.of hxs⟩, ?_⟩
        obtain ⟨j1, j2⟩ := ixN_seq hj
        have ej : j = xs.length - 1 := by
          unfold ixN at hj
          rw [if_neg (by omega)] at hj
          split at hj
          · cases hj; omega
          · cases hj
        subst ej
        obtain ⟨H3, e3, a3, x3, d3⟩ := fin _ (List.getElem?_eq_getElem j2)
        have ee : xs.eraseIdx (xs.length - 1) = xs.dropLast := by rw [List.eraseIdx_eq_dropLast (by omega)]
        rw [ee] at e3
        subst e3
        exact ⟨l, xs, xs[xs.length - 1], rfl, rfl, hxs, List.getElem?_eq_getElem j2, h _ _ _ a3 x3 d3⟩
    · cases h
theorem tX_st {f : Ev → R (D × Ev)} {σ : L2.St} {H : Hp} {Q' : V → Hp → Prop} {env : Ev} {ω : Om} {K : Ends} {k : D × Ev → R Fl} (hx : ∀ z, f env ≠ .exc z) (a : AtS c H ω env σ) (h : AnsS c own H ω (f env >>= k) K)
    (q : ∀ p v H1 ω1, f env = .ok p → AtS c H1 ω1 p.2 σ → Eff H ω H1 ω1 → Dp [] (mask H1 (ow ω1)) v p.1 → AnsS c own H1 ω1 (k p) K → Q' v H1) : tX c f σ H Q' := by
  refine ⟨env, ω, a, ?_⟩
  cases hf : f env with
  | no => rw [hf] at h; exact h
  | exc z => exact (hx z hf).elim
  | ok p =>
    rw [hf] at h
    intro v H' ω' a' e' d'
    exact q p v H' ω' hf a' e' d' (AnsS.later e' h)
theorem sXa {i : Nat} {x : EX} {y : Str} {py pos : Pos} {v : Expr} (G : GoodS g c X) (hy : g.N[i]? = some y) (hl : locB g y = true) (hx : mX g x v = true) : PS X (.Assign [.Name y py] v pos) (tS c own (evS g.S (.xa i x))) := by
  obtain ⟨l1, l2⟩ := G.E.loc hl
  have hc : isComp v = false := by
    cases x <;> (dsimp only [mX] at hx; split at hx <;> first | rfl | cases hx)
  refine PS.imp (ps_set (by rw [G.E.N]; exact G.E.nd) (by rw [G.E.N]; exact hy) l1 (sX G hx) (swaps_no hc) l2) fun K σ H ⟨env, ω, a, h⟩ => ?_
  rw [evS] at h
  exact tX_st (fun z => evX_exc) a h fun p v H1 ω1 _ a1 e1 d1 k1 => k1 _ H1 ω1 (a1.put d1) .refl
theorem sXp {j : Nat} {x : EX} {b v : Expr} {ap cp pos : Pos} (G : GoodS g c X) (hl : (ap.endLine == cp.line) = true) (hp : mPa g j .nil b = true) (hx : mX g x v = true) (hs : nstar v = true) :
    PS X (.Expr (.Call (.Attribute b "append" ap) [v] [] cp) pos) (tS c own (evS g.S (.xp j x))) := by
  refine PS.imp (ps_expr (pe_bm PySem.F.plainAttrs_list PySem.F.slot_list_append PySem.F.type_list_append mt_append (sPa .nil G.E hp) (pa_cons (sX G hx) pa_nil (star_of hs)) (base_of hp) (few_of hs) hl (star_of hs) rfl) rfl) fun K σ H ⟨env, ω, a, h⟩ => ?_
  rw [evS] at h
  cases hf : evX g.S x env with
  | no => rw [hf] at h; exact h.elim
  | exc z => exact (evX_exc hf).elim
  | ok p =>
    rw [hf] at h
    have h : AnsS c own H ω (mutE g.S j [] (fApp p.1) p.2) K := h
    obtain ⟨ds, hlk, ho⟩ : ∃ ds, lk p.2 j = some (.list ds, false) ∧ g.S.own j = .lst .sh := by
      unfold mutE at h
      split at h
      · rename_i d hl
        cases hu : updD (fApp p.1) [] (g.S.own j) d with
        | no => rw [hu] at h; exact h.elim
        | exc z => exact (updD_exc fApp_exc hu).elim
        | ok d' =>
          unfold updD at hu
          split at hu
          · rename_i ds ho
            exact ⟨_, hl, ho⟩
          · cases hu
      · exact h.elim
    obtain ⟨ds0, hlk0⟩ := evX_lk hf hlk
    have hi : c.Γ j = .lst .sh := by rw [G.E.own]; exact ho
    obtain ⟨v0, hv, B0, nd0, hB0, r0⟩ := a.er j (.list ds0) false hlk0
    rw [hi] at r0
    cases r0 with
    | flat f _ => cases f
    | @lst l xs _ _ B hxl hO hr =>
      refine pa_at a.at (ks := []) rfl hv .nil fun H1 s1 => ⟨.inl ⟨rfl, xs, SqL.of (s1 _ _ hxl)⟩, env, ω, a.later s1, ?_⟩
      rw [hf]
      intro y H2 ω2 a2 e2 d2
      obtain ⟨v1, l1, hv1, re, go⟩ := mut_go G fApp_exc a2 (AnsS.later ((Eff.same s1).trans e2) h)
      rw [hv] at hv1
      cases hv1
      cases re
      obtain ⟨xs, ds, es, hxs, kx, hfe, fin⟩ := go H2 (Same.refl _)
      unfold fApp at hfe
      split at hfe
      · rename_i hz
        cases hfe
        exact ⟨l, xs, y, rfl, rfl, hxs, by rw [DpAll.length kx, ← sz]; exact hz, fin _ (DpAll.append kx (.cons d2 .nil))⟩
      · cases hfe
where
  evX_lk {S : Sg} {x : EX} {env : Ev} {p : D × Ev} {j : Nat} {ds : List D} (h : evX S x env = .ok p) (hl : lk p.2 j = some (.list ds, false)) : ∃ ds, lk env j = some (.list ds, false) := by
    have key : ∀ i n, delX S i n env = .ok p → ∃ ds, lk env j = some (.list ds, false) := fun i n h => by
      unfold delX at h
      split at h
      · rename_i es hlk ho
        split at h
        · split at h
          · cases h
            rw [lk_put] at hl
            by_cases e : j = i
            · rw [e]; exact ⟨_, hlk⟩
            · rw [if_neg e] at hl
              exact ⟨_, hl⟩
          · cases h
        · cases h
      · cases h
    cases x with
    | pop i k =>
      have h : (toInt (ev S k env) >>= fun n => delX S i n env) = .ok p := h
      cases hk : toInt (ev S k env) with
      | no => rw [hk] at h; cases h
      | exc w => rw [hk] at h; cases h
      | ok n => rw [hk] at h; exact key i n h
    | popl i => exact key i (-1) h
/-! two names at once -/
theorem kind_loc {x : Str} (G : GoodS g c X) (h : g.look x = some .local) : X.env.kindOf x = some .local := by
  show X.env.scope.names.lookup x = some .local
  rw [G.E.sc]
  exact h
theorem sPar {i j : Nat} {a b : E} {x y : Str} {l r : Expr} {px py pt pt2 pos : Pos} {kt k2} (G : GoodS g c X) (hi : g.N[i]? = some x) (hj : g.N[j]? = some y) (hij : i ≠ j) (lx : g.look x = some .local) (ly : g.look y = some .local) (hp : py.line = px.line)
    (ha : mE g a l = true) (hb : mE g b r = true) (fa : Pv.fz (ty g.S a) = true) (fb : Pv.fz (ty g.S b) = true) (sl : nstar l = true) (sr : nstar r = true) (f1 : foldedForSure 8 l = false) (f2 : constantsAlone 8 l = false) :
    PS X (.Assign [.Tuple [.Name x px, .Name y py] kt pt] (.Tuple [l, r] k2 pt2) pos) (tS c own (evS g.S (.par i j a b))) := by
  have nd := G.E.nd
  have xy : x ≠ y := fun e => by
    subst e
    exact hij ((List.getElem?_inj (List.getElem?_eq_some_iff.mp hi).1 nd).mp (hi.trans hj.symm))
  have hb2 : X.env.blockKind = .function := by unfold Env.blockKind; rw [G.E.sc, G.kd]; rfl
  have kx := kind_loc G lx
  have ky := kind_loc G ly
  have hw : swappedStores [.Tuple [.Name x px, .Name y py] kt pt] (.Tuple [l, r] k2 pt2) X.env = pure (some [x, y]) := by
    have yx' : (y == x) = false := by simpa using fun e : y = x => xy e.symm
    simp [swappedStores, hb2, kx, ky, hp, f1, f2, Expr.pos, List.eraseDups, List.eraseDupsBy, List.eraseDupsBy.loop, yx']
    rintro (h | h)
    · cases l <;> first | (cases h; done) | (cases sl; done)
    · cases r <;> first | (cases h; done) | (cases sr; done)
  refine PS.imp (ps_par G.E.calm (by rw [G.E.N]; exact nd) (by rw [G.E.N]; exact hi) (by rw [G.E.N]; exact hj) hij kx ky (pa_cons (sE a G.E ha) (pa_cons (sE b G.E hb) pa_nil (star_of sr)) (star_of sl)) hw rfl) fun K σ H ⟨env, ω, at_, h⟩ => ?_
  rw [evS] at h
  refine tE_stT at_ h fun d v H1 _ a1 e1 t1 k1 => ?_
  have d1 := t1.fz a1.dom fa
  refine tE_stT a1 k1 fun d2 v2 H2 _ a2 e2 t2 k3 => ?_
  exact ⟨v, v2, rfl, k3 _ H2 ω ((a2.put (dp_mono e2.mask _ _ d1)).put (t2.fz a2.dom fb)) .refl⟩
end
end Pv

namespace Pv
open PySem PySem.Spec PyProof.Rows L2

section
variable {g : Cfg} {c : Ctx} {X : Cx} {own : Own}
theorem PS.cg {st : Stmt} {f h : Ev → R Fl} (p : PS X st (tS c own f)) (e : ∀ env, f env = h env) : PS X st (tS c own h) := by
  have : f = h := funext e
  subst this
  exact p
theorem AnsS.seq {H : Hp} {ω : Om} {r : R Fl} {K : Ends} {N : L2.St → Hp → Prop} {k : Ev → R Fl} (h : AnsS c own H ω (r >>= fun fl => match fl with | .nx e => k e | f => .ok f) K)
    (hn : ∀ e σ' H' ω', AtS c H' ω' e σ' → Eff H ω H' ω' → AnsS c own H' ω' (k e) K → N σ' H') : AnsS c own H ω r { K with nx := N } := by
  cases r with
  | no => exact h
  | exc x => exact h
  | ok f =>
    cases f with
    | nx e =>
      have h : AnsS c own H ω (k e) K := h
      exact fun σ' H' ω' a x => hn e σ' H' ω' a x (h.later x)
    | rt d => exact h
    | bk e => exact h
    | ct e => exact h
    | ex n => exact h
theorem AnsS.catchX {H : Hp} {ω : Om} {r : R Fl} {K : Ends} (h : AnsS c own H ω (Pv.catchX r) K) : AnsS c own H ω r K := by
  cases r with
  | no => exact h
  | exc x => exact h
  | ok f => exact h
theorem AnsS.turn {H : Hp} {ω : Om} {r : R Fl} {K : Ends} {N : L2.St → Hp → Prop} {k : Ev → R Fl} (h : AnsS c own H ω (r >>= fun fl => match fl with | .nx e => k e | .ct e => k e | .bk e => .ok (.nx e) | .rt d => .ok (.rt d) | .ex n => .ok (.ex n)) K)
    (hn : ∀ e σ' H' ω', AtS c H' ω' e σ' → Eff H ω H' ω' → AnsS c own H' ω' (k e) K → N σ' H') : AnsS c own H ω r { K with nx := N, ct := N, bk := K.nx } := by
  cases r with
  | no => exact h
  | exc x => exact h
  | ok f =>
    cases f with
    | nx e =>
      have h : AnsS c own H ω (k e) K := h
      exact fun σ' H' ω' a x => hn e σ' H' ω' a x (h.later x)
    | ct e =>
      have h : AnsS c own H ω (k e) K := h
      exact fun σ' H' ω' a x => hn e σ' H' ω' a x (h.later x)
    | rt d => exact h
    | bk e => exact h
    | ex n => exact h
theorem for_read {t : G} {fi : Ev → R (List D)} {fb : Ev → R Fl} : ∀ K σ H, tS c own (fun env => fi env >>= fun items => loopF (fun x e => gset t x e >>= fun e' => fb e') items env) K σ H → tFor (tI c false fi) (tgG X.K t) (tS c own fb) K σ H := by
  rintro K σ H ⟨env, ω, a, h⟩
  refine ⟨env, ow ω, a.at, AnsS.val h fun items _ h J H1 s1 hJ => ?_⟩
  refine ⟨fun i m σ' H' => m = items.length - i ∧ i ≤ items.length ∧ ∃ env' ω', AtS c H' ω' env' σ' ∧ Eff H1 ω H' ω' ∧ AnsS c own H' ω' (loopF (fun x e => gset t x e >>= fun e' => fb e') (items.drop i) env') K, ⟨items.length, rfl, Nat.zero_le _, env, ω, a.later s1, .refl, h.later (.same s1)⟩, ?_⟩
  rintro i m σ' H' ⟨rfl, hi, env', ω', a', x', h'⟩
  obtain ⟨go, stop⟩ := hJ i H' (ow ω') a'.dom (fun b o e => mask_le _ _ (x'.mask _ _ e)) x'.mask
  by_cases hlt : i < items.length
  · have hd : items.drop i = items[i] :: items.drop (i + 1) := List.drop_eq_getElem_cons hlt
    obtain ⟨g1, yl⟩ := go items[i] (List.getElem?_eq_getElem hlt)
    rw [hd] at h'
    refine .inr ⟨g1, fun σ2 H2 => ∃ env' ω', AtS c H2 ω' env' σ2 ∧ Eff H1 ω H2 ω' ∧ AnsS c own H2 ω' (loopF (fun x e => gset t x e >>= fun e' => fb e') (items.drop (i + 1)) env') K, fun σ2 H2 n => ⟨items.length - (i + 1), by omega, rfl, by omega, n⟩, fun x H2 y => ?_⟩
    obtain ⟨s2, kx⟩ := yl x H2 y
    unfold loopF at h'
    rw [R.assoc] at h'
    cases hg : gset t items[i] env' with
    | no => rw [hg] at h'; exact h'.elim
    | exc z => exact (ps_tp.gset_exc _ hg).elim
    | ok e1 =>
      rw [hg] at h'
      refine gset_ok (P := fun e τ => AtS c H2 ω' e τ) (fun e τ j d v p k => AtS.put p k) t items[i] x env' e1 σ' _ kx hg (a'.later s2) fun σ2 p2 _ => ⟨e1, ω', p2, ?_⟩
      have h2 : AnsS c own H2 ω' (fb e1 >>= fun fl => match fl with | .nx e => loopF (fun x e => gset t x e >>= fun e' => fb e') (items.drop (i + 1)) e | .ct e => loopF (fun x e => gset t x e >>= fun e' => fb e') (items.drop (i + 1)) e | .bk e => .ok (.nx e) | .rt d => .ok (.rt d) | .ex n => .ok (.ex n)) K := AnsS.later (.same s2) h'
      exact AnsS.turn h2 fun e σ3 H3 ω3 a3 x3 h3 => ⟨e, ω3, a3, (x'.trans (.same s2)).trans x3, h3⟩
  · have hn : i = items.length := by omega
    refine .inl ⟨stop (by omega), ?_⟩
    rw [hn, List.drop_length] at h'
    exact h' σ' H' ω' a' .refl
/-- the turns of a loop over what an iterator tells -/
theorem for_turns {t : G} {fb : Ev → R Fl} {items : List D} {J : It} {B M : Hp} (hJ : ItOk J B M items) {tb : TS} (wrap : ∀ K σ H, tS c own fb K σ H → tb K σ H) {K : Ends} {σ : L2.St} {H : Hp} {ω : Om} {env : Ev} (a : AtS c H ω env σ)
    (h : AnsS c own H ω (loopF (fun x e => gset t x e >>= fun e' => fb e') items env) K) (hB : ∀ H' ω', Eff H ω H' ω' → Same B H') (hM : ∀ H' ω', Eff H ω H' ω' → Same M (mask H' (ow ω'))) :
    ∃ W : Nat → Nat → L2.St → Hp → Prop, (∃ m, W 0 m σ H) ∧ ∀ i m σ H, W i m σ H →
      (J.stop i H ∧ K.nx σ H) ∨ (J.go i H ∧ ∃ N : L2.St → Hp → Prop, (∀ σ' H', N σ' H' → ∃ m', m' < m ∧ W (i + 1) m' σ' H') ∧ ∀ x H', J.yld i H x H' → tgG X.K t x σ H' fun σ2 H2 => tb { K with nx := N, ct := N, bk := K.nx } σ2 H2) := by
  refine ⟨fun i m σ' H' => m = items.length - i ∧ i ≤ items.length ∧ ∃ env' ω', AtS c H' ω' env' σ' ∧ Eff H ω H' ω' ∧ AnsS c own H' ω' (loopF (fun x e => gset t x e >>= fun e' => fb e') (items.drop i) env') K, ⟨items.length, rfl, Nat.zero_le _, env, ω, a, .refl, h⟩, ?_⟩
  rintro i m σ' H' ⟨rfl, hi, env', ω', a', x', h'⟩
  obtain ⟨go, stop⟩ := hJ i H' (ow ω') a'.dom (hB _ _ x') (hM _ _ x')
  by_cases hlt : i < items.length
  · have hd : items.drop i = items[i] :: items.drop (i + 1) := List.drop_eq_getElem_cons hlt
    obtain ⟨g1, yl⟩ := go items[i] (List.getElem?_eq_getElem hlt)
    rw [hd] at h'
    refine .inr ⟨g1, fun σ2 H2 => ∃ env' ω', AtS c H2 ω' env' σ2 ∧ Eff H ω H2 ω' ∧ AnsS c own H2 ω' (loopF (fun x e => gset t x e >>= fun e' => fb e') (items.drop (i + 1)) env') K, fun σ2 H2 n => ⟨items.length - (i + 1), by omega, rfl, by omega, n⟩, fun x H2 y => ?_⟩
    obtain ⟨s2, kx⟩ := yl x H2 y
    unfold loopF at h'
    rw [R.assoc] at h'
    cases hg : gset t items[i] env' with
    | no => rw [hg] at h'; exact h'.elim
    | exc z => exact (ps_tp.gset_exc _ hg).elim
    | ok e1 =>
      rw [hg] at h'
      refine gset_ok (P := fun e τ => AtS c H2 ω' e τ) (fun e τ j d v p k => AtS.put p k) t items[i] x env' e1 σ' _ kx hg (a'.later s2) fun σ2 p2 _ => wrap _ _ _ ⟨e1, ω', p2, ?_⟩
      have h2 : AnsS c own H2 ω' (fb e1 >>= fun fl => match fl with | .nx e => loopF (fun x e => gset t x e >>= fun e' => fb e') (items.drop (i + 1)) e | .ct e => loopF (fun x e => gset t x e >>= fun e' => fb e') (items.drop (i + 1)) e | .bk e => .ok (.nx e) | .rt d => .ok (.rt d) | .ex n => .ok (.ex n)) K := AnsS.later (.same s2) h'
      exact AnsS.turn h2 fun e σ3 H3 ω3 a3 x3 h3 => ⟨e, ω3, a3, (x'.trans (.same s2)).trans x3, h3⟩
  · have hn : i = items.length := by omega
    refine .inl ⟨stop (by omega), ?_⟩
    rw [hn, List.drop_length] at h'
    exact h' σ' H' ω' a' .refl
/-! a slot lends its list -/
def cpn (c : Ctx) (i : Nat) (v : V) : Ctx := { c with pn := fun j => if j = i then some v else c.pn j }
theorem GoodS.cpn {g : Cfg} {c : Ctx} {X : Cx} (G : GoodS g c X) (i : Nat) (v : V) : GoodS g (Pv.cpn c i v) X :=
  ⟨⟨G.E.N, G.E.nd, G.E.sc, G.E.calm, G.E.hu, G.E.bi, G.E.gls, G.E.fns, G.E.tk, G.E.own, G.E.cl, G.E.xcs, G.E.tp⟩, G.po, G.kd, G.fz, G.stk, G.frm⟩
def lend (ω : Om) (l : Addr) : Om := fun a => if a = l then some 0 else ω a
def back (ω : Om) (i : Nat) (l : Addr) : Om := fun a => if a = l then some (i + 1) else ω a
theorem lend_ow {ω : Om} {i : Nat} {l : Addr} (wl : ω l = some (i + 1)) : ow (lend ω l) = ow ω := by
  funext a
  unfold ow lend
  by_cases e : a = l
  · rw [if_pos e, e, wl]; rfl
  · rw [if_neg e]
theorem back_ow {ω : Om} {i : Nat} {l : Addr} (wl : ω l = some 0) : ow (back ω i l) = ow ω := by
  funext a
  unfold ow back
  by_cases e : a = l
  · rw [if_pos e, e, wl]; rfl
  · rw [if_neg e]
theorem lend_at {ω : Om} {l : Addr} : lend ω l l = some 0 := if_pos rfl
theorem lend_ne {ω : Om} {l a : Addr} (h : a ≠ l) : lend ω l a = ω a := if_neg h
theorem back_at {ω : Om} {i : Nat} {l : Addr} : back ω i l l = some (i + 1) := if_pos rfl
theorem back_ne {ω : Om} {i : Nat} {l a : Addr} (h : a ≠ l) : back ω i l a = ω a := if_neg h
theorem eff_back {H H' : Hp} {ω ω' : Om} {i : Nat} {l : Addr} (wl : ω l = some (i + 1)) (e : Eff H (lend ω l) H' ω') : Eff H ω H' (back ω' i l) := by
  refine ⟨fun a o h n => ?_, fun a j h => ?_, fun a => ?_, e.there⟩
  · have hne : a ≠ l := fun z => n i (z ▸ wl)
    exact e.keep a o h fun j => by rw [lend_ne hne]; exact n j
  · by_cases z : a = l
    · exact .inl ⟨i, z ▸ wl⟩
    · rw [back_ne z] at h
      rcases e.own a j h with ⟨k, q⟩ | q
      · rw [lend_ne z] at q; exact .inl ⟨k, q⟩
      · exact .inr q
  · by_cases z : a = l
    · refine ⟨fun h => ?_, fun h => ?_⟩
      · rw [z, back_at] at h; cases h
      · rw [z, wl] at h; cases h
    · rw [back_ne z, e.out a, lend_ne z]
theorem eff_l {H H' : Hp} {ω ω' : Om} {l : Addr} (e : Eff H (lend ω l) H' ω') : ω' l = some 0 := (e.out l).mpr lend_at
theorem ats_lend {c : Ctx} {H : Hp} {ω : Om} {env : Ev} {σ : L2.St} {i : Nat} {l : Addr} {v : V} (a : AtS c H ω env σ) (wl : ω l = some (i + 1)) (hv : σ[i]? = some (some v)) : AtS (cpn c i v) H (lend ω l) (put env i none) σ := by
  refine ⟨by rw [lend_ow wl]; exact a.dom, fun j d b h => ?_, by rw [put_len]; exact a.len, fun j w h1 h2 => ?_⟩
  · rw [lk_put] at h
    split at h
    · split at h <;> cases h
    · rename_i hj
      obtain ⟨w, hw, q⟩ := a.er j d b h
      refine ⟨w, hw, ?_⟩
      rw [lend_ow wl]
      cases b with
      | true => exact q
      | false =>
        obtain ⟨A, nd, hA, r⟩ := q
        refine ⟨A, nd, fun x hx => ?_, r⟩
        have e := hA x hx
        rw [lend_ne (fun z => by rw [z, wl] at e; have := Option.some.inj e; omega)]
        exact e
  · have h1 : (if j = i then some v else c.pn j) = some w := h1
    split at h1
    · rename_i e
      cases h1
      rw [e]; exact hv
    · rename_i e
      rw [lk_put, if_neg e] at h2
      exact a.pn j w h1 h2
theorem ats_back {c : Ctx} {H H' : Hp} {ω ω' : Om} {e : Ev} {σ : L2.St} {i : Nat} {l : Addr} {v : V} {xs : List V} {ds : List D} (a : AtS (cpn c i v) H' ω' e σ) (wl : ω l = some (i + 1)) (x : Eff H (lend ω l) H' ω') (hv : v = .ref l) (hl : H l = some (.lst xs)) (hd : DpAll [] (mask H (ow ω)) xs ds) (hi : c.Γ i = .lst .sh) (hn : lk e i = none) :
    AtS c H' (back ω' i l) (put e i (some (.list ds, false))) σ := by
  have w0 := eff_l x
  have hs : σ[i]? = some (some v) := a.pn i v (if_pos rfl) hn
  refine ⟨by rw [back_ow w0]; exact a.dom, fun j d b h => ?_, by rw [put_len]; exact a.len, fun j w h1 h2 => ?_⟩
  · rw [lk_put] at h
    split at h
    · rename_i ej
      split at h
      · cases h
        subst ej
        refine ⟨v, hs, ?_⟩
        rw [back_ow w0, hi, hv]
        refine ⟨[l], by simp, fun y hy => by rw [List.mem_singleton.mp hy]; exact back_at, .lst (x.keep l _ hl fun j => by rw [lend_at]; exact fun z => by cases z) (ow_true.mpr ⟨_, w0⟩) (rpA_sh ?_)⟩
        have m := x.mask
        rw [lend_ow wl] at m
        exact hd.mono m
      · cases h
    · rename_i hj
      obtain ⟨w, hw, q⟩ := a.er j d b h
      refine ⟨w, hw, ?_⟩
      rw [back_ow w0]
      cases b with
      | true => exact q
      | false =>
        obtain ⟨A, nd, hA, r⟩ := q
        refine ⟨A, nd, fun y hy => ?_, r⟩
        have e := hA y hy
        rw [back_ne (fun z => by rw [z, w0] at e; cases e)]
        exact e
  · obtain ⟨h3, h4⟩ := lk_put_none h2
    have hlt := (List.getElem?_eq_some_iff.mp hs).1
    have hlen := a.len
    have ne : j ≠ i := fun z => by have := h4 z; omega
    exact a.pn j w (by show (if j = i then some v else c.pn j) = some w; rw [if_neg ne]; exact h1) h3
theorem fo_in {c : Ctx} {H : Hp} {ω : Om} {i : Nat} {l : Addr} {v : V} {xs : List V} {ds : List D} {r : R Fl} {K : Ends} (wl : ω l = some (i + 1)) (hv : v = .ref l) (hl : H l = some (.lst xs)) (hd : DpAll [] (mask H (ow ω)) xs ds) (hi : c.Γ i = .lst .sh) (h : AnsS c own H ω (r >>= foP i ds) K) : AnsS (cpn c i v) own H (lend ω l) r K := by
  cases r with
  | no => exact h
  | exc z => exact fun σ H' ω' e => h σ H' _ (eff_back wl e)
  | ok fl =>
    cases fl with
    | nx e =>
      have h : AnsS c own H ω (foP i ds (.nx e)) K := h
      unfold foP at h
      dsimp only at h
      cases q : lk e i with
      | none =>
        rw [q] at h
        exact fun σ' H' ω' a x => h σ' H' _ (ats_back a wl x hv hl hd hi q) (eff_back wl x)
      | some _ => rw [q] at h; exact h.elim
    | rt d =>
      refine fun w H' q => h w H' ?_
      obtain ⟨ω', A, e, nd, hA, dm, rp⟩ := q.is
      have w0 := eff_l e
      refine ⟨back ω' i l, A, eff_back wl e, nd, fun y hy => ?_, by rw [back_ow w0]; exact dm, by rw [back_ow w0]; exact rp⟩
      obtain ⟨j, e2⟩ := hA y hy
      exact ⟨j, by rw [back_ne (fun z => by rw [z, w0] at e2; cases e2)]; exact e2⟩
    | bk e => exact h.elim
    | ct e => exact h.elim
    | ex n => exact fun σ H' ω' e => h σ H' _ (eff_back wl e)
theorem sFo {g : Cfg} {c : Ctx} {X : Cx} {own : Own} {t : G} {i : Nat} {b : Ss} {tg : Expr} {x : Str} {p pos : Pos} {body : List Stmt} (G : GoodS g c X) (hg : mG g t tg = true) (hx : g.N[i]? = some x) (hv : visB g x = true) (hn : nmB x = true)
    (hb : ∀ v, PSs X body (tS (cpn c i v) own (evSs g.S b))) : PS X (.For tg (.Name x p) body [] pos) (tS c own (evS g.S (.fo t i b))) := by
  obtain ⟨n1, n2⟩ := nmB_of hn
  have hb' : PSs X body (fun K σ H => ∃ v, tS (cpn c i v) own (evSs g.S b) K σ H) := ⟨fun pins s σ H D I q => by
    obtain ⟨v, q⟩ := q
    exact (hb v).run pins s σ H D I q⟩
  refine PS.imp (ps_for G.po G.E.calm (pi_list (pe_var (i := i) (by rw [G.E.N]; exact hx) (G.E.vis hv) n1 n2)) (sG t G.E hg) hb' fun _ => rfl) fun K σ H ⟨env, ω, a, h⟩ => ?_
  rw [evS] at h
  split at h
  · rename_i ds hl
    split at h
    · rename_i ho
      obtain ⟨v, hs, q⟩ := a.er i _ false hl
      obtain ⟨A, nd, hA, r⟩ := (show ∃ A, A.Nodup ∧ (∀ a ∈ A, ω a = some (i + 1)) ∧ Rp [] H (ow ω) v (.list ds) (c.Γ i) A from q)
      have hi : c.Γ i = .lst .sh := by rw [G.E.own]; exact ho
      rw [hi] at r
      cases r with
      | flat f _ => cases f
      | @lst l xs _ _ A' h1 h2 h3 =>
        obtain ⟨rfl, h4⟩ := sh_all a.dom h3
        have wl := hA l (by simp)
        have h' := fo_in wl rfl h1 h4 hi h
        have ho : ow (lend ω l) = ow ω := lend_ow wl
        refine ⟨_, hs, l, rfl, ⟨xs, .inl (.inl h1)⟩, ?_⟩
        have ft := for_turns (X := X) (own := own) (c := cpn c i (.ref l)) (t := t) (fb := evSs g.S b) (items := ds) (J := Itl X.K l) (B := fun y => if y = l then H l else none) (M := mask H (ow ω)) (itok_list (K := X.K) (a := l) (vs := xs) (.inl (.inl ?_)) h4) (tb := fun K σ H => ∃ v, tS (cpn c i v) own (evSs g.S b) K σ H) (fun K σ H q => ⟨.ref l, q⟩) (K := K) (ats_lend a wl hs) h' (fun H' ω' e => ?_) (fun H' ω' e => ?_)
        · exact ft
        · show (if l = l then H l else none) = _
          rw [if_pos rfl, h1]
        · intro y o e2
          have e2 : (if y = l then H l else none) = some o := e2
          split at e2
          · rename_i ey
            rw [ey]
            exact e.keep l o e2 fun j => by rw [lend_at]; exact fun z => by cases z
          · cases e2
        · have m := e.mask
          rw [ho] at m
          exact m
    · exact h.elim
  · exact h.elim
theorem while_read {ft : Ev → R Bool} {fb : Ev → R Fl} : ∀ (n : Nat) K σ H, tS c own (fun env => loopW ft fb n env) K σ H → tWhile (tT c ft) (tS c own fb) K σ H := by
  rintro n K σ H ⟨env, ω, a, h⟩
  refine ⟨fun m σ' H' => ∃ env' ω', AtS c H' ω' env' σ' ∧ AnsS c own H' ω' (loopW ft fb m env') K, ⟨n, env, ω, a, h⟩, ?_⟩
  rintro m σ' H' ⟨env', ω', a', h'⟩
  cases m with
  | zero => exact h'.elim
  | succ m =>
    unfold loopW at h'
    refine tT_st a' h' fun b H1 _ a1 x1 k1 => ?_
    cases b with
    | false =>
      have k1 : AnsS c own H1 ω' (.ok (.nx env')) K := k1
      exact k1 σ' H1 ω' a1 .refl
    | true =>
      refine ⟨fun σ2 H2 => ∃ env' ω', AtS c H2 ω' env' σ2 ∧ AnsS c own H2 ω' (loopW ft fb m env') K, fun σ2 H2 q => ⟨m, Nat.lt_succ_self m, q⟩, env', ω', a1, ?_⟩
      exact AnsS.turn (k := fun e => loopW ft fb m e) k1 fun e σ3 H3 ω3 a3 _ h3 => ⟨e, ω3, a3, h3⟩
end
/-! try -/
def ctxW (c : Ctx) (W : WX) : Ctx := { c with W := fun σ n H => W (.ref (c.xs n)) none σ H }
theorem AtS.ctx {c c' : Ctx} (e : c'.Γ = c.Γ) (e2 : c'.pn = c.pn) {H : Hp} {ω : Om} {env : Ev} {σ : L2.St} (a : AtS c H ω env σ) : AtS c' H ω env σ := ⟨a.dom, fun i d b h => by rw [e]; exact a.er i d b h, a.len, by rw [e2]; exact a.pn⟩
theorem GoodS.tr {g : Cfg} {c : Ctx} {X : Cx} (G : GoodS g c X) {W : WX} {pn : List (Addr × Obj)} {xe : Value → Shared → Prop} (tk : Takes (X.tr pn xe) W) (po : PassesOwn (model X.prog X.w) X.A X.env xe) : GoodS g (ctxW c W) (X.tr pn xe) where
  E := { N := G.E.N, nd := G.E.nd, sc := G.E.sc, calm := G.E.calm, hu := G.E.hu, bi := G.E.bi, gls := G.E.gls
         fns := fun i fn h => let ⟨f, fd, ps, k, h1, h2, h3, h4, h5⟩ := (G.E.fns i fn h).is; ⟨f, fd, ps, k, h1, h2, h3, h4, h5⟩
         tk := tk.imp fun cls d σ H ⟨n, e1, e2, w⟩ => by subst e1 e2; exact w
         own := G.E.own, cl := G.E.cl, xcs := G.E.xcs, tp := G.E.tp }
  po := po
  kd := G.kd
  fz := G.fz
  stk := G.stk
  frm := G.frm
def hdlOf (xs : Nat → Addr) (xc : Xc) (h : Hn) : Hdl := ⟨.ref (xs h.c), h.i, fun a cls d D σ H => ∃ n, cls = .ref (xs n) ∧ d = none ∧ n < xc.length ∧ tHe h.i a (evHE xc n h.e) σ H fun v H' => D.rt v H'⟩
def nmHn (g : Cfg) (nm : Option Str) (i : Option Nat) : Prop := match nm, i with
  | none, none => True
  | some y, some i => g.N[i]? = some y ∧ g.look y = some .local
  | _, _ => False
theorem mHn_inv {g : Cfg} {h : Hn} {e : ExceptHandler} (hm : mHn g h e = true) : ∃ x p nm e' q r pp, e = .ExceptHandler (some (.Name x p)) nm [.Return (some e') q] r ∧ g.S.xc[h.c]? = some pp ∧ pp.1 = x ∧ glB g x = true ∧ nmB x = true ∧ nmHn g nm h.i ∧ mHE g.h h.i h.e e' = true := by
  unfold mHn at hm
  split at hm
  · simp only [Bool.and_eq_true] at hm
    obtain ⟨⟨⟨⟨k1, k2⟩, k3⟩, k4⟩, k5⟩ := hm
    split at k1
    · rename_i p hp
      refine ⟨_, _, _, _, _, _, p, rfl, hp, of_decide_eq_true k1, k2, k3, ?_, k5⟩
      unfold nmHn
      split at k4
      · rename_i hi
        first
          | exact True.intro
          | (rw [hi]; exact True.intro)
      · rename_i y i hi
        simp only [Bool.and_eq_true, decide_eq_true_eq] at k4
        first
          | exact k4
          | (rw [hi]; exact k4)
      · cases k4
    · cases k1
  · cases hm
theorem mHn_c {g : Cfg} {h : Hn} {e : ExceptHandler} (hm : mHn g h e = true) : h.c < g.S.xc.length := by
  obtain ⟨x, p, nm, e', q, r, pp, _, hp, _⟩ := mHn_inv hm
  exact (List.getElem?_eq_some_iff.mp hp).1
theorem mHn_i {g : Cfg} {h : Hn} {e : ExceptHandler} (hm : mHn g h e = true) {j : Nat} (hj : h.i = some j) : j < g.N.length := by
  obtain ⟨x, p, nm, e', q, r, pp, _, _, _, _, _, hn, _⟩ := mHn_inv hm
  rw [hj] at hn
  cases nm with
  | none => exact hn.elim
  | some y => exact (List.getElem?_eq_some_iff.mp hn.1).1
theorem nmOk_of {g : Cfg} {c : Ctx} {X : Cx} (G : GoodS g c X) {nm : Option Str} {i : Option Nat} (h : nmHn g nm i) : NmOk X nm i := by
  cases nm with
  | none =>
    cases i with
    | none => exact True.intro
    | some i => exact h.elim
  | some z =>
    cases i with
    | none => exact h.elim
    | some i =>
      refine ⟨by rw [G.E.N]; exact h.1, ?_⟩
      show X.env.scope.names.lookup z = _
      rw [G.E.sc]
      exact h.2
theorem hds_of {g : Cfg} {c : Ctx} {X : Cx} (G : GoodS g c X) : ∀ {hs : List Hn} {es : List ExceptHandler}, mHns g hs es = true → Hds X es (hs.map (hdlOf c.xs g.S.xc))
  | [], es, h => by
    unfold mHns at h
    cases es with
    | nil => exact .nil
    | cons _ _ => cases h
  | hn :: r, es, h => by
    unfold mHns at h
    cases es with
    | nil => cases h
    | cons x l =>
      have h := Bool.and_eq_true_iff.mp h
      have ih := hds_of G (hs := r) h.2
      obtain ⟨y, p, nm, e', q, rr, pp, rfl, hp, e1, k2, k3, k4, k5⟩ := mHn_inv h.1
      have hm : X.mg y = some (.ref (c.xs hn.c)) := e1 ▸ G.E.xcs.mg hn.c pp hp
      refine .cons (h := hdlOf c.xs g.S.xc hn) ⟨G.E.gl k2, (nmB_of k3).1, .inl hm⟩ ?_ (fun a oe cls d pn hz hf => ⟨fun pins s σ H D I ⟨n, q1, q2, q3, q4⟩ => ?_⟩) ih
      · exact nmOk_of G k4
      · subst q1 q2
        have hg : HG g.h c.xs X := ⟨G.E.N, G.E.sc, G.E.bf, G.E.xcs⟩
        exact (pss_one (ps_ret (sHE (a := a) (pn := pn) hg q3 hz hf k5).1)).run pins s σ H D I q4
theorem hdl_flat {g : Cfg} {h : Hn} {e : ExceptHandler} (hm : mHn g h e = true) (n : Nat) : flatD (evHE g.S.xc n h.e) = true := by
  obtain ⟨y, p, nm, e', q, rr, pp, _, _, _, _, _, _, k⟩ := mHn_inv hm
  have cst : ∀ {k : Const} {d : D}, mCst k d = true → flatD d = true := fun {k d} h => by
    unfold mCst at h
    split at h <;> first | rfl | cases h
  cases he : h.e with
  | cst d =>
    rw [he] at k
    dsimp only [mHE] at k
    split at k
    · exact cst k
    · cases k
  | bo b => rfl
  | pick x y b =>
    rw [he] at k
    dsimp only [mHE] at k
    split at k
    · simp only [Bool.and_eq_true] at k
      dsimp only [evHE]
      split
      · exact cst k.1.1.1.2
      · exact cst k.1.1.1.1
    · cases k
theorem try_wish {g : Cfg} {c : Ctx} {X : Cx} {own : Own} (G : GoodS g c X) {D : Ends} {H : Hp} {ω : Om} (hd : Dom H (ow ω)) {n : Nat} (hn : n < g.S.xc.length) : ∀ {hs : List Hn} {es : List ExceptHandler}, mHns g hs es = true → AnsS c own H ω (hdlR g.S.xc n hs) D →
    ∀ σ H' ω', Eff H ω H' ω' → wHd X.K X.N.length (WXc c) D (hs.map (hdlOf c.xs g.S.xc)) (.ref (c.xs n)) none σ H'
  | [], es, h, k, σ, H', ω', e => ⟨n, rfl, rfl, k σ H' ω' e⟩
  | x :: r, es, h, k, σ, H', ω', e => by
    unfold mHns at h
    cases es with
    | nil => cases h
    | cons y l =>
      have h := Bool.and_eq_true_iff.mp h
      refine ⟨under g.S.xc n x.c, G.E.xcs.exm hn (mHn_c h.1), fun hb hl a na => ?_, fun hb => ?_⟩
      · unfold hdlR at k
        rw [if_pos hb] at k
        refine ⟨n, rfl, rfl, hn, fun j hj => ?_, fun v H2 s2 q => ?_⟩
        · show (putO σ x.i (some (V.ref a)))[j]? = _
          rw [hj]
          show (σ.set j (some (V.ref a)))[j]? = _
          rw [List.getElem?_set_self]
          rw [hl, G.E.N]
          exact mHn_i h.1 hj
        · have k : ∀ v H', Lnd c own H ω (evHE g.S.xc n x.e) v H' → D.rt v H' := k
          refine k v H2 ⟨fun z => if ω' z = some 0 then some 0 else none, [], ?_, List.nodup_nil, (fun z hz => nomatch hz), ?_, .flat (hdl_flat h.1 n) q⟩
          · have e2 := e.trans (Eff.same (ω := ω') s2)
            refine ⟨e2.keep, fun z i q => ?_, fun z => ?_, e2.there⟩
            · split at q <;> cases q
            · rw [← e2.out z]
              constructor
              · intro q
                split at q
                · assumption
                · cases q
              · intro q
                rw [if_pos q]
          · intro z hz
            obtain ⟨i, hi⟩ := ow_true.mp hz
            split at hi
            · rename_i h0
              have h1 := (e.out z).mp h0
              obtain ⟨xs, e3, m3⟩ := hd z (ow_true.mpr ⟨_, h1⟩)
              exact ⟨xs, s2 _ _ (e.keep z _ e3 fun i q => by rw [h1] at q; cases q), m3⟩
            · cases hi
      · unfold hdlR at k
        rw [if_neg (by rw [hb]; decide)] at k
        exact try_wish G hd hn h.2 k σ H' ω' e
theorem evSs_exc {T : Sg} {env : Ev} {z : Nat} : ∀ {s : Ss}, evSs T s env ≠ .exc z
  | .nil => fun h => nomatch h
  | .cons s r => fun h => by
    rw [evSs] at h
    cases hs : evS T s env with
    | no => rw [hs] at h; cases h
    | exc w => rw [hs] at h; cases h
    | ok fl =>
      rw [hs] at h
      cases fl with
      | nx e => exact evSs_exc h
      | rt _ => cases h
      | bk _ => cases h
      | ct _ => cases h
      | ex _ => cases h
theorem sDst {g : Cfg} {c : Ctx} {X : Cx} {own : Own} {i : Nat} {k x : E} {b u v : Expr} {sp pos : Pos} (G : GoodS g c X) (hp : mPa g i .nil b = true) (hk' : mE g k u = true) (hx : mE g x v = true) (hf : Pv.fz (ty g.S x) = true) (hc : isComp v = false) :
    PS X (.Assign [.Subscript b u sp] v pos) (tS c own (evS g.S (.dst i k x))) := by
  refine PS.imp (ps_dput (by have := G.E.hu; omega) (sPa .nil G.E hp) (sE k G.E hk') (sE x G.E hx) (swaps_no (t := some (.Subscript b u sp)) (l := pos.line) (env := X.env) hc)) fun K σ H ⟨env, ω, a, h⟩ => ?_
  rw [evS] at h
  refine tE_stT a h fun d y H1 hd a1 e1 t1 h => ?_
  have ky := t1.fz a1.dom hf
  split at h
  · rename_i q hl
    split at h
    · rename_i ho
      have hi : c.Γ i = .dct := by rw [G.E.own]; exact ho
      obtain ⟨v0, hs, _⟩ := a1.er i q false hl
      refine ⟨env, ow ω, v0, a1.at, hs, ?_⟩
      show ∃ w, Reach H1 v0 [] w ∧ _
      refine ⟨v0, .nil, fun H2 s2 => ?_⟩
      refine tE_stT (a1.later s2) (h.later (.same s2)) fun e z H3 he a3 e3 t3 h3 => ?_
      cases hq : evDp q e d with
      | no => rw [hq] at h3; exact h3.elim
      | exc z => exact (evDp_exc hq).elim
      | ok q' =>
        rw [hq] at h3
        have s3 : Same (mask H1 (ow ω)) (mask H3 (ow ω)) := (Eff.same (ω := ω) s2 |>.trans e3).mask
        obtain ⟨l, H4, hs', hp4, a4, e4⟩ := ats_dput G.fzΓ hi a3 hl hq t3.dp (ky.mono s3)
        have e0 : v0 = .ref l := by rw [hs] at hs'; cases hs'; rfl
        exact ⟨l, H4, e0, hp4, h3 σ H4 ω a4 e4⟩
    · exact h.elim
  · exact h.elim
mutual
theorem sS : ∀ (s : S) {g : Cfg} {c : Ctx} {X : Cx} {own : Own} {st : Stmt}, GoodS g c X → mS g own s st = true → PS X st (tS c own (evS g.S s))
  | .asg t x, g, c, X, own, st, G, h => by
    unfold mS at h
    split at h
    · simp only [Bool.and_eq_true] at h
      obtain ⟨⟨⟨h1, h2⟩, h3⟩, h4⟩ := h
      cases t with
      | nm i =>
        unfold mG at h1
        split at h1
        · simp only [Bool.and_eq_true, decide_eq_true_eq] at h1
          refine PS.imp (sAs G h2 h1.1 h1.2 h4) fun K σ H ⟨env, ω, a, h⟩ => ?_
          rw [evS] at h
          exact tE_stT a h fun d v H1 _ a1 e1 t1 k1 => k1 _ H1 ω (a1.put (t1.fz a1.dom h3)) .refl
        · cases h1
      | tp gs =>
        unfold asgB at h4
        simp only [Bool.and_eq_true, Bool.not_eq_true'] at h4
        exact PS.cg (ps_tp h3 (sE x G.E h2) (sG (.tp gs) G.E h1) h4.1.1 h4.1.2 h4.2) fun env => by rw [evS]
      | ls gs =>
        unfold asgB at h4
        simp only [Bool.and_eq_true, Bool.not_eq_true'] at h4
        exact PS.cg (ps_tp h3 (sE x G.E h2) (sG (.ls gs) G.E h1) h4.1.1 h4.1.2 h4.2) fun env => by rw [evS]
    · cases h
  | .own i x, g, c, X, own, st, G, h => by
    unfold mS at h
    split at h
    · simp only [Bool.and_eq_true, decide_eq_true_eq] at h
      obtain ⟨⟨⟨h1, h2⟩, h3⟩, h4⟩ := h
      unfold mG at h1
      split at h1
      · simp only [Bool.and_eq_true, decide_eq_true_eq] at h1
        refine PS.imp (sAs G h2 h1.1 h1.2 h4) fun K σ H ⟨env, ω, a, h⟩ => ?_
        rw [evS] at h
        refine tE_st a h fun d v H1 A _ s1 fr r k1 => ?_
        rw [h3, ← G.E.own] at r
        obtain ⟨a', e'⟩ := AtS.own a s1 fr r
        exact k1 _ H1 _ a' e'
      · cases h1
    · cases h
  | .aug i op x, g, c, X, own, st, G, h => by
    unfold mS at h
    split at h
    · simp only [Bool.and_eq_true, decide_eq_true_eq] at h
      obtain ⟨⟨⟨h1, h2⟩, h3⟩, h4⟩ := h
      subst h1
      exact sAug G h2 h3 h4
    · cases h
  | .drop x, g, c, X, own, st, G, h => by
    unfold mS at h
    split at h
    · simp only [Bool.and_eq_true, Bool.not_eq_true'] at h
      refine PS.imp (ps_expr (sE x G.E h.1) (swaps_no h.2)) fun K σ H ⟨env, ω, a, h⟩ => ?_
      rw [evS] at h
      exact tE_stT a h fun d v H1 _ a1 e1 t1 k1 => k1 σ H1 ω a1 .refl
    · cases h
  | .app i p x, g, c, X, own, st, G, h => by
    unfold mS at h
    split at h
    · simp only [Bool.and_eq_true, decide_eq_true_eq] at h
      obtain ⟨⟨⟨⟨⟨h1, h2⟩, h3⟩, h4⟩, h5⟩, h6⟩ := h
      subst h1
      exact sApp G h2 h3 h4 h5 h6
    · cases h
  | .xa i x, g, c, X, own, st, G, h => by
    unfold mS at h
    split at h
    · simp only [Bool.and_eq_true, decide_eq_true_eq] at h
      exact sXa G h.1.1 h.1.2 h.2
    · cases h
  | .xp j x, g, c, X, own, st, G, h => by
    unfold mS at h
    split at h
    · simp only [Bool.and_eq_true, decide_eq_true_eq] at h
      obtain ⟨⟨⟨⟨h1, h2⟩, h3⟩, h4⟩, h5⟩ := h
      subst h1
      exact sXp G h2 h3 h4 h5
    · cases h
  | .par i j a b, g, c, X, own, st, G, h => by
    unfold mS at h
    split at h
    · simp only [Bool.and_eq_true, decide_eq_true_eq, Bool.not_eq_true'] at h
      obtain ⟨⟨⟨⟨⟨⟨⟨⟨⟨⟨⟨⟨⟨h1, h2⟩, h3⟩, h4⟩, h5⟩, h6⟩, h7⟩, h8⟩, h9⟩, h10⟩, h11⟩, h12⟩, h13⟩, h14⟩ := h
      exact sPar G h1 h2 h3 h4 h5 h6 h7 h8 h9 h10 h11 h12 h13 h14
    · cases h
  | .apo i x, g, c, X, own, st, G, h => by
    unfold mS at h
    split at h
    · simp only [Bool.and_eq_true, decide_eq_true_eq] at h
      obtain ⟨⟨⟨⟨⟨⟨h1, h2⟩, h3⟩, h4⟩, h5⟩, h6⟩, h7⟩ := h
      subst h1
      exact sApo G h2 h3 h4 h5 h6 h7
    · cases h
  | .ext i p x, g, c, X, own, st, G, h => by
    unfold mS at h
    split at h
    · simp only [Bool.and_eq_true, decide_eq_true_eq] at h
      obtain ⟨⟨⟨⟨⟨h1, h2⟩, h3⟩, h4⟩, h5⟩, h6⟩ := h
      subst h1
      exact sExt G h2 h3 h4 h5 h6
    · cases h
  | .ins i p k x, g, c, X, own, st, G, h => by
    unfold mS at h
    split at h
    · simp only [Bool.and_eq_true, decide_eq_true_eq] at h
      obtain ⟨⟨⟨⟨⟨⟨⟨h1, h2⟩, h3⟩, h4⟩, h5⟩, h6⟩, h7⟩, h8⟩ := h
      subst h1
      exact sIns G h2 h3 h4 h5 h6 h7 h8
    · cases h
  | .pop i p, g, c, X, own, st, G, h => by
    unfold mS at h
    split at h
    · simp only [Bool.and_eq_true, decide_eq_true_eq] at h
      obtain ⟨⟨h1, h2⟩, h3⟩ := h
      subst h1
      exact sPop G h2 h3
    · cases h
  | .st i p k x, g, c, X, own, st, G, h => by
    unfold mS at h
    split at h
    · simp only [Bool.and_eq_true, Bool.not_eq_true'] at h
      obtain ⟨⟨⟨⟨⟨h1, h2⟩, h3⟩, h4⟩, h5⟩, h6⟩ := h
      exact sSt G h1 h2 h3 h4 h5 h6
    · cases h
  | .sau i p k op x, g, c, X, own, st, G, h => by
    unfold mS at h
    split at h
    · simp only [Bool.and_eq_true, decide_eq_true_eq] at h
      obtain ⟨⟨⟨⟨h1, h2⟩, h3⟩, h4⟩, h5⟩ := h
      subst h1
      exact sSau G h2 h3 h4 h5
    · cases h
  | .iff t x y, g, c, X, own, st, G, h => by
    unfold mS at h
    split at h
    · simp only [Bool.and_eq_true] at h
      refine PS.imp (ps_if (sT t G.E h.1.1) (sSs x G h.1.2) (sSs y G h.2)) fun K σ H ⟨env, ω, a, h⟩ => ?_
      rw [evS] at h
      refine tT_st a h fun b H1 _ a1 e1 k1 => ?_
      cases b with
      | true => exact ⟨env, ω, a1, k1⟩
      | false => exact ⟨env, ω, a1, k1⟩
    · cases h
  | .fr t it b, g, c, X, own, st, G, h => by
    unfold mS at h
    split at h
    · simp only [Bool.and_eq_true] at h
      obtain ⟨⟨⟨h1, h2⟩, h3⟩, h4⟩ := h
      refine PS.imp (ps_for G.po G.E.calm (sI it false G.E h2) (sG t G.E h1) (sSs b G h4) (fold_of h3)) fun K σ H ⟨env, ω, a, h⟩ => ?_
      rw [evS] at h
      exact for_read K σ H ⟨env, ω, a, h⟩
    · cases h
  | .fo t i b, g, c, X, own, st, G, h => by
    unfold mS at h
    split at h
    · simp only [Bool.and_eq_true, decide_eq_true_eq] at h
      obtain ⟨⟨⟨⟨h1, h2⟩, h3⟩, h4⟩, h5⟩ := h
      exact sFo G h1 h2 h3 h4 fun v => sSs b (G.cpn i v) h5
    · cases h
  | .wh t b, g, c, X, own, st, G, h => by
    unfold mS at h
    split at h
    · simp only [Bool.and_eq_true] at h
      refine PS.imp (ps_while G.po (sT t G.E h.1) (sSs b G h.2)) fun K σ H ⟨env, ω, a, h⟩ => ?_
      rw [evS] at h
      exact while_read fuel K σ H ⟨env, ω, a, h⟩
    · cases h
  | .ret r, g, c, X, own, st, G, h => by
    unfold mS at h
    split at h
    · exact PS.cg (sR G h) fun env => by rw [evS]
    · cases h
  | .brk, g, c, X, own, st, G, h => by
    unfold mS at h
    split at h
    · refine PS.imp ps_break fun K σ H ⟨env, ω, a, h⟩ => ?_
      rw [evS] at h
      exact h σ H ω a .refl
    · cases h
  | .cnt, g, c, X, own, st, G, h => by
    unfold mS at h
    split at h
    · refine PS.imp ps_continue fun K σ H ⟨env, ω, a, h⟩ => ?_
      rw [evS] at h
      exact h σ H ω a .refl
    · cases h
  | .pass, g, c, X, own, st, G, h => by
    unfold mS at h
    split at h
    · refine PS.imp ps_pass fun K σ H ⟨env, ω, a, h⟩ => ?_
      rw [evS] at h
      exact h σ H ω a .refl
    · refine PS.imp ps_doc fun K σ H ⟨env, ω, a, h⟩ => ?_
      rw [evS] at h
      exact h σ H ω a .refl
    · cases h
  | .fzz i s, g, c, X, own, st, G, h => by
    unfold mS at h
    refine PS.imp (sS s G h) fun K σ H ⟨env, ω, a, h⟩ => ?_
    rw [evS] at h
    exact ⟨frzE env i, drp ω i, a.freeze (G.fzΓ i), h.later Eff.drp⟩
  | .dst i k x, g, c, X, own, st, G, h => by
    unfold mS at h
    split at h
    · simp only [Bool.and_eq_true, Bool.not_eq_true'] at h
      obtain ⟨⟨⟨⟨h1, h2⟩, h3⟩, h4⟩, h5⟩ := h
      exact sDst G h1 h2 h3 h4 h5
    · cases h
  | .rse n, g, c, X, own, st, G, h => by
    unfold mS at h
    split at h
    · simp only [Bool.and_eq_true] at h
      obtain ⟨⟨h1, h2⟩, h3⟩ := h
      split at h1
      · rename_i p hp
        have e1 := of_decide_eq_true h1
        have hn : n < g.S.xc.length := (List.getElem?_eq_some_iff.mp hp).1
        have hm : X.mg _ = some (.ref (c.xs n)) := e1 ▸ G.E.xcs.mg n p hp
        have F := G.E.xcs.at_ hn
        refine PS.imp (ps_raise G.E.calm G.E.tk (pmk_own PySem.F.excBase_ValueError F.exc hm F.keep (raises_own F.sub F.typ) (G.E.gl h2) (nmB_of h3).1)) fun K σ H ⟨env, ω, a, h⟩ => ?_
        rw [evS, if_pos hn] at h
        exact ⟨n, rfl, rfl, h σ H ω .refl⟩
      · cases h1
    · cases h
  | .tr b hs, g, c, X, own, st, G, h => by
    unfold mS at h
    split at h
    · rename_i body l pos
      simp only [Bool.and_eq_true] at h
      obtain ⟨⟨h1, h2⟩, h3⟩ := h
      cases l with
      | nil => cases h3
      | cons x l =>
        refine PS.imp (ps_try_hds (tb := fun W => tS (ctxW c W) own (evSs g.S b)) (by rw [G.E.N]; exact G.E.nd) G.stk G.frm G.E.tk (fun W pn xe tk po => sSs b (G.tr tk po) h1) (hds_of G h2)) fun K σ H ⟨env, ω, a, h⟩ => ⟨env, ω, ⟨a.dom, a.er, a.len, a.pn⟩, ?_⟩
        rw [evS] at h
        cases hr : evSs g.S b env with
        | no => rw [hr] at h; exact h
        | exc z => exact (evSs_exc hr).elim
        | ok fl =>
          rw [hr] at h
          cases fl with
          | nx e => exact fun σ' H' ω' q => h σ' H' ω' ⟨q.dom, q.er, q.len, q.pn⟩
          | bk e => exact fun σ' H' ω' q => h σ' H' ω' ⟨q.dom, q.er, q.len, q.pn⟩
          | ct e => exact fun σ' H' ω' q => h σ' H' ω' ⟨q.dom, q.er, q.len, q.pn⟩
          | rt d => exact fun v H' ⟨q⟩ => h v H' ⟨q⟩
          | ex n =>
            have h : AnsS c own H ω (if n < g.S.xc.length then hdlR g.S.xc n hs else .no) K := h
            split at h
            · rename_i hn
              exact fun σ' H' ω' e => try_wish G a.dom hn h2 h σ' H' ω' e
            · exact h.elim
    · cases h
theorem sSs : ∀ (s : Ss) {g : Cfg} {c : Ctx} {X : Cx} {own : Own} {st : List Stmt}, GoodS g c X → mSs g own s st = true → PSs X st (tS c own (evSs g.S s))
  | .nil, g, c, X, own, st, G, h => by
    unfold mSs at h
    cases st with
    | nil =>
      refine PSs.imp pss_nil fun K σ H ⟨env, ω, a, h⟩ => ?_
      rw [evSs] at h
      exact h σ H ω a .refl
    | cons _ _ => cases h
  | .cons s r, g, c, X, own, st, G, h => by
    unfold mSs at h
    split at h
    · simp only [Bool.and_eq_true] at h
      refine PSs.imp (pss_cons (sS s G h.1) (sSs r G h.2)) fun K σ H ⟨env, ω, a, h⟩ => ⟨env, ω, a, ?_⟩
      rw [evSs] at h
      refine AnsS.catchX ?_
      exact AnsS.seq (k := fun e => evSs g.S r e) h fun e σ' H' ω' a' x' h' => ⟨e, ω', a', h'⟩
    · cases h
end

/-! a def -/
def startE (n : Nat) (ds : List D) : Ev := ds.map (fun d => some (d, true)) ++ List.replicate (n - ds.length) none
def outF : R Fl → R D
  | .ok (.rt d) => .ok d
  | .ok (.nx _) => .ok .none
  | .ok (.ex n) => .exc n
  | .ok _ => .no
  | .exc x => .exc x
  | .no => .no
def runF (S : Sg) (b : Ss) (n : Nat) (ds : List D) : R D := outF (evSs S b (startE n ds))
theorem lk_startE {n i : Nat} {d : D} {b : Bool} : ∀ {ds : List D}, lk (ds.map (fun d => some (d, true)) ++ List.replicate n none) i = some (d, b) → b = true ∧ ds[i]? = some d
  | [], h => by
    exfalso
    have : ∀ (m j : Nat), lk (List.replicate m none) j = none := fun m => by
      induction m with
      | zero => exact fun j => by cases j <;> rfl
      | succ m ih => exact fun j => by cases j with
        | zero => rfl
        | succ j => exact ih j
    rw [List.map_nil, List.nil_append, this] at h
    cases h
  | x :: ds, h => by
    cases i with
    | zero => cases h; exact ⟨rfl, rfl⟩
    | succ i => exact lk_startE (ds := ds) h
section
variable {P : Program} {w : World} {K : PySem.W.Frag} {mg : Str → Option Value} {base : Heap}
/-- what the body of a def answers, wherever it is called -/
theorem fn_body {xs : Nat → Addr} {qual : Str} {st : Stmt} {f : Addr} {ps : List Str} {k : Nat} {g : Cfg} {b : Ss} {own : Own} {nm : Str} (hS : FnScope g.N ps (defScope st)) (hsc : g.sc = defScope st) (hm : mSs g own b (defBody st) = true)
    (hfz : (g.S.Γ.all fz) = true)
    (hbi : ∀ x, (g.bis.any fun y => decide (y = x)) = true → mg x = mgB x)
    (hgl : ∀ (i : Nat) (p : Str × D), g.S.gls[i]? = some p → ∃ u v, mg p.1 = some u ∧ RelV v u ∧ flatD p.2 = true ∧ ∀ H, Dp [] H v p.2)
    (hxc : XcG xs K mg g.S.xc)
    (hfn : ∀ (i : Nat) (fn : Fn), g.S.fns[i]? = some fn → ∃ f fd ps, FnOk P w K mg base (L2.CX P w) k f fd ps (spF xs fn) ∧ mg fn.name = some (.ref f) ∧ PySem.W.keepIn K (.ref f) = true ∧ Binds K fd ps [])
    {cdv : Value} {A : Around} {outer : List Env} {s : Shared} {H : Hp} {vs : List V} {Q : VK} {E : XK} (hr : Room k (A.deeper (envOfC qual (defScope st) s.heap.objs.size f cdv)))
    (hgd : g.S.top = true → (A.deeper (envOfC qual (defScope st) s.heap.objs.size f cdv)).guards = some [])
    (h : spF xs ⟨nm, ps.length, own, runF g.S b g.N.length⟩ vs H Q E) :
    ∃ t, PSs (cxOf (L2.CX P w) P w K mg base g.N qual (defScope st) f cdv A outer s H E) (defBody st) t ∧ t { nx := fun _ H' => Q .non H', rt := Q } (start g.N vs) H := by
  obtain ⟨O, ds, hd, hl, hv, hans⟩ := h
  have hl : ds.length = ps.length := hl
  have hpl : ps.length ≤ g.N.length := by
    have := congrArg List.length hS.pre
    rw [List.length_take] at this
    omega
  let c : Ctx := ⟨fun _ n H' => E (.ref (xs n)) none H', g.S.own, xs, fun _ => none⟩
  have hG : GoodS g c (cxOf (L2.CX P w) P w K mg base g.N qual (defScope st) f cdv A outer s H E) := by
    refine ⟨⟨rfl, hS.nd, hsc.symm, rfl, ?_, hbi, hgl, fun i fn hi => ?_, (takes_of rfl rfl rfl rfl).imp (fun cls d σ H' hh => ?_), rfl, fun _ _ => rfl, hxc, hgd⟩, passes_of rfl, ?_, fun i => ?_, rfl, rfl⟩
    · have := hr.un
      show (A.deeper _).units + 65 < cLine
      omega
    · obtain ⟨f', fd', ps', h1, h2, h3, h4⟩ := hfn i fn hi
      exact ⟨f', fd', ps', k, h1, hr, h2, h3, h4⟩
    · obtain ⟨n, rfl, rfl, w⟩ := hh
      exact w
    · rw [hsc]; exact hS.kind
    · unfold Sg.own
      rw [List.getD_eq_getElem?_getD]
      cases q : g.S.Γ[i]? with
      | none => rfl
      | some o => exact List.all_eq_true.mp hfz o (List.mem_of_getElem? q)
  refine ⟨_, sSs b hG hm, startE g.N.length ds, fun a => if O a = true then some 0 else none, ?_, ?_⟩
  · have eo : ow (fun a => if O a = true then some 0 else none) = O := by
      funext a
      unfold ow
      dsimp only
      cases O a <;> rfl
    refine ⟨by rw [eo]; exact hd, fun i d b hi => ?_, ?_, fun _ _ z => nomatch z⟩
    · obtain ⟨hb, he⟩ := lk_startE hi
      subst hb
      obtain ⟨v, hv', kv⟩ := DpAll.get hv he
      refine ⟨v, ?_, by rw [eo]; exact kv⟩
      unfold L2.start
      have hil : i < vs.length := (List.getElem?_eq_some_iff.mp hv').1
      rw [List.getElem?_append_left (by rw [List.length_map]; exact hil), List.getElem?_map, hv']
      rfl
    · unfold startE L2.start
      have := DpAll.length hv
      simp only [List.length_append, List.length_map, List.length_replicate]
      omega
  · have hans : AnsP (fun n H' => E (.ref (xs n)) none H') H (outF (evSs g.S b (startE g.N.length ds))) (Gv O own Q) := hans
    have sm : ∀ {H' : Hp} {ω' : Om}, Eff H (fun a => if O a = true then some 0 else none) H' ω' → Same H H' := fun {H' ω'} e a o h => e.keep a o h fun i q => by
      have q : (if O a = true then some 0 else none) = some (i + 1) := q
      split at q <;> cases q
    cases hr2 : evSs g.S b (startE g.N.length ds) with
    | no => rw [hr2] at hans; exact hans.elim
    | exc z => rw [hr2] at hans; exact fun _ H' ω' e => hans H' (sm e)
    | ok fl =>
      rw [hr2] at hans
      cases fl with
      | bk e => exact hans.elim
      | ct e => exact hans.elim
      | ex z => exact fun _ H' ω' e => hans H' (sm e)
      | nx e =>
        intro σ' H' ω' a' x'
        have hans : Gv O own Q H .none := hans
        exact Gv.give hans (sm x') (.flat rfl .non)
      | rt d =>
        intro v H' l
        have hans : Gv O own Q H d := hans
        obtain ⟨ω', A, x', nd, hA, dm, r⟩ := l.is
        refine hans v H' A (sm x') ⟨nd, fun a ha => ?_, fun a ha => (r.owned a ha).2⟩ (Rp.mono (Same.refl _) (fun a ha => ?_) (fun a ha => add_true.mpr (.inr ha)) r)
        · obtain ⟨i, hi⟩ := hA a ha
          rcases x'.own a i hi with ⟨j, z⟩ | z
          · have z : (if O a = true then some 0 else none) = some (j + 1) := z
            split at z <;> cases z
          · exact z
        · refine .inl ?_
          rcases add_true.mp ha with z | z
          · have := (x'.out a).mpr (show (if O a = true then some 0 else none) = some 0 from if_pos z)
            exact ow_true.mpr ⟨_, this⟩
          · obtain ⟨i, hi⟩ := hA a z
            exact ow_true.mpr ⟨_, hi⟩
theorem fn_ok {xs : Nat → Addr} {x qual : Str} {st : Stmt} {f : Addr} {fd : FuncData} {ps : List Str} {k : Nat} {g : Cfg} {b : Ss} {own : Own} {nm : Str} (F : Fun K x qual st f fd) (hS : FnScope g.N ps (defScope st)) (hsc : g.sc = defScope st) (hm : mSs g own b (defBody st) = true)
    (hfz : (g.S.Γ.all fz) = true) (ht : g.S.top = false)
    (hbi : ∀ x, (g.bis.any fun y => decide (y = x)) = true → mg x = mgB x)
    (hgl : ∀ (i : Nat) (p : Str × D), g.S.gls[i]? = some p → ∃ u v, mg p.1 = some u ∧ RelV v u ∧ flatD p.2 = true ∧ ∀ H, Dp [] H v p.2)
    (hxc : XcG xs K mg g.S.xc)
    (hfn : ∀ (i : Nat) (fn : Fn), g.S.fns[i]? = some fn → ∃ f fd ps, FnOk P w K mg base (L2.CX P w) k f fd ps (spF xs fn) ∧ mg fn.name = some (.ref f) ∧ PySem.W.keepIn K (.ref f) = true ∧ Binds K fd ps []) :
    FnOk P w K mg base (L2.CX P w) (k + 1) f fd ps (spF xs ⟨nm, ps.length, own, runF g.S b g.N.length⟩) := by
  refine F.okX hS (fun vs H Q E h => ?_) (fun cdv A outer s H vs Q E hr h => fn_body hS hsc hm hfz hbi hgl hxc hfn hr (fun z => by rw [ht] at z; cases z) h)
  obtain ⟨O, ds, _, hl, hv, _⟩ := h
  rw [DpAll.length hv]
  exact hl
end
end Pv

/-! part N: defs by name; the end of a row -/
namespace Pv
open PySem PySem.Spec PyProof.Rows L2
def nlO (o : Obj) : Bool := match o.cls with
  | .type n => !decide (n = "list")
  | _ => true
def noList (K : PySem.W.Frag) : Bool := K.all fun x => nlO x.2
theorem mem_look {K : PySem.W.Frag} {a : Addr} {o : Obj} : K.lookup a = some o → ∃ b, (b, o) ∈ K := by
  induction K with
  | nil => intro h; cases h
  | cons x K ih =>
    intro h
    obtain ⟨b, p⟩ := x
    rw [List.lookup_cons] at h
    split at h
    · cases h
      exact ⟨b, .head _⟩
    · obtain ⟨c, hc⟩ := ih h
      exact ⟨c, .tail _ hc⟩
theorem noList_rd {K : PySem.W.Frag} (h : noList K = true) {H : Hp} {a : Addr} {xs : List V} (s : SqL K H a xs) : Rd H a (.lst xs) := by
  rcases s with s | ⟨o, its, n, hl, hc, _⟩
  · exact s
  · obtain ⟨b, hb⟩ := mem_look hl
    have z := List.all_eq_true.mp h _ hb
    unfold nlO at z
    dsimp only at z
    rw [hc] at z
    simp at z
/-- a def of the text, found by its name -/
def FunE (K : PySem.W.Frag) (mg : Str → Option Value) (x : Str) (st : Stmt) (ps : List Str) : Prop :=
  ∃ f fd, Fun K x x st f fd ∧ mg x = some (.ref f) ∧ PySem.W.keepIn K (.ref f) = true ∧ Binds K fd ps [] ∧ ∀ (s : Shared) (us : List Value), us.length = ps.length → BindsTo s fd ⟨us, []⟩ (ps.zip us)
theorem fun_ex {K : PySem.W.Frag} {h : Heap} {mg : Str → Option Value} (X : K.In h) (G : h.Ns mainGlobals mg) {x : Str} {st : Stmt} {ps : List Str} {f : Addr} {oc : Value} {od an : Option Addr} {osl : Array (Option Value)} {kV dc pm cd ct : Value}
    (a : PySem.W.nsIn K mainGlobals x = some (some (.ref f))) (l : K.lookup f = some ⟨oc, od, .func (PySem.W.fnOf x x (defArgs st) (defBody st) (defScope st) .none kV dc pm an cd ct), osl⟩)
    (c : PySem.W.codeIn K cd x = true) (k : PySem.W.keepIn K (.ref f) = true)
    (hb : ∀ (kV doc pm : Value) (an : Option Addr) (cdv ct : Value) (us : List Value), us.length = ps.length → bindArgs (PySem.W.fnOf x x (defArgs st) (defBody st) (defScope st) .none kV doc pm an cdv ct) ⟨us, []⟩ = pure (ps.zip us)) : FunE K mg x st ps :=
  have F := fun_mk (st := st) l c k
  ⟨f, _, F, PySem.W.mg_of X G a, k, F.binds hb, fun _ us hl => .of_eq (hb _ _ _ _ _ _ us hl)⟩
/-- a def that may be called by its name -/
def CalE (xs : Nat → Addr) (P : Program) (w : World) (K : PySem.W.Frag) (mg : Str → Option Value) (base : Heap) (k : Nat) (fn : Fn) : Prop :=
  ∃ f fd ps, FnOk P w K mg base (L2.CX P w) k f fd ps (spF xs fn) ∧ mg fn.name = some (.ref f) ∧ PySem.W.keepIn K (.ref f) = true ∧ Binds K fd ps []
def CalEs (xs : Nat → Addr) (P : Program) (w : World) (K : PySem.W.Frag) (mg : Str → Option Value) (base : Heap) (k : Nat) : List Fn → Prop
  | [] => True
  | fn :: r => CalE xs P w K mg base k fn ∧ CalEs xs P w K mg base k r
theorem mgB_n {mg : Str → Option Value} {x : Str} (h : x ≠ "gcd") (k : mg x = none) : mg x = mgB x := k.trans (if_neg h).symm
theorem mgB_g {mg : Str → Option Value} (k : mg "gcd" = some (.builtin "math.gcd")) : mg "gcd" = mgB "gcd" := k.trans (if_pos rfl).symm
def BisE (mg : Str → Option Value) : List Str → Prop
  | [] => True
  | x :: r => mg x = mgB x ∧ BisE mg r
def GlsE (mg : Str → Option Value) : List (Str × D) → Prop
  | [] => True
  | p :: r => (∃ u v, mg p.1 = some u ∧ RelV v u ∧ flatD p.2 = true ∧ ∀ H, Dp [] H v p.2) ∧ GlsE mg r
def GlE (mg : Str → Option Value) (x : Str) (d : D) : Prop := ∃ u v, mg x = some u ∧ RelV v u ∧ flatD d = true ∧ ∀ H, Dp [] H v d
theorem gl_int {mg : Str → Option Value} {x : Str} {i : Int} {t : Tok} (h : mg x = some (.int i t)) : GlE mg x (.int i) := ⟨_, .int i, h, ⟨t, rfl⟩, rfl, fun _ => .int i⟩
theorem gl_str {mg : Str → Option Value} {x : Str} {i : Str} {t : Tok} (h : mg x = some (.str i t)) : GlE mg x (.str i) := ⟨_, .str i, h, ⟨t, rfl⟩, rfl, fun _ => .str i⟩
def MgE (mg : Str → Option Value) : Xc → List Addr → Prop
  | [], [] => True
  | p :: r, a :: s => mg p.1 = some (.ref a) ∧ MgE mg r s
  | _, _ => False
theorem mgE_at {mg : Str → Option Value} : ∀ {xc : Xc} {as : List Addr}, MgE mg xc as → ∀ (i : Nat) (p : Str × List Nat), xc[i]? = some p → mg p.1 = some (.ref (as.getD i 0))
  | [], _, _, i, p, h => by simp at h
  | q :: r, a :: s, m, 0, p, h => by
    cases Option.some.inj h
    exact m.1
  | q :: r, a :: s, m, i + 1, p, h => mgE_at (xc := r) (as := s) m.2 i p h
  | q :: r, [], m, i, p, h => m.elim
theorem mgE_n {mg : Str → Option Value} : MgE mg [] [] := True.intro
theorem mgE_c {mg : Str → Option Value} {p : Str × List Nat} {r : Xc} {a : Addr} {s : List Addr} (h : mg p.1 = some (.ref a)) (k : MgE mg r s) : MgE mg (p :: r) (a :: s) := ⟨h, k⟩
theorem xcg_of {K : PySem.W.Frag} {mg : Str → Option Value} {xc : Xc} {as : List Addr} (h : xAll K as xc = true) (m : MgE mg xc as) : XcG (fun i => as.getD i 0) K mg xc := by
  unfold xAll at h
  simp only [Bool.and_eq_true, List.all_eq_true, List.mem_range] at h
  exact ⟨mgE_at m, fun i hi => (h.2 i hi).1, fun i hi j hj => (h.2 i hi).2 j hj⟩
section
variable {xs : Nat → Addr} {P : Program} {w : World} {K : PySem.W.Frag} {mg : Str → Option Value} {base : Heap}
theorem CalE.mono {j k : Nat} {fn : Fn} (c : CalE xs P w K mg base j fn) (h : j ≤ k) : CalE xs P w K mg base k fn := by
  obtain ⟨f, fd, ps, F, r⟩ := c
  exact ⟨f, fd, ps, F.mono h, r⟩
theorem cals_at : ∀ {fns : List Fn} {k : Nat}, CalEs xs P w K mg base k fns → ∀ (i : Nat) (fn : Fn), fns[i]? = some fn → CalE xs P w K mg base k fn
  | [], _, _, i, fn, h => by simp at h
  | a :: r, _, c, 0, fn, h => by
    have e : a = fn := Option.some.inj h
    exact e ▸ c.1
  | a :: r, _, c, i + 1, fn, h => cals_at c.2 i fn h
theorem bis_at : ∀ {bs : List Str}, BisE mg bs → ∀ x, (bs.any fun y => decide (y = x)) = true → mg x = mgB x
  | [], _, x, h => by cases h
  | y :: r, b, x, h => by
    rw [List.any_cons] at h
    by_cases e : y = x
    · exact e ▸ b.1
    · rw [decide_eq_false e] at h
      exact bis_at b.2 x h
theorem gls_at : ∀ {gs : List (Str × D)}, GlsE mg gs → ∀ (i : Nat) (p : Str × D), gs[i]? = some p → ∃ u v, mg p.1 = some u ∧ RelV v u ∧ flatD p.2 = true ∧ ∀ H, Dp [] H v p.2
  | [], _, i, p, h => by simp at h
  | a :: r, g, 0, p, h => by
    have e : a = p := Option.some.inj h
    exact e ▸ g.1
  | a :: r, g, i + 1, p, h => gls_at g.2 i p h
/-- THE RULE for a def of this text -/
theorem cal_ok {x : Str} {st : Stmt} {N ps : List Str} {k : Nat} {T : Sg} {bis : List Str} {b : Ss} {own : Own} (F : FunE K mg x st ps) (hS : FnScope N ps (defScope st))
    (hm : mSs ⟨N, defScope st, T, bis, fun _ => true⟩ own b (defBody st) = true) (hfz : (T.Γ.all fz) = true) (hb : BisE mg bis) (hg : GlsE mg T.gls) (hx : XcG xs K mg T.xc) (hf : CalEs xs P w K mg base k T.fns) (ht : T.top = false) {n : Nat} (hn : ps.length = n) {m : Nat} (hN : N.length = m) :
    CalE xs P w K mg base (k + 1) ⟨x, n, own, runF T b m⟩ := by
  obtain ⟨f, fd, F, hmg, hk, hbi, _⟩ := F
  subst hn
  subst hN
  exact ⟨f, fd, ps, fn_ok (g := ⟨N, defScope st, T, bis, fun _ => true⟩) F hS rfl hm hfz ht (bis_at hb) (gls_at hg) hx fun i fn h => cals_at hf i fn h, hmg, hk, hbi⟩
theorem cal_no {x : Str} {st : Stmt} {ps : List Str} {own : Own} (F : FunE K mg x st ps) {n : Nat} (hn : ps.length = n) : CalE xs P w K mg base 0 ⟨x, n, own, fun _ => .no⟩ := by
  obtain ⟨f, fd, F, hmg, hk, hbi, _⟩ := F
  subst hn
  refine ⟨f, fd, ps, ⟨fun vs H Q E h => ?_, fun A outer s H args us vs Q E _ _ _ _ h => ?_⟩, hmg, hk, hbi⟩
  · obtain ⟨O, ds, _, hl, hv, _⟩ := h
    rw [DpAll.length hv]
    exact hl
  · obtain ⟨O, ds, _, _, _, h⟩ := h
    exact h.elim
end
/-- the law's own promise: no exception leaves it -/
def spL (fn : Fn) : Sp := fun vs H Q _ => ∃ O ds, Dom H O ∧ ds.length = fn.n ∧ DpAll [] (mask H O) vs ds ∧ AnsP (fun _ _ => False) H (fn.sem ds) (Gv O fn.own Q)
theorem spL_F {xs : Nat → Addr} {fn : Fn} {vs : List V} {H : Hp} {Q : VK} {E : XK} (h : spL fn vs H Q E) : spF xs fn vs H Q E := by
  obtain ⟨O, ds, hd, hl, hv, h⟩ := h
  refine ⟨O, ds, hd, hl, hv, ?_⟩
  cases hs : fn.sem ds with
  | no => rw [hs] at h; exact h.elim
  | exc x =>
    rw [hs] at h
    exact (h H (Same.refl _)).elim
  | ok d => rw [hs] at h; exact h
/-- what is promised of the law's own def: it is called from outside, with one value -/
structure At1 (P : Program) (w : World) (K : PySem.W.Frag) (mg : Str → Option Value) (base : Heap) (f : Addr) (fd : FuncData) (y : Str) (sp : Sp) : Prop where
  run : ∀ (t : Shared) (H : Hp) (u : Value) (v : V) (Q : VK) (E : XK), Env0 P w K mg base callerA [] t H → RelV v u → BindsTo t fd ⟨[u], []⟩ [(y, u)] → sp [v] H Q E →
    codeAny (model P w) callerA (.call (.ref f) ⟨[u], []⟩) (CR (L2.CX P w) [] P w H t Q E) t
theorem At1.of {P : Program} {w : World} {K : PySem.W.Frag} {mg : Str → Option Value} {base : Heap} {x y : Str} {st : Stmt} {f : Addr} {fd : FuncData} {N : List Str} {k : Nat} {sp : Sp} (F : Fun K x x st f fd) (S : FnScope N [y] (defScope st)) (room : Room (k + 1) callerA)
    (body : ∀ (cdv : Value) (t : Shared) (H : Hp) (v : V) (Q : VK) (E : XK), Room k (callerA.deeper (envOfC x (defScope st) t.heap.objs.size f cdv)) → sp [v] H Q E →
      ∃ p, PSs (cxOf (L2.CX P w) P w K mg base N x (defScope st) f cdv callerA [] t H E) (defBody st) p ∧ p { nx := fun _ H' => Q .non H', rt := Q } (start N [v]) H) : At1 P w K mg base f fd y sp := by
  obtain ⟨oc, od, kV, doc, pm, an, cdv, ct, osl, rfl, look, code⟩ := F.ex
  refine ⟨fun t H u v Q E e rel bd say => ?_⟩
  have kin := e.mod.kin.keeps fun b o z => (e.bs b o z).1
  have free := e.mod.nolimit.keeps fun b o z => (e.bs b o z).1
  have loc : ∀ z ∈ [(y, u)], (defScope st).names.lookup z.1 = some .local ∨
      ((defScope st).names.lookup z.1 = some .cell ∧ ((cellsFrom (t.heap.objs.size + 1) (defScope st).names []).lookup z.1).isSome = true) := by
    intro z hz
    obtain rfl := List.mem_singleton.mp hz
    exact (S.par y (by simp)).imp id fun q => ⟨q, PySem.W.cellsFrom_some _ _ _ (.inl q)⟩
  refine codeAny_call_function room.depth (kin _ _ look) rfl S.co S.gen rfl (PySem.W.codeRec_of kin code) ?_
  refine bd _ _ _ _ (wpAny_newFunctionEnv_cells S.kind loc fun env he t1 x => ?_)
  subst he
  refine ⟨free.keeps x.toInCall.keep, codeAny_func ?_⟩
  obtain ⟨p, hp, at_⟩ := body cdv t H v Q E (room.deeper _) say
  have I := inv_start (N := N) (CX := L2.CX P w) (E := E) (ps := [y]) (vs := [v]) (us := [u]) S room.hd e rfl (.cons rel .nil) x
  refine wpAny_mono (hp.run [] t1 (start N [v]) H _ I at_) (fun fl t2 z => ?_) fun _ _ z => z
  cases fl with
  | brk =>
    obtain ⟨_, _, _, q⟩ := z
    exact False.elim q
  | cont =>
    obtain ⟨_, _, _, q⟩ := z
    exact False.elim q
  | next =>
    obtain ⟨_, H', J, q⟩ := z
    exact ⟨V.non, H', J.os, J.bare, J.base, J.hok, rfl, q⟩
  | ret r =>
    obtain ⟨v', _, H', J, rv, q⟩ := z
    exact ⟨v', H', J.os, J.bare, J.base, J.hok, rv, q⟩
/-- the law's own def -/
theorem law_ok {xs : Nat → Addr} {P : Program} {w : World} {K : PySem.W.Frag} {mg : Str → Option Value} {x y : Str} {st : Stmt} {N : List Str} {k : Nat} {T : Sg} {bis : List Str} {b : Ss} {own : Own} (F : FunE K mg x st [y]) (hS : FnScope N [y] (defScope st)) (room : Room (k + 1) callerA)
    (hm : mSs ⟨N, defScope st, T, bis, fun _ => true⟩ own b (defBody st) = true) (hfz : (T.Γ.all fz) = true) (hb : BisE mg bis) (hg : GlsE mg T.gls) (hx : XcG xs K mg T.xc) {m : Nat} (hN : N.length = m) {fa : Addr} (hfa : mg x = some (.ref fa)) :
    ∃ fd : FuncData, (∀ (s : Shared) (v : Value), BindsTo s fd ⟨[v], []⟩ [(y, v)]) ∧ ∀ base : Heap, CalEs xs P w K mg base k T.fns → At1 P w K mg base fa fd y (spL ⟨x, 1, own, runF T b m⟩) := by
  obtain ⟨f, fd, F, hmg, hk, hbi, hbt⟩ := F
  have e := hfa.symm.trans hmg
  cases e
  subst hN
  refine ⟨fd, fun s v => hbt s [v] rfl, fun base hf => .of F hS room fun cdv t H v Q E hr h => ?_⟩
  exact fn_body (xs := xs) (ps := [y]) (g := ⟨N, defScope st, T, bis, fun _ => true⟩) (nm := x) hS rfl hm hfz (bis_at hb) (gls_at hg) hx (fun i fn h => cals_at hf i fn h) hr (fun _ => rfl) (spL_F h)
theorem ints_dp {H : Hp} : ∀ ns : List Int, DpAll [] H (ns.map V.int) (ns.map PyData.int)
  | [] => .nil
  | i :: r => .cons (.int i) (ints_dp r)
/-- the end: what the law's def answers -/
theorem ends {K : PySem.W.Frag} (hK : noList K = true) {H : Hp} {a : Addr} {ns : List Int} (s : SqL K H a (ns.map V.int)) {fn : Fn} (hn : fn.n = 1) (ho : fn.own = .sh) (h : fn.sem [.list (ns.map PyData.int)] = .ok (.bool true)) {E : XK} :
    spL fn [.ref a] H (fun v _ => v = .bl true) E := by
  have hdom : Dom H (fun _ => false) := fun a z => Bool.noConfusion z
  refine ⟨fun _ => false, [.list (ns.map PyData.int)], hdom, hn.symm, ?_, ?_⟩
  · refine .cons (.lst (.inl ?_) (ints_dp ns)) .nil
    exact noList_rd (K := K) hK (by
      have e : mask H (fun _ => false) = H := funext fun a => if_neg (fun z => Bool.noConfusion z)
      rw [e]
      exact s)
  · rw [h]
    show Gv _ fn.own _ H (.bool true)
    rw [ho]
    intro v H' A _ _ r
    have d := r.dp
    cases d
    rfl
/-- the promise, at the heap behind the top: as the library's own, for a def that is called from outside alone -/
theorem law_at {P : Program} {w : World} {K : PySem.W.Frag} {mg mb : Str → Option Value} {fa a : Addr} {fd : FuncData} {x : Str} {sp : Sp} {t : Shared} {vs : List Value} {ns : List Int}
    (kin : K.In t.heap) (hns : t.heap.Ns mainGlobals mg) (hb : t.heap.Ns builtinsNs mb) (hbb : ∀ y : Str, y ≠ "__name__" → mb y = bootBuiltins y) (hlim : t.heap.NoLimit) (hg : t.gens = #[])
    (ha : t.heap.get? a = some { cls := .type "list", data := .seq vs.toArray }) (hi : IntsAre vs ns) (hl : ns.length ≤ sizeLine)
    (F : ∀ base : Heap, K.In base → base.Ns mainGlobals mg → At1 P w K mg base fa fd x sp) (hbind : ∀ (s : Shared) (u : Value), BindsTo s fd ⟨[u], []⟩ [(x, u)])
    (hsp : ∀ H : Hp, Only H → SqL K H a (ns.map V.int) → sp [.ref a] H (fun v _ => v = .bl true) fun _ _ _ => False)
    (hCX : ∀ H e t', L2.CX P w [] H t (fun _ _ _ => False) e t' → False) :
    codeAny (model P w) callerA (.call (.ref fa) ⟨[.ref a], []⟩) (fun r t' => r = .ok (.ret (.bool true)) ∧ OldK t.heap t'.heap ∧ t'.os = t.os ∧ AllBare t'.gens) t := by
  have rel := vals_ints hi
  have len := hi.length
  have main : ∀ H : Hp, Only H → SqL K H a (ns.map V.int) → HOk P w H t.heap → (∀ b, H b ≠ none → b = a ∧ K.lookup a = none) →
      codeAny (model P w) callerA (.call (.ref fa) ⟨[.ref a], []⟩) (fun r t' => r = .ok (.ret (.bool true)) ∧ OldK t.heap t'.heap ∧ t'.os = t.os ∧ AllBare t'.gens) t := by
    intro H only sq hok hA
    have free : ∀ {b : Addr}, b ≠ a → H b = none := fun {b} n => by
      cases q : H b with
      | none => rfl
      | some z => exact absurd (hA b (by rw [q]; exact fun z => nomatch z)).1 n
    have keepH : ∀ {b : Addr} {o : Obj}, t.heap.get? b = some o → H b = none → (hidT t.heap H).get? b = some o := fun e n => hidT_get e n
    have seqs : ∀ {b : Addr} {o : Obj} {es : Array DictEntry} {ep : Nat}, t.heap.get? b = some o → o.data = .dict es ep → b ≠ a := fun {b o es ep} e d q => by
      subst q
      have z := Option.some.inj (ha.symm.trans e)
      rw [← z] at d
      have d : Data.seq vs.toArray _ = Data.dict es ep := d
      exact nomatch d
    have nsH : ∀ {b : Addr} {m : Str → Option Value}, t.heap.Ns b m → (hidT t.heap H).Ns b m := by
      rintro b m ⟨o, es, ep, e, d, r⟩
      exact ⟨o, es, ep, keepH e (free (seqs e d)), d, r⟩
    have kinH : K.In (hidT t.heap H) := by
      intro b o e
      refine keepH (kin b o e) ?_
      cases q : H b with
      | none => rfl
      | some z =>
        obtain ⟨q1, q2⟩ := hA b (by rw [q]; exact fun z => nomatch z)
        rw [q1, q2] at e
        exact nomatch e
    have limH : (hidT t.heap H).NoLimit := by
      obtain ⟨mc, l1, l2⟩ := hlim
      exact ⟨mc, nsH l1, l2⟩
    have env : Env0 P w K mg (hidT t.heap H) callerA [] t H :=
      { frames := rfl, mod := ⟨kinH, nsH hns, ⟨mb, nsH hb, hbb⟩, limH⟩, bs := fun b o e => of_hidT e, bsz := Nat.le_of_eq (hidT_size _ _), funs := trivial
        frf := fun b z => absurd (show b ∈ ([] : List Addr) from z) (by simp), hok := hok, bare := .of_eq hg }
    refine codeAny_mono ((F _ kinH (nsH hns)).run t H (.ref a) (.ref a) _ _ env rfl (hbind t (.ref a)) (hsp H only sq)) ?_
    intro r t' h
    cases r with
    | error e => exact (hCX H e t' h).elim
    | ok fl =>
      cases fl with
      | next => exact False.elim h
      | brk => exact False.elim h
      | cont => exact False.elim h
      | ret u =>
        obtain ⟨v, H', os, bare, un, hok2, rv, q⟩ := h
        have q : v = .bl true := q
        subst q
        obtain rfl : u = Value.bool true := rv
        refine ⟨rfl, OldK.of_keep ?_, os, bare⟩
        intro b o e
        rcases only b with z | ⟨ob, xs, z⟩
        · exact un.keep b o e z (fun y => absurd (show b ∈ ([] : List Addr) from y) (by simp)) (by simp)
        · have g1 := (hok b _ z).1
          have g2 := (hok2 b _ (un.frzs b ob _ z)).1
          exact g2.trans (g1.symm.trans e)
  cases hk : K.lookup a with
  | some o =>
    obtain rfl := Option.some.inj ((kin a o hk).symm.trans ha)
    refine main (fun _ => none) (fun _ => .inl rfl) (.inr ⟨_, vs.toArray, _, hk, rfl, rfl, rfl, ?_, ?_⟩) (fun b u z => nomatch (show (none : Option HO) = some u from z)) fun b z => absurd rfl z
    · rw [List.size_toArray, len]; exact hl
    · simpa using rel
  | none =>
    have one : ∀ {b : Addr} {u : HO}, (if b = a then some (HO.frz { cls := .type "list", data := .seq vs.toArray } (.lst (ns.map V.int))) else none) = some u → b = a ∧ u = .frz { cls := .type "list", data := .seq vs.toArray } (.lst (ns.map V.int)) := by
      intro b u z
      split at z
      · exact ⟨‹_›, (Option.some.inj z).symm⟩
      · exact nomatch z
    refine main (fun b => if b = a then some (HO.frz { cls := .type "list", data := .seq vs.toArray } (.lst (ns.map V.int))) else none) (fun b => ?_) (.inl (.inr ⟨_, if_pos rfl⟩)) (fun b u z => ?_) fun b z => ?_
    · by_cases q : b = a
      · exact .inr ⟨_, _, if_pos q⟩
      · exact .inl (if_neg q)
    · obtain ⟨rfl, rfl⟩ := one z
      exact ⟨ha, by rw [List.length_map]; exact hl, vs, _, rel, ha⟩
    · refine ⟨?_, hk⟩
      by_cases q : b = a
      · exact q
      · exact absurd (if_neg q) z
/-- the end of a row -/
theorem walk_at {l : PySem.W.OpenLaw} {n : Nat} {q : Program} {loose : List Str} {XP : (Str → Option Value) → Heap → Prop} {YP : World → Heap → Prop} {d : DefRec} {K : Params → PySem.W.Frag} {sp : World → Sp} {x : Str}
    (hn : l.most = some n) (hn2 : n ≤ sizeLine) (hdf : d.params.defaults = []) (hY : ∀ (w : World) (h : Heap), YP w h → (K w.params).In h)
    (F : ∀ (w : World) (mg : Str → Option Value) (fa : Addr) (h : Heap), (K w.params).In h → h.Ns mainGlobals mg → mg d.name = some (.ref fa) →
      ∃ fd : FuncData, (∀ (s : Shared) (u : Value), BindsTo s fd ⟨[u], []⟩ [(x, u)]) ∧ ∀ base : Heap, (K w.params).In base → base.Ns mainGlobals mg → At1 l.prog w (K w.params) mg base fa fd x (sp w))
    (hsp : ∀ (w : World) (H : Hp) (a : Addr) (ns : List Int), ns.length ≤ n → Only H → SqL (K w.params) H a (ns.map V.int) → sp w [.ref a] H (fun v _ => v = .bl true) fun _ _ _ => False)
    (hCX : ∀ (w : World) (H : Hp) (t : Shared) (e : Value) (t' : Shared), L2.CX l.prog w [] H t (fun _ _ _ => False) e t' → False) :
    PySem.W.WalkO q loose XP YP l.row.toRowW d [] (fun f vs => PySem.call f vs) := by
  refine Att.attach_call hn hdf ?_
  intro w t0 t mg mb fa o pm cd doc a vs ns G Y ho hd hcd hmg hobj hints hlen hg
  have kin := hY w _ Y
  obtain ⟨fd, hb, hF⟩ := F w mg fa _ kin G.T.g hmg
  exact law_at kin G.T.g G.T.b G.T.builtins G.T.nolimit hg hobj hints (Nat.le_trans hlen hn2) hF hb (fun H hO hS => hsp w H a ns hlen hO hS) fun H e t' => hCX w H t e t'
theorem no_cx {P : Program} {w : World} {o : List Env} {H : Hp} {s : Shared} {e : Value} {s' : Shared} (h : L2.CX P w o H s (fun _ _ _ => False) e s') : False := by
  obtain ⟨_, _, _, _, _, _, _, _, _, _, _, _, h⟩ := h
  exact h
end Pv

/-! part O: rules for the plain law -/
namespace Pv
open PySem PySem.Spec PyProof.Rows L2
def W {α : Type} (r : R α) (K : α → Prop) : Prop := ∃ a, r = .ok a ∧ K a
@[simp] theorem W_ok {α : Type} {a : α} {K : α → Prop} : W (.ok a) K ↔ K a := ⟨fun ⟨b, h, k⟩ => by cases h; exact k, fun k => ⟨a, rfl, k⟩⟩
@[simp] theorem W_no {α : Type} {K : α → Prop} : W (.no : R α) K ↔ False := by
  constructor
  · rintro ⟨b, h, _⟩
    cases h
  · intro k
    exact k.elim
theorem W_bind {α β : Type} {r : R α} {f : α → R β} {K : β → Prop} : W (r >>= f) K ↔ W r fun a => W (f a) K := by
  cases r with
  | ok a => simp
  | exc c =>
    constructor
    · rintro ⟨b, h, _⟩
      cases h
    · rintro ⟨b, h, _⟩
      cases h
  | no => simp
theorem W.imp {α : Type} {r : R α} {K K' : α → Prop} (h : W r K) (i : ∀ a, K a → K' a) : W r K' := by
  obtain ⟨a, e, k⟩ := h
  exact ⟨a, e, i a k⟩
theorem W_eq {α : Type} {r : R α} {a : α} (h : r = .ok a) {K : α → Prop} (k : K a) : W r K := ⟨a, h, k⟩
theorem W_ite {α : Type} {c : Prop} [Decidable c] {a b : R α} {K : α → Prop} (h1 : c → W a K) (h2 : ¬ c → W b K) : W (if c then a else b) K := by
  by_cases h : c
  · rw [if_pos h]; exact h1 h
  · rw [if_neg h]; exact h2 h
/-- an end of a def's body -/
def KD (P : D → Prop) : Fl → Prop
  | .rt d => P d
  | .nx _ => P .none
  | _ => False
/-- .. or an exception -/
def KX (P : D → Prop) (E : Nat → Prop) : Fl → Prop
  | .rt d => P d
  | .nx _ => P .none
  | .ex n => E n
  | _ => False
theorem run_of {T : Sg} {b : Ss} {n : Nat} {ds : List D} {d : D} (h : W (evSs T b (startE n ds)) (KD fun z => z = d)) : runF T b n ds = .ok d := by
  obtain ⟨fl, e, k⟩ := h
  unfold runF
  rw [e]
  cases fl with
  | nx _ => show R.ok PyData.none = _; rw [show PyData.none = d from k]
  | rt z => show R.ok z = _; rw [show z = d from k]
  | bk _ => exact k.elim
  | ct _ => exact k.elim
  | ex _ => exact k.elim
/-- what a def's end asks -/
structure Rn (P : D → Prop) (K : Fl → Prop) : Prop where
  rt : ∀ d, P d → K (.rt d)
  nx : P .none → ∀ e, K (.nx e)
theorem run_W {T : Sg} {b : Ss} {n : Nat} {ds : List D} {P : D → Prop} (h : ∀ K, Rn P K → W (evSs T b (startE n ds)) K) : ∃ d, runF T b n ds = .ok d ∧ P d := by
  obtain ⟨fl, e, k⟩ := h (KD P) ⟨fun _ p => p, fun p _ => p⟩
  unfold runF
  rw [e]
  cases fl with
  | nx _ => exact ⟨_, rfl, k⟩
  | rt z => exact ⟨_, rfl, k⟩
  | bk _ => exact k.elim
  | ct _ => exact k.elim
  | ex _ => exact k.elim
structure RnX (P : D → Prop) (E : Nat → Prop) (K : Fl → Prop) : Prop where
  rt : ∀ d, P d → K (.rt d)
  nx : P .none → ∀ e, K (.nx e)
  ex : ∀ n, E n → K (.ex n)
/-- a def that may raise -/
theorem run_X {T : Sg} {b : Ss} {n : Nat} {ds : List D} {P : D → Prop} {E : Nat → Prop} (h : ∀ K, RnX P E K → W (evSs T b (startE n ds)) K) : (∃ d, runF T b n ds = .ok d ∧ P d) ∨ ∃ z, runF T b n ds = .exc z ∧ E z := by
  obtain ⟨fl, e, k⟩ := h (KX P E) ⟨fun _ p => p, fun p _ => p, fun _ p => p⟩
  unfold runF
  rw [e]
  cases fl with
  | nx _ => exact .inl ⟨_, rfl, k⟩
  | rt z => exact .inl ⟨_, rfl, k⟩
  | bk _ => exact k.elim
  | ct _ => exact k.elim
  | ex z => exact .inr ⟨z, rfl, k⟩
/-- .. its outcome told -/
theorem run_r {T : Sg} {b : Ss} {n : Nat} {ds : List D} {r : R D} (h : ∀ K, RnX (fun d => r = .ok d) (fun z => r = .exc z) K → W (evSs T b (startE n ds)) K) : runF T b n ds = r := by
  rcases run_X h with ⟨d, e, k⟩ | ⟨z, e, k⟩
  · rw [e, k]
  · rw [e, k]
theorem run_eq {T : Sg} {b : Ss} {n : Nat} {ds : List D} {d : D} (h : ∀ K, Rn (fun z => z = d) K → W (evSs T b (startE n ds)) K) : runF T b n ds = .ok d := by
  obtain ⟨z, e, rfl⟩ := run_W h
  exact e
/-- what stands behind a statement -/
def KS (T : Sg) (r : Ss) (K : Fl → Prop) : Fl → Prop
  | .nx e => W (evSs T r e) K
  | f => K f
section
variable {T : Sg} {env : Ev} {K : Fl → Prop} {r : Ss}
@[simp] theorem KS_nx {e : Ev} : KS T r K (.nx e) ↔ W (evSs T r e) K := Iff.rfl
@[simp] theorem KS_rt {d : D} : KS T r K (.rt d) ↔ K (.rt d) := Iff.rfl
@[simp] theorem KS_bk {e : Ev} : KS T r K (.bk e) ↔ K (.bk e) := Iff.rfl
@[simp] theorem KS_ct {e : Ev} : KS T r K (.ct e) ↔ K (.ct e) := Iff.rfl
@[simp] theorem KS_ex {n : Nat} : KS T r K (.ex n) ↔ K (.ex n) := Iff.rfl
theorem W_nil (h : K (.nx env)) : W (evSs T .nil env) K := ⟨_, rfl, h⟩
theorem W_cons {s : S} (h : W (evS T s env) (KS T r K)) : W (evSs T (.cons s r) env) K := by
  obtain ⟨fl, e, k⟩ := h
  show W (catchX (evS T s env) >>= _) K
  rw [e]
  cases fl with
  | nx e' => exact k
  | rt d => exact ⟨_, rfl, k⟩
  | bk _ => exact ⟨_, rfl, k⟩
  | ct _ => exact ⟨_, rfl, k⟩
  | ex _ => exact ⟨_, rfl, k⟩
/-- a statement that an exception leaves -/
theorem W_exc {s : S} {n : Nat} (h : evS T s env = .exc n) (k : K (.ex n)) : W (evSs T (.cons s r) env) K := by
  refine ⟨.ex n, ?_, k⟩
  show catchX (evS T s env) >>= _ = _
  rw [h]
  rfl
theorem W_rse {n : Nat} (hn : n < T.xc.length) (k : K (.ex n)) : W (evSs T (.cons (.rse n) r) env) K := W_cons ⟨.ex n, by show (if n < T.xc.length then R.ok (Fl.ex n) else .no) = _; rw [if_pos hn], k⟩
theorem W_oneX {e : E} {n : Nat} (h : ev T e env = .exc n) (k : K (.ex n)) : W (evSs T (.cons (.ret (.one (.e e))) r) env) K := W_exc (by show (ev T e env >>= _) = _; rw [h]; rfl) k
theorem W_dropX {e : E} {n : Nat} (h : ev T e env = .exc n) (k : K (.ex n)) : W (evSs T (.cons (.drop e) r) env) K := W_exc (by show (ev T e env >>= _) = _; rw [h]; rfl) k
theorem W_drop {e : E} (h : W (ev T e env) fun _ => W (evSs T r env) K) : W (evSs T (.cons (.drop e) r) env) K := by
  refine W_cons ?_
  obtain ⟨d, h1, h3⟩ := h
  exact ⟨.nx env, by show (ev T e env >>= _) = _; rw [h1]; rfl, h3⟩
theorem W_nmX {i : Nat} {e : E} {n : Nat} (h : ev T e env = .exc n) (k : K (.ex n)) : W (evSs T (.cons (.asg (.nm i) e) r) env) K := W_exc (by show (ev T e env >>= _) = _; rw [h]; rfl) k
/-- what a try's body leaves -/
def KT (T : Sg) (hs : List Hn) (K : Fl → Prop) : Fl → Prop
  | .ex n => n < T.xc.length ∧ W (hdlR T.xc n hs) K
  | f => K f
@[simp] theorem KT_nx {hs : List Hn} {e : Ev} : KT T hs K (.nx e) ↔ K (.nx e) := Iff.rfl
@[simp] theorem KT_rt {hs : List Hn} {d : D} : KT T hs K (.rt d) ↔ K (.rt d) := Iff.rfl
@[simp] theorem KT_ex {hs : List Hn} {n : Nat} : KT T hs K (.ex n) ↔ n < T.xc.length ∧ W (hdlR T.xc n hs) K := Iff.rfl
theorem W_tr {b : Ss} {hs : List Hn} (h : W (evSs T b env) (KT T hs (KS T r K))) : W (evSs T (.cons (.tr b hs) r) env) K := by
  obtain ⟨fl, e, k⟩ := h
  refine W_cons ?_
  show W (tryR T.xc hs (evSs T b env)) _
  rw [e]
  cases fl with
  | nx e' => exact ⟨_, rfl, k⟩
  | rt d => exact ⟨_, rfl, k⟩
  | bk _ => exact ⟨_, rfl, k⟩
  | ct _ => exact ⟨_, rfl, k⟩
  | ex n =>
    show W (if n < T.xc.length then hdlR T.xc n hs else .no) _
    rw [if_pos k.1]
    exact k.2
theorem W_asg {t : G} {e : E} (h : W (ev T e env) fun d => W (gset t d env) fun e' => W (evSs T r e') K) : W (evSs T (.cons (.asg t e) r) env) K := by
  refine W_cons ?_
  obtain ⟨d, h1, e', h2, h3⟩ := h
  exact ⟨.nx e', by show (ev T e env >>= _) = _; rw [h1, R.ok_bind, h2]; rfl, h3⟩
theorem W_nm {i : Nat} {e : E} (h : W (ev T e env) fun d => W (evSs T r (put env i (some (d, true)))) K) : W (evSs T (.cons (.asg (.nm i) e) r) env) K := W_asg (h.imp fun d k => ⟨_, rfl, k⟩)
theorem W_own {i : Nat} {e : E} (h : W (ev T e env) fun d => W (evSs T r (put env i (some (d, false)))) K) : W (evSs T (.cons (.own i e) r) env) K := by
  refine W_cons ?_
  obtain ⟨d, h1, h3⟩ := h
  exact ⟨.nx _, by show (ev T e env >>= _) = _; rw [h1]; rfl, h3⟩
theorem W_fzz {i : Nat} {s : S} (h : W (evSs T (.cons s r) (frzE env i)) K) : W (evSs T (.cons (.fzz i s) r) env) K := h
theorem W_ret {q : RT} (h : W (evR T q env) fun d => K (.rt d)) : W (evSs T (.cons (.ret q) r) env) K := by
  refine W_cons ?_
  obtain ⟨d, h1, h3⟩ := h
  exact ⟨.rt d, by show (evR T q env >>= _) = _; rw [h1]; rfl, h3⟩
theorem W_one {e : E} (h : W (ev T e env) fun d => K (.rt d)) : W (evSs T (.cons (.ret (.one (.e e))) r) env) K := W_ret h
theorem W_mv {i : Nat} {d : D} (h : lk env i = some (d, false)) (k : K (.rt d)) : W (evSs T (.cons (.ret (.one (.mv i))) r) env) K := by
  refine W_ret ⟨d, ?_, k⟩
  show (match lk env i with | some (d, false) => R.ok d | _ => .no) = _
  rw [h]
theorem W_if {t : E} {a b : Ss} (h : W (ev T t env) fun d => W (truthD d) fun c => (c = true → W (evSs T a env) (KS T r K)) ∧ (c = false → W (evSs T b env) (KS T r K))) : W (evSs T (.cons (.iff t a b) r) env) K := by
  refine W_cons ?_
  obtain ⟨d, h1, c, h2, h3, h4⟩ := h
  have e : evS T (.iff t a b) env = if c = true then evSs T a env else evSs T b env := by
    show (evB T t env >>= _) = _
    unfold evB
    rw [h1, R.ok_bind, h2, R.ok_bind]
  rw [e]
  cases c with
  | true => exact h3 rfl
  | false => exact h4 rfl
/-- what a branch asks -/
structure Jn (M : Ev → Prop) (K K' : Fl → Prop) : Prop where
  nx : ∀ e, M e → K' (.nx e)
  ct : ∀ e, K (.ct e) → K' (.ct e)
  bk : ∀ e, K (.bk e) → K' (.bk e)
  rt : ∀ d, K (.rt d) → K' (.rt d)
  ex : ∀ n, K (.ex n) → K' (.ex n)
theorem W_ifM {t : E} {a b : Ss} (M : Ev → Prop) (h : ∀ K', Jn M K K' → W (ev T t env) fun d => W (truthD d) fun c => (c = true → W (evSs T a env) K') ∧ (c = false → W (evSs T b env) K')) (hM : ∀ e, M e → W (evSs T r e) K) : W (evSs T (.cons (.iff t a b) r) env) K :=
  W_if (h (KS T r K) ⟨hM, fun _ h => h, fun _ h => h, fun _ h => h, fun _ h => h⟩)
theorem W_aug {i : Nat} {op : BOp} {e : E} (h : W (evVar i false env) fun x => W (ev T e env) fun y => W (evAug op x y) fun z => W (evSs T r (put env i (some (z, true)))) K) : W (evSs T (.cons (.aug i op e) r) env) K := by
  refine W_cons ?_
  obtain ⟨x, h1, y, h2, z, h3, h4⟩ := h
  exact ⟨.nx _, by show (evVar i false env >>= _) = _; rw [h1, R.ok_bind, h2, R.ok_bind, h3]; rfl, h4⟩
theorem W_app {i : Nat} {ds : List D} {e : E} (hl : lk env i = some (.list ds, false)) (ho : T.own i = .lst .sh) (hs : ds.length < 16777216) (h : W (ev T e env) fun d => W (evSs T r (put env i (some (.list (ds ++ [d]), false)))) K) : W (evSs T (.cons (.app i .nil e) r) env) K := by
  refine W_cons ?_
  obtain ⟨d, h1, h2⟩ := h
  refine ⟨.nx _, ?_, h2⟩
  show (evPa T .nil env >>= _) = _
  show (noX (ev T e env) >>= _) = _
  rw [h1]
  show mutE T i [] (fApp d) env = _
  unfold mutE
  rw [hl, ho]
  show (fApp d ds >>= _) >>= _ = _
  unfold fApp
  rw [if_pos hs]
  rfl
theorem W_apo {i : Nat} {ds : List D} {e : E} {o : Own} (hl : lk env i = some (.list ds, false)) (ho : T.own i = .lst o) (hs : ds.length < 16777216) (h : W (ev T e env) fun d => W (evSs T r (put env i (some (.list (ds ++ [d]), false)))) K) : W (evSs T (.cons (.apo i e) r) env) K := by
  refine W_cons ?_
  obtain ⟨d, h1, h2⟩ := h
  refine ⟨.nx _, ?_, h2⟩
  show (noX (ev T e env) >>= _) = _
  rw [h1]
  show pushE T i d env = _
  unfold pushE
  rw [hl, ho]
  exact if_pos hs
theorem W_xa {i j : Nat} {ds : List D} {k : E} (hl : lk env j = some (.list ds, false)) (ho : T.own j = .lst .sh) (h : W (toInt (ev T k env)) fun n => (-9223372036854775808 ≤ n ∧ n < 9223372036854775808) ∧ ∃ m, ixN ds.length n = some m ∧ W (evSs T r (put (put env j (some (.list (ds.eraseIdx m), false))) i (some (ds.getD m .none, true)))) K) : W (evSs T (.cons (.xa i (.pop j k)) r) env) K := by
  refine W_cons ?_
  obtain ⟨n, h1, hb, m, hm, h2⟩ := h
  refine ⟨.nx _, ?_, h2⟩
  show ((toInt (ev T k env) >>= fun n => delX T j n env) >>= _) = _
  rw [h1, R.ok_bind]
  unfold delX
  rw [hl, ho]
  dsimp only
  rw [if_pos hb, hm]
  rfl
theorem W_xp {i j : Nat} {ds es : List D} {k : E} (hij : i ≠ j) (hl : lk env j = some (.list ds, false)) (ho : T.own j = .lst .sh) (hl2 : lk env i = some (.list es, false)) (ho2 : T.own i = .lst .sh) (hz : es.length < 16777216) (h : W (toInt (ev T k env)) fun n => (-9223372036854775808 ≤ n ∧ n < 9223372036854775808) ∧ ∃ m, ixN ds.length n = some m ∧ W (evSs T r (put (put env j (some (.list (ds.eraseIdx m), false))) i (some (.list (es ++ [ds.getD m .none]), false)))) K) : W (evSs T (.cons (.xp i (.pop j k)) r) env) K := by
  refine W_cons ?_
  obtain ⟨n, h1, hb, m, hm, h2⟩ := h
  refine ⟨.nx _, ?_, h2⟩
  show ((toInt (ev T k env) >>= fun n => delX T j n env) >>= _) = _
  rw [h1, R.ok_bind]
  unfold delX
  rw [hl, ho]
  dsimp only
  rw [if_pos hb, hm]
  show mutE T i [] (fApp (ds.getD m .none)) (put env j (some (.list (ds.eraseIdx m), false))) = _
  unfold mutE
  rw [lk_put, if_neg hij, hl2, ho2]
  show (fApp _ es >>= _) >>= _ = _
  unfold fApp
  rw [if_pos hz]
  rfl
theorem W_par {i j : Nat} {a b : E} (h : W (ev T a env) fun x => W (ev T b env) fun y => W (evSs T r (put (put env i (some (x, true))) j (some (y, true)))) K) : W (evSs T (.cons (.par i j a b) r) env) K := by
  refine W_cons ?_
  obtain ⟨x, h1, y, h2, h3⟩ := h
  refine ⟨.nx _, ?_, h3⟩
  show (ev T a env >>= _) = _
  rw [h1, R.ok_bind, h2]
  rfl
theorem W_extM {α : Type} {f : α → D} {i : Nat} {xs : List α} {e : E} (hl : lk env i = some (.list (xs.map f), false)) (ho : T.own i = .lst .sh) (h : W (ev T e env) fun d => ∃ ys : List α, d = .list (ys.map f) ∧ xs.length + ys.length ≤ 16777216 ∧ W (evSs T r (put env i (some (.list ((xs ++ ys).map f), false)))) K) : W (evSs T (.cons (.ext i .nil e) r) env) K := by
  refine W_cons ?_
  obtain ⟨d, h1, ys, rfl, hs, h2⟩ := h
  refine ⟨.nx _, ?_, h2⟩
  show (evPa T .nil env >>= _) = _
  show (noX (ev T e env) >>= _) = _
  rw [h1]
  show mutE T i [] (fExt (.list (ys.map f))) env = _
  unfold mutE
  rw [hl, ho]
  show (fExt (.list (ys.map f)) (xs.map f) >>= _) >>= _ = _
  unfold fExt
  dsimp only
  rw [if_pos (by simpa using hs), ← List.map_append]
  rfl
theorem W_appM {α : Type} {f : α → D} {i : Nat} {xs : List α} {e : E} (hl : lk env i = some (.list (xs.map f), false)) (ho : T.own i = .lst .sh) (hs : xs.length < 16777216) (h : W (ev T e env) fun d => ∃ y, d = f y ∧ W (evSs T r (put env i (some (.list ((xs ++ [y]).map f), false)))) K) : W (evSs T (.cons (.app i .nil e) r) env) K := by
  refine W_app hl ho (by simpa using hs) (h.imp fun d ⟨y, e, k⟩ => ?_)
  subst e
  rw [List.map_append] at k
  exact k
theorem W_st {i : Nat} {ds : List D} {k e : E} (hl : lk env i = some (.list ds, false)) (ho : T.own i = .lst .sh) (h : W (ev T e env) fun d => W (toInt (ev T k env)) fun n => ∃ j, ixN ds.length n = some j ∧ W (evSs T r (put env i (some (.list (ds.set j d), false)))) K) : W (evSs T (.cons (.st i .nil k e) r) env) K := by
  refine W_cons ?_
  obtain ⟨d, h1, n, h2, j, h3, h4⟩ := h
  refine ⟨.nx _, ?_, h4⟩
  show (ev T e env >>= _) = _
  rw [h1]
  show (toInt (ev T k env) >>= _) = _
  rw [h2]
  show mutE T i [] (fSet n d) env = _
  unfold mutE
  rw [hl, ho]
  show (fSet n d ds >>= _) >>= _ = _
  unfold fSet
  rw [h3]
  rfl
theorem W_sau {i : Nat} {ds : List D} {k e : E} {op : BOp} (hl : lk env i = some (.list ds, false)) (ho : T.own i = .lst .sh) (h : W (toInt (ev T k env)) fun n => W (ev T e env) fun y => ∃ j x, ixN ds.length n = some j ∧ ds[j]? = some x ∧ W (evAug op x y) fun z => W (evSs T r (put env i (some (.list (ds.set j z), false)))) K) : W (evSs T (.cons (.sau i .nil k op e) r) env) K := by
  refine W_cons ?_
  obtain ⟨n, h2, y, h1, j, x, h3, h5, z, h6, h4⟩ := h
  refine ⟨.nx _, ?_, h4⟩
  show (toInt (ev T k env) >>= _) = _
  rw [h2]
  show (noX (ev T e env) >>= _) = _
  rw [h1]
  show mutE T i [] (fAug n op y) env = _
  unfold mutE
  rw [hl, ho]
  show (fAug n op y ds >>= _) >>= _ = _
  unfold fAug
  rw [h3]
  show ((match ds[j]? with | some x => evAug op x y >>= fun z => R.ok (ds.set j z) | none => .no) >>= _) >>= _ = _
  rw [h5]
  show ((evAug op x y >>= _) >>= _) >>= _ = _
  rw [h6]
  rfl
theorem W_dst {i : Nat} {k e : E} {q : D} (hl : lk env i = some (q, false)) (ho : T.own i = Own.dct) (h : W (ev T e env) fun d => W (ev T k env) fun y => W (evDp q y d) fun q' => W (evSs T r (put env i (some (q', false)))) K) : W (evSs T (.cons (.dst i k e) r) env) K := by
  refine W_cons ?_
  obtain ⟨d, h1, y, h2, q', h3, h4⟩ := h
  refine ⟨.nx _, ?_, h4⟩
  show (ev T e env >>= _) = _
  rw [h1]
  show (match lk env i with | some (q, false) => if T.own i = Own.dct then (ev T k env >>= fun y => evDp q y d >>= fun q' => R.ok (Fl.nx (put env i (some (q', false))))) else .no | _ => .no) = _
  rw [hl]
  dsimp only
  rw [if_pos ho, h2]
  show evDp q y d >>= _ = _
  rw [h3]
  rfl
/-- what a loop's turn leaves -/
def KL (I : Ev → Prop) (K : Fl → Prop) : Fl → Prop
  | .nx e => I e
  | .ct e => I e
  | .bk e => K (.nx e)
  | .rt d => K (.rt d)
  | .ex n => K (.ex n)
@[simp] theorem KL_ex {I : Ev → Prop} {n : Nat} : KL I K (.ex n) ↔ K (.ex n) := Iff.rfl
@[simp] theorem KL_nx {I : Ev → Prop} {e : Ev} : KL I K (.nx e) ↔ I e := Iff.rfl
@[simp] theorem KL_ct {I : Ev → Prop} {e : Ev} : KL I K (.ct e) ↔ I e := Iff.rfl
@[simp] theorem KL_bk {I : Ev → Prop} {e : Ev} : KL I K (.bk e) ↔ K (.nx e) := Iff.rfl
@[simp] theorem KL_rt {I : Ev → Prop} {d : D} : KL I K (.rt d) ↔ K (.rt d) := Iff.rfl
theorem W_loop {α : Type} {enc : α → D} {f : D → Ev → R Fl} (I : List α → Ev → Prop) : ∀ {xs done : List α} {env : Ev}, I done env → (∀ a x b e, done ++ xs = a ++ x :: b → I a e → W (f (enc x) e) (KL (I (a ++ [x])) K)) → (∀ e, I (done ++ xs) e → K (.nx e)) → W (loopF f (xs.map enc) env) K
  | [], done, env, h0, _, hk => by
    rw [List.append_nil] at hk
    exact ⟨.nx env, rfl, hk env h0⟩
  | x :: xs, done, env, h0, hs, hk => by
    obtain ⟨fl, e, k⟩ := hs done x xs env rfl h0
    have ea : done ++ x :: xs = (done ++ [x]) ++ xs := by simp
    show W (f (enc x) env >>= _) K
    rw [e, R.ok_bind]
    cases fl with
    | nx e' => exact W_loop I k (ea ▸ hs) (ea ▸ hk)
    | ct e' => exact W_loop I k (ea ▸ hs) (ea ▸ hk)
    | bk e' => exact ⟨_, rfl, k⟩
    | rt d => exact ⟨_, rfl, k⟩
    | ex n => exact ⟨_, rfl, k⟩
/-- what a turn of a loop asks -/
structure Tn (I : Ev → Prop) (K K' : Fl → Prop) : Prop where
  nx : ∀ e, I e → K' (.nx e)
  ct : ∀ e, I e → K' (.ct e)
  bk : ∀ e, K (.nx e) → K' (.bk e)
  rt : ∀ d, K (.rt d) → K' (.rt d)
  ex : ∀ n, K (.ex n) → K' (.ex n)
theorem Tn.self {I : Ev → Prop} {K : Fl → Prop} : Tn I K (KL I K) := ⟨fun _ h => h, fun _ h => h, fun _ h => h, fun _ h => h, fun _ h => h⟩
theorem W_for {α : Type} {enc : α → D} {t : G} {it : I} {b : Ss} {xs : List α} (I : List α → Ev → Prop) (hi : evi T it env = .ok (xs.map enc)) (h0 : I [] env) (hs : ∀ a x c e, xs = a ++ x :: c → I a e → ∀ K', Tn (I (a ++ [x])) (KS T r K) K' → W (gset t (enc x) e) fun e' => W (evSs T b e') K') (hk : ∀ e, I xs e → W (evSs T r e) K) : W (evSs T (.cons (.fr t it b) r) env) K := by
  refine W_cons ?_
  show W (evi T it env >>= _) _
  rw [hi, R.ok_bind]
  refine W_loop I h0 (fun a x c e h1 h2 => ?_) hk
  rw [List.nil_append] at h1
  exact W_bind.mpr (hs a x c e h1 h2 _ Tn.self)
/-- what stands behind a loop over a lent list -/
def KO (T : Sg) (i : Nat) (ds : List D) (r : Ss) (K : Fl → Prop) : Fl → Prop
  | .nx e => lk e i = none ∧ W (evSs T r (put e i (some (.list ds, false)))) K
  | .rt d => K (.rt d)
  | .ex n => K (.ex n)
  | _ => False
@[simp] theorem KO_rt {i : Nat} {ds : List D} {d : D} : KO T i ds r K (.rt d) ↔ K (.rt d) := Iff.rfl
@[simp] theorem KO_nx {i : Nat} {ds : List D} {e : Ev} : KO T i ds r K (.nx e) ↔ (lk e i = none ∧ W (evSs T r (put e i (some (.list ds, false)))) K) := Iff.rfl
theorem W_fo {α : Type} {enc : α → D} {t : G} {i : Nat} {b : Ss} {xs : List α} (I : List α → Ev → Prop) (hl : lk env i = some (.list (xs.map enc), false)) (ho : T.own i = .lst .sh) (h0 : I [] (put env i none)) (hs : ∀ a x c e, xs = a ++ x :: c → I a e → ∀ K', Tn (I (a ++ [x])) (KO T i (xs.map enc) r K) K' → W (gset t (enc x) e) fun e' => W (evSs T b e') K') (hk : ∀ e, I xs e → lk e i = none ∧ W (evSs T r (put e i (some (.list (xs.map enc), false)))) K) : W (evSs T (.cons (.fo t i b) r) env) K := by
  refine W_cons ?_
  have h1 : W (loopF (fun x e => gset t x e >>= fun e' => evSs T b e') (xs.map enc) (put env i none)) (KO T i (xs.map enc) r K) := by
    refine W_loop I h0 (fun a x c e h1 h2 => ?_) hk
    rw [List.nil_append] at h1
    exact W_bind.mpr (hs a x c e h1 h2 _ Tn.self)
  obtain ⟨fl, e1, k⟩ := h1
  show W (match lk env i with
    | some (.list ds, false) => if T.own i = .lst .sh then (loopF (fun x e => gset t x e >>= fun e' => evSs T b e') ds (put env i none) >>= foP i ds) else .no
    | _ => .no) _
  rw [hl]
  dsimp only
  rw [if_pos ho, e1, R.ok_bind]
  cases fl with
  | nx e =>
    refine ⟨.nx (put e i (some (.list (xs.map enc), false))), ?_, k.2⟩
    show (match lk e i with
      | none => R.ok (Fl.nx (put e i (some (.list (xs.map enc), false))))
      | some _ => .no) = _
    rw [k.1]
  | rt d => exact ⟨_, rfl, k⟩
  | bk e => exact k.elim
  | ct e => exact k.elim
  | ex n => exact ⟨_, rfl, k⟩
theorem range_split {n k : Nat} {a c : List Nat} (h : List.range n = a ++ k :: c) : k = a.length ∧ a = List.range k ∧ k < n := by
  have h1 := congrArg (fun l => l[a.length]?) h
  simp only [List.getElem?_append_right (Nat.le_refl _), Nat.sub_self, List.getElem?_cons_zero] at h1
  have hl := congrArg List.length h
  simp only [List.length_range, List.length_append, List.length_cons] at hl
  rw [List.getElem?_range (by omega)] at h1
  have e : k = a.length := (Option.some.inj h1).symm
  refine ⟨e, ?_, by omega⟩
  have h2 := congrArg (List.take a.length) h
  rw [List.take_left, List.take_range, Nat.min_eq_left (by omega)] at h2
  rw [e, h2]
theorem W_idx {t : G} {it : Pv.I} {b : Ss} {n : Nat} {g : Nat → D} (I : Nat → Ev → Prop) (hi : evi T it env = .ok ((List.range n).map g)) (h0 : I 0 env) (hs : ∀ k e, k < n → I k e → ∀ K', Tn (I (k + 1)) (KS T r K) K' → W (gset t (g k) e) fun e' => W (evSs T b e') K') (hk : ∀ e, I n e → W (evSs T r e) K) : W (evSs T (.cons (.fr t it b) r) env) K := by
  refine W_for (enc := g) (xs := List.range n) (fun l e => I l.length e) hi h0 (fun a x c e h1 h2 K' hT => ?_) (fun e h => hk e (by simpa using h))
  obtain ⟨e1, _, hn⟩ := range_split h1
  subst e1
  exact hs _ e hn h2 K' ⟨fun e h => hT.nx e (by simpa using h), fun e h => hT.ct e (by simpa using h), hT.bk, hT.rt, hT.ex⟩
theorem W_rng {t : G} {it : Pv.I} {b : Ss} {lo : Int} {n : Nat} (I : Nat → Ev → Prop) (hi : evi T it env = .ok (rngD lo n)) (h0 : I 0 env) (hs : ∀ k e, k < n → I k e → ∀ K', Tn (I (k + 1)) (KS T r K) K' → W (gset t (.int (lo + k)) e) fun e' => W (evSs T b e') K') (hk : ∀ e, I n e → W (evSs T r e) K) : W (evSs T (.cons (.fr t it b) r) env) K := by
  refine W_for (enc := fun k : Nat => PyData.int (lo + k)) (xs := List.range n) (fun l e => l = List.range l.length ∧ I l.length e) hi ⟨rfl, h0⟩ (fun a x c e h1 h2 K' hT => ?_) (fun e h => hk e (by simpa using h.2))
  have hx : x = a.length ∧ a.length < n := by
    have := congrArg (fun l => l[a.length]?) h1
    simp only [List.getElem?_append_right (Nat.le_refl _), Nat.sub_self, List.getElem?_cons_zero] at this
    have hl := congrArg List.length h1
    simp only [List.length_range, List.length_append, List.length_cons] at hl
    rw [List.getElem?_range (by omega)] at this
    exact ⟨(Option.some.inj this).symm, by omega⟩
  obtain ⟨rfl, hn⟩ := hx
  have hr : a ++ [a.length] = List.range (a ++ [a.length]).length := by
    rw [List.length_append, List.length_singleton, List.range_succ, ← h2.1]
  refine hs _ e hn h2.2 K' ⟨fun e h => hT.nx e ⟨hr, by simpa using h⟩, fun e h => hT.ct e ⟨hr, by simpa using h⟩, hT.bk, hT.rt, hT.ex⟩
theorem W_loopW {tc : Ev → R Bool} {f : Ev → R Fl} {K1 : Fl → Prop} (N : Nat) (I : Nat → Ev → Prop) (hs : ∀ k e, I k e → ∀ K', Tn (I (k + 1)) K1 K' → W (tc e) fun b => (b = true → W (f e) K') ∧ (b = false → K1 (.nx e))) (hb : ∀ k e, I k e → k ≤ N) : ∀ (m k : Nat) (e : Ev), I k e → N < m + k → W (loopW tc f m e) K1
  | 0, k, e, hI, hm => absurd (hb k e hI) (by omega)
  | m + 1, k, e, hI, hm => by
    obtain ⟨b, h1, h2, h3⟩ := hs k e hI _ Tn.self
    show W (tc e >>= _) _
    rw [h1, R.ok_bind]
    cases b with
    | true =>
      obtain ⟨fl, e1, k1⟩ := h2 rfl
      rw [if_pos rfl, e1, R.ok_bind]
      cases fl with
      | nx e' => exact W_loopW N I hs hb m (k + 1) e' k1 (by omega)
      | ct e' => exact W_loopW N I hs hb m (k + 1) e' k1 (by omega)
      | bk e' => exact ⟨_, rfl, k1⟩
      | rt d => exact ⟨_, rfl, k1⟩
      | ex n => exact ⟨_, rfl, k1⟩
    | false =>
      rw [if_neg (by decide)]
      exact ⟨_, rfl, h3 rfl⟩
theorem W_wh {t : E} {b : Ss} (N : Nat) (I : Nat → Ev → Prop) (h0 : I 0 env) (hb : ∀ k e, I k e → k ≤ N) (hs : ∀ k e, I k e → ∀ K', Tn (I (k + 1)) (KS T r K) K' → W (ev T t e) fun d => W (truthD d) fun c => (c = true → W (evSs T b e) K') ∧ (c = false → W (evSs T r e) K)) (hN : N < 1000000 := by decide) : W (evSs T (.cons (.wh t b) r) env) K := by
  refine W_cons ?_
  show W (loopW (evB T t) (evSs T b) fuel env) _
  refine W_loopW N I (fun k e hI K' hT => ?_) hb fuel 0 env h0 (by unfold fuel; omega)
  exact W_bind.mpr (hs k e hI K' hT)
end
/-! comprehensions -/
theorem goC_map {α : Type} {enc : α → D} {f : D → R (Option D)} {g : α → Option D} : ∀ {xs : List α} {acc : List D}, (∀ x ∈ xs, f (enc x) = .ok (g x)) → acc.length + xs.length ≤ 16777216 → goC f (xs.map enc) acc = .ok (acc ++ xs.filterMap g)
  | [], acc, _, _ => by simp [goC]
  | x :: xs, acc, h, hl => by
    have e := h x (.head _)
    simp only [List.length_cons] at hl
    simp only [List.map_cons, goC, e]
    cases hg : g x with
    | none =>
      simp only [hg]
      rw [goC_map (fun y hy => h y (.tail _ hy)) (by omega)]
      simp [hg]
    | some d =>
      simp only [hg]
      rw [if_pos (by omega), goC_map (fun y hy => h y (.tail _ hy)) (by simp only [List.length_append, List.length_singleton]; omega)]
      simp [hg]
theorem goC_all {α : Type} {enc : α → D} {f : D → R (Option D)} {g : α → D} {xs : List α} (h : ∀ x ∈ xs, f (enc x) = .ok (some (g x))) (hl : xs.length ≤ 16777216) : goC f (xs.map enc) [] = .ok (xs.map g) := by
  rw [goC_map (g := fun x => some (g x)) h (by simpa using hl)]
  simp
theorem goC_rng {lo : Int} {n : Nat} {f : D → R (Option D)} {g : Nat → Option D} (h : ∀ k < n, f (.int (lo + k)) = .ok (g k)) (hl : n ≤ 16777216) : goC f (rngD lo n) [] = .ok ((List.range n).filterMap g) := by
  unfold rngD
  rw [goC_map (enc := fun k : Nat => PyData.int (lo + k)) (g := g) (fun x hx => h x (List.mem_range.mp hx)) (by simpa using hl)]
  rfl
theorem goC_rngA {lo : Int} {n : Nat} {f : D → R (Option D)} {g : Nat → D} (h : ∀ k < n, f (.int (lo + k)) = .ok (some (g k))) (hl : n ≤ 16777216) : goC f (rngD lo n) [] = .ok ((List.range n).map g) := by
  rw [goC_rng (g := fun x => some (g x)) h hl]
  simp
/-! subscripts -/
theorem ixN_nn {n : Nat} {i : Int} (h0 : 0 ≤ i) (h1 : i < n) : ixN n i = some i.toNat := by
  unfold ixN
  rw [if_pos h0, if_pos h1]
theorem atI_nn {α : Type} {xs : List α} {i : Int} (h0 : 0 ≤ i) (h1 : i < xs.length) : atI xs i = xs[i.toNat]? := by
  unfold atI
  rw [ixN_nn h0 h1]
  rfl
theorem atI_map {α β : Type} {xs : List α} {f : α → β} {i : Int} (d : α) (h0 : 0 ≤ i) (h1 : i < xs.length) : atI (xs.map f) i = some (f (xs.getD i.toNat d)) := by
  rw [atI_nn h0 (by simpa using h1), List.getElem?_map]
  have : i.toNat < xs.length := by omega
  simp [List.getElem?_eq_getElem this, List.getD_eq_getElem?_getD]
end Pv

/-! part P: the evaluator's equations -/
namespace Pv
open PySem PySem.Spec PyProof.Rows L2
theorem okb {α β : Type} (a : α) (f : α → R β) : (R.ok a >>= f) = f a := id rfl
section
variable {T : Sg} {env : Ev}
@[simp] theorem ev_var {i m} : ev T (.var i m) env = evVar i m env := id rfl
@[simp] theorem ev_cst {d} : ev T (.cst d) env = .ok d := id rfl
@[simp] theorem ev_gl {i} : ev T (.gl i) env = evGl T i := id rfl
@[simp] theorem ev_neg {a} : ev T (.neg a) env = ev T a env >>= evNeg := id rfl
@[simp] theorem ev_bin {op o a b} : ev T (.bin op o a b) env = ev T a env >>= fun x => ev T b env >>= fun y => evBin op o x y := id rfl
@[simp] theorem ev_cmp {op a b} : ev T (.cmp op a b) env = ev T a env >>= fun x => ev T b env >>= fun y => evCmp op x y >>= fun b => .ok (.bool b) := id rfl
@[simp] theorem ev_chn {op op' a b d} : ev T (.chn op op' a b d) env = ev T a env >>= fun x => ev T b env >>= fun y => evCmp op x y >>= fun r => if r = true then (ev T d env >>= fun z => evCmp op' y z >>= fun q => .ok (.bool q)) else .ok (.bool false) := id rfl
@[simp] theorem ev_nt {a} : ev T (.nt a) env = ev T a env >>= fun d => truthD d >>= fun b => .ok (.bool (!b)) := id rfl
@[simp] theorem ev_an {es} : ev T (.an es) env = evAn T es env := id rfl
@[simp] theorem ev_or {es} : ev T (.orr es) env = evOr T es env := id rfl
@[simp] theorem ev_ite {t a b} : ev T (.ite t a b) env = ev T t env >>= fun d => truthD d >>= fun r => if r = true then ev T a env else ev T b env := id rfl
@[simp] theorem ev_idx {a b} : ev T (.idx a b) env = ev T a env >>= fun x => ev T b env >>= fun y => evIdx x y := id rfl
@[simp] theorem ev_sl {o a lo hi} : ev T (.sl o a lo hi) env = ev T a env >>= fun x => evo T lo env >>= fun l => evo T hi env >>= fun h => evSl o x l h := id rfl
@[simp] theorem ev_tup {es} : ev T (.tup es) env = evs T es env >>= evTup := id rfl
@[simp] theorem ev_lst {o es} : ev T (.lst o es) env = evs T es env >>= evLst := id rfl
@[simp] theorem ev_bi {b o es} : ev T (.bi b o es) env = evs T es env >>= evBi b o := id rfl
@[simp] theorem ev_isi {t a} : ev T (.isi t a) env = ev T a env >>= fun d => .ok (.bool (isD t d)) := id rfl
@[simp] theorem ev_fn {f k es} : ev T (.fn f k es) env = evs T es env >>= evF T f k := id rfl
@[simp] theorem ev_comp {o elt g it t ws} : ev T (.comp o elt g it t ws) env = evi T it env >>= fun items => goC (step g ws (evc T t) (ev T elt) env) items [] >>= fun ds => .ok (.list ds) := id rfl
@[simp] theorem ev_frz {a} : ev T (.frz a) env = ev T a env := id rfl
@[simp] theorem ev_fl {a} : ev T (.fl a) env = ev T a env >>= evFl := id rfl
@[simp] theorem ev_rv {o a} : ev T (.rv o a) env = ev T a env >>= evX1 .rev o := id rfl
@[simp] theorem ev_lr1 {o a} : ev T (.lr1 o a) env = ev T a env >>= fun d => evX3 .lr1 o [d] := id rfl
@[simp] theorem ev_lr2 {o a b} : ev T (.lr2 o a b) env = ev T a env >>= fun d => ev T b env >>= fun e => evX3 .lr2 o [d, e] := id rfl
@[simp] theorem ev_et : ev T .et env = .ok (.tuple []) := id rfl
@[simp] theorem ev_d1 {k v} : ev T (.d1 k v) env = ev T k env >>= fun y => ev T v env >>= fun z => evD1 y z := id rfl
@[simp] theorem ev_xi {a k} : ev T (.xi a k) env = ev T a env >>= fun x => ckL x >>= fun _ => ev T k env >>= fun y => evXi x y := id rfl
@[simp] theorem ev_comp2 {o elt g it t g1 it1 t1 ws ws1} : ev T (.comp2 o elt g it t g1 it1 t1 ws ws1) env = evi T it env >>= fun items => goC2 (step1 g ws (evc T t) (frzOnly env)) (evi T it1) (fun e => step g1 ws1 (evc T t1) (ev T elt) e) items [] >>= fun ds => .ok (.list ds) := id rfl
@[simp] theorem ev_gcd {a b} : ev T (.gcd a b) env = ev T a env >>= fun x => ev T b env >>= fun y => evGcd x y := id rfl
@[simp] theorem evGcd_int {i j : Int} : evGcd (.int i) (.int j) = .ok (.int ((Nat.gcd i.natAbs j.natAbs : Nat) : Int)) := id rfl
@[simp] theorem ev_lsc {elt g it t ws} : ev T (.lsc elt g it t ws) env = evi T it env >>= fun items => goS (step g ws (evc T t) (ev T elt) env) items [] >>= fun l => ckN l := id rfl
@[simp] theorem ckL_list {xs : List D} : ckL (.list xs) = .ok () := id rfl
@[simp] theorem evD1_int {i : Int} {z : D} : evD1 (.int i) z = .ok (.dict [(.int i, z)]) := id rfl
@[simp] theorem ev_dn {t} : ev T (.dn t) env = .ok (evDn t) := id rfl
@[simp] theorem ev_dg {a k} : ev T (.dg a k) env = ev T a env >>= fun d => ev T k env >>= fun y => evDg d y := id rfl
@[simp] theorem ev_dgd {a k x} : ev T (.dgd a k x) env = ev T a env >>= fun d => ckD d >>= fun _ => ev T k env >>= fun y => ev T x env >>= fun z => evDd d y z := id rfl
@[simp] theorem ev_dg1 {a k} : ev T (.dg1 a k) env = ev T a env >>= fun d => ckD d >>= fun _ => ev T k env >>= fun y => evDd d y .none := id rfl
@[simp] theorem ev_din {n k a} : ev T (.din n k a) env = ev T k env >>= fun y => ev T a env >>= fun d => evDi n y d := id rfl
@[simp] theorem ev_dl {a} : ev T (.dl a) env = ev T a env >>= evDl := id rfl
@[simp] theorem ev_rpr {a} : ev T (.rpr a) env = ev T a env >>= evRpr := id rfl
@[simp] theorem ev_dso {o a} : ev T (.dso o a) env = ev T a env >>= evDs := id rfl
@[simp] theorem ev_dks {o a} : ev T (.dks o a) env = ev T a env >>= evDk := id rfl
@[simp] theorem evX1_rev {o xs} : evX1 .rev o (.list xs) = .ok (.list xs.reverse) := id rfl
@[simp] theorem evX3_lr1 {o} {j : Int} (h : 0 ≤ j) (h1 : j ≤ 16777216) : evX3 .lr1 o [.int j] = .ok (.list (rngD 0 j.toNat)) := if_pos (by unfold rngCk; simp; omega)
@[simp] theorem evX3_lr2 {o} {i j : Int} (h : -1000000000 ≤ i) (h1 : i ≤ 1000000000) (h2 : -1000000000 ≤ j) (h3 : j ≤ 1000000000) (h4 : j - i ≤ 16777216) : evX3 .lr2 o [.int i, .int j] = .ok (.list (rngD i (j - i).toNat)) := if_pos (by unfold rngCk; simp; omega)
@[simp] theorem evs_nil : evs T .nil env = .ok [] := id rfl
@[simp] theorem evs_cons {e r} : evs T (.cons e r) env = ev T e env >>= fun d => evs T r env >>= fun ds => .ok (d :: ds) := id rfl
@[simp] theorem evAn_one {e} : evAn T (.cons e .nil) env = ev T e env := id rfl
@[simp] theorem evAn_cons {e e' r} : evAn T (.cons e (.cons e' r)) env = ev T e env >>= fun x => truthD x >>= fun b => if b = true then evAn T (.cons e' r) env else .ok x := id rfl
@[simp] theorem evOr_one {e} : evOr T (.cons e .nil) env = ev T e env := id rfl
@[simp] theorem evOr_cons {e e' r} : evOr T (.cons e (.cons e' r)) env = ev T e env >>= fun x => truthD x >>= fun b => if b = true then .ok x else evOr T (.cons e' r) env := id rfl
@[simp] theorem evo_no : evo T .no env = .ok none := id rfl
@[simp] theorem evo_sm {e} : evo T (.sm e) env = ev T e env >>= fun d => match d with | .int i => .ok (some i) | _ => .no := id rfl
@[simp] theorem evc_nil : evc T .nil env = .ok true := id rfl
@[simp] theorem evc_cons {e r} : evc T (.cons e r) env = ev T e env >>= truthD := id rfl
@[simp] theorem evi_seq {e} : evi T (.seq e) env = ev T e env >>= seqD := id rfl
@[simp] theorem evi_r1 {es} : evi T (.r1 es) env = evs T es env >>= rng1D := id rfl
@[simp] theorem evi_r2 {es} : evi T (.r2 es) env = evs T es env >>= rng2D := id rfl
@[simp] theorem evi_r3 {es} : evi T (.r3 es) env = evs T es env >>= rngnD := id rfl
@[simp] theorem evi_en {es} : evi T (.en es) env = evs T es env >>= enum1D := id rfl
@[simp] theorem evi_zp {es} : evi T (.zp es) env = evs T es env >>= zip2D := id rfl
@[simp] theorem lk_zero {x : Option (D × Bool)} {r : Ev} : lk (x :: r) 0 = x := id rfl
@[simp] theorem lk_succ {x : Option (D × Bool)} {r : Ev} {n : Nat} : lk (x :: r) (n + 1) = lk r n := id rfl
@[simp] theorem put_zero {x v : Option (D × Bool)} {r : Ev} : put (x :: r) 0 v = v :: r := id rfl
@[simp] theorem put_succ {x v : Option (D × Bool)} {r : Ev} {n : Nat} : put (x :: r) (n + 1) v = x :: put r n v := id rfl
@[simp] theorem evVar_eq {i : Nat} {m : Bool} : evVar i m env = (match lk env i with | some (d, b) => if m = true then (if b = true then .ok d else .no) else .ok d | none => .no) := id rfl
@[simp] theorem gset_nm {i : Nat} {d : D} : gset (.nm i) d env = .ok (put env i (some (d, true))) := id rfl
@[simp] theorem gset_tp {gs : Gs} {ds : List D} : gset (.tp gs) (.tuple ds) env = gsets gs ds env := id rfl
@[simp] theorem gset_ls {gs : Gs} {ds : List D} : gset (.ls gs) (.list ds) env = gsets gs ds env := id rfl
@[simp] theorem gsets_nil : gsets .nil [] env = .ok env := id rfl
@[simp] theorem gsets_cons {g : G} {r : Gs} {d : D} {ds : List D} : gsets (.cons g r) (d :: ds) env = gset g d env >>= fun e => gsets r ds e := id rfl
@[simp] theorem wipeE_nil : wipeE env [] = env := id rfl
@[simp] theorem wipeE_cons {i : Nat} {r : List Nat} : wipeE env (i :: r) = put (wipeE env r) i none := id rfl
end
section
variable {o : Own} {i j : Int}
@[simp] theorem evBin_add : evBin .add o (.int i) (.int j) = .ok (.int (i + j)) := id rfl
@[simp] theorem evBin_sub : evBin .sub o (.int i) (.int j) = .ok (.int (i - j)) := id rfl
theorem mulOk_of (h : (-18446744073709551616 < i ∧ i < 18446744073709551616) ∨ (-18446744073709551616 < j ∧ j < 18446744073709551616)) : mulOk i j = true := by
  unfold mulOk
  simpa using h
@[simp] theorem evBin_mul (h : (-18446744073709551616 < i ∧ i < 18446744073709551616) ∨ (-18446744073709551616 < j ∧ j < 18446744073709551616)) : evBin .mul o (.int i) (.int j) = .ok (.int (i * j)) := if_pos (mulOk_of h)
@[simp] theorem evBin_mod (h : 0 < j) : evBin .mod o (.int i) (.int j) = .ok (.int (i % j)) := if_pos h
@[simp] theorem evBin_fdiv (h : 0 < j ∧ j < 1073741824) : evBin .fdiv o (.int i) (.int j) = .ok (.int (i / j)) := if_pos h
@[simp] theorem evBin_pow (h0 : 0 ≤ j) (h1 : j ≤ 1000000) (h2 : i.natAbs < 18446744073709551616) : evBin .pow o (.int i) (.int j) = .ok (.int (i ^ j.toNat)) := if_pos (by unfold powOk; simp [h0, h1, h2])
@[simp] theorem evBin_cat {xs ys : List D} (h : xs.length + ys.length ≤ 16777216) : evBin .add o (.list xs) (.list ys) = .ok (.list (xs ++ ys)) := if_pos h
@[simp] theorem evBin_rep {xs : List D} {k : Int} (h : -9223372036854775808 ≤ k ∧ k < 9223372036854775808 ∧ xs.length * k.toNat ≤ 16777216) : evBin .mul o (.list xs) (.int k) = .ok (.list (List.replicate k.toNat xs).flatten) := if_pos h
@[simp] theorem evNeg_int : evNeg (.int i) = .ok (.int (-i)) := id rfl
@[simp] theorem evCmp_lt : evCmp .lt (.int i) (.int j) = .ok (decide (i < j)) := id rfl
@[simp] theorem evCmp_le : evCmp .le (.int i) (.int j) = .ok (decide (i ≤ j)) := id rfl
@[simp] theorem evCmp_gt : evCmp .gt (.int i) (.int j) = .ok (decide (j < i)) := id rfl
@[simp] theorem evCmp_ge : evCmp .ge (.int i) (.int j) = .ok (decide (j ≤ i)) := id rfl
theorem lexLeD2 {a b c d : Int} : lexLeD [a, b] [c, d] = decide (a < c ∨ (a = c ∧ b ≤ d)) := by
  by_cases h1 : a = c
  · subst h1
    by_cases h2 : b = d
    · subst h2; simp [lexLeD, Ob.lexAt]
    · simp [lexLeD, Ob.lexAt, h2]
  · have : (a ≤ c) = (a < c) := by apply propext; omega
    simp [lexLeD, Ob.lexAt, h1, this]
@[simp] theorem evCmp_leT2 {a b c d : Int} : evCmp .le (.tuple [.int a, .int b]) (.tuple [.int c, .int d]) = .ok (decide (a < c ∨ (a = c ∧ b ≤ d))) := by
  show R.ok (lexLeD [a, b] [c, d]) = _
  rw [lexLeD2]
theorem eqv_int {i j : Int} : PyData.eqv (.int i) (.int j) = decide (i = j) := by
  by_cases h : i = j
  · subst h; simp [PyData.eqv]
  · simp [PyData.eqv, h]
@[simp] theorem evCmp_eqi : evCmp .eq (.int i) (.int j) = .ok (decide (i = j)) := by
  show (if SeqAt.shaped (.int i) = true ∧ SeqAt.shaped (.int j) = true then R.ok (PyData.eqv (.int i) (.int j)) else .no) = _
  rw [if_pos ⟨rfl, rfl⟩, eqv_int]
@[simp] theorem evCmp_nei : evCmp .ne (.int i) (.int j) = .ok (!decide (i = j)) := by
  show (if SeqAt.shaped (.int i) = true ∧ SeqAt.shaped (.int j) = true then R.ok (!PyData.eqv (.int i) (.int j)) else .no) = _
  rw [if_pos ⟨rfl, rfl⟩, eqv_int]
end
@[simp] theorem truthD_int {i : Int} : truthD (.int i) = .ok (i != 0) := id rfl
@[simp] theorem truthD_list {xs : List D} : truthD (.list xs) = .ok (!xs.isEmpty) := id rfl
@[simp] theorem evTup_eq {ds : List D} (h : ds.length ≤ 16777216) : evTup ds = .ok (.tuple ds) := if_pos (by first | exact h | omega)
@[simp] theorem evLst_eq {ds : List D} (h : ds.length ≤ 16777216) : evLst ds = .ok (.list ds) := if_pos (by first | exact h | omega)
@[simp] theorem evBi_len {o : Own} {xs : List D} : evBi .len o [.list xs] = .ok (.int xs.length) := id rfl
@[simp] theorem evBi_lenT {o : Own} {xs : List D} : evBi .len o [.tuple xs] = .ok (.int xs.length) := id rfl
@[simp] theorem evBi_int {o : Own} {i : Int} : evBi .int o [.int i] = .ok (.int i) := id rfl
@[simp] theorem evBi_intb {o : Own} {b : Bool} : evBi .int o [.bool b] = .ok (.int (if b = true then 1 else 0)) := id rfl
@[simp] theorem evBi_sum {o : Own} {ns : List Int} : evBi .sum o [.list (ns.map PyData.int)] = .ok (.int ns.sum) := by
  show (match intsOf _ with | some ns => R.ok (PyData.int ns.sum) | none => .no) = _
  rw [intsOf_map]
@[simp] theorem evBi_min2 {o : Own} {i j : Int} : evBi .min o [.int i, .int j] = .ok (.int (min i j)) := by
  show R.ok (PyData.int (if j < i then j else i)) = _
  congr 2
  omega
@[simp] theorem evBi_minT {o : Own} {i j : Int} : evBi .min o [.tuple [.int i, .int j]] = .ok (.int (min i j)) := by
  show R.ok (PyData.int (if j < i then j else i)) = _
  congr 2
  split <;> omega
@[simp] theorem evBi_max2 {o : Own} {i j : Int} : evBi .max o [.int i, .int j] = .ok (.int (max i j)) := by
  show R.ok (PyData.int (if j > i then j else i)) = _
  congr 2
  omega
@[simp] theorem evBi_min3 {o : Own} {i j k : Int} : evBi .min o [.int i, .int j, .int k] = .ok (.int (min (min i j) k)) := by
  show R.ok (PyData.int (min3 i j k)) = _
  unfold min3
  congr 2
  omega
@[simp] theorem evBi_max3 {o : Own} {i j k : Int} : evBi .max o [.int i, .int j, .int k] = .ok (.int (max (max i j) k)) := by
  show R.ok (PyData.int (max3 i j k)) = _
  unfold max3
  congr 2
  omega
@[simp] theorem evBi_sorted {o : Own} {ns : List Int} : evBi .sorted o [.list (ns.map PyData.int)] = .ok (.list ((sortI ns).map PyData.int)) := by
  show (match intsOf (ns.map PyData.int) with | some ns => R.ok (PyData.list ((sortI ns).map PyData.int)) | none => srtA (ns.map PyData.int)) = _
  rw [intsOf_map]
@[simp] theorem evBi_list {o : Own} {xs : List D} : evBi .list o [.list xs] = .ok (.list xs) := id rfl
@[simp] theorem evBi_listT {o : Own} {xs : List D} : evBi .list o [.tuple xs] = .ok (.list xs) := id rfl
@[simp] theorem evBi_all {o : Own} {bs : List Bool} : evBi .all o [.list (bs.map PyData.bool)] = .ok (.bool (bs.all id)) := by
  show (match blsOf _ with | some bs => R.ok (PyData.bool (bs.all id)) | none => .no) = _
  rw [blsOf_map]
@[simp] theorem evBi_any {o : Own} {bs : List Bool} : evBi .any o [.list (bs.map PyData.bool)] = .ok (.bool (bs.any id)) := by
  show (match blsOf _ with | some bs => R.ok (PyData.bool (bs.any id)) | none => .no) = _
  rw [blsOf_map]
@[simp] theorem evBi_anyf {α : Type} {o : Own} {p : α → Bool} {xs : List α} : evBi .any o [.list (xs.map fun x => PyData.bool (p x))] = .ok (.bool (xs.any p)) := by
  have h := evBi_any (o := o) (bs := xs.map p)
  rw [List.map_map, List.any_map] at h
  exact h
@[simp] theorem evBi_allf {α : Type} {o : Own} {p : α → Bool} {xs : List α} : evBi .all o [.list (xs.map fun x => PyData.bool (p x))] = .ok (.bool (xs.all p)) := by
  have h := evBi_all (o := o) (bs := xs.map p)
  rw [List.map_map, List.all_map] at h
  exact h
@[simp] theorem evBi_abs {o : Own} {i : Int} : evBi .abs o [.int i] = .ok (.int (i.natAbs : Int)) := by
  show R.ok (PyData.int (if i < 0 then -i else i)) = _
  congr 2
  omega
@[simp] theorem evCmp_isnone {x : D} : evCmp .isn x .none = .ok (isNone x) := id rfl
@[simp] theorem evCmp_isb {a b : Bool} : evCmp .isn (.bool a) (.bool b) = .ok (a == b) := by cases a <;> cases b <;> rfl
@[simp] theorem evCmp_notb {a b : Bool} : evCmp .notn (.bool a) (.bool b) = .ok (a != b) := by cases a <;> cases b <;> rfl
@[simp] theorem evCmp_notnone {x : D} : evCmp .notn x .none = .ok (!isNone x) := id rfl
@[simp] theorem isNone_n : isNone .none = true := id rfl
@[simp] theorem isNone_i {i : Int} : isNone (.int i) = false := id rfl
@[simp] theorem isNone_b {b : Bool} : isNone (.bool b) = false := id rfl
@[simp] theorem isNone_s {s : Str} : isNone (.str s) = false := id rfl
@[simp] theorem isNone_l {xs : List D} : isNone (.list xs) = false := id rfl
@[simp] theorem isNone_t {xs : List D} : isNone (.tuple xs) = false := id rfl
/-- an item of a list, by a subscript that is not below 0 -/
def ix {α : Type} [Inhabited α] (xs : List α) (i : Int) : α := xs.getD i.toNat default
@[simp] theorem evIdx_map {α : Type} [Inhabited α] {f : α → D} {xs : List α} {i : Int} (h0 : 0 ≤ i) (h1 : i < xs.length) : evIdx (.list (xs.map f)) (.int i) = .ok (f (ix xs i)) := by
  show (match atI (xs.map f) i with | some d => R.ok d | none => .no) = _
  rw [atI_map default h0 h1]
  rfl
@[simp] theorem evIdx_mapT {α : Type} [Inhabited α] {f : α → D} {xs : List α} {i : Int} (h0 : 0 ≤ i) (h1 : i < xs.length) : evIdx (.tuple (xs.map f)) (.int i) = .ok (f (ix xs i)) := by
  show (match atI (xs.map f) i with | some d => R.ok d | none => .no) = _
  rw [atI_map default h0 h1]
  rfl
/-- a subscript of a display -/
@[simp] theorem evIdx_t0 {a : D} {r : List D} : evIdx (.tuple (a :: r)) (.int 0) = .ok a := by
  show (match atI (a :: r) ((0 : Nat) : Int) with | some d => R.ok d | none => .no) = _
  rw [atI_nat (v := a) rfl]
@[simp] theorem evIdx_l0 {a : D} {r : List D} : evIdx (.list (a :: r)) (.int 0) = .ok a := by
  show (match atI (a :: r) ((0 : Nat) : Int) with | some d => R.ok d | none => .no) = _
  rw [atI_nat (v := a) rfl]
@[simp] theorem evIdx_t1 {a b : D} {r : List D} : evIdx (.tuple (a :: b :: r)) (.int 1) = .ok b := by
  show (match atI (a :: b :: r) ((1 : Nat) : Int) with | some d => R.ok d | none => .no) = _
  rw [atI_nat (v := b) rfl]
@[simp] theorem evIdx_l1 {a b : D} {r : List D} : evIdx (.list (a :: b :: r)) (.int 1) = .ok b := by
  show (match atI (a :: b :: r) ((1 : Nat) : Int) with | some d => R.ok d | none => .no) = _
  rw [atI_nat (v := b) rfl]
@[simp] theorem evIdx_t2 {a b c : D} {r : List D} : evIdx (.tuple (a :: b :: c :: r)) (.int 2) = .ok c := by
  show (match atI (a :: b :: c :: r) ((2 : Nat) : Int) with | some d => R.ok d | none => .no) = _
  rw [atI_nat (v := c) rfl]
@[simp] theorem evIdx_l2 {a b c : D} {r : List D} : evIdx (.list (a :: b :: c :: r)) (.int 2) = .ok c := by
  show (match atI (a :: b :: c :: r) ((2 : Nat) : Int) with | some d => R.ok d | none => .no) = _
  rw [atI_nat (v := c) rfl]
@[simp] theorem evIdx_t3 {a b c d : D} {r : List D} : evIdx (.tuple (a :: b :: c :: d :: r)) (.int 3) = .ok d := by
  show (match atI (a :: b :: c :: d :: r) ((3 : Nat) : Int) with | some d => R.ok d | none => .no) = _
  rw [atI_nat (v := d) rfl]
@[simp] theorem evIdx_l3 {a b c d : D} {r : List D} : evIdx (.list (a :: b :: c :: d :: r)) (.int 3) = .ok d := by
  show (match atI (a :: b :: c :: d :: r) ((3 : Nat) : Int) with | some d => R.ok d | none => .no) = _
  rw [atI_nat (v := d) rfl]
@[simp] theorem evIdx_t4 {a b c d e : D} {r : List D} : evIdx (.tuple (a :: b :: c :: d :: e :: r)) (.int 4) = .ok e := by
  show (match atI (a :: b :: c :: d :: e :: r) ((4 : Nat) : Int) with | some d => R.ok d | none => .no) = _
  rw [atI_nat (v := e) rfl]
@[simp] theorem evIdx_l4 {a b c d e : D} {r : List D} : evIdx (.list (a :: b :: c :: d :: e :: r)) (.int 4) = .ok e := by
  show (match atI (a :: b :: c :: d :: e :: r) ((4 : Nat) : Int) with | some d => R.ok d | none => .no) = _
  rw [atI_nat (v := e) rfl]
@[simp] theorem evIdx_t5 {a b c d e f : D} {r : List D} : evIdx (.tuple (a :: b :: c :: d :: e :: f :: r)) (.int 5) = .ok f := by
  show (match atI (a :: b :: c :: d :: e :: f :: r) ((5 : Nat) : Int) with | some d => R.ok d | none => .no) = _
  rw [atI_nat (v := f) rfl]
@[simp] theorem evIdx_l5 {a b c d e f : D} {r : List D} : evIdx (.list (a :: b :: c :: d :: e :: f :: r)) (.int 5) = .ok f := by
  show (match atI (a :: b :: c :: d :: e :: f :: r) ((5 : Nat) : Int) with | some d => R.ok d | none => .no) = _
  rw [atI_nat (v := f) rfl]
theorem evIdx_at {xs : List D} {i : Int} {d : D} (h : atI xs i = some d) : evIdx (.list xs) (.int i) = .ok d := by
  show (match atI xs _ with | some d => R.ok d | none => .no) = _
  rw [h]
@[simp] theorem seqD_list {xs : List D} : seqD (.list xs) = .ok xs := id rfl
@[simp] theorem seqD_tuple {xs : List D} : seqD (.tuple xs) = .ok xs := id rfl
@[simp] theorem rng1D_int {j : Int} (h0 : -4611686018427387904 ≤ j) (h1 : j < 4611686018427387904) : rng1D [.int j] = .ok (rngD 0 j.toNat) := if_pos (by unfold rngOk; simp [h0, h1])
@[simp] theorem rng2D_int {i j : Int} (h0 : -4611686018427387904 ≤ j) (h1 : j < 4611686018427387904) (h2 : -4611686018427387904 ≤ i) (h3 : i < 4611686018427387904) : rng2D [.int i, .int j] = .ok (rngD i (j - i).toNat) := if_pos (by unfold rngOk; simp [h0, h1, h2, h3])
@[simp] theorem enum1D_list {xs : List D} : enum1D [.list xs] = .ok (enumD 0 xs) := id rfl
@[simp] theorem zip2D_list {xs ys : List D} : zip2D [.list xs, .list ys] = .ok (zipD xs ys) := id rfl
@[simp] theorem evAug_add {i j : Int} : evAug .add (.int i) (.int j) = .ok (.int (i + j)) := id rfl
@[simp] theorem evAug_sub {i j : Int} : evAug .sub (.int i) (.int j) = .ok (.int (i - j)) := id rfl
@[simp] theorem toInt_ok' {i : Int} : toInt (.ok (.int i)) = .ok i := id rfl
@[simp] theorem isD_ii {i : Int} : isD .int (.int i) = true := id rfl
section
variable {T : Sg} {env : Ev} {K : Fl → Prop} {r : Ss}
theorem W_stM {α : Type} {f : α → D} {i : Nat} {xs : List α} {k e : E} (hl : lk env i = some (.list (xs.map f), false)) (ho : T.own i = .lst .sh)
    (h : W (ev T e env) fun d => W (toInt (ev T k env)) fun n => 0 ≤ n ∧ n < xs.length ∧ ∃ y, d = f y ∧ W (evSs T r (put env i (some (.list ((xs.set n.toNat y).map f), false)))) K) : W (evSs T (.cons (.st i .nil k e) r) env) K := by
  refine W_st hl ho (h.imp fun d h => h.imp fun n ⟨h0, h1, y, e, k⟩ => ⟨n.toNat, ixN_nn h0 (by simpa using h1), ?_⟩)
  subst e
  rw [List.map_set] at k
  exact k
theorem W_sauI {i : Nat} {xs : List Int} {k e : E} {op : BOp} (hl : lk env i = some (.list (xs.map PyData.int), false)) (ho : T.own i = .lst .sh)
    (h : W (toInt (ev T k env)) fun n => W (ev T e env) fun y => 0 ≤ n ∧ n < xs.length ∧ W (evAug op (.int (ix xs n)) y) fun z => ∃ m, z = .int m ∧ W (evSs T r (put env i (some (.list ((xs.set n.toNat m).map PyData.int), false)))) K) : W (evSs T (.cons (.sau i .nil k op e) r) env) K := by
  refine W_sau hl ho (h.imp fun n h => h.imp fun y ⟨h0, h1, h⟩ => ⟨n.toNat, .int (ix xs n), ixN_nn h0 (by simpa using h1), ?_, h.imp fun z ⟨m, e, k⟩ => ?_⟩)
  · have := atI_map (f := PyData.int) default h0 h1
    rw [atI_nn h0 (by simpa using h1)] at this
    exact this
  · subst e
    rw [List.map_set] at k
    exact k
theorem W_app1 {i : Nat} {ds es : List D} {k e : E} {n : Int} {j : Nat} (hl : lk env i = some (.list ds, false)) (ho : T.own i = .lst (.lst .sh)) (hk : ev T k env = .ok (.int n)) (hj : ixN ds.length n = some j) (hd : ds[j]? = some (.list es)) (hs : es.length < 16777216)
    (h : W (ev T e env) fun d => W (evSs T r (put env i (some (.list (ds.set j (.list (es ++ [d]))), false)))) K) : W (evSs T (.cons (.app i (.snoc .nil k) e) r) env) K := by
  refine W_cons ?_
  obtain ⟨d, h1, h2⟩ := h
  refine ⟨.nx _, ?_, h2⟩
  show (evPa T (.snoc .nil k) env >>= _) = _
  have hp : evPa T (.snoc .nil k) env = .ok [n] := by
    show (R.ok [] >>= fun ks => toInt (ev T k env) >>= fun k => R.ok (ks ++ [k])) = _
    rw [R.ok_bind, hk]
    rfl
  rw [hp, R.ok_bind, h1]
  show mutE T i [n] (fApp d) env = _
  unfold mutE
  rw [hl, ho]
  simp [updD, hj, hd, fApp, hs]
end
section
variable {T : Sg} {env : Ev}
@[simp] theorem evR_tp {qs} : evR T (.tp qs) env = evQs T qs env >>= evTup := id rfl
@[simp] theorem evR_one {q} : evR T (.one q) env = evQ T q env := id rfl
@[simp] theorem evQs_nil : evQs T [] env = .ok [] := id rfl
@[simp] theorem evQs_cons {q qs} : evQs T (q :: qs) env = evQ T q env >>= fun d => evQs T qs env >>= fun ds => .ok (d :: ds) := id rfl
@[simp] theorem evQ_e {x} : evQ T (.e x) env = ev T x env := id rfl
theorem evQ_mv {i d} (h : lk env i = some (d, false)) : evQ T (.mv i) env = .ok d := by
  show (match lk env i with | some (d, false) => R.ok d | _ => .no) = _
  rw [h]
@[simp] theorem evTup_ok {ds} (h : ds.length ≤ 16777216) : evTup ds = .ok (.tuple ds) := if_pos h
end
end Pv

/-! part Q: what every law's text holds: cells, numbers, same -/
namespace Pv
open PySem PySem.Spec PyProof.Rows L2
def N_law_cell : List Str := ["script", "k"]
def T_law_cell : Sg := ⟨[], [], [.sh, .sh], [], false⟩
def b_law_cell : Ss := (.cons (.iff (.cmp .lt (.var 1 true) (.bi .len .sh (.cons (.var 0 true) .nil))) (.cons (.ret (.one (.e (.bi .int .sh (.cons (.idx (.var 0 true) (.var 1 true)) .nil))))) .nil) .nil) (.cons (.ret (.one (.e (.cst (.int 0))))) .nil))
def f_law_cell : Fn := ⟨"_law_cell", 2, .sh, runF T_law_cell b_law_cell 2⟩
def N_law_numbers : List Str := ["cell", "count", "limit", "found", "k", "mixed"]
def T_law_numbers : Sg := ⟨[], [], [.sh, .sh, .sh, (.lst .sh), .sh, .sh], [], false⟩
def b_law_numbers : Ss := (.cons (.own 3 (.lst .sh .nil)) (.cons (.iff (.cmp .ge (.var 0 true) (.bin .pow .sh (.cst (.int 10)) (.cst (.int 18)))) (.cons (.fr (.nm 4) (.r1 (.cons (.var 1 true) .nil)) (.cons (.app 3 .nil (.bin .mod .sh (.bi .int .sh (.cons (.var 0 true) .nil)) (.var 2 true))) (.cons (.asg (.nm 0) (.bin .fdiv .sh (.bi .int .sh (.cons (.var 0 true) .nil)) (.var 2 true))) .nil))) (.cons (.ret (.one (.mv 3))) .nil)) .nil) (.cons (.fr (.nm 4) (.r1 (.cons (.var 1 true) .nil)) (.cons (.asg (.nm 5) (.bin .mod .sh (.bi .int .sh (.cons (.bin .add .sh (.bin .add .sh (.bin .mul .sh (.var 0 true) (.cst (.int 48271))) (.bin .mul .sh (.var 4 true) (.cst (.int 69621)))) (.cst (.int 7))) .nil)) (.cst (.int 2147483647)))) (.cons (.asg (.nm 5) (.bin .mod .sh (.bi .int .sh (.cons (.bin .add .sh (.bin .add .sh (.bin .add .sh (.bin .mul .sh (.var 5 true) (.var 5 true)) (.bin .mul .sh (.var 5 true) (.cst (.int 40692)))) (.bin .mul .sh (.var 4 true) (.cst (.int 16807)))) (.cst (.int 11))) .nil)) (.cst (.int 2147483399)))) (.cons (.app 3 .nil (.bin .mod .sh (.bi .int .sh (.cons (.bin .fdiv .sh (.var 5 true) (.cst (.int 32))) .nil)) (.var 2 true))) .nil)))) (.cons (.ret (.one (.mv 3))) .nil))))
def f_law_numbers : Fn := ⟨"_law_numbers", 3, (.lst .sh), runF T_law_numbers b_law_numbers 6⟩
def N_law_same : List Str := ["told", "due", "k"]
def T_law_same (r : Fn) : Sg := ⟨[r], [], [.sh, .sh, .sh], [], false⟩
def b_law_same : Ss := (.cons (.iff (.isi .list (.var 1 true)) (.cons (.iff (.orr (.cons (.nt (.isi .list (.var 0 true))) (.cons (.cmp .ne (.bi .len .sh (.cons (.var 0 true) .nil)) (.bi .len .sh (.cons (.var 1 true) .nil))) .nil))) (.cons (.ret (.one (.e (.cst (.bool false))))) .nil) .nil) .nil) (.cons (.iff (.isi .tuple (.var 1 true)) (.cons (.iff (.orr (.cons (.nt (.isi .tuple (.var 0 true))) (.cons (.cmp .ne (.bi .len .sh (.cons (.var 0 true) .nil)) (.bi .len .sh (.cons (.var 1 true) .nil))) .nil))) (.cons (.ret (.one (.e (.cst (.bool false))))) .nil) .nil) .nil) (.cons (.iff (.cmp .isn (.var 1 true) (.cst .none)) (.cons (.ret (.one (.e (.cmp .isn (.var 0 true) (.cst .none))))) .nil) (.cons (.iff (.isi .bool (.var 1 true)) (.cons (.ret (.one (.e (.an (.cons (.isi .bool (.var 0 true)) (.cons (.cmp .eq (.var 0 true) (.var 1 true)) .nil)))))) .nil) (.cons (.iff (.isi .int (.var 1 true)) (.cons (.ret (.one (.e (.an (.cons (.isi .int (.var 0 true)) (.cons (.nt (.isi .bool (.var 0 true))) (.cons (.cmp .eq (.var 0 true) (.var 1 true)) .nil))))))) .nil) (.cons (.ret (.one (.e (.an (.cons (.isi .str (.var 0 true)) (.cons (.cmp .eq (.var 0 true) (.var 1 true)) .nil)))))) .nil)) .nil)) .nil)) .nil)) .nil)) (.cons (.fr (.nm 2) (.r1 (.cons (.bi .len .sh (.cons (.var 1 true) .nil)) .nil)) (.cons (.iff (.nt (.fn 0 false (.cons (.idx (.var 0 true) (.var 2 true)) (.cons (.idx (.var 1 true) (.var 2 true)) .nil)))) (.cons (.ret (.one (.e (.cst (.bool false))))) .nil) .nil) .nil)) (.cons (.ret (.one (.e (.cst (.bool true))))) .nil)))
def f_law_same : Nat → Fn
  | 0 => ⟨"_law_same", 2, .sh, fun _ => .no⟩
  | k + 1 => ⟨"_law_same", 2, .sh, runF (T_law_same (f_law_same k)) b_law_same 3⟩
theorem ix_nat {α : Type} [Inhabited α] {xs : List α} {k : Nat} : ix xs (k : Int) = xs.getD k default := rfl
theorem cell_ok (ns : List Int) (k : Nat) : f_law_cell.sem [.list (ns.map PyData.int), .int k] = .ok (.int (ns.getD k 0)) := by
  refine run_eq fun K hK => ?_
  refine W_if ?_
  simp (disch := first | omega | (simp; done) | (simp; omega)) [okb, -R.ok_bind, -List.map_append, -List.map_set, -List.map_map, startE]
  refine ⟨fun h => ?_, fun h => ?_⟩
  · refine W_one ?_
    simp (disch := first | omega | (simp; done) | (simp; omega)) [okb, -R.ok_bind, -List.map_append, -List.map_set, -List.map_map, h, ix_nat]
    exact hK.rt _ (by simp [h])
  · refine W_nil ?_
    refine W_one ?_
    simp (disch := first | omega | (simp; done) | (simp; omega)) [okb, -R.ok_bind, -List.map_append, -List.map_set, -List.map_map, h]
    exact hK.rt _ (by simp [h])
theorem numbers_ok (cell : Int) (count : Nat) (limit : Int) (hc : count ≤ 1000) (h0 : 0 < limit) (h1 : limit < 1073741824) :
    ∃ ds : List Int, f_law_numbers.sem [.int cell, .int count, .int limit] = .ok (.list (ds.map PyData.int)) ∧ ds.length = count ∧ ∀ d ∈ ds, 0 ≤ d ∧ d < limit := by
  have key : ∃ d, f_law_numbers.sem [.int cell, .int count, .int limit] = .ok d ∧ ∃ ds : List Int, d = .list (ds.map PyData.int) ∧ ds.length = count ∧ ∀ d ∈ ds, 0 ≤ d ∧ d < limit := by
    refine run_W fun K hK => ?_
    refine W_own ?_
    simp (disch := first | omega | (simp; done) | (simp; omega)) [okb, -R.ok_bind, -List.map_append, -List.map_set, -List.map_map, startE]
    refine W_if ?_
    simp (disch := first | omega | (simp; done) | (simp; omega)) [okb, -R.ok_bind, -List.map_append, -List.map_set, -List.map_map]
    refine ⟨fun h => ?_, fun h => ?_⟩
    · refine W_rng (lo := 0) (n := count) (fun k e => ∃ (c : Int) (ds : List Int) (x4 x5 : Option (D × Bool)), e = [some (.int c, true), some (.int count, true), some (.int limit, true), some (.list (ds.map PyData.int), false), x4, x5] ∧ ds.length = k ∧ ∀ d ∈ ds, 0 ≤ d ∧ d < limit) (by simp (disch := first | omega | (simp; done) | (simp; omega)) [okb, -R.ok_bind, -List.map_append, -List.map_set, -List.map_map]) ⟨_, [], _, _, rfl, rfl, by simp⟩ ?_ ?_
      · rintro k e hk ⟨c, ds, x4, x5, rfl, hl, hd⟩ K' hT
        simp (disch := first | omega | (simp; done) | (simp; omega)) [okb, -R.ok_bind, -List.map_append, -List.map_set, -List.map_map]
        refine W_appM (f := PyData.int) rfl rfl (by omega) ?_
        simp (disch := first | omega | (simp; done) | (simp; omega)) [okb, -R.ok_bind, -List.map_append, -List.map_set, -List.map_map]
        refine W_nm ?_
        simp (disch := first | omega | (simp; done) | (simp; omega)) [okb, -R.ok_bind, -List.map_append, -List.map_set, -List.map_map]
        refine W_nil (hT.nx _ ⟨_, ds ++ [c % limit], _, _, rfl, by simp [hl], ?_⟩)
        have := Int.emod_nonneg c (by omega : limit ≠ 0)
        have := Int.emod_lt_of_pos c h0
        intro d hd'
        rcases List.mem_append.mp hd' with z | z
        · exact hd d z
        · rw [List.mem_singleton.mp z]; omega
      · rintro e ⟨c, ds, x4, x5, rfl, hl, hd⟩
        exact W_mv rfl (hK.rt _ ⟨ds, rfl, hl, hd⟩)
    · refine W_nil ?_
      simp (disch := first | omega | (simp; done) | (simp; omega)) [okb, -R.ok_bind, -List.map_append, -List.map_set, -List.map_map]
      refine W_rng (lo := 0) (n := count) (fun k e => ∃ (ds : List Int) (x4 x5 : Option (D × Bool)), e = [some (.int cell, true), some (.int count, true), some (.int limit, true), some (.list (ds.map PyData.int), false), x4, x5] ∧ ds.length = k ∧ ∀ d ∈ ds, 0 ≤ d ∧ d < limit) (by simp (disch := first | omega | (simp; done) | (simp; omega)) [okb, -R.ok_bind, -List.map_append, -List.map_set, -List.map_map]) ⟨[], _, _, rfl, rfl, by simp⟩ ?_ ?_
      · rintro k e hk ⟨ds, x4, x5, rfl, hl, hd⟩ K' hT
        simp (disch := first | omega | (simp; done) | (simp; omega)) [okb, -R.ok_bind, -List.map_append, -List.map_set, -List.map_map]
        refine W_nm ?_
        simp (disch := first | omega | (simp; done) | (simp; omega)) [okb, -R.ok_bind, -List.map_append, -List.map_set, -List.map_map]
        have a1 := Int.emod_nonneg (cell * 48271 + k * 69621 + 7) (by omega : (2147483647 : Int) ≠ 0)
        have a2 := Int.emod_lt_of_pos (cell * 48271 + k * 69621 + 7) (by omega : (0 : Int) < 2147483647)
        generalize (cell * 48271 + k * 69621 + 7) % 2147483647 = m at a1 a2 ⊢
        refine W_nm ?_
        simp (disch := first | omega | (simp; done) | (simp; omega)) [okb, -R.ok_bind, -List.map_append, -List.map_set, -List.map_map]
        refine W_appM (f := PyData.int) rfl rfl (by omega) ?_
        simp (disch := first | omega | (simp; done) | (simp; omega)) [okb, -R.ok_bind, -List.map_append, -List.map_set, -List.map_map]
        refine W_nil (hT.nx _ ⟨ds ++ [_], _, _, rfl, by simp [hl], ?_⟩)
        intro d hd'
        rcases List.mem_append.mp hd' with z | z
        · exact hd d z
        · rw [List.mem_singleton.mp z]
          exact ⟨Int.emod_nonneg _ (by omega), Int.emod_lt_of_pos _ h0⟩
      · rintro e ⟨ds, x4, x5, rfl, hl, hd⟩
        exact W_mv rfl (hK.rt _ ⟨ds, rfl, hl, hd⟩)
  obtain ⟨_, h, ds, rfl, h2⟩ := key
  exact ⟨ds, h, h2⟩
/-- data that `same` goes through at this depth -/
def okN (d : Nat) (l : Nat) : Bool := decide (l < 4611686018427387904)
mutual
def okD : Nat → D → Bool
  | 0, _ => false
  | n + 1, d => match d with
    | .list ds => decide (ds.length < 4611686018427387904) && okL n ds
    | .tuple ds => decide (ds.length < 4611686018427387904) && okL n ds
    | .dict _ => false
    | .str s => SeqAt.shaped (.str s)
    | _ => true
def okL : Nat → List D → Bool
  | _, [] => true
  | n, d :: ds => okD n d && okL n ds
end
theorem okL_all {n : Nat} : ∀ {ds : List D}, okL n ds = true → ∀ d ∈ ds, okD n d = true
  | d :: ds, h, x, hx => by
    unfold okL at h
    have h' := Bool.and_eq_true_iff.mp h
    rcases List.mem_cons.mp hx with e | e
    · exact e ▸ h'.1
    · exact okL_all h'.2 x e
@[simp] theorem isD_list {t : Ty} {ds : List D} : isD t (.list ds) = decide (t = .list) := by cases t <;> rfl
@[simp] theorem isD_tuple {t : Ty} {ds : List D} : isD t (.tuple ds) = decide (t = .tuple) := by cases t <;> rfl
@[simp] theorem isD_none {t : Ty} : isD t .none = false := by cases t <;> rfl
@[simp] theorem isD_bool {t : Ty} {b : Bool} : isD t (.bool b) = decide (t = .bool ∨ t = .int) := by cases t <;> rfl
@[simp] theorem isD_int {t : Ty} {i : Int} : isD t (.int i) = decide (t = .int) := by cases t <;> rfl
@[simp] theorem isD_str {t : Ty} {s : Str} : isD t (.str s) = decide (t = .str) := by cases t <;> rfl
theorem evCmp_isn {x : D} : evCmp .isn x .none = .ok (isNone x) := rfl
theorem evCmp_eqb {b : Bool} : evCmp .eq (.bool b) (.bool b) = .ok true := by cases b <;> rfl
theorem evCmp_eqs {s : Str} (h : SeqAt.shaped (.str s) = true) : evCmp .eq (.str s) (.str s) = .ok true := by
  show (if SeqAt.shaped (.str s) = true ∧ SeqAt.shaped (.str s) = true then R.ok (PyData.eqv (.str s) (.str s)) else strC false (.str s) (.str s)) = _
  rw [if_pos ⟨h, h⟩]
  simp [PyData.eqv]
theorem same_ok : ∀ (n : Nat) (d : D), okD n d = true → (f_law_same n).sem [d, d] = .ok (.bool true)
  | 0, d, h => by
    unfold okD at h
    cases h
  | n + 1, d, h => by
    have ih := same_ok n
    unfold f_law_same
    show runF (T_law_same (f_law_same n)) b_law_same 3 [d, d] = _
    refine run_eq fun K hK => ?_
    have loop : ∀ ds : List D, ds.length < 4611686018427387904 → okL n ds = true → (∀ k : Nat, k < ds.length → evIdx d (.int k) = .ok (ds.getD k .none)) → evBi .len .sh [d] = .ok (.int ds.length) →
        W (evSs (T_law_same (f_law_same n)) (.cons (.fr (.nm 2) (.r1 (.cons (.bi .len .sh (.cons (.var 1 true) .nil)) .nil)) (.cons (.iff (.nt (.fn 0 false (.cons (.idx (.var 0 true) (.var 2 true)) (.cons (.idx (.var 1 true) (.var 2 true)) .nil)))) (.cons (.ret (.one (.e (.cst (.bool false))))) .nil) .nil) .nil)) (.cons (.ret (.one (.e (.cst (.bool true))))) .nil)) [some (d, true), some (d, true), none]) K := by
      intro ds hl ho hi hn
      refine W_rng (lo := 0) (n := ds.length) (fun k e => ∃ x, e = [some (d, true), some (d, true), x]) (by simp (disch := first | omega | (simp; done) | (simp; omega)) [okb, -R.ok_bind, -List.map_append, -List.map_set, -List.map_map, hn]) ⟨_, rfl⟩ ?_ ?_
      · rintro k e hk ⟨x, rfl⟩ K' hT
        simp (disch := first | omega | (simp; done) | (simp; omega)) [okb, -R.ok_bind, -List.map_append, -List.map_set, -List.map_map]
        refine W_if ?_
        have hf : evF (T_law_same (f_law_same n)) 0 false [ds.getD k .none, ds.getD k .none] = .ok (.bool true) := by
          show evFn (f_law_same n) false _ = _
          unfold evFn
          rw [if_pos (by cases n <;> rfl), ih]
          · rfl
          · refine okL_all ho _ ?_
            rw [List.getD_eq_getElem?_getD, List.getElem?_eq_getElem hk]
            exact List.getElem_mem hk
        have hk' := hi k hk
        generalize ds.getD k .none = z at hf hk'
        simp (disch := first | omega | (simp; done) | (simp; omega)) [okb, -R.ok_bind, -List.map_append, -List.map_set, -List.map_map, hk', hf]
        exact W_nil (W_nil (hT.nx _ ⟨_, rfl⟩))
      · rintro e ⟨x, rfl⟩
        refine W_one ?_
        simp (disch := first | omega | (simp; done) | (simp; omega)) [okb, -R.ok_bind, -List.map_append, -List.map_set, -List.map_map]
        exact hK.rt _ rfl
    refine W_if ?_
    simp (disch := first | omega | (simp; done) | (simp; omega)) [okb, -R.ok_bind, -List.map_append, -List.map_set, -List.map_map, startE]
    cases d with
    | list ds =>
      have h' := Bool.and_eq_true_iff.mp (show (decide (ds.length < 4611686018427387904) && okL n ds) = true from h)
      simp (disch := first | omega | (simp; done) | (simp; omega)) [okb, -R.ok_bind, -List.map_append, -List.map_set, -List.map_map]
      refine W_if ?_
      simp (disch := first | omega | (simp; done) | (simp; omega)) [okb, -R.ok_bind, -List.map_append, -List.map_set, -List.map_map]
      exact W_nil (W_nil (loop ds (of_decide_eq_true h'.1) h'.2 (fun k hk => evIdx_at (atI_nat (by rw [List.getD_eq_getElem?_getD, List.getElem?_eq_getElem hk]; rfl))) rfl))
    | tuple ds =>
      have h' := Bool.and_eq_true_iff.mp (show (decide (ds.length < 4611686018427387904) && okL n ds) = true from h)
      simp (disch := first | omega | (simp; done) | (simp; omega)) [okb, -R.ok_bind, -List.map_append, -List.map_set, -List.map_map]
      refine W_if ?_
      simp (disch := first | omega | (simp; done) | (simp; omega)) [okb, -R.ok_bind, -List.map_append, -List.map_set, -List.map_map]
      refine W_if ?_
      simp (disch := first | omega | (simp; done) | (simp; omega)) [okb, -R.ok_bind, -List.map_append, -List.map_set, -List.map_map]
      refine W_nil (W_nil (W_nil (loop ds (of_decide_eq_true h'.1) h'.2 (fun k hk => ?_) rfl)))
      show (match atI ds _ with | some d => R.ok d | none => .no) = _
      rw [atI_nat (v := ds.getD k .none) (by rw [List.getD_eq_getElem?_getD, List.getElem?_eq_getElem hk]; rfl)]
    | dict _ => cases h
    | none =>
      simp (disch := first | omega | (simp; done) | (simp; omega)) [okb, -R.ok_bind, -List.map_append, -List.map_set, -List.map_map]
      refine W_if ?_
      simp (disch := first | omega | (simp; done) | (simp; omega)) [okb, -R.ok_bind, -List.map_append, -List.map_set, -List.map_map]
      refine W_if ?_
      simp (disch := first | omega | (simp; done) | (simp; omega)) [okb, -R.ok_bind, -List.map_append, -List.map_set, -List.map_map]
      refine W_one ?_
      simp (disch := first | omega | (simp; done) | (simp; omega)) [okb, -R.ok_bind, -List.map_append, -List.map_set, -List.map_map]
      exact hK.rt _ rfl
    | bool b =>
      simp (disch := first | omega | (simp; done) | (simp; omega)) [okb, -R.ok_bind, -List.map_append, -List.map_set, -List.map_map]
      refine W_if ?_
      simp (disch := first | omega | (simp; done) | (simp; omega)) [okb, -R.ok_bind, -List.map_append, -List.map_set, -List.map_map]
      refine W_if ?_
      simp (disch := first | omega | (simp; done) | (simp; omega)) [okb, -R.ok_bind, -List.map_append, -List.map_set, -List.map_map]
      refine W_if ?_
      simp (disch := first | omega | (simp; done) | (simp; omega)) [okb, -R.ok_bind, -List.map_append, -List.map_set, -List.map_map]
      refine W_one ?_
      simp (disch := first | omega | (simp; done) | (simp; omega)) [okb, -R.ok_bind, -List.map_append, -List.map_set, -List.map_map, evCmp_eqb]
      exact hK.rt _ rfl
    | int i =>
      simp (disch := first | omega | (simp; done) | (simp; omega)) [okb, -R.ok_bind, -List.map_append, -List.map_set, -List.map_map]
      refine W_if ?_
      simp (disch := first | omega | (simp; done) | (simp; omega)) [okb, -R.ok_bind, -List.map_append, -List.map_set, -List.map_map]
      refine W_if ?_
      simp (disch := first | omega | (simp; done) | (simp; omega)) [okb, -R.ok_bind, -List.map_append, -List.map_set, -List.map_map]
      refine W_if ?_
      simp (disch := first | omega | (simp; done) | (simp; omega)) [okb, -R.ok_bind, -List.map_append, -List.map_set, -List.map_map]
      refine W_if ?_
      simp (disch := first | omega | (simp; done) | (simp; omega)) [okb, -R.ok_bind, -List.map_append, -List.map_set, -List.map_map]
      refine W_one ?_
      simp (disch := first | omega | (simp; done) | (simp; omega)) [okb, -R.ok_bind, -List.map_append, -List.map_set, -List.map_map]
      exact hK.rt _ rfl
    | str s =>
      simp (disch := first | omega | (simp; done) | (simp; omega)) [okb, -R.ok_bind, -List.map_append, -List.map_set, -List.map_map]
      refine W_if ?_
      simp (disch := first | omega | (simp; done) | (simp; omega)) [okb, -R.ok_bind, -List.map_append, -List.map_set, -List.map_map]
      refine W_if ?_
      simp (disch := first | omega | (simp; done) | (simp; omega)) [okb, -R.ok_bind, -List.map_append, -List.map_set, -List.map_map]
      refine W_if ?_
      simp (disch := first | omega | (simp; done) | (simp; omega)) [okb, -R.ok_bind, -List.map_append, -List.map_set, -List.map_map]
      refine W_if ?_
      simp (disch := first | omega | (simp; done) | (simp; omega)) [okb, -R.ok_bind, -List.map_append, -List.map_set, -List.map_map]
      refine W_one ?_
      simp (disch := first | omega | (simp; done) | (simp; omega)) [okb, -R.ok_bind, -List.map_append, -List.map_set, -List.map_map, evCmp_eqs (show SeqAt.shaped (.str s) = true from h)]
      exact hK.rt _ rfl
end Pv

/-! part R: types that data bear -/
namespace Pv
open PySem PySem.Spec PyProof.Rows L2
class Enc (α : Type) where
  enc : α → D
  dep : Nat
  lay : ∀ a, PyData.canLay0 (enc a) = true
  depth : ∀ a, PyData.depth (enc a) ≤ dep
  inj : ∀ a b, PyData.eqv (enc a) (enc b) = true ↔ a = b
open Enc (enc)
@[reducible] instance : Enc Int := ⟨PyData.int, 0, fun _ => rfl, fun _ => Nat.le_refl _, fun a b => by rw [eqv_int]; simp⟩
@[reducible] instance : Enc Bool := ⟨PyData.bool, 0, fun _ => rfl, fun _ => Nat.le_refl _, fun a b => by cases a <;> cases b <;> simp [PyData.eqv]⟩
section
variable {α β γ δ : Type} [Enc α] [Enc β] [Enc γ] [Enc δ]
theorem layAll : ∀ xs : List α, PyData.canLayAll0 (xs.map enc) = true
  | [] => rfl
  | x :: xs => by
    show (PyData.canLay0 (enc x) && PyData.canLayAll0 (xs.map enc)) = true
    rw [Enc.lay, layAll xs]; rfl
theorem depAll : ∀ xs : List α, PyData.depthAll (xs.map enc) ≤ Enc.dep α
  | [] => Nat.zero_le _
  | x :: xs => by
    show max (PyData.depth (enc x)) (PyData.depthAll (xs.map enc)) ≤ _
    have := Enc.depth x
    have := depAll xs
    omega
theorem eqvAll_enc : ∀ xs ys : List α, PyData.eqvAll (xs.map enc) (ys.map enc) = true ↔ xs = ys
  | [], [] => by simp [PyData.eqvAll]
  | [], y :: ys => by simp [PyData.eqvAll]
  | x :: xs, [] => by simp [PyData.eqvAll]
  | x :: xs, y :: ys => by
    simp only [List.map_cons, PyData.eqvAll, Bool.and_eq_true, Enc.inj, eqvAll_enc xs ys, List.cons.injEq]
@[reducible] instance : Enc (List α) := ⟨fun xs => .list (xs.map enc), Enc.dep α + 1, fun xs => layAll xs, fun xs => by
  show PyData.depthAll _ + 1 ≤ _
  have := depAll xs
  omega, fun xs ys => by
  show PyData.eqvAll _ _ = true ↔ _
  exact eqvAll_enc xs ys⟩
class NN (α : Type) [Enc α] : Prop where
  l : ∀ a : α, PyData.eqv .none (enc a) = false
  r : ∀ a : α, PyData.eqv (enc a) .none = false
  n : ∀ a : α, isNone (enc a) = false
instance : NN Int := ⟨fun _ => rfl, fun _ => rfl, fun _ => rfl⟩
instance : NN (List α) := ⟨fun _ => rfl, fun _ => rfl, fun _ => rfl⟩
def encO : Option α → D
  | none => .none
  | some a => enc a
@[reducible] instance [NN α] : Enc (Option α) := ⟨encO, Enc.dep α, fun a => by cases a; rfl; exact Enc.lay _, fun a => by cases a; exact Nat.zero_le _; exact Enc.depth _, fun a b => by
  cases a <;> cases b
  · simp [encO, PyData.eqv]
  · simp [encO, NN.l]
  · simp [encO, NN.r]
  · simp [encO, Enc.inj]⟩
@[simp] theorem enc_none [NN α] : enc (none : Option α) = PyData.none := rfl
@[simp] theorem enc_some [NN α] (a : α) : enc (some a) = enc a := rfl
theorem isn_enc [NN α] (a : Option α) : evCmp .isn (enc a) .none = .ok (a.isNone) := by
  cases a with
  | none => rfl
  | some a => show R.ok (isNone (enc a)) = _; rw [NN.n]; rfl
theorem notn_enc [NN α] (a : Option α) : evCmp .notn (enc a) .none = .ok (a.isSome) := by
  cases a with
  | none => rfl
  | some a => show R.ok (!isNone (enc a)) = _; rw [NN.n]; rfl
theorem isNone_enc [NN α] (a : Option α) : isNone (enc a) = a.isNone := by
  cases a with
  | none => rfl
  | some a => show isNone (enc a) = _; rw [NN.n]; rfl
@[simp] theorem isNone_NN [NN α] (a : α) : isNone (enc a) = false := NN.n a
structure T2 (α β : Type) where
  a : α
  b : β
  deriving DecidableEq, Inhabited
structure T3 (α β γ : Type) where
  a : α
  b : β
  c : γ
  deriving DecidableEq, Inhabited
structure T4 (α β γ δ : Type) where
  a : α
  b : β
  c : γ
  d : δ
  deriving DecidableEq, Inhabited
@[simp] theorem enc_int : (enc : Int → D) = PyData.int := rfl
@[simp] theorem enc_bool : (enc : Bool → D) = PyData.bool := rfl
@[simp] theorem enc_list (xs : List α) : enc xs = PyData.list (xs.map enc) := id rfl
theorem layC {x : D} {xs : List D} (h : PyData.canLay0 x = true) (h' : PyData.canLayAll0 xs = true) : PyData.canLayAll0 (x :: xs) = true := by
  show (PyData.canLay0 x && PyData.canLayAll0 xs) = true
  rw [h, h']; rfl
theorem depC {x : D} {xs : List D} {n : Nat} (h : PyData.depth x ≤ n) (h' : PyData.depthAll xs ≤ n) : PyData.depthAll (x :: xs) ≤ n := by
  show max (PyData.depth x) (PyData.depthAll xs) ≤ _
  omega
@[reducible] instance : Enc (T2 α β) := ⟨fun p => .tuple [enc p.a, enc p.b], max (Enc.dep α) (Enc.dep β) + 1,
  fun p => layC (Enc.lay _) (layC (Enc.lay _) rfl),
  fun p => Nat.succ_le_succ (depC (Nat.le_trans (Enc.depth p.a) (by omega)) (depC (Nat.le_trans (Enc.depth p.b) (by omega)) (Nat.zero_le _))),
  fun ⟨a, b⟩ ⟨a', b'⟩ => by
    show PyData.eqvAll _ _ = true ↔ _
    simp [PyData.eqvAll, Enc.inj]⟩
@[reducible] instance : Enc (T3 α β γ) := ⟨fun p => .tuple [enc p.a, enc p.b, enc p.c], max (max (Enc.dep α) (Enc.dep β)) (Enc.dep γ) + 1,
  fun p => layC (Enc.lay _) (layC (Enc.lay _) (layC (Enc.lay _) rfl)),
  fun p => Nat.succ_le_succ (depC (Nat.le_trans (Enc.depth p.a) (by omega)) (depC (Nat.le_trans (Enc.depth p.b) (by omega)) (depC (Nat.le_trans (Enc.depth p.c) (by omega)) (Nat.zero_le _)))),
  fun ⟨a, b, c⟩ ⟨a', b', c'⟩ => by
    show PyData.eqvAll _ _ = true ↔ _
    simp [PyData.eqvAll, Enc.inj]⟩
@[simp] theorem enc_T2 (p : T2 α β) : enc p = PyData.tuple [enc p.a, enc p.b] := id rfl
@[simp] theorem enc_T3 (p : T3 α β γ) : enc p = PyData.tuple [enc p.a, enc p.b, enc p.c] := id rfl
instance : NN (T2 α β) := ⟨fun _ => rfl, fun _ => rfl, fun _ => rfl⟩
instance : NN (T3 α β γ) := ⟨fun _ => rfl, fun _ => rfl, fun _ => rfl⟩
theorem shaped_enc (h : Enc.dep α ≤ 64) (a : α) : SeqAt.shaped (enc a) = true := by
  unfold SeqAt.shaped
  rw [Enc.lay, decide_eq_true (Nat.le_trans (Enc.depth a) h)]
  rfl
theorem eq_enc [DecidableEq α] (a b : α) (h : Enc.dep α ≤ 64 := by decide) : evCmp .eq (enc a) (enc b) = .ok (decide (a = b)) := by
  show (if SeqAt.shaped (enc a) = true ∧ SeqAt.shaped (enc b) = true then R.ok (PyData.eqv (enc a) (enc b)) else strC false (enc a) (enc b)) = _
  rw [if_pos ⟨shaped_enc h a, shaped_enc h b⟩]
  congr 1
  rw [Bool.eq_iff_iff, Enc.inj, decide_eq_true_iff]
theorem ne_enc [DecidableEq α] (a b : α) (h : Enc.dep α ≤ 64 := by decide) : evCmp .ne (enc a) (enc b) = .ok (!decide (a = b)) := by
  show (if SeqAt.shaped (enc a) = true ∧ SeqAt.shaped (enc b) = true then R.ok (!PyData.eqv (enc a) (enc b)) else strC true (enc a) (enc b)) = _
  rw [if_pos ⟨shaped_enc h a, shaped_enc h b⟩]
  congr 2
  rw [Bool.eq_iff_iff, Enc.inj, decide_eq_true_iff]
theorem in_enc [DecidableEq α] (a : α) (xs : List α) (h : Enc.dep α ≤ 63 := by decide) : evCmp .isin (enc a) (enc xs) = .ok (decide (a ∈ xs)) := by
  have h2 : Enc.dep (List α) ≤ 64 := by show Enc.dep α + 1 ≤ 64; omega
  show (if SeqAt.shaped (enc a) = true ∧ SeqAt.shaped (enc xs) = true then R.ok ((xs.map enc).any fun z => PyData.eqv z (enc a)) else .no) = _
  rw [if_pos ⟨shaped_enc (by omega) a, shaped_enc h2 xs⟩]
  congr 1
  rw [Bool.eq_iff_iff, List.any_eq_true, decide_eq_true_iff]
  constructor
  · rintro ⟨z, hz, e⟩
    obtain ⟨x, hx, rfl⟩ := List.mem_map.mp hz
    have := (Enc.inj _ _).mp e
    exact this ▸ hx
  · intro h
    exact ⟨_, List.mem_map_of_mem h, (Enc.inj _ _).mpr rfl⟩
end
theorem enumD_map {α : Type} {f : α → D} : ∀ {xs : List α} {n : Nat}, enumD n (xs.map f) = (xs.zipIdx n).map fun p => PyData.tuple [.int p.2, f p.1]
  | [], _ => rfl
  | x :: xs, n => by
    show _ :: enumD (n + 1) (xs.map f) = _
    rw [enumD_map, List.zipIdx_cons]
    rfl
theorem zipD_map {α β : Type} {f : α → D} {g : β → D} : ∀ {xs : List α} {ys : List β}, zipD (xs.map f) (ys.map g) = (xs.zip ys).map fun p => PyData.tuple [f p.1, g p.2]
  | [], _ => rfl
  | _ :: _, [] => rfl
  | x :: xs, y :: ys => by
    show _ :: zipD (xs.map f) (ys.map g) = _
    rw [zipD_map]
    rfl
theorem step_eq {g : G} {ws : List Nat} {ft : Ev → R Bool} {fe : Ev → R D} {env : Ev} {x : D} : step g ws ft fe env x = (match gset g x (wipeE env ws) with
  | .ok env1 => match ft env1 with
    | .ok true => match fe env1 with
      | .ok d => .ok (some d)
      | _ => .no
    | .ok false => .ok none
    | _ => .no
  | _ => .no) := id rfl
theorem evF_ok {T : Sg} {i : Nat} {fn : Fn} {ds : List D} {d : D} (h : T.fns[i]? = some fn) (hs : fn.sem ds = .ok d) (hn : ds.length = fn.n := by rfl) : evF T i false ds = .ok d := by
  unfold evF
  rw [h]
  show evFn fn false ds = _
  unfold evFn
  rw [if_pos hn, hs]
  rfl
theorem evF_okC {T : Sg} {i : Nat} {fn : Fn} {ds : List D} {d : D} (h : T.fns[i]? = some fn) (hs : fn.sem ds = .ok d) (hc : cln fn.own d = true) (hn : ds.length = fn.n := by rfl) : evF T i true ds = .ok d := by
  unfold evF
  rw [h]
  show evFn fn true ds = _
  unfold evFn
  rw [if_pos hn, hs]
  show (if _ then _ else _) = _
  rw [if_pos rfl, if_pos hc]
theorem flatMap_filterMap_nil {α : Type} : ([] : List α) = [] := rfl
theorem ix_set {α : Type} [Inhabited α] {xs : List α} {i j : Int} {x : α} (h0 : 0 ≤ i) (h1 : i < xs.length) (h2 : 0 ≤ j) : ix (xs.set i.toNat x) j = if i = j then x else ix xs j := by
  unfold ix
  simp only [List.getD_eq_getElem?_getD, List.getElem?_set]
  by_cases e : i = j
  · subst e
    rw [if_pos rfl, if_pos rfl, if_pos (by omega)]
    rfl
  · rw [if_neg (by omega), if_neg e]
theorem sIx_nn {n d : Nat} {i : Int} (h : 0 ≤ i) : HT.sIx n d (some i) = min i.toNat n := if_neg (by omega)
theorem cut_nn {xs : List D} {i j : Int} (h0 : 0 ≤ i) (h1 : 0 ≤ j) : cutD xs (some i) (some j) = (xs.drop i.toNat).take (j.toNat - i.toNat) := by
  unfold cutD
  rw [sIx_nn h0, sIx_nn h1]
  by_cases h : i.toNat ≤ xs.length
  · rw [Nat.min_eq_left h]
    by_cases h2 : j.toNat ≤ xs.length
    · rw [Nat.min_eq_left h2]
    · rw [Nat.min_eq_right (by omega), List.take_of_length_le (by simp), List.take_of_length_le (by simp; omega)]
  · have e : min i.toNat xs.length = xs.length := by omega
    rw [e, List.drop_of_length_le (Nat.le_refl _), List.drop_of_length_le (by omega)]
    simp
theorem cut_nx {xs : List D} {i : Int} (h0 : 0 ≤ i) : cutD xs (some i) none = xs.drop i.toNat := by
  unfold cutD
  rw [sIx_nn h0, HT.sIx_none]
  by_cases h : i.toNat ≤ xs.length
  · rw [Nat.min_eq_left h, List.take_of_length_le (by simp)]
  · have e : min i.toNat xs.length = xs.length := by omega
    rw [e, List.drop_of_length_le (Nat.le_refl _), List.drop_of_length_le (by omega)]
    simp
theorem cut_xn {xs : List D} {j : Int} (h1 : 0 ≤ j) : cutD xs none (some j) = xs.take j.toNat := by
  unfold cutD
  rw [sIx_nn h1, HT.sIx_none]
  simp [← List.take_eq_take_min]
@[simp] theorem evSl_nn {o : Own} {xs : List D} {i j : Int} (h0 : 0 ≤ i) (h1 : 0 ≤ j) : evSl o (.list xs) (some i) (some j) = .ok (.list ((xs.drop i.toNat).take (j.toNat - i.toNat))) := by
  show R.ok (PyData.list (cutD xs (some i) (some j))) = _
  rw [cut_nn h0 h1]
@[simp] theorem evSl_nx {o : Own} {xs : List D} {i : Int} (h0 : 0 ≤ i) : evSl o (.list xs) (some i) none = .ok (.list (xs.drop i.toNat)) := by
  show R.ok (PyData.list (cutD xs (some i) none)) = _
  rw [cut_nx h0]
@[simp] theorem evSl_xn {o : Own} {xs : List D} {j : Int} (h1 : 0 ≤ j) : evSl o (.list xs) none (some j) = .ok (.list (xs.take j.toNat)) := by
  show R.ok (PyData.list (cutD xs none (some j))) = _
  rw [cut_xn h1]
theorem fm_none {α β : Type} {F : α → Option β} {a : List α} {p : α} (h : F p = none) : (a ++ [p]).filterMap F = a.filterMap F := by simp [List.filterMap_append, h]
theorem fm_some {α β : Type} {F : α → Option β} {a : List α} {p : α} {y : β} (h : F p = some y) : (a ++ [p]).filterMap F = a.filterMap F ++ [y] := by simp [List.filterMap_append, h]
theorem fm_snoc {α β : Type} {F : α → Option β} {a : List α} {p : α} : (a ++ [p]).filterMap F = a.filterMap F ++ (F p).toList := by
  cases h : F p <;> simp [List.filterMap_append, h]
theorem flatMap_snoc {α β : Type} (f : α → List β) (xs : List α) (x : α) : (xs ++ [x]).flatMap f = xs.flatMap f ++ f x := by simp
theorem flat_one {α : Type} (x : α) : ∀ n : Nat, (List.replicate n [x]).flatten = List.replicate n x
  | 0 => rfl
  | n + 1 => by rw [List.replicate_succ, List.replicate_succ, List.flatten_cons, flat_one x n]; rfl
theorem zip_range {α : Type} [Inhabited α] (xs : List α) : xs.zipIdx = (List.range xs.length).map fun k : Nat => (ix xs k, k) := by
  refine List.ext_getElem (by simp) fun i h1 h2 => ?_
  simp at h1
  simp [ix, List.getElem?_eq_getElem h1]
theorem enumD_rng {α : Type} [Inhabited α] {f : α → D} {xs : List α} : enumD 0 (xs.map f) = (List.range xs.length).map fun k : Nat => PyData.tuple [.int k, f (ix xs k)] := by
  rw [enumD_map, zip_range, List.map_map]
  rfl
theorem find_range {P : Nat → Bool} {n k : Nat} (hk : k < n) (h : P k = true) (hn : ∀ j, j < k → P j = false) : (List.range n).find? P = some k := by
  rw [List.find?_range_eq_some]
  exact ⟨h, List.mem_range.mpr hk, fun j hj => by rw [hn j hj]; rfl⟩
theorem find_none {P : Nat → Bool} {n : Nat} (hn : ∀ j, j < n → P j = false) : (List.range n).find? P = none := by
  rw [List.find?_range_eq_none]
  exact fun j hj => by rw [hn j hj]; rfl
@[simp] theorem evSl_xnT {xs : List D} {j : Int} (h1 : 0 ≤ j) : evSl .sh (.tuple xs) none (some j) = .ok (.tuple (xs.take j.toNat)) := by
  show (if Own.sh = .sh then R.ok (PyData.tuple (cutD xs none (some j))) else .no) = _
  rw [if_pos rfl, cut_xn h1]
@[simp] theorem evSl_nxT {xs : List D} {i : Int} (h0 : 0 ≤ i) : evSl .sh (.tuple xs) (some i) none = .ok (.tuple (xs.drop i.toNat)) := by
  show (if Own.sh = .sh then R.ok (PyData.tuple (cutD xs (some i) none)) else .no) = _
  rw [if_pos rfl, cut_nx h0]
@[simp] theorem evSl_nnT {xs : List D} {i j : Int} (h0 : 0 ≤ i) (h1 : 0 ≤ j) : evSl .sh (.tuple xs) (some i) (some j) = .ok (.tuple ((xs.drop i.toNat).take (j.toNat - i.toNat))) := by
  show (if Own.sh = .sh then R.ok (PyData.tuple (cutD xs (some i) (some j))) else .no) = _
  rw [if_pos rfl, cut_nn h0 h1]
theorem evIn_t2 {r a b : Int} : evIn (.int r) (.tuple [.int a, .int b]) = .ok (decide (r = a ∨ r = b)) := by
  show (if flatD (.int r) = true ∧ flats [.int a, .int b] = true then R.ok (List.any [PyData.int a, .int b] fun z => PyData.eqv z (.int r)) else .no) = _
  rw [if_pos ⟨rfl, rfl⟩]
  simp only [List.any_cons, List.any_nil, Bool.or_false, eqv_int]
  congr 1
  rw [Bool.eq_iff_iff]
  simp only [Bool.or_eq_true, decide_eq_true_eq]
  exact ⟨fun h => h.imp Eq.symm Eq.symm, fun h => h.imp Eq.symm Eq.symm⟩
@[simp] theorem evCmp_notin {x y : D} : evCmp .notin x y = evIn x y >>= fun b => .ok (!b) := id rfl
theorem evCmp_isin {x y : D} : evCmp .isin x y = evIn x y := id rfl
theorem ix_mem {α : Type} [Inhabited α] {xs : List α} {i : Int} (h0 : 0 ≤ i) (h1 : i < xs.length) : ix xs i ∈ xs := by
  have : i.toNat < xs.length := by omega
  simp [ix, List.getElem?_eq_getElem this]
theorem mem_ix {α : Type} [Inhabited α] {xs : List α} {x : α} (h : x ∈ xs) : ∃ i : Nat, i < xs.length ∧ ix xs (i : Int) = x := by
  obtain ⟨i, hi, e⟩ := List.getElem_of_mem h
  exact ⟨i, hi, by rw [← e]; simp [ix, List.getElem?_eq_getElem hi]⟩
theorem dr_bd {ds : List Int} {L : Int} (hL : 0 < L) (h : ∀ d ∈ ds, 0 ≤ d ∧ d < L) (i : Int) : 0 ≤ ix ds i ∧ ix ds i < L := by
  unfold ix
  rw [List.getD_eq_getElem?_getD]
  cases e : ds[i.toNat]? with
  | none => exact ⟨by simp, by simpa using hL⟩
  | some x => exact h x (List.mem_of_getElem? e)
theorem mod_wrap {x n : Int} (h0 : n ≤ x) (h1 : x < 2 * n) : x % n = x - n := by
  have : x = (x - n) + n := by omega
  rw [this, Int.add_emod_right, Int.emod_eq_of_lt (by omega) (by omega)]
  omega
theorem mod_turn {s q n : Int} (h0 : 0 ≤ s) (h1 : s < n) (h2 : 0 ≤ q) (h3 : q < n - 1) : 0 ≤ (s + 1 + q) % n ∧ (s + 1 + q) % n < n ∧ s ≠ (s + 1 + q) % n := by
  by_cases h : s + 1 + q < n
  · rw [Int.emod_eq_of_lt (by omega) h]
    omega
  · rw [mod_wrap (by omega) (by omega)]
    omega
theorem ne_refl {x : D} (h : SeqAt.shaped x = true) : evCmp .ne x x = .ok false := by
  show (if SeqAt.shaped x = true ∧ SeqAt.shaped x = true then R.ok (!PyData.eqv x x) else strC true x x) = _
  rw [if_pos ⟨h, h⟩, SeqAt.eqv_refl x (SeqAt.canLay_of_shaped h)]
  rfl
theorem set_cut {α : Type} {xs : List α} {k : Nat} {x : α} (h : k < xs.length) : xs.take k ++ [x] ++ xs.drop (k + 1) = xs.set k x := by
  rw [List.set_eq_take_append_cons_drop, if_pos h, List.append_assoc]
  rfl
theorem W_any {α : Type} [Enc α] (P : α → Prop) {r : R D} {K : D → Prop} (h : ∃ x : α, r = .ok (enc x) ∧ P x) (k : ∀ x : α, P x → K (enc x)) : W r K := by
  obtain ⟨x, e, p⟩ := h
  exact ⟨_, e, k x p⟩
theorem enc_app {α : Type} [Enc α] (xs ys : List α) : enc (xs ++ ys) = PyData.list (xs.map enc ++ ys.map enc) := by
  rw [enc_list, List.map_append]
end Pv

/-! part S: bodies without loops, run by simp -/
namespace Pv
open PySem PySem.Spec PyProof.Rows L2 Pv.Enc
def kS (T : Sg) (r : Ss) (fl : Fl) : R Fl := match fl with
  | .nx e => evSs T r e
  | f => .ok f
section
variable {T : Sg} {env : Ev} {r : Ss}
theorem run_def {b : Ss} {n : Nat} {ds : List D} : runF T b n ds = outF (evSs T b (startE n ds)) := id rfl
theorem evSs_nil' : evSs T .nil env = .ok (.nx env) := id rfl
theorem evSs_cons' {s : S} : evSs T (.cons s r) env = catchX (evS T s env) >>= kS T r := id rfl
theorem kS_nx {e : Ev} : kS T r (.nx e) = evSs T r e := id rfl
theorem kS_rt {d : D} : kS T r (.rt d) = .ok (.rt d) := id rfl
theorem kS_bk {e : Ev} : kS T r (.bk e) = .ok (.bk e) := id rfl
theorem kS_ct {e : Ev} : kS T r (.ct e) = .ok (.ct e) := id rfl
theorem kS_ex {n : Nat} : kS T r (.ex n) = .ok (.ex n) := id rfl
theorem catchX_ok {f : Fl} : catchX (.ok f) = .ok f := id rfl
theorem catchX_exc {n : Nat} : catchX (.exc n) = .ok (.ex n) := id rfl
theorem catchX_no : catchX .no = .no := id rfl
theorem catchX_ite {c : Prop} [Decidable c] {a b : R Fl} : catchX (if c then a else b) = if c then catchX a else catchX b := by split <;> rfl
theorem bind_ite {α β : Type} {c : Prop} [Decidable c] {a b : R α} {f : α → R β} : ((if c then a else b) >>= f) = if c then a >>= f else b >>= f := by split <;> rfl
theorem outF_rt {d : D} : outF (.ok (.rt d)) = .ok d := id rfl
theorem outF_nx {e : Ev} : outF (.ok (.nx e)) = .ok .none := id rfl
theorem outF_ex {n : Nat} : outF (.ok (.ex n)) = .exc n := id rfl
theorem outF_ite {c : Prop} [Decidable c] {a b : R Fl} : outF (if c then a else b) = if c then outF a else outF b := by split <;> rfl
theorem evS_asg {t : G} {e : E} : evS T (.asg t e) env = ev T e env >>= fun d => gset t d env >>= fun e' => .ok (.nx e') := id rfl
theorem evS_own {i : Nat} {e : E} : evS T (.own i e) env = ev T e env >>= fun d => .ok (.nx (put env i (some (d, false)))) := id rfl
theorem evS_aug {i : Nat} {op : BOp} {e : E} : evS T (.aug i op e) env = evVar i false env >>= fun x => ev T e env >>= fun y => evAug op x y >>= fun z => .ok (.nx (put env i (some (z, true)))) := id rfl
theorem evS_drop {e : E} : evS T (.drop e) env = ev T e env >>= fun _ => .ok (.nx env) := id rfl
theorem evS_iff {t : E} {a b : Ss} : evS T (.iff t a b) env = ev T t env >>= fun d => truthD d >>= fun r => if r = true then evSs T a env else evSs T b env := by
  show (ev T t env >>= truthD) >>= _ = _
  rw [R.assoc]
theorem evS_ret {q : RT} : evS T (.ret q) env = evR T q env >>= fun d => .ok (.rt d) := id rfl
theorem evR_e {e : E} : evR T (.one (.e e)) env = ev T e env := id rfl
theorem evR_nl : evR T .nl env = .ok .none := id rfl
theorem evS_brk : evS T .brk env = .ok (.bk env) := id rfl
theorem evS_cnt : evS T .cnt env = .ok (.ct env) := id rfl
theorem evS_pass : evS T .pass env = .ok (.nx env) := id rfl
theorem evS_fzz {i : Nat} {s : S} : evS T (.fzz i s) env = evS T s (frzE env i) := id rfl
theorem evS_rse {n : Nat} : evS T (.rse n) env = if n < T.xc.length then .ok (.ex n) else .no := id rfl
theorem evS_tr {b : Ss} {hs : List Hn} : evS T (.tr b hs) env = tryR T.xc hs (evSs T b env) := id rfl
theorem tryR_rt {xc : Xc} {hs : List Hn} {d : D} : tryR xc hs (.ok (.rt d)) = .ok (.rt d) := id rfl
theorem tryR_nx {xc : Xc} {hs : List Hn} {e : Ev} : tryR xc hs (.ok (.nx e)) = .ok (.nx e) := id rfl
theorem tryR_ex {xc : Xc} {hs : List Hn} {n : Nat} : tryR xc hs (.ok (.ex n)) = if n < xc.length then hdlR xc n hs else .no := id rfl
theorem tryR_ite {xc : Xc} {hs : List Hn} {c : Prop} [Decidable c] {a b : R Fl} : tryR xc hs (if c then a else b) = if c then tryR xc hs a else tryR xc hs b := by split <;> rfl
theorem startE_eq {n : Nat} {ds : List D} : startE n ds = ds.map (fun d => some (d, true)) ++ List.replicate (n - ds.length) none := id rfl
end
/-- a def's call -/
theorem evF_at {T : Sg} {i : Nat} {fn : Fn} {ds : List D} (h : T.fns[i]? = some fn) (hn : ds.length = fn.n := by rfl) : evF T i false ds = fn.sem ds := by
  unfold evF
  rw [h]
  show evFn fn false ds = _
  unfold evFn
  rw [if_pos hn]
  cases fn.sem ds <;> rfl
theorem okite {α : Type} {c : Prop} [Decidable c] {a b : α} : (if c then R.ok a else R.ok b) = R.ok (if c then a else b) := by split <;> rfl
theorem ok_inj {α : Type} {a b : α} : (R.ok a = R.ok b) = (a = b) := by
  apply propext
  exact ⟨fun h => by cases h; rfl, fun h => by rw [h]⟩
theorem truthD_ite {c : Prop} [Decidable c] {a b : D} : truthD (if c then a else b) = if c then truthD a else truthD b := by split <;> rfl
theorem cond_or {α : Type} {a b : Bool} {x y : α} : (if a = true then x else if b = true then x else y) = if (a || b) = true then x else y := by cases a <;> rfl
@[simp] theorem isD_dict {t : Ty} {ps : List (D × D)} (h : t = .int ∨ t = .bool ∨ t = .list ∨ t = .tuple ∨ t = .str) : isD t (.dict ps) = false := by cases t <;> first | rfl | simp at h
@[simp] theorem evCmp_eqb2 {a b : Bool} : evCmp .eq (.bool a) (.bool b) = .ok (a == b) := by cases a <;> cases b <;> rfl
@[simp] theorem evCmp_neb2 {a b : Bool} : evCmp .ne (.bool a) (.bool b) = .ok (a != b) := by cases a <;> cases b <;> rfl
structure T5 (α β γ δ ε : Type) where
  a : α
  b : β
  c : γ
  d : δ
  e : ε
  deriving DecidableEq, Inhabited
section
variable {α β γ δ ε : Type} [Enc α] [Enc β] [Enc γ] [Enc δ] [Enc ε]
@[reducible] instance : Enc (T4 α β γ δ) := ⟨fun p => .tuple [enc p.a, enc p.b, enc p.c, enc p.d], max (max (max (Enc.dep α) (Enc.dep β)) (Enc.dep γ)) (Enc.dep δ) + 1,
  fun p => layC (Enc.lay _) (layC (Enc.lay _) (layC (Enc.lay _) (layC (Enc.lay _) rfl))),
  fun p => Nat.succ_le_succ (depC (Nat.le_trans (Enc.depth p.a) (by omega)) (depC (Nat.le_trans (Enc.depth p.b) (by omega)) (depC (Nat.le_trans (Enc.depth p.c) (by omega)) (depC (Nat.le_trans (Enc.depth p.d) (by omega)) (Nat.zero_le _))))),
  fun ⟨a, b, c, d⟩ ⟨a', b', c', d'⟩ => by
    show PyData.eqvAll _ _ = true ↔ _
    simp [PyData.eqvAll, Enc.inj]⟩
@[reducible] instance : Enc (T5 α β γ δ ε) := ⟨fun p => .tuple [enc p.a, enc p.b, enc p.c, enc p.d, enc p.e], max (max (max (max (Enc.dep α) (Enc.dep β)) (Enc.dep γ)) (Enc.dep δ)) (Enc.dep ε) + 1,
  fun p => layC (Enc.lay _) (layC (Enc.lay _) (layC (Enc.lay _) (layC (Enc.lay _) (layC (Enc.lay _) rfl)))),
  fun p => Nat.succ_le_succ (depC (Nat.le_trans (Enc.depth p.a) (by omega)) (depC (Nat.le_trans (Enc.depth p.b) (by omega)) (depC (Nat.le_trans (Enc.depth p.c) (by omega)) (depC (Nat.le_trans (Enc.depth p.d) (by omega)) (depC (Nat.le_trans (Enc.depth p.e) (by omega)) (Nat.zero_le _)))))),
  fun ⟨a, b, c, d, e⟩ ⟨a', b', c', d', e'⟩ => by
    show PyData.eqvAll _ _ = true ↔ _
    simp [PyData.eqvAll, Enc.inj]⟩
@[simp] theorem enc_T4 (p : T4 α β γ δ) : enc p = PyData.tuple [enc p.a, enc p.b, enc p.c, enc p.d] := id rfl
@[simp] theorem enc_T5 (p : T5 α β γ δ ε) : enc p = PyData.tuple [enc p.a, enc p.b, enc p.c, enc p.d, enc p.e] := id rfl
instance : NN (T4 α β γ δ) := ⟨fun _ => rfl, fun _ => rfl, fun _ => rfl⟩
instance : NN (T5 α β γ δ ε) := ⟨fun _ => rfl, fun _ => rfl, fun _ => rfl⟩
end
@[simp] theorem evIdx_i2 {a b : Int} {i : Int} (h0 : 0 ≤ i) (h1 : i < 2) : evIdx (.list [.int a, .int b]) (.int i) = .ok (.int (ix [a, b] i)) := evIdx_map (f := PyData.int) (xs := [a, b]) h0 (by simpa using h1)
@[simp] theorem evIdx_i3 {a b c : Int} {i : Int} (h0 : 0 ≤ i) (h1 : i < 3) : evIdx (.list [.int a, .int b, .int c]) (.int i) = .ok (.int (ix [a, b, c] i)) := evIdx_map (f := PyData.int) (xs := [a, b, c]) h0 (by simpa using h1)
@[simp] theorem evIdx_i4 {a b c d : Int} {i : Int} (h0 : 0 ≤ i) (h1 : i < 4) : evIdx (.list [.int a, .int b, .int c, .int d]) (.int i) = .ok (.int (ix [a, b, c, d] i)) := evIdx_map (f := PyData.int) (xs := [a, b, c, d]) h0 (by simpa using h1)
theorem ix_all {xs : List Int} {i : Int} {P : Int → Prop} (h : ∀ x ∈ xs, P x) (h0 : 0 ≤ i) (h1 : i < xs.length) : P (ix xs i) := h _ (ix_mem h0 h1)
theorem ix2_bd {a b i lo hi : Int} (h0 : 0 ≤ i) (h1 : i < 2) (ha : lo ≤ a ∧ a ≤ hi) (hb : lo ≤ b ∧ b ≤ hi) : lo ≤ ix [a, b] i ∧ ix [a, b] i ≤ hi := ix_all (P := fun x => lo ≤ x ∧ x ≤ hi) (by simp [ha, hb]) h0 (by simpa using h1)
theorem ix3_bd {a b c i lo hi : Int} (h0 : 0 ≤ i) (h1 : i < 3) (ha : lo ≤ a ∧ a ≤ hi) (hb : lo ≤ b ∧ b ≤ hi) (hc : lo ≤ c ∧ c ≤ hi) : lo ≤ ix [a, b, c] i ∧ ix [a, b, c] i ≤ hi := ix_all (P := fun x => lo ≤ x ∧ x ≤ hi) (by simp [ha, hb, hc]) h0 (by simpa using h1)
theorem ix4_bd {a b c d i lo hi : Int} (h0 : 0 ≤ i) (h1 : i < 4) (ha : lo ≤ a ∧ a ≤ hi) (hb : lo ≤ b ∧ b ≤ hi) (hc : lo ≤ c ∧ c ≤ hi) (hd : lo ≤ d ∧ d ≤ hi) : lo ≤ ix [a, b, c, d] i ∧ ix [a, b, c, d] i ≤ hi := ix_all (P := fun x => lo ≤ x ∧ x ≤ hi) (by simp [ha, hb, hc, hd]) h0 (by simpa using h1)
theorem mod_bd (x : Int) {n : Int} (h : 0 < n) : 0 ≤ x % n ∧ x % n < n := ⟨Int.emod_nonneg _ (by omega), Int.emod_lt_of_pos _ h⟩
@[simp] theorem evBin_catT {xs ys : List D} (h : xs.length + ys.length ≤ 16777216) : evBin .add .sh (.tuple xs) (.tuple ys) = .ok (.tuple (xs ++ ys)) := if_pos ⟨h, rfl⟩
section
variable {T : Sg} {env : Ev} {K : Fl → Prop} {r : Ss} {i : Nat} {ds q : List D} {a : D} {e : E} {o o' : Own}
theorem W_appT0 (hl : lk env i = some (.tuple (.list ds :: q), false)) (ho : T.own i = .tc (.lst .sh) o) (hs : ds.length < 16777216) (h : W (ev T e env) fun d => W (evSs T r (put env i (some (.tuple (.list (ds ++ [d]) :: q), false)))) K) :
    W (evSs T (.cons (.app i (.snoc .nil (.cst (.int 0))) e) r) env) K := by
  refine W_cons ?_
  obtain ⟨d, h1, h2⟩ := h
  refine ⟨.nx _, ?_, h2⟩
  show noX (ev T e env) >>= (fun d => mutE T i [0] (fApp d) env) = _
  rw [h1]
  show mutE T i [0] (fApp d) env = _
  unfold mutE
  rw [hl, ho]
  have e1 : ixN (q.length + 1) 0 = some 0 := by simp [ixN]
  simp [updD, e1, fApp, hs, nthO]
theorem W_appT1 (hl : lk env i = some (.tuple (a :: .list ds :: q), false)) (ho : T.own i = .tc o (.tc (.lst .sh) o')) (hs : ds.length < 16777216) (h : W (ev T e env) fun d => W (evSs T r (put env i (some (.tuple (a :: .list (ds ++ [d]) :: q), false)))) K) :
    W (evSs T (.cons (.app i (.snoc .nil (.cst (.int 1))) e) r) env) K := by
  refine W_cons ?_
  obtain ⟨d, h1, h2⟩ := h
  refine ⟨.nx _, ?_, h2⟩
  show noX (ev T e env) >>= (fun d => mutE T i [1] (fApp d) env) = _
  rw [h1]
  show mutE T i [1] (fApp d) env = _
  unfold mutE
  rw [hl, ho]
  have e1 : ixN (q.length + 1 + 1) 1 = some 1 := by
    have : (1 : Int) < (q.length : Int) + 1 + 1 := by omega
    simp [ixN, this]
  simp [updD, e1, fApp, hs, nthO]
end
section
variable {T : Sg} {env : Ev} {K : Fl → Prop} {r : Ss} {i : Nat} {e : E}
theorem W_ownP (P : D → Prop) (h : W (ev T e env) P) (k : ∀ d, P d → W (evSs T r (put env i (some (d, false)))) K) : W (evSs T (.cons (.own i e) r) env) K := W_own (h.imp k)
theorem W_nmP (P : D → Prop) (h : W (ev T e env) P) (k : ∀ d, P d → W (evSs T r (put env i (some (d, true)))) K) : W (evSs T (.cons (.asg (.nm i) e) r) env) K := W_nm (h.imp k)
end
theorem eq_refl {x : D} (h : SeqAt.shaped x = true) : evCmp .eq x x = .ok true := by
  show (if SeqAt.shaped x = true ∧ SeqAt.shaped x = true then R.ok (PyData.eqv x x) else strC false x x) = _
  rw [if_pos ⟨h, h⟩, SeqAt.eqv_refl x (SeqAt.canLay_of_shaped h)]
theorem shaped_l {xs : List D} {n : Nat} (h : PyData.canLayAll0 xs = true) (h2 : PyData.depthAll xs ≤ n) (hn : n ≤ 63 := by decide) : SeqAt.shaped (.list xs) = true := by
  have h1 : PyData.canLay0 (.list xs) = true := h
  have h3 : PyData.depth (.list xs) ≤ 64 := by
    show PyData.depthAll xs + 1 ≤ 64
    omega
  unfold SeqAt.shaped
  rw [h1, decide_eq_true h3]
  rfl
theorem shaped_l2 {α β : Type} [Enc α] [Enc β] (a : α) (b : β) (h : max (Enc.dep α) (Enc.dep β) ≤ 63 := by decide) : SeqAt.shaped (.list [enc a, enc b]) = true :=
  shaped_l (layC (Enc.lay _) (layC (Enc.lay _) rfl)) (depC (Nat.le_trans (Enc.depth a) (Nat.le_max_left _ _)) (depC (Nat.le_trans (Enc.depth b) (Nat.le_max_right _ _)) (Nat.zero_le _))) h
theorem shaped_l3 {α β γ : Type} [Enc α] [Enc β] [Enc γ] (a : α) (b : β) (c : γ) (h : max (max (Enc.dep α) (Enc.dep β)) (Enc.dep γ) ≤ 63 := by decide) : SeqAt.shaped (.list [enc a, enc b, enc c]) = true :=
  shaped_l (layC (Enc.lay _) (layC (Enc.lay _) (layC (Enc.lay _) rfl))) (depC (Nat.le_trans (Enc.depth a) (by omega)) (depC (Nat.le_trans (Enc.depth b) (by omega)) (depC (Nat.le_trans (Enc.depth c) (by omega)) (Nat.zero_le _)))) h
theorem evF_atC {T : Sg} {i : Nat} {fn : Fn} {ds : List D} {d : D} (h : T.fns[i]? = some fn) (ho : fn.own = .sh) (hs : fn.sem ds = .ok d) (hd : noL d = true) (hn : ds.length = fn.n := by rfl) : evF T i true ds = .ok d := by
  unfold evF
  rw [h]
  show evFn fn true ds = _
  unfold evFn
  rw [if_pos hn, hs]
  have : cln fn.own d = true := by rw [ho]; cases d <;> exact hd
  dsimp only
  rw [if_pos rfl, if_pos this]
theorem put_same : ∀ {env : Ev} {i : Nat}, lk env i = none → put env i none = env
  | [], _, _ => rfl
  | none :: r, 0, _ => rfl
  | some p :: r, 0, h => by cases h
  | x :: r, i + 1, h => by
    have h : lk r i = none := h
    show x :: put r i none = _
    rw [put_same (env := r) (i := i) h]
theorem W_fzzA {T : Sg} {env : Ev} {K : Fl → Prop} {r : Ss} {i : Nat} {s : S} (h : ∀ x, W (evSs T (.cons s r) (put env i x)) K) : W (evSs T (.cons (.fzz i s) r) env) K := by
  refine W_fzz ?_
  unfold frzE
  split
  · exact h _
  · rename_i hn
    have := h none
    rw [put_same hn] at this
    exact this
/-- k ints of a slice -/
theorem sl6 {xs : List Int} {i : Nat} (h : i + 6 ≤ xs.length) : (xs.drop i).take 6 = [ix xs i, ix xs (i + 1 : Nat), ix xs (i + 2 : Nat), ix xs (i + 3 : Nat), ix xs (i + 4 : Nat), ix xs (i + 5 : Nat)] := by
  refine List.ext_getElem (by simp; omega) fun j h1 h2 => ?_
  simp only [List.length_cons, List.length_nil] at h2
  have hj : i + j < xs.length := by omega
  rw [List.getElem_take, List.getElem_drop]
  have hx : xs[i + j] = ix xs ((i + j : Nat) : Int) := by
    show _ = xs.getD (i + j) default
    rw [List.getD_eq_getElem?_getD, List.getElem?_eq_getElem hj]
    rfl
  rw [hx]
  rcases (by omega : j = 0 ∨ j = 1 ∨ j = 2 ∨ j = 3 ∨ j = 4 ∨ j = 5) with rfl | rfl | rfl | rfl | rfl | rfl <;> rfl
/-- what `same` goes through -/
class Sz (α : Type) [Enc α] where
  szd : α → Prop
  ok : ∀ (n : Nat) (a : α), szd a → Enc.dep α < n → okD n (enc a) = true
open Sz (szd)
section
variable {α β γ δ ε : Type} [Enc α] [Enc β] [Enc γ] [Enc δ] [Enc ε] [Sz α] [Sz β] [Sz γ] [Sz δ] [Sz ε]
theorem okL_sz {n : Nat} : ∀ {xs : List α}, (∀ x ∈ xs, szd x) → Enc.dep α < n → okL n (xs.map enc) = true
  | [], _, _ => by unfold okL; rfl
  | x :: xs, h, hn => by
    show okL n (enc x :: xs.map enc) = true
    unfold okL
    rw [Sz.ok n x (h x (.head _)) hn, okL_sz (fun y hy => h y (.tail _ hy)) hn]
    rfl
@[reducible] instance : Sz Int := ⟨fun _ => True, fun n a _ h => by
  cases n with
  | zero => exact absurd h (Nat.not_lt_zero _)
  | succ n => unfold okD; rfl⟩
@[reducible] instance : Sz Bool := ⟨fun _ => True, fun n a _ h => by
  cases n with
  | zero => exact absurd h (Nat.not_lt_zero _)
  | succ n => unfold okD; rfl⟩
@[reducible] instance : Sz (List α) := ⟨fun xs => xs.length < 4611686018427387904 ∧ ∀ x ∈ xs, szd x, fun n a h hn => by
  cases n with
  | zero => exact absurd hn (Nat.not_lt_zero _)
  | succ n =>
    rw [enc_list]
    unfold okD
    dsimp only
    rw [okL_sz h.2 (Nat.lt_of_succ_lt_succ hn), List.length_map, decide_eq_true h.1]
    rfl⟩
@[reducible] instance [NN α] : Sz (Option α) := ⟨fun a => ∀ x, a = some x → szd x, fun n a h hn => by
  cases a with
  | none =>
    cases n with
    | zero => exact absurd hn (Nat.not_lt_zero _)
    | succ n => rw [enc_none]; unfold okD; rfl
  | some a => exact Sz.ok n a (h a rfl) hn⟩
theorem okD_tup {n : Nat} {ds : List D} (h : okL n ds = true) (hl : ds.length < 4611686018427387904) : okD (n + 1) (.tuple ds) = true := by
  unfold okD
  dsimp only
  rw [h, decide_eq_true hl]
  rfl
theorem okL_c {n : Nat} {d : D} {ds : List D} (h : okD n d = true) (h2 : okL n ds = true) : okL n (d :: ds) = true := by
  unfold okL
  rw [h, h2]
  rfl
theorem okL_n {n : Nat} : okL n [] = true := by
  unfold okL
  rfl
@[reducible] instance : Sz (T2 α β) := ⟨fun p => szd p.a ∧ szd p.b, fun n p h hn => by
  cases n with
  | zero => exact absurd hn (Nat.not_lt_zero _)
  | succ n =>
    have hn : max (Enc.dep α) (Enc.dep β) + 1 < n + 1 := hn
    exact okD_tup (okL_c (Sz.ok n _ h.1 (by omega)) (okL_c (Sz.ok n _ h.2 (by omega)) okL_n)) (by simp)⟩
@[reducible] instance : Sz (T3 α β γ) := ⟨fun p => szd p.a ∧ szd p.b ∧ szd p.c, fun n p h hn => by
  cases n with
  | zero => exact absurd hn (Nat.not_lt_zero _)
  | succ n =>
    have hn : max (max (Enc.dep α) (Enc.dep β)) (Enc.dep γ) + 1 < n + 1 := hn
    exact okD_tup (okL_c (Sz.ok n _ h.1 (by omega)) (okL_c (Sz.ok n _ h.2.1 (by omega)) (okL_c (Sz.ok n _ h.2.2 (by omega)) okL_n))) (by simp)⟩
@[reducible] instance : Sz (T4 α β γ δ) := ⟨fun p => szd p.a ∧ szd p.b ∧ szd p.c ∧ szd p.d, fun n p h hn => by
  cases n with
  | zero => exact absurd hn (Nat.not_lt_zero _)
  | succ n =>
    have hn : max (max (max (Enc.dep α) (Enc.dep β)) (Enc.dep γ)) (Enc.dep δ) + 1 < n + 1 := hn
    exact okD_tup (okL_c (Sz.ok n _ h.1 (by omega)) (okL_c (Sz.ok n _ h.2.1 (by omega)) (okL_c (Sz.ok n _ h.2.2.1 (by omega)) (okL_c (Sz.ok n _ h.2.2.2 (by omega)) okL_n)))) (by simp)⟩
@[reducible] instance : Sz (T5 α β γ δ ε) := ⟨fun p => szd p.a ∧ szd p.b ∧ szd p.c ∧ szd p.d ∧ szd p.e, fun n p h hn => by
  cases n with
  | zero => exact absurd hn (Nat.not_lt_zero _)
  | succ n =>
    have hn : max (max (max (max (Enc.dep α) (Enc.dep β)) (Enc.dep γ)) (Enc.dep δ)) (Enc.dep ε) + 1 < n + 1 := hn
    exact okD_tup (okL_c (Sz.ok n _ h.1 (by omega)) (okL_c (Sz.ok n _ h.2.1 (by omega)) (okL_c (Sz.ok n _ h.2.2.1 (by omega)) (okL_c (Sz.ok n _ h.2.2.2.1 (by omega)) (okL_c (Sz.ok n _ h.2.2.2.2 (by omega)) okL_n))))) (by simp)⟩
theorem same_enc (a : α) (h : szd a) (hd : Enc.dep α < 9 := by decide) : (f_law_same 9).sem [enc a, enc a] = .ok (.bool true) := same_ok 9 _ (Sz.ok 9 a h hd)
end
end Pv

/-! part T: dicts with ints as keys -/
namespace Pv
open PySem PySem.Spec PyProof.Rows L2 Pv.Enc
section
variable {α : Type}
def dI (f : α → D) (kvs : List (Int × α)) : D := .dict (kvs.map fun p => (.int p.1, f p.2))
def pI (kvs : List (Int × α)) (k : Int) (v : α) : List (Int × α) := if (kvs.any fun p => decide (p.1 = k)) = true then kvs.map (fun p => if p.1 = k then (p.1, v) else p) else kvs ++ [(k, v)]
def gI (kvs : List (Int × α)) (k : Int) : Option α := (kvs.find? fun p => decide (p.1 = k)).map (·.2)
def kI (kvs : List (Int × α)) : List Int := kvs.map (·.1)
theorem asD_dI {f : α → D} : ∀ {kvs : List (Int × α)}, asD (dI f kvs) = some (.k (kvs.map fun p => (.int p.1, f p.2)))
  | [] => rfl
  | _ :: _ => rfl
theorem dI_any {f : α → D} {k : Int} : ∀ {kvs : List (Int × α)}, ((kvs.map fun p => ((.int p.1, f p.2) : D × D)).any fun p => decide (toK p.1 = some (.inl k))) = kvs.any fun p => decide (p.1 = k)
  | [] => rfl
  | p :: r => by
    rw [List.map_cons, List.any_cons, List.any_cons, dI_any (kvs := r)]
    congr 1
    by_cases h : p.1 = k
    · rw [decide_eq_true h]
      exact decide_eq_true (by show some _ = some _; rw [h])
    · rw [decide_eq_false h]
      exact decide_eq_false (fun z => h (by injection z with z; injection z))
theorem dI_get {f : α → D} {k : Int} : ∀ {kvs : List (Int × α)}, lkK (kvs.map fun p => (.int p.1, f p.2)) (.inl k) = (gI kvs k).map f
  | [] => rfl
  | p :: r => by
    show lkG toK _ _ = _
    rw [List.map_cons, lkG_cons, show lkG toK (r.map fun p => ((.int p.1, f p.2) : D × D)) (.inl k) = (gI r k).map f from dI_get (kvs := r)]
    unfold gI
    rw [List.find?_cons]
    by_cases h : p.1 = k
    · rw [if_pos (by show some _ = some _; rw [h]), decide_eq_true h]
      rfl
    · rw [if_neg (fun z => h (by injection z with z; injection z)), decide_eq_false h]
theorem dI_put {f : α → D} {k : Int} {v : α} {kvs : List (Int × α)} : puK (kvs.map fun p => (.int p.1, f p.2)) (.inl k) (f v) = (pI kvs k v).map fun p => (.int p.1, f p.2) := by
  unfold puK puG pI
  rw [dI_any]
  split
  · rw [List.map_map, List.map_map]
    refine List.map_congr_left fun p _ => ?_
    show (if toK (.int p.1) = some (.inl k) then _ else _) = ((.int (if p.1 = k then (p.1, v) else p).1, f (if p.1 = k then (p.1, v) else p).2) : D × D)
    by_cases h : p.1 = k
    · rw [if_pos (by show some _ = some _; rw [h]), if_pos h]
    · rw [if_neg (fun z => h (by injection z with z; injection z)), if_neg h]
  · rw [List.map_append]
    rfl
theorem evDp_dI {f : α → D} {k : Int} {v : α} {kvs : List (Int × α)} (h : kvs.length < 16777216) : evDp (dI f kvs) (.int k) (f v) = .ok (dI f (pI kvs k v)) := by
  unfold evDp
  rw [asD_dI]
  show (if (kvs.map fun p => ((.int p.1, f p.2) : D × D)).length < 16777216 then R.ok (PyData.dict (puK _ (.inl k) (f v))) else .no) = _
  rw [if_pos (by rw [List.length_map]; exact h), dI_put]
  rfl
theorem evDgo_dI {f : α → D} {k : Int} {kvs : List (Int × α)} : evDgo (dI f kvs) (.int k) = .ok ((gI kvs k).map f) := by
  unfold evDgo
  rw [asD_dI]
  show R.ok (lkK _ (.inl k)) = _
  rw [dI_get]
theorem keysD_dI {f : α → D} {kvs : List (Int × α)} : keysD (kvs.map fun p => (.int p.1, f p.2)) = (kI kvs).map PyData.int := by
  unfold keysD kI
  rw [List.map_map, List.map_map]
  rfl
theorem evDs_dI {f : α → D} {kvs : List (Int × α)} (h : (kI kvs).length < 64) : evDs (dI f kvs) = .ok (.list ((sortI (kI kvs)).map PyData.int)) := by
  unfold evDs
  rw [asD_dI]
  dsimp only
  rw [keysD_dI, intsOf_map]
  exact if_pos h
theorem evDk_dI {f : α → D} {kvs : List (Int × α)} : evDk (dI f kvs) = .ok (.list ((kI kvs).map PyData.int)) := by
  unfold evDk
  rw [asD_dI]
  dsimp only
  rw [keysD_dI]
theorem evDl_dI {f : α → D} {kvs : List (Int × α)} : evDl (dI f kvs) = .ok (.int kvs.length) := by
  unfold evDl
  rw [asD_dI]
  dsimp only
  rw [List.length_map]
theorem evDn_dI {f : α → D} : evDn false = dI f [] := rfl
theorem kI_any {k : Int} : ∀ {kvs : List (Int × α)}, (kvs.any fun p => decide (p.1 = k)) = decide (k ∈ kI kvs)
  | [] => rfl
  | p :: r => by
    rw [List.any_cons, kI_any (kvs := r)]
    show _ = decide (k ∈ p.1 :: kI r)
    by_cases h : p.1 = k
    · subst h
      simp
    · have h' : ¬ k = p.1 := fun z => h z.symm
      simp [h, h']
theorem kI_pI {k : Int} {v : α} {kvs : List (Int × α)} : kI (pI kvs k v) = if k ∈ kI kvs then kI kvs else kI kvs ++ [k] := by
  unfold pI
  rw [kI_any]
  by_cases h : k ∈ kI kvs
  · rw [if_pos (decide_eq_true h), if_pos h]
    unfold kI
    rw [List.map_map]
    refine List.map_congr_left fun p _ => ?_
    show (if p.1 = k then (p.1, v) else p).1 = p.1
    split <;> rfl
  · rw [if_neg (by rw [decide_eq_false h]; decide), if_neg h]
    unfold kI
    rw [List.map_append]
    rfl
theorem kI_nodup {k : Int} {v : α} {kvs : List (Int × α)} (h : (kI kvs).Nodup) : (kI (pI kvs k v)).Nodup := by
  rw [kI_pI]
  split
  · exact h
  · rename_i hk
    rw [List.nodup_append]
    exact ⟨h, by simp, fun a ha b hb => by rw [List.mem_singleton.mp hb]; exact fun e => hk (e ▸ ha)⟩
theorem kI_mem {k j : Int} {v : α} {kvs : List (Int × α)} : j ∈ kI (pI kvs k v) ↔ j ∈ kI kvs ∨ j = k := by
  rw [kI_pI]
  split
  · rename_i hk
    exact ⟨fun h => .inl h, fun h => h.elim id (fun e => e ▸ hk)⟩
  · simp
theorem gI_cons {p : Int × α} {r : List (Int × α)} {k : Int} : gI (p :: r) k = if p.1 = k then some p.2 else gI r k := by
  unfold gI
  rw [List.find?_cons]
  by_cases h : p.1 = k
  · rw [decide_eq_true h, if_pos h]; rfl
  · rw [decide_eq_false h, if_neg h]
theorem gI_none {k : Int} : ∀ {kvs : List (Int × α)}, gI kvs k = none ↔ k ∉ kI kvs
  | [] => by simp [gI, kI]
  | p :: r => by
    rw [gI_cons]
    show _ ↔ k ∉ p.1 :: kI r
    by_cases h : p.1 = k
    · rw [if_pos h]; simp [h]
    · have h' : ¬ k = p.1 := fun z => h z.symm
      rw [if_neg h, gI_none (kvs := r)]; simp [h']
theorem gI_map {k j : Int} {v : α} : ∀ {kvs : List (Int × α)}, gI (kvs.map fun p => if p.1 = k then (p.1, v) else p) j = if j = k then (gI kvs j).map fun _ => v else gI kvs j
  | [] => by simp [gI]
  | p :: r => by
    rw [List.map_cons, gI_cons, gI_cons, gI_map (kvs := r)]
    by_cases h : p.1 = k
    · rw [if_pos h]
      by_cases q : p.1 = j
      · have e : j = k := q.symm.trans h
        simp [e, h]
      · have e : j ≠ k := fun e => q (h.trans e.symm)
        simp [q, e]
    · rw [if_neg h]
      by_cases q : p.1 = j
      · have e : j ≠ k := fun e => h (q.trans e)
        simp [q, e]
      · simp [q]
theorem gI_snoc {k j : Int} {v : α} : ∀ {kvs : List (Int × α)}, gI kvs k = none → gI (kvs ++ [(k, v)]) j = if j = k then some v else gI kvs j
  | [], _ => by
    rw [List.nil_append, gI_cons]
    by_cases h : j = k
    · simp [h, gI]
    · have h' : ¬ k = j := fun z => h z.symm
      simp [h, gI, h']
  | p :: r, hn => by
    rw [gI_cons] at hn
    by_cases h : p.1 = k
    · rw [if_pos h] at hn; cases hn
    · rw [if_neg h] at hn
      rw [List.cons_append, gI_cons, gI_cons, gI_snoc hn]
      by_cases q : p.1 = j
      · have e : j ≠ k := fun e => h (q.trans e)
        simp [q, e]
      · simp [q]
theorem gI_pI {k j : Int} {v : α} {kvs : List (Int × α)} : gI (pI kvs k v) j = if j = k then some v else gI kvs j := by
  unfold pI
  rw [kI_any]
  by_cases h : k ∈ kI kvs
  · rw [if_pos (decide_eq_true h), gI_map]
    by_cases e : j = k
    · subst e
      cases q : gI kvs j with
      | none => exact absurd h (gI_none.mp q)
      | some x => simp
    · simp [e]
  · rw [if_neg (by rw [decide_eq_false h]; decide), gI_snoc (gI_none.mpr h)]
end
end Pv

/-! part U: repr of data of ints -/
namespace Pv
open PySem PySem.Spec PyProof.Rows L2 Pv.Enc
/-- ints below 10000000, lists and tuples of them with at most w parts -/
structure Rpr (d : D) (w : Nat) : Prop where
  s : d.showable = true
  i : d.intsShort 13 = true
  w : d.weight ≤ w
structure RprA (ds : List D) (w : Nat) : Prop where
  s : PyData.showableAll ds = true
  i : PyData.intsShortAll 13 ds = true
  w : PyData.weightAll ds ≤ w
theorem rpr_int {i : Int} (h0 : -10000000 ≤ i) (h1 : i ≤ 10000000) : Rpr (.int i) 24 := by
  have h : i.natAbs < 2 ^ 24 := by
    have : (2 : Nat) ^ 24 = 16777216 := by decide
    omega
  have hl : i = 0 ∨ i.natAbs.log2 < 24 := by
    by_cases z : i = 0
    · exact .inl z
    · exact .inr ((Nat.log2_lt (by omega)).mpr h)
  refine ⟨?_, ?_, ?_⟩
  · unfold PyData.showable
    rcases hl with rfl | z
    · decide
    · exact decide_eq_true (by omega)
  · unfold PyData.intsShort
    refine decide_eq_true (PyData.shown_int_le ?_)
    have : (10 : Nat) ^ 12 = 1000000000000 := by decide
    omega
  · unfold PyData.weight
    split
    · omega
    · rename_i z
      have : i ≠ 0 := by simpa using z
      omega
theorem rpr_none : Rpr .none 0 := ⟨by unfold PyData.showable; rfl, by unfold PyData.intsShort; rfl, by unfold PyData.weight; omega⟩
theorem rpr_nil : RprA [] 0 := ⟨by unfold PyData.showableAll; rfl, by unfold PyData.intsShortAll; rfl, by unfold PyData.weightAll; omega⟩
theorem rpr_cons {d : D} {ds : List D} {w w' : Nat} (h : Rpr d w) (g : RprA ds w') : RprA (d :: ds) (w + 1 + w') := by
  refine ⟨?_, ?_, ?_⟩
  · unfold PyData.showableAll; rw [h.s, g.s]; rfl
  · unfold PyData.intsShortAll; rw [h.i, g.i]; rfl
  · unfold PyData.weightAll; have := h.w; have := g.w; omega
theorem rpr_list {ds : List D} {w : Nat} (g : RprA ds w) : Rpr (.list ds) w := by
  refine ⟨?_, ?_, ?_⟩
  · unfold PyData.showable; exact g.s
  · unfold PyData.intsShort; exact g.i
  · unfold PyData.weight; exact g.w
theorem rpr_tup {ds : List D} {w : Nat} (g : RprA ds w) : Rpr (.tuple ds) w := by
  refine ⟨?_, ?_, ?_⟩
  · unfold PyData.showable; exact g.s
  · unfold PyData.intsShort; exact g.i
  · unfold PyData.weight; exact g.w
theorem rpr_map {α : Type} {f : α → D} {w : Nat} : ∀ {xs : List α}, (∀ x ∈ xs, Rpr (f x) w) → RprA (xs.map f) (xs.length * (w + 1))
  | [], _ => ⟨rpr_nil.s, rpr_nil.i, by have := rpr_nil.w; simp only [List.map_nil, List.length_nil, Nat.zero_mul]; exact this⟩
  | x :: xs, h => by
    have := rpr_cons (h x (by simp)) (rpr_map (xs := xs) fun y hy => h y (by simp [hy]))
    refine ⟨this.s, this.i, Nat.le_trans this.w ?_⟩
    rw [List.length_cons, Nat.add_mul]
    omega
theorem evRpr_ok {d : D} {w : Nat} (hl : ltD d = true) (hs : SeqAt.shaped d = true) (h : Rpr d w) (hw : w ≤ 1000000) : evRpr d = .ok (.str d.shown) := by
  have lay : PyData.layable0 d = true := by
    show (PyData.canLay0 d && decide (PyData.depth d ≤ 64) && decide (PyData.weight d ≤ 2 ^ 20)) = true
    have hs' := hs
    unfold SeqAt.shaped at hs'
    simp only [Bool.and_eq_true, decide_eq_true_eq] at hs'
    have e : (2 : Nat) ^ 20 = 1048576 := by decide
    have := h.w
    rw [hs'.1, decide_eq_true hs'.2, decide_eq_true (by omega)]
    rfl
  have := shown_le13 lay h.i
  exact if_pos ⟨hl, hs, h.s, by omega⟩
/-- text is equal to itself -/
theorem ne_str {x : Str} : evCmp .ne (.str x) (.str x) = .ok false := by
  by_cases h : SeqAt.shaped (.str x) = true
  · exact ne_refl h
  · show (if SeqAt.shaped (.str x) = true ∧ SeqAt.shaped (.str x) = true then R.ok (!PyData.eqv (.str x) (.str x)) else strC true (.str x) (.str x)) = _
    rw [if_neg fun z => h z.1]
    show R.ok (if true = true then !decide (x = x) else decide (x = x)) = _
    simp
section
variable {T : Sg} {env : Ev} {K : Fl → Prop} {r : Ss} {i : Nat} {ds q : List D} {a b : D} {e : E} {o o' o2 : Own}
theorem W_appT2 (hl : lk env i = some (.tuple (a :: b :: .list ds :: q), false)) (ho : T.own i = .tc o (.tc o' (.tc (.lst .sh) o2))) (hs : ds.length < 16777216) (h : W (ev T e env) fun d => W (evSs T r (put env i (some (.tuple (a :: b :: .list (ds ++ [d]) :: q), false)))) K) :
    W (evSs T (.cons (.app i (.snoc .nil (.cst (.int 2))) e) r) env) K := by
  refine W_cons ?_
  obtain ⟨d, h1, h2⟩ := h
  refine ⟨.nx _, ?_, h2⟩
  show noX (ev T e env) >>= (fun d => mutE T i [2] (fApp d) env) = _
  rw [h1]
  show mutE T i [2] (fApp d) env = _
  unfold mutE
  rw [hl, ho]
  have e1 : ixN (q.length + 1 + 1 + 1) 2 = some 2 := by
    have : (2 : Int) < (q.length : Int) + 1 + 1 + 1 := by omega
    simp [ixN, this]
  simp [updD, e1, fApp, hs, nthO]
end
end Pv

/-! part V: typed data in order -/
namespace Pv
open PySem PySem.Spec PyProof.Rows L2 Pv.Enc
/-- what is compared by < -/
class Lt0 (α : Type) [Enc α] where
  lt : α → α → Bool
  al : ∀ a b : α, PySem.W.alike (enc a) (enc b) = true
  le : ∀ a b : α, PySem.W.dataLt (enc a) (enc b) = lt a b
/-- .. and may be sorted by `sorted` of lists of data -/
class Srt0 (α : Type) [Enc α] where
  hd : (∀ a : α, hdT (enc a) = true) ∨ ∀ a : α, noT (enc a) = true
  ni : ∀ (a : α) (i : Int), enc a ≠ PyData.int i
@[reducible] instance : Lt0 Int := ⟨fun a b => decide (a < b), fun a b => by show PySem.W.alike (.int a) (.int b) = true; simp only [PySem.W.alike], fun a b => PySem.W.dataLt_int a b⟩
section
variable {α β γ δ ε : Type} [Enc α] [Enc β] [Enc γ] [Enc δ] [Enc ε] [DecidableEq α] [DecidableEq β] [DecidableEq γ] [DecidableEq δ] [Lt0 α] [Lt0 β] [Lt0 γ] [Lt0 δ] [Lt0 ε]
def lts : List α → List α → Bool
  | [], [] => false
  | [], _ :: _ => true
  | _ :: _, [] => false
  | x :: xs, y :: ys => if x = y then lts xs ys else Lt0.lt x y
theorem eqv_if {a b : α} {p q : Bool} : (if PyData.eqv (enc a) (enc b) = true then p else q) = if a = b then p else q := by
  by_cases h : a = b
  · rw [if_pos h, if_pos ((Enc.inj a b).mpr h)]
  · rw [if_neg h, if_neg fun z => h ((Enc.inj a b).mp z)]
theorem row_c {a b : α} {xs ys : List D} : PySem.W.rowLt (enc a :: xs) (enc b :: ys) = if a = b then PySem.W.rowLt xs ys else Lt0.lt a b := by
  unfold PySem.W.rowLt
  rw [PySem.W.dataLt_cons (Lt0.al a b), eqv_if, Lt0.le]
theorem row_n : PySem.W.rowLt [] [] = false := by
  unfold PySem.W.rowLt
  rw [lex_irrefl]
theorem rows_eq : ∀ xs ys : List α, PySem.W.rowLt (xs.map enc) (ys.map enc) = lts xs ys
  | [], [] => row_n
  | [], y :: ys => by
    show PyProof.Rows.lexLt itemOrd (PySem.W.keyToksAll []) (PySem.W.keyToksAll (enc y :: ys.map enc)) = true
    rw [PySem.W.toks_all_cons, PySem.W.keyToksAll, PyProof.Rows.lex_diff (by simp)]
    rfl
  | x :: xs, [] => by
    show PyProof.Rows.lexLt itemOrd (PySem.W.keyToksAll (enc x :: xs.map enc)) (PySem.W.keyToksAll []) = false
    rw [PySem.W.toks_all_cons, PySem.W.keyToksAll, PyProof.Rows.lex_diff (by simp)]
    rfl
  | x :: xs, y :: ys => by
    rw [List.map_cons, List.map_cons, row_c, rows_eq xs ys]
    rfl
theorem al_c {a b : α} {xs ys : List D} (h : PySem.W.alikeAll xs ys = true) : PySem.W.alikeAll (enc a :: xs) (enc b :: ys) = true := by
  show (PySem.W.alike (enc a) (enc b) && PySem.W.alikeAll xs ys) = true
  rw [Lt0.al, h]
  rfl
theorem al_n {xs : List D} : PySem.W.alikeAll [] xs = true := by cases xs <;> rfl
theorem al_n2 {xs : List D} : PySem.W.alikeAll xs [] = true := by cases xs <;> rfl
theorem als_eq : ∀ xs ys : List α, PySem.W.alikeAll (xs.map enc) (ys.map enc) = true
  | [], _ => al_n
  | _ :: _, [] => al_n2
  | x :: xs, y :: ys => al_c (als_eq xs ys)
@[reducible] instance : Lt0 (List α) := ⟨lts, fun a b => als_eq a b, fun a b => by
  rw [enc_list, enc_list, PySem.W.dataLt_list]
  exact rows_eq a b⟩
@[reducible] instance : Lt0 (T2 α β) := ⟨fun p q => if p.a = q.a then Lt0.lt p.b q.b else Lt0.lt p.a q.a, fun p q => al_c (al_c al_n), fun p q => by
  rw [enc_T2, enc_T2, PySem.W.dataLt_tuple]
  show PySem.W.rowLt _ _ = _
  rw [row_c, row_c, row_n]
  by_cases h : p.b = q.b
  · rw [if_pos h]
    have : (Lt0.lt p.b q.b : Bool) = false := by rw [← Lt0.le, h]; exact lex_irrefl _
    rw [this]
  · rw [if_neg h]⟩
@[reducible] instance : Lt0 (T3 α β γ) := ⟨fun p q => if p.a = q.a then (if p.b = q.b then Lt0.lt p.c q.c else Lt0.lt p.b q.b) else Lt0.lt p.a q.a, fun p q => al_c (al_c (al_c al_n)), fun p q => by
  rw [enc_T3, enc_T3, PySem.W.dataLt_tuple]
  show PySem.W.rowLt _ _ = _
  rw [row_c, row_c, row_c, row_n]
  by_cases h : p.c = q.c
  · rw [if_pos h]
    have : (Lt0.lt p.c q.c : Bool) = false := by rw [← Lt0.le, h]; exact lex_irrefl _
    rw [this]
  · rw [if_neg h]⟩
@[reducible] instance : Lt0 (T4 α β γ δ) := ⟨fun p q => if p.a = q.a then (if p.b = q.b then (if p.c = q.c then Lt0.lt p.d q.d else Lt0.lt p.c q.c) else Lt0.lt p.b q.b) else Lt0.lt p.a q.a, fun p q => al_c (al_c (al_c (al_c al_n))), fun p q => by
  rw [enc_T4, enc_T4, PySem.W.dataLt_tuple]
  show PySem.W.rowLt _ _ = _
  rw [row_c, row_c, row_c, row_c, row_n]
  by_cases h : p.d = q.d
  · rw [if_pos h]
    have : (Lt0.lt p.d q.d : Bool) = false := by rw [← Lt0.le, h]; exact lex_irrefl _
    rw [this]
  · rw [if_neg h]⟩
instance : Srt0 (List α) := ⟨.inr fun _ => rfl, fun _ _ h => by cases h⟩
instance : Srt0 (T2 α β) := ⟨.inl fun _ => rfl, fun _ _ h => by cases h⟩
instance : Srt0 (T3 α β γ) := ⟨.inl fun _ => rfl, fun _ _ h => by cases h⟩
instance : Srt0 (T4 α β γ δ) := ⟨.inl fun _ => rfl, fun _ _ h => by cases h⟩
/-- the list in order -/
def srtE (xs : List α) : List α := xs.mergeSort fun a b => !Lt0.lt b a
theorem srtE_perm (xs : List α) : (srtE xs).Perm xs := List.mergeSort_perm _ _
theorem leE {a b : α} : (!Lt0.lt b a) = leD (enc a) (enc b) := by
  rw [← Lt0.le]
  rfl
theorem srtE_pw (xs : List α) : (srtE xs).Pairwise fun a b => Lt0.lt b a = false := by
  have := List.pairwise_mergeSort (le := fun a b : α => !Lt0.lt b a) (fun a b c h1 h2 => by rw [leE] at *; exact leD_trans h1 h2) (fun a b => by rw [leE, leE]; exact leD_total _ _) xs
  exact this.imp fun h => by simpa using h
theorem evBi_sortedA [Srt0 α] {o : Own} {xs ys : List α} (hp : ys.Perm xs) (hs : ys.Pairwise fun a b => Lt0.lt b a = false) (hd : Enc.dep α ≤ 60 := by decide) : evBi .sorted o [.list (xs.map enc)] = .ok (.list (ys.map enc)) := by
  cases xs with
  | nil =>
    rw [hp.eq_nil]
    rfl
  | cons x r =>
    have hn : intsOf ((x :: r).map enc) = none := by
      rw [List.map_cons]
      have := Srt0.ni (α := α) x
      generalize enc x = d at this
      cases d with
      | int i => exact absurd rfl (this i)
      | _ => rfl
    show (match intsOf ((x :: r).map enc) with | some ns => R.ok (PyData.list ((sortI ns).map PyData.int)) | none => srtA ((x :: r).map enc)) = _
    rw [hn]
    show srtA ((x :: r).map enc) = _
    generalize x :: r = xs at hp
    have ob : OrdB (xs.map enc) := ⟨fun d h e g => by
      obtain ⟨a, _, rfl⟩ := List.mem_map.mp h
      obtain ⟨b, _, rfl⟩ := List.mem_map.mp g
      exact Lt0.al a b, (Srt0.hd (α := α)).imp (fun q d h => by obtain ⟨a, _, rfl⟩ := List.mem_map.mp h; exact q a) (fun q d h => by obtain ⟨a, _, rfl⟩ := List.mem_map.mp h; exact q a), fun d h => by
      obtain ⟨a, _, rfl⟩ := List.mem_map.mp h
      exact Nat.le_trans (Enc.depth a) hd, lays_nd _ (layAll xs)⟩
    unfold srtA
    rw [if_pos (ordB_iff.mpr ob)]
    congr 2
    refine sorted_one (fun d h e g q => ?_) (hp.map enc) ?_
    · obtain ⟨a, _, rfl⟩ := List.mem_map.mp h
      obtain ⟨b, _, rfl⟩ := List.mem_map.mp g
      rw [(Enc.inj a b).mp (toks_inj (Lt0.al a b) q)]
    · rw [List.pairwise_map]
      exact hs.imp fun {a b} h => by rw [← leE, h]; rfl
theorem evBi_sortedE [Srt0 α] {o : Own} {xs : List α} (hd : Enc.dep α ≤ 60 := by decide) : evBi .sorted o [.list (xs.map enc)] = .ok (.list ((srtE xs).map enc)) := evBi_sortedA (srtE_perm xs) (srtE_pw xs) hd
end
end Pv

namespace K59
open PySem PySem.Spec PyProof.Rows L2 Pv Pv.Enc
def topS (i : Nat) : Stmt := PySem.Challenge.pw_hallsemptied_k59_whole_orders_of_search.main.body.getD i (.Pass ⟨0, 0, 0, 0⟩)
def B : List Str := ["sum", "gcd", "enumerate", "len", "sorted", "list", "range", "all", "int", "isinstance", "tuple", "bool", "str", "min", "max"]
/-! cost_of -/
abbrev s_cost_of : Stmt := topS 2
def N_cost_of : List Str := ["rooms", "order", "found", "gone", "room", "weight", "beats"]
def T_cost_of : Sg := ⟨[], [], [.sh, .sh, .sh, .sh, .sh, .sh, .sh], [], false⟩
def b_cost_of : Ss := (.cons (.asg (.nm 2) (.cst (.int 0))) (.cons (.asg (.nm 3) (.cst (.int 0))) (.cons (.fr (.nm 4) (.seq (.var 1 true)) (.cons (.asg (.tp (.cons (.nm 5) (.cons (.nm 6) .nil))) (.idx (.var 0 true) (.var 4 true))) (.cons (.aug 3 .add (.var 6 true)) (.cons (.aug 2 .add (.bin .mul .sh (.var 5 true) (.var 3 true))) .nil)))) (.cons (.ret (.one (.e (.var 2 true)))) .nil))))
def f_cost_of : Fn := ⟨"cost_of", 2, .sh, runF T_cost_of b_cost_of 7⟩
theorem e_cost_of (ds : List D) : f_cost_of.sem ds = runF T_cost_of b_cost_of 7 ds := rfl
theorem sc_cost_of : FnScope N_cost_of ["rooms", "order"] (defScope s_cost_of) := ⟨rfl, rfl, rfl, by decide +kernel, rfl, by decide +kernel, by decide +kernel⟩
theorem m_cost_of : mSs ⟨N_cost_of, defScope s_cost_of, T_cost_of, B, fun _ => true⟩ .sh b_cost_of (defBody s_cost_of) = true := by decide +kernel
/-! mean_of -/
abbrev s_mean_of : Stmt := topS 3
def N_mean_of : List Str := ["rooms", "order", "cost", "whole", "weight", "_", "common"]
def T_mean_of : Sg := ⟨[f_cost_of], [], [.sh, .sh, .sh, .sh, .sh, .sh, .sh], [], false⟩
def b_mean_of : Ss := (.cons (.asg (.nm 2) (.fn 0 false (.cons (.var 0 true) (.cons (.var 1 true) .nil)))) (.cons (.asg (.nm 3) (.bi .sum .sh (.cons (.comp .sh (.var 4 true) (.tp (.cons (.nm 4) (.cons (.nm 5) .nil))) (.seq (.var 0 true)) .nil [4, 5]) .nil))) (.cons (.asg (.nm 6) (.gcd (.var 2 true) (.var 3 true))) (.cons (.ret (.one (.e (.frz (.tup (.cons (.bin .fdiv .sh (.var 2 true) (.var 6 true)) (.cons (.bin .fdiv .sh (.var 3 true) (.var 6 true)) .nil))))))) .nil))))
def f_mean_of : Fn := ⟨"mean_of", 2, .sh, runF T_mean_of b_mean_of 7⟩
theorem c_mean_of_0 {ds : List D} (h : ds.length = 2 := by rfl) : evF T_mean_of 0 false ds = f_cost_of.sem ds := evF_at rfl h
theorem ct_mean_of_0 {ds : List D} {b : Bool} (hs : f_cost_of.sem ds = .ok (.bool b)) (h : ds.length = 2 := by rfl) : evF T_mean_of 0 true ds = .ok (.bool b) := evF_atC rfl rfl hs rfl h
theorem e_mean_of (ds : List D) : f_mean_of.sem ds = runF T_mean_of b_mean_of 7 ds := rfl
theorem sc_mean_of : FnScope N_mean_of ["rooms", "order"] (defScope s_mean_of) := ⟨rfl, rfl, rfl, by decide +kernel, rfl, by decide +kernel, by decide +kernel⟩
theorem m_mean_of : mSs ⟨N_mean_of, defScope s_mean_of, T_mean_of, B, fun _ => true⟩ .sh b_mean_of (defBody s_mean_of) = true := by decide +kernel
/-! stands_ahead -/
abbrev s_stands_ahead : Stmt := topS 4
def N_stands_ahead : List Str := ["one", "other"]
def T_stands_ahead : Sg := ⟨[], [], [.sh, .sh], [], false⟩
def b_stands_ahead : Ss := (.cons (.ret (.one (.e (.cmp .ge (.bin .mul .sh (.idx (.var 0 true) (.cst (.int 0))) (.idx (.var 1 true) (.cst (.int 1)))) (.bin .mul .sh (.idx (.var 1 true) (.cst (.int 0))) (.idx (.var 0 true) (.cst (.int 1)))))))) .nil)
def f_stands_ahead : Fn := ⟨"stands_ahead", 2, .sh, runF T_stands_ahead b_stands_ahead 2⟩
theorem e_stands_ahead (ds : List D) : f_stands_ahead.sem ds = runF T_stands_ahead b_stands_ahead 2 ds := rfl
theorem sc_stands_ahead : FnScope N_stands_ahead ["one", "other"] (defScope s_stands_ahead) := ⟨rfl, rfl, rfl, by decide +kernel, rfl, by decide +kernel, by decide +kernel⟩
theorem m_stands_ahead : mSs ⟨N_stands_ahead, defScope s_stands_ahead, T_stands_ahead, B, fun _ => true⟩ .sh b_stands_ahead (defBody s_stands_ahead) = true := by decide +kernel
/-! best_order -/
abbrev s_best_order : Stmt := topS 5
def N_best_order : List Str := ["rooms", "found", "room", "pair", "at", "other"]
def T_best_order : Sg := ⟨[f_stands_ahead], [], [.sh, (.lst .sh), .sh, .sh, .sh, .sh], [], false⟩
def b_best_order : Ss := (.cons (.own 1 (.lst .sh .nil)) (.cons (.fr (.tp (.cons (.nm 2) (.cons (.nm 3) .nil))) (.en (.cons (.var 0 true) .nil)) (.cons (.asg (.nm 4) (.bi .len .sh (.cons (.comp .sh (.var 5 true) (.nm 5) (.seq (.var 1 false)) (.cons (.fn 0 false (.cons (.idx (.var 0 true) (.var 5 true)) (.cons (.var 3 true) .nil))) .nil) [5]) .nil))) (.cons (.ins 1 .nil (.var 4 true) (.var 2 true)) .nil))) (.cons (.ret (.one (.mv 1))) .nil)))
def f_best_order : Fn := ⟨"best_order", 1, (.lst .sh), runF T_best_order b_best_order 6⟩
theorem c_best_order_0 {ds : List D} (h : ds.length = 2 := by rfl) : evF T_best_order 0 false ds = f_stands_ahead.sem ds := evF_at rfl h
theorem ct_best_order_0 {ds : List D} {b : Bool} (hs : f_stands_ahead.sem ds = .ok (.bool b)) (h : ds.length = 2 := by rfl) : evF T_best_order 0 true ds = .ok (.bool b) := evF_atC rfl rfl hs rfl h
theorem e_best_order (ds : List D) : f_best_order.sem ds = runF T_best_order b_best_order 6 ds := rfl
theorem sc_best_order : FnScope N_best_order ["rooms"] (defScope s_best_order) := ⟨rfl, rfl, rfl, by decide +kernel, rfl, by decide +kernel, by decide +kernel⟩
theorem m_best_order : mSs ⟨N_best_order, defScope s_best_order, T_best_order, B, fun _ => true⟩ (.lst .sh) b_best_order (defBody s_best_order) = true := by decide +kernel
/-! is_best_order -/
abbrev s_is_best_order : Stmt := topS 6
def N_is_best_order : List Str := ["rooms", "order", "k"]
def T_is_best_order : Sg := ⟨[f_stands_ahead], [], [.sh, .sh, .sh], [], false⟩
def b_is_best_order : Ss := (.cons (.iff (.cmp .ne (.bi .sorted .sh (.cons (.var 1 true) .nil)) (.lr1 .sh (.bi .len .sh (.cons (.var 0 true) .nil)))) (.cons (.ret (.one (.e (.cst (.bool false))))) .nil) .nil) (.cons (.ret (.one (.e (.bi .all .sh (.cons (.comp .sh (.fn 0 false (.cons (.idx (.var 0 true) (.idx (.var 1 true) (.var 2 true))) (.cons (.idx (.var 0 true) (.idx (.var 1 true) (.bin .add .sh (.var 2 true) (.cst (.int 1))))) .nil))) (.nm 2) (.r1 (.cons (.bin .sub .sh (.bi .len .sh (.cons (.var 1 true) .nil)) (.cst (.int 1))) .nil)) .nil [2]) .nil))))) .nil))
def f_is_best_order : Fn := ⟨"is_best_order", 2, .sh, runF T_is_best_order b_is_best_order 3⟩
theorem c_is_best_order_0 {ds : List D} (h : ds.length = 2 := by rfl) : evF T_is_best_order 0 false ds = f_stands_ahead.sem ds := evF_at rfl h
theorem ct_is_best_order_0 {ds : List D} {b : Bool} (hs : f_stands_ahead.sem ds = .ok (.bool b)) (h : ds.length = 2 := by rfl) : evF T_is_best_order 0 true ds = .ok (.bool b) := evF_atC rfl rfl hs rfl h
theorem e_is_best_order (ds : List D) : f_is_best_order.sem ds = runF T_is_best_order b_is_best_order 3 ds := rfl
theorem sc_is_best_order : FnScope N_is_best_order ["rooms", "order"] (defScope s_is_best_order) := ⟨rfl, rfl, rfl, by decide +kernel, rfl, by decide +kernel, by decide +kernel⟩
theorem m_is_best_order : mSs ⟨N_is_best_order, defScope s_is_best_order, T_is_best_order, B, fun _ => true⟩ .sh b_is_best_order (defBody s_is_best_order) = true := by decide +kernel
/-! _law_cell -/
abbrev s_law_cell : Stmt := topS 8
theorem sc_law_cell : FnScope N_law_cell ["script", "k"] (defScope s_law_cell) := ⟨rfl, rfl, rfl, by decide +kernel, rfl, by decide +kernel, by decide +kernel⟩
theorem m_law_cell : mSs ⟨N_law_cell, defScope s_law_cell, T_law_cell, B, fun _ => true⟩ .sh b_law_cell (defBody s_law_cell) = true := by decide +kernel
/-! _law_numbers -/
abbrev s_law_numbers : Stmt := topS 9
theorem sc_law_numbers : FnScope N_law_numbers ["cell", "count", "limit"] (defScope s_law_numbers) := ⟨rfl, rfl, rfl, by decide +kernel, rfl, by decide +kernel, by decide +kernel⟩
theorem m_law_numbers : mSs ⟨N_law_numbers, defScope s_law_numbers, T_law_numbers, B, fun _ => true⟩ (.lst .sh) b_law_numbers (defBody s_law_numbers) = true := by decide +kernel
/-! _law_same -/
abbrev s_law_same : Stmt := topS 10
theorem sc_law_same : FnScope N_law_same ["told", "due"] (defScope s_law_same) := ⟨rfl, rfl, rfl, by decide +kernel, rfl, by decide +kernel, by decide +kernel⟩
theorem m_law_same (r : Fn) (hn : r.name = "_law_same") (ho : r.own = .sh) : mSs ⟨N_law_same, defScope s_law_same, T_law_same r, B, fun _ => true⟩ .sh b_law_same (defBody s_law_same) = true := by
  obtain ⟨n, k, o, s⟩ := r
  cases hn; cases ho
  exact (by decide +kernel : mSs ⟨N_law_same, defScope s_law_same, T_law_same ⟨"_law_same", 0, .sh, fun _ => .no⟩, B, fun _ => true⟩ .sh b_law_same (defBody s_law_same) = true)
/-! _law_search -/
abbrev s_law_search : Stmt := topS 11
def N_law_search : List Str := ["draws", "most", "n", "rooms", "k", "weight", "beats"]
def T_law_search : Sg := ⟨[], [], [.sh, .sh, .sh, (.lst .sh), .sh, .sh, .sh], [], false⟩
def b_law_search : Ss := (.cons (.asg (.nm 2) (.bin .add .sh (.cst (.int 1)) (.bin .mod .sh (.idx (.var 0 true) (.cst (.int 0))) (.var 1 true)))) (.cons (.own 3 (.comp .sh (.frz (.tup (.cons (.bin .mod .sh (.idx (.var 0 true) (.bin .add .sh (.cst (.int 1)) (.bin .mul .sh (.cst (.int 2)) (.var 4 true)))) (.idx (.lst .sh (.cons (.cst (.int 4)) (.cons (.cst (.int 30)) (.cons (.cst (.int 1001)) .nil)))) (.bin .mod .sh (.idx (.var 0 true) (.cst (.int 30))) (.cst (.int 3))))) (.cons (.bin .add .sh (.cst (.int 1)) (.bin .mod .sh (.idx (.var 0 true) (.bin .add .sh (.cst (.int 2)) (.bin .mul .sh (.cst (.int 2)) (.var 4 true)))) (.idx (.lst .sh (.cons (.cst (.int 4)) (.cons (.cst (.int 12)) (.cons (.cst (.int 1000)) .nil)))) (.bin .mod .sh (.idx (.var 0 true) (.cst (.int 31))) (.cst (.int 3)))))) .nil)))) (.nm 4) (.r1 (.cons (.var 2 true) .nil)) .nil [4])) (.cons (.iff (.cmp .eq (.bi .sum .sh (.cons (.comp .sh (.var 5 true) (.tp (.cons (.nm 5) (.cons (.nm 6) .nil))) (.seq (.var 3 false)) .nil [5, 6]) .nil)) (.cst (.int 0))) (.cons (.st 3 .nil (.bin .mod .sh (.idx (.var 0 true) (.cst (.int 32))) (.var 2 true)) (.tup (.cons (.bin .add .sh (.cst (.int 1)) (.bin .mod .sh (.idx (.var 0 true) (.cst (.int 33))) (.cst (.int 9)))) (.cons (.idx (.idx (.var 3 false) (.bin .mod .sh (.idx (.var 0 true) (.cst (.int 32))) (.var 2 true))) (.cst (.int 1))) .nil)))) .nil) .nil) (.cons (.ret (.one (.mv 3))) .nil))))
def f_law_search : Fn := ⟨"_law_search", 2, (.lst .sh), runF T_law_search b_law_search 7⟩
theorem e_law_search (ds : List D) : f_law_search.sem ds = runF T_law_search b_law_search 7 ds := rfl
theorem sc_law_search : FnScope N_law_search ["draws", "most"] (defScope s_law_search) := ⟨rfl, rfl, rfl, by decide +kernel, rfl, by decide +kernel, by decide +kernel⟩
theorem m_law_search : mSs ⟨N_law_search, defScope s_law_search, T_law_search, B, fun _ => true⟩ (.lst .sh) b_law_search (defBody s_law_search) = true := by decide +kernel
/-! _law_cost -/
abbrev s_law_cost : Stmt := topS 12
def N_law_cost : List Str := ["rooms", "order", "gone", "cost", "k"]
def T_law_cost : Sg := ⟨[], [], [.sh, .sh, .sh, .sh, .sh], [], false⟩
def b_law_cost : Ss := (.cons (.asg (.nm 2) (.cst (.int 0))) (.cons (.asg (.nm 3) (.cst (.int 0))) (.cons (.fr (.nm 4) (.seq (.var 1 true)) (.cons (.asg (.nm 2) (.bin .add .sh (.var 2 true) (.idx (.idx (.var 0 true) (.var 4 true)) (.cst (.int 1))))) (.cons (.asg (.nm 3) (.bin .add .sh (.var 3 true) (.bin .mul .sh (.idx (.idx (.var 0 true) (.var 4 true)) (.cst (.int 0))) (.var 2 true)))) .nil))) (.cons (.ret (.one (.e (.var 3 true)))) .nil))))
def f_law_cost : Fn := ⟨"_law_cost", 2, .sh, runF T_law_cost b_law_cost 5⟩
theorem e_law_cost (ds : List D) : f_law_cost.sem ds = runF T_law_cost b_law_cost 5 ds := rfl
theorem sc_law_cost : FnScope N_law_cost ["rooms", "order"] (defScope s_law_cost) := ⟨rfl, rfl, rfl, by decide +kernel, rfl, by decide +kernel, by decide +kernel⟩
theorem m_law_cost : mSs ⟨N_law_cost, defScope s_law_cost, T_law_cost, B, fun _ => true⟩ .sh b_law_cost (defBody s_law_cost) = true := by decide +kernel
/-! _law_orders -/
abbrev s_law_orders : Stmt := topS 13
def N_law_orders : List Str := ["n", "found", "turn", "more", "row", "k"]
def T_law_orders : Sg := ⟨[], [], [.sh, .sh, .sh, .sh, .sh, .sh], [], false⟩
def b_law_orders : Ss := (.cons (.asg (.nm 1) (.lst .sh (.cons (.frz (.lst .sh .nil)) .nil))) (.cons (.fr (.nm 2) (.r1 (.cons (.var 0 true) .nil)) (.cons (.asg (.nm 3) (.lst .sh .nil)) (.cons (.fr (.nm 4) (.seq (.var 1 true)) (.cons (.asg (.nm 3) (.bin .add .sh (.var 3 true) (.comp .sh (.bin .add .sh (.var 4 true) (.lst .sh (.cons (.var 5 true) .nil))) (.nm 5) (.r1 (.cons (.var 0 true) .nil)) (.cons (.cmp .notin (.var 5 true) (.var 4 true)) .nil) [5]))) .nil)) (.cons (.asg (.nm 1) (.var 3 true)) .nil)))) (.cons (.ret (.one (.e (.var 1 true)))) .nil)))
def f_law_orders : Fn := ⟨"_law_orders", 1, .sh, runF T_law_orders b_law_orders 6⟩
theorem e_law_orders (ds : List D) : f_law_orders.sem ds = runF T_law_orders b_law_orders 6 ds := rfl
theorem sc_law_orders : FnScope N_law_orders ["n"] (defScope s_law_orders) := ⟨rfl, rfl, rfl, by decide +kernel, rfl, by decide +kernel, by decide +kernel⟩
theorem m_law_orders : mSs ⟨N_law_orders, defScope s_law_orders, T_law_orders, B, fun _ => true⟩ .sh b_law_orders (defBody s_law_orders) = true := by decide +kernel
/-! _law_fulfils -/
abbrev s_law_fulfils : Stmt := topS 14
def N_law_fulfils : List Str := ["rooms", "order", "k", "one", "other"]
def T_law_fulfils : Sg := ⟨[], [], [.sh, .sh, .sh, .sh, .sh], [], false⟩
def b_law_fulfils : Ss := (.cons (.iff (.cmp .ne (.bi .sorted .sh (.cons (.var 1 true) .nil)) (.lr1 .sh (.bi .len .sh (.cons (.var 0 true) .nil)))) (.cons (.ret (.one (.e (.cst (.bool false))))) .nil) .nil) (.cons (.fr (.nm 2) (.r1 (.cons (.bin .sub .sh (.bi .len .sh (.cons (.var 1 true) .nil)) (.cst (.int 1))) .nil)) (.cons (.asg (.nm 3) (.idx (.var 0 true) (.idx (.var 1 true) (.var 2 true)))) (.cons (.asg (.nm 4) (.idx (.var 0 true) (.idx (.var 1 true) (.bin .add .sh (.var 2 true) (.cst (.int 1)))))) (.cons (.iff (.cmp .lt (.bin .mul .sh (.idx (.var 3 true) (.cst (.int 0))) (.idx (.var 4 true) (.cst (.int 1)))) (.bin .mul .sh (.idx (.var 4 true) (.cst (.int 0))) (.idx (.var 3 true) (.cst (.int 1))))) (.cons (.ret (.one (.e (.cst (.bool false))))) .nil) .nil) .nil)))) (.cons (.ret (.one (.e (.cst (.bool true))))) .nil)))
def f_law_fulfils : Fn := ⟨"_law_fulfils", 2, .sh, runF T_law_fulfils b_law_fulfils 5⟩
theorem e_law_fulfils (ds : List D) : f_law_fulfils.sem ds = runF T_law_fulfils b_law_fulfils 5 ds := rfl
theorem sc_law_fulfils : FnScope N_law_fulfils ["rooms", "order"] (defScope s_law_fulfils) := ⟨rfl, rfl, rfl, by decide +kernel, rfl, by decide +kernel, by decide +kernel⟩
theorem m_law_fulfils : mSs ⟨N_law_fulfils, defScope s_law_fulfils, T_law_fulfils, B, fun _ => true⟩ .sh b_law_fulfils (defBody s_law_fulfils) = true := by decide +kernel
/-! _law_mean -/
abbrev s_law_mean : Stmt := topS 15
def N_law_mean : List Str := ["rooms", "order", "one", "other", "weight", "beats", "low", "high", "turn"]
def T_law_mean : Sg := ⟨[f_law_cost], [], [.sh, .sh, .sh, .sh, .sh, .sh, .sh, .sh, .sh], [], false⟩
def b_law_mean : Ss := (.cons (.asg (.nm 2) (.fn 0 false (.cons (.var 0 true) (.cons (.var 1 true) .nil)))) (.cons (.asg (.nm 3) (.bi .sum .sh (.cons (.comp .sh (.var 4 true) (.tp (.cons (.nm 4) (.cons (.nm 5) .nil))) (.seq (.var 0 true)) .nil [4, 5]) .nil))) (.cons (.asg (.nm 6) (.var 2 true)) (.cons (.asg (.nm 7) (.var 3 true)) (.cons (.fr (.nm 8) (.r1 (.cons (.cst (.int 200)) .nil)) (.cons (.iff (.cmp .gt (.var 7 true) (.cst (.int 0))) (.cons (.par 6 7 (.var 7 true) (.bin .mod .sh (.bi .int .sh (.cons (.var 6 true) .nil)) (.var 7 true))) .nil) .nil) .nil)) (.cons (.ret (.one (.e (.frz (.tup (.cons (.bin .fdiv .sh (.var 2 true) (.var 6 true)) (.cons (.bin .fdiv .sh (.var 3 true) (.var 6 true)) .nil))))))) .nil))))))
def f_law_mean : Fn := ⟨"_law_mean", 2, .sh, runF T_law_mean b_law_mean 9⟩
theorem c_law_mean_0 {ds : List D} (h : ds.length = 2 := by rfl) : evF T_law_mean 0 false ds = f_law_cost.sem ds := evF_at rfl h
theorem ct_law_mean_0 {ds : List D} {b : Bool} (hs : f_law_cost.sem ds = .ok (.bool b)) (h : ds.length = 2 := by rfl) : evF T_law_mean 0 true ds = .ok (.bool b) := evF_atC rfl rfl hs rfl h
theorem e_law_mean (ds : List D) : f_law_mean.sem ds = runF T_law_mean b_law_mean 9 ds := rfl
theorem sc_law_mean : FnScope N_law_mean ["rooms", "order"] (defScope s_law_mean) := ⟨rfl, rfl, rfl, by decide +kernel, rfl, by decide +kernel, by decide +kernel⟩
theorem m_law_mean : mSs ⟨N_law_mean, defScope s_law_mean, T_law_mean, B, fun _ => true⟩ .sh b_law_mean (defBody s_law_mean) = true := by decide +kernel
/-! law -/
abbrev s_law : Stmt := topS 16
def N_law : List Str := ["script", "draws", "rooms", "n", "kept", "more", "best", "least", "drawn", "spare", "k", "tries", "order", "cost", "told", "some", "times", "weight", "beats", "many", "plain", "first", "second"]
def T_law : Sg := ⟨[f_law_cell, f_law_numbers, f_law_search, f_best_order, f_law_fulfils, f_law_cost, f_law_orders, f_cost_of, f_law_same 9, f_is_best_order, f_mean_of, f_law_mean], [], [.sh, .sh, .sh, .sh, .sh, .sh, .sh, .sh, (.lst .sh), (.lst .sh), .sh, (.lst .sh), .sh, .sh, .sh, .sh, .sh, .sh, .sh, .sh, .sh, .sh, .sh], [], true⟩
def b_law : Ss := (.cons (.asg (.nm 1) (.fn 1 false (.cons (.fn 0 false (.cons (.var 0 true) (.cons (.cst (.int 0)) .nil))) (.cons (.cst (.int 40)) (.cons (.cst (.int 27720)) .nil))))) (.cons (.asg (.nm 2) (.fn 2 false (.cons (.var 1 true) (.cons (.idx (.lst .sh (.cons (.cst (.int 5)) (.cons (.cst (.int 5)) (.cons (.cst (.int 12)) .nil)))) (.bin .mod .sh (.idx (.var 1 true) (.cst (.int 39))) (.cst (.int 3)))) .nil)))) (.cons (.asg (.nm 3) (.bi .len .sh (.cons (.var 2 true) .nil))) (.cons (.asg (.nm 4) (.bi .list .sh (.cons (.var 2 true) .nil))) (.cons (.asg (.nm 5) (.fn 1 false (.cons (.fn 0 false (.cons (.var 0 true) (.cons (.cst (.int 1)) .nil))) (.cons (.cst (.int 40)) (.cons (.cst (.int 27720)) .nil))))) (.cons (.asg (.nm 6) (.fn 3 false (.cons (.var 2 true) .nil))) (.cons (.iff (.orr (.cons (.nt (.isi .list (.var 6 true))) (.cons (.cmp .ne (.bi .sorted .sh (.cons (.var 6 true) .nil)) (.lr1 .sh (.var 3 true))) (.cons (.nt (.fn 4 false (.cons (.var 2 true) (.cons (.var 6 true) .nil)))) (.cons (.cmp .ne (.var 2 true) (.var 4 true)) .nil))))) (.cons (.ret (.one (.e (.cst (.bool false))))) .nil) .nil) (.cons (.asg (.nm 7) (.fn 5 false (.cons (.var 2 true) (.cons (.var 6 true) .nil)))) (.cons (.own 8 (.lst .sh .nil)) (.cons (.own 9 (.lr1 (.lst .sh) (.var 3 true))) (.cons (.fr (.nm 10) (.r1 (.cons (.var 3 true) .nil)) (.cons (.xp 8 (.pop 9 (.bin .mod .sh (.idx (.var 5 true) (.var 10 true)) (.bi .len .sh (.cons (.var 9 false) .nil))))) .nil)) (.cons (.fzz 9 (.fzz 8 (.own 11 (.lst .sh (.cons (.var 6 true) (.cons (.var 8 true) (.cons (.rv .sh (.var 6 true)) (.cons (.lr1 .sh (.var 3 true)) .nil)))))))) (.cons (.fr (.nm 10) (.r1 (.cons (.bin .sub .sh (.var 3 true) (.cst (.int 1))) .nil)) (.cons (.app 11 .nil (.bin .add .sh (.bin .add .sh (.sl .sh (.var 6 true) (.sm (.cst (.int 0))) (.sm (.var 10 true))) (.lst .sh (.cons (.idx (.var 6 true) (.bin .add .sh (.var 10 true) (.cst (.int 1)))) (.cons (.idx (.var 6 true) (.var 10 true)) .nil)))) (.sl .sh (.var 6 true) (.sm (.bin .add .sh (.var 10 true) (.cst (.int 2)))) .no))) .nil)) (.cons (.fzz 11 (.iff (.cmp .lt (.var 3 true) (.cst (.int 6))) (.cons (.asg (.nm 11) (.fn 6 false (.cons (.var 3 true) .nil))) (.cons (.iff (.orr (.cons (.cmp .ne (.bi .min .sh (.cons (.comp .sh (.fn 5 false (.cons (.var 2 true) (.cons (.var 12 true) .nil))) (.nm 12) (.seq (.var 11 true)) .nil [12]) .nil)) (.var 7 true)) (.cons (.cmp .ne (.idx (.comp .sh (.var 12 true) (.nm 12) (.seq (.var 11 true)) (.cons (.cmp .eq (.fn 5 false (.cons (.var 2 true) (.cons (.var 12 true) .nil))) (.var 7 true)) .nil) [12]) (.cst (.int 0))) (.var 6 true)) .nil))) (.cons (.ret (.one (.e (.cst (.bool false))))) .nil) .nil) .nil)) .nil)) (.cons (.fr (.nm 12) (.seq (.var 11 true)) (.cons (.asg (.nm 13) (.fn 5 false (.cons (.var 2 true) (.cons (.var 12 true) .nil)))) (.cons (.iff (.orr (.cons (.nt (.fn 8 false (.cons (.fn 7 false (.cons (.var 2 true) (.cons (.var 12 true) .nil))) (.cons (.var 13 true) .nil)))) (.cons (.cmp .lt (.var 13 true) (.var 7 true)) (.cons (.nt (.fn 8 false (.cons (.fn 9 false (.cons (.var 2 true) (.cons (.var 12 true) .nil))) (.cons (.cmp .eq (.var 13 true) (.var 7 true)) .nil)))) .nil)))) (.cons (.ret (.one (.e (.cst (.bool false))))) .nil) .nil) .nil))) (.cons (.fr (.nm 12) (.seq (.lst .sh (.cons (.var 6 true) (.cons (.var 8 true) .nil)))) (.cons (.asg (.nm 14) (.fn 10 false (.cons (.var 2 true) (.cons (.var 12 true) .nil)))) (.cons (.iff (.orr (.cons (.nt (.isi .tuple (.var 14 true))) (.cons (.cmp .ne (.bi .len .sh (.cons (.var 14 true) .nil)) (.cst (.int 2))) (.cons (.nt (.fn 8 false (.cons (.var 14 true) (.cons (.fn 11 false (.cons (.var 2 true) (.cons (.var 12 true) .nil))) .nil)))) .nil)))) (.cons (.ret (.one (.e (.cst (.bool false))))) .nil) .nil) .nil))) (.cons (.fr (.nm 15) (.seq (.lst .sh (.cons (.sl .sh (.var 6 true) (.sm (.cst (.int 1))) .no) (.cons (.bin .add .sh (.var 6 true) (.sl .sh (.var 6 true) (.sm (.cst (.int 0))) (.sm (.cst (.int 1))))) (.cons (.bin .mul .sh (.lst .sh (.cons (.cst (.int 0)) .nil)) (.var 3 true)) (.cons (.bin .add .sh (.var 6 true) (.lst .sh (.cons (.var 3 true) .nil))) (.cons (.bin .add .sh (.lst .sh (.cons (.neg (.cst (.int 1))) .nil)) (.sl .sh (.var 6 true) (.sm (.cst (.int 1))) .no)) (.cons (.frz (.lst .sh .nil)) (.cons (.bin .add .sh (.lst .sh (.cons (.var 3 true) .nil)) (.sl .sh (.var 6 true) (.sm (.cst (.int 1))) .no)) .nil))))))))) (.cons (.iff (.nt (.fn 8 false (.cons (.fn 9 false (.cons (.var 2 true) (.cons (.var 15 true) .nil))) (.cons (.fn 4 false (.cons (.var 2 true) (.cons (.var 15 true) .nil))) .nil)))) (.cons (.ret (.one (.e (.cst (.bool false))))) .nil) .nil) .nil)) (.cons (.asg (.nm 16) (.bin .add .sh (.cst (.int 1)) (.bin .mod .sh (.idx (.var 5 true) (.cst (.int 20))) (.bi .max .sh (.cons (.cst (.int 1)) (.cons (.bin .fdiv .sh (.cst (.int 1000)) (.bi .max .sh (.cons (.bin .add .sh (.lst .sh (.cons (.cst (.int 1)) .nil)) (.comp .sh (.var 17 true) (.tp (.cons (.nm 17) (.cons (.nm 18) .nil))) (.seq (.var 2 true)) .nil [17, 18])) .nil))) .nil)))))) (.cons (.asg (.nm 19) (.comp .sh (.frz (.tup (.cons (.bin .mul .sh (.var 16 true) (.var 17 true)) (.cons (.var 18 true) .nil)))) (.tp (.cons (.nm 17) (.cons (.nm 18) .nil))) (.seq (.var 2 true)) .nil [17, 18])) (.cons (.iff (.orr (.cons (.cmp .ne (.fn 7 false (.cons (.var 19 true) (.cons (.var 6 true) .nil))) (.bin .mul .sh (.var 16 true) (.var 7 true))) (.cons (.cmp .ne (.fn 10 false (.cons (.var 19 true) (.cons (.var 6 true) .nil))) (.fn 10 false (.cons (.var 2 true) (.cons (.var 6 true) .nil)))) (.cons (.cmp .ne (.fn 3 false (.cons (.var 19 true) .nil)) (.var 6 true)) .nil)))) (.cons (.ret (.one (.e (.cst (.bool false))))) .nil) .nil) (.cons (.asg (.nm 20) (.comp .sh (.frz (.tup (.cons (.cst (.int 1)) (.cons (.var 18 true) .nil)))) (.tp (.cons (.nm 17) (.cons (.nm 18) .nil))) (.seq (.var 2 true)) .nil [17, 18])) (.cons (.asg (.tp (.cons (.nm 21) (.cons (.nm 22) .nil))) (.fn 10 false (.cons (.var 20 true) (.cons (.fn 3 false (.cons (.var 20 true) .nil)) .nil)))) (.cons (.asg (.nm 18) (.comp .sh (.idx (.idx (.var 20 true) (.var 10 true)) (.cst (.int 1))) (.nm 10) (.seq (.fn 3 false (.cons (.var 20 true) .nil))) .nil [10])) (.cons (.ret (.one (.e (.an (.cons (.cmp .eq (.var 18 true) (.bi .sorted .sh (.cons (.var 18 true) .nil))) (.cons (.cmp .le (.bin .mul .sh (.cst (.int 2)) (.var 21 true)) (.bin .mul .sh (.var 22 true) (.bin .add .sh (.bi .sum .sh (.cons (.var 18 true) .nil)) (.bi .max .sh (.cons (.var 18 true) .nil))))) .nil)))))) .nil))))))))))))))))))))))))
def f_law : Fn := ⟨"law", 1, .sh, runF T_law b_law 23⟩
theorem c_law_0 {ds : List D} (h : ds.length = 2 := by rfl) : evF T_law 0 false ds = f_law_cell.sem ds := evF_at rfl h
theorem c_law_1 {ds : List D} (h : ds.length = 3 := by rfl) : evF T_law 1 false ds = f_law_numbers.sem ds := evF_at rfl h
theorem c_law_2 {ds : List D} (h : ds.length = 2 := by rfl) : evF T_law 2 false ds = f_law_search.sem ds := evF_at rfl h
theorem c_law_3 {ds : List D} (h : ds.length = 1 := by rfl) : evF T_law 3 false ds = f_best_order.sem ds := evF_at rfl h
theorem c_law_4 {ds : List D} (h : ds.length = 2 := by rfl) : evF T_law 4 false ds = f_law_fulfils.sem ds := evF_at rfl h
theorem c_law_5 {ds : List D} (h : ds.length = 2 := by rfl) : evF T_law 5 false ds = f_law_cost.sem ds := evF_at rfl h
theorem c_law_6 {ds : List D} (h : ds.length = 1 := by rfl) : evF T_law 6 false ds = f_law_orders.sem ds := evF_at rfl h
theorem c_law_7 {ds : List D} (h : ds.length = 2 := by rfl) : evF T_law 7 false ds = f_cost_of.sem ds := evF_at rfl h
theorem c_law_8 {ds : List D} (h : ds.length = 2 := by rfl) : evF T_law 8 false ds = (f_law_same 9).sem ds := evF_at rfl h
theorem c_law_9 {ds : List D} (h : ds.length = 2 := by rfl) : evF T_law 9 false ds = f_is_best_order.sem ds := evF_at rfl h
theorem c_law_10 {ds : List D} (h : ds.length = 2 := by rfl) : evF T_law 10 false ds = f_mean_of.sem ds := evF_at rfl h
theorem c_law_11 {ds : List D} (h : ds.length = 2 := by rfl) : evF T_law 11 false ds = f_law_mean.sem ds := evF_at rfl h
theorem ct_law_0 {ds : List D} {b : Bool} (hs : f_law_cell.sem ds = .ok (.bool b)) (h : ds.length = 2 := by rfl) : evF T_law 0 true ds = .ok (.bool b) := evF_atC rfl rfl hs rfl h
theorem ct_law_4 {ds : List D} {b : Bool} (hs : f_law_fulfils.sem ds = .ok (.bool b)) (h : ds.length = 2 := by rfl) : evF T_law 4 true ds = .ok (.bool b) := evF_atC rfl rfl hs rfl h
theorem ct_law_5 {ds : List D} {b : Bool} (hs : f_law_cost.sem ds = .ok (.bool b)) (h : ds.length = 2 := by rfl) : evF T_law 5 true ds = .ok (.bool b) := evF_atC rfl rfl hs rfl h
theorem ct_law_6 {ds : List D} {b : Bool} (hs : f_law_orders.sem ds = .ok (.bool b)) (h : ds.length = 1 := by rfl) : evF T_law 6 true ds = .ok (.bool b) := evF_atC rfl rfl hs rfl h
theorem ct_law_7 {ds : List D} {b : Bool} (hs : f_cost_of.sem ds = .ok (.bool b)) (h : ds.length = 2 := by rfl) : evF T_law 7 true ds = .ok (.bool b) := evF_atC rfl rfl hs rfl h
theorem ct_law_8 {ds : List D} {b : Bool} (hs : (f_law_same 9).sem ds = .ok (.bool b)) (h : ds.length = 2 := by rfl) : evF T_law 8 true ds = .ok (.bool b) := evF_atC rfl rfl hs rfl h
theorem ct_law_9 {ds : List D} {b : Bool} (hs : f_is_best_order.sem ds = .ok (.bool b)) (h : ds.length = 2 := by rfl) : evF T_law 9 true ds = .ok (.bool b) := evF_atC rfl rfl hs rfl h
theorem ct_law_10 {ds : List D} {b : Bool} (hs : f_mean_of.sem ds = .ok (.bool b)) (h : ds.length = 2 := by rfl) : evF T_law 10 true ds = .ok (.bool b) := evF_atC rfl rfl hs rfl h
theorem ct_law_11 {ds : List D} {b : Bool} (hs : f_law_mean.sem ds = .ok (.bool b)) (h : ds.length = 2 := by rfl) : evF T_law 11 true ds = .ok (.bool b) := evF_atC rfl rfl hs rfl h
theorem e_law (ds : List D) : f_law.sem ds = runF T_law b_law 23 ds := rfl
theorem sc_law : FnScope N_law ["script"] (defScope s_law) := ⟨rfl, rfl, rfl, by decide +kernel, rfl, by decide +kernel, by decide +kernel⟩
theorem m_law : mSs ⟨N_law, defScope s_law, T_law, B, fun _ => true⟩ .sh b_law (defBody s_law) = true := by decide +kernel
section
variable {xs : Nat → Addr} {P : Program} {w : World} {K : PySem.W.Frag} {mg : Str → Option Value} {base : Heap}
theorem ok_cost_of (F : FunE K mg "cost_of" s_cost_of ["rooms", "order"]) (hb : BisE mg B)    : CalE xs P w K mg base 1 f_cost_of :=
  cal_ok F sc_cost_of m_cost_of rfl hb True.intro .nil True.intro rfl rfl rfl
theorem ok_mean_of (F : FunE K mg "mean_of" s_mean_of ["rooms", "order"]) (hb : BisE mg B)   (C_cost_of : CalE xs P w K mg base 1 f_cost_of) : CalE xs P w K mg base 2 f_mean_of :=
  cal_ok F sc_mean_of m_mean_of rfl hb True.intro .nil ⟨C_cost_of, True.intro⟩ rfl rfl rfl
theorem ok_stands_ahead (F : FunE K mg "stands_ahead" s_stands_ahead ["one", "other"]) (hb : BisE mg B)    : CalE xs P w K mg base 1 f_stands_ahead :=
  cal_ok F sc_stands_ahead m_stands_ahead rfl hb True.intro .nil True.intro rfl rfl rfl
theorem ok_best_order (F : FunE K mg "best_order" s_best_order ["rooms"]) (hb : BisE mg B)   (C_stands_ahead : CalE xs P w K mg base 1 f_stands_ahead) : CalE xs P w K mg base 2 f_best_order :=
  cal_ok F sc_best_order m_best_order rfl hb True.intro .nil ⟨C_stands_ahead, True.intro⟩ rfl rfl rfl
theorem ok_is_best_order (F : FunE K mg "is_best_order" s_is_best_order ["rooms", "order"]) (hb : BisE mg B)   (C_stands_ahead : CalE xs P w K mg base 1 f_stands_ahead) : CalE xs P w K mg base 2 f_is_best_order :=
  cal_ok F sc_is_best_order m_is_best_order rfl hb True.intro .nil ⟨C_stands_ahead, True.intro⟩ rfl rfl rfl
theorem ok_law_cell (F : FunE K mg "_law_cell" s_law_cell ["script", "k"]) (hb : BisE mg B)    : CalE xs P w K mg base 1 f_law_cell :=
  cal_ok F sc_law_cell m_law_cell rfl hb True.intro .nil True.intro rfl rfl rfl
theorem ok_law_numbers (F : FunE K mg "_law_numbers" s_law_numbers ["cell", "count", "limit"]) (hb : BisE mg B)    : CalE xs P w K mg base 1 f_law_numbers :=
  cal_ok F sc_law_numbers m_law_numbers rfl hb True.intro .nil True.intro rfl rfl rfl
theorem ok_law_same (F : FunE K mg "_law_same" s_law_same ["told", "due"]) (hb : BisE mg B) : ∀ k, CalE xs P w K mg base k (f_law_same k)
  | 0 => cal_no F rfl
  | k + 1 => cal_ok F sc_law_same (m_law_same _ (by cases k <;> rfl) (by cases k <;> rfl)) rfl hb True.intro .nil ⟨ok_law_same F hb k, True.intro⟩ rfl rfl rfl
theorem ok_law_search (F : FunE K mg "_law_search" s_law_search ["draws", "most"]) (hb : BisE mg B)    : CalE xs P w K mg base 1 f_law_search :=
  cal_ok F sc_law_search m_law_search rfl hb True.intro .nil True.intro rfl rfl rfl
theorem ok_law_cost (F : FunE K mg "_law_cost" s_law_cost ["rooms", "order"]) (hb : BisE mg B)    : CalE xs P w K mg base 1 f_law_cost :=
  cal_ok F sc_law_cost m_law_cost rfl hb True.intro .nil True.intro rfl rfl rfl
theorem ok_law_orders (F : FunE K mg "_law_orders" s_law_orders ["n"]) (hb : BisE mg B)    : CalE xs P w K mg base 1 f_law_orders :=
  cal_ok F sc_law_orders m_law_orders rfl hb True.intro .nil True.intro rfl rfl rfl
theorem ok_law_fulfils (F : FunE K mg "_law_fulfils" s_law_fulfils ["rooms", "order"]) (hb : BisE mg B)    : CalE xs P w K mg base 1 f_law_fulfils :=
  cal_ok F sc_law_fulfils m_law_fulfils rfl hb True.intro .nil True.intro rfl rfl rfl
theorem ok_law_mean (F : FunE K mg "_law_mean" s_law_mean ["rooms", "order"]) (hb : BisE mg B)   (C_law_cost : CalE xs P w K mg base 1 f_law_cost) : CalE xs P w K mg base 2 f_law_mean :=
  cal_ok F sc_law_mean m_law_mean rfl hb True.intro .nil ⟨C_law_cost, True.intro⟩ rfl rfl rfl
theorem walk  (F_cost_of : FunE K mg "cost_of" s_cost_of ["rooms", "order"]) (F_mean_of : FunE K mg "mean_of" s_mean_of ["rooms", "order"]) (F_stands_ahead : FunE K mg "stands_ahead" s_stands_ahead ["one", "other"]) (F_best_order : FunE K mg "best_order" s_best_order ["rooms"]) (F_is_best_order : FunE K mg "is_best_order" s_is_best_order ["rooms", "order"]) (F_law_cell : FunE K mg "_law_cell" s_law_cell ["script", "k"]) (F_law_numbers : FunE K mg "_law_numbers" s_law_numbers ["cell", "count", "limit"]) (F_law_same : FunE K mg "_law_same" s_law_same ["told", "due"]) (F_law_search : FunE K mg "_law_search" s_law_search ["draws", "most"]) (F_law_cost : FunE K mg "_law_cost" s_law_cost ["rooms", "order"]) (F_law_orders : FunE K mg "_law_orders" s_law_orders ["n"]) (F_law_fulfils : FunE K mg "_law_fulfils" s_law_fulfils ["rooms", "order"]) (F_law_mean : FunE K mg "_law_mean" s_law_mean ["rooms", "order"]) (F_law : FunE K mg "law" s_law ["script"])   (hb : BisE mg B) {fa : Addr} (hfa : mg "law" = some (.ref fa)) :
    ∃ fd : FuncData, (∀ (s : Shared) (v : Value), BindsTo s fd ⟨[v], []⟩ [("script", v)]) ∧ ∀ base : Heap, K.In base → base.Ns mainGlobals mg → At1 P w K mg base fa fd "script" (spL f_law) := by
  obtain ⟨fd, hb1, hF⟩ := law_ok (xs := fun _ => 0) (P := P) (w := w) (k := 9) F_law sc_law ⟨rfl, by decide, by decide⟩ m_law rfl hb True.intro .nil rfl hfa
  refine ⟨fd, hb1, fun base _ _ => hF base ?_⟩
  have C_cost_of := ok_cost_of (xs := fun _ => 0) (P := P) (w := w) (base := base) F_cost_of hb   
  have C_mean_of := ok_mean_of (xs := fun _ => 0) (P := P) (w := w) (base := base) F_mean_of hb   (C_cost_of.mono (by decide))
  have C_stands_ahead := ok_stands_ahead (xs := fun _ => 0) (P := P) (w := w) (base := base) F_stands_ahead hb   
  have C_best_order := ok_best_order (xs := fun _ => 0) (P := P) (w := w) (base := base) F_best_order hb   (C_stands_ahead.mono (by decide))
  have C_is_best_order := ok_is_best_order (xs := fun _ => 0) (P := P) (w := w) (base := base) F_is_best_order hb   (C_stands_ahead.mono (by decide))
  have C_law_cell := ok_law_cell (xs := fun _ => 0) (P := P) (w := w) (base := base) F_law_cell hb   
  have C_law_numbers := ok_law_numbers (xs := fun _ => 0) (P := P) (w := w) (base := base) F_law_numbers hb   
  have C_law_same := ok_law_same (xs := fun _ => 0) (P := P) (w := w) (base := base) F_law_same hb 9
  have C_law_search := ok_law_search (xs := fun _ => 0) (P := P) (w := w) (base := base) F_law_search hb   
  have C_law_cost := ok_law_cost (xs := fun _ => 0) (P := P) (w := w) (base := base) F_law_cost hb   
  have C_law_orders := ok_law_orders (xs := fun _ => 0) (P := P) (w := w) (base := base) F_law_orders hb   
  have C_law_fulfils := ok_law_fulfils (xs := fun _ => 0) (P := P) (w := w) (base := base) F_law_fulfils hb   
  have C_law_mean := ok_law_mean (xs := fun _ => 0) (P := P) (w := w) (base := base) F_law_mean hb   (C_law_cost.mono (by decide))
  exact ⟨C_law_cell.mono (by decide), C_law_numbers.mono (by decide), C_law_search.mono (by decide), C_best_order.mono (by decide), C_law_fulfils.mono (by decide), C_law_cost.mono (by decide), C_law_orders.mono (by decide), C_cost_of.mono (by decide), C_law_same.mono (by decide), C_is_best_order.mono (by decide), C_mean_of.mono (by decide), C_law_mean.mono (by decide), True.intro⟩
end
end K59

namespace K59
open PySem PySem.Spec PyProof.Rows L2 Pv Pv.Enc
abbrev Rm := T2 Int Int
/-! what a search in an order costs; the rule of ratios -/
section
variable (rm : List Rm)
def wt (x : Int) : Int := (ix rm x).a
def bt (x : Int) : Int := (ix rm x).b
def cst : Int → List Int → Int
  | _, [] => 0
  | g, x :: o => wt rm x * (g + bt rm x) + cst (g + bt rm x) o
/-- x may stand ahead of y -/
def Ahd (x y : Int) : Prop := wt rm y * bt rm x ≤ wt rm x * bt rm y
end
section
variable {rm : List Rm}
theorem cst_swap {g x y : Int} {r : List Int} (h : Ahd rm x y) : cst rm g (x :: y :: r) ≤ cst rm g (y :: x :: r) := by
  show wt rm x * (g + bt rm x) + (wt rm y * (g + bt rm x + bt rm y) + cst rm (g + bt rm x + bt rm y) r) ≤ wt rm y * (g + bt rm y) + (wt rm x * (g + bt rm y + bt rm x) + cst rm (g + bt rm y + bt rm x) r)
  have e : g + bt rm y + bt rm x = g + bt rm x + bt rm y := by omega
  rw [e]
  unfold Ahd at h
  have e1 : wt rm y * (g + bt rm x + bt rm y) = wt rm y * (g + bt rm y) + wt rm y * bt rm x := by rw [← Int.mul_add]; congr 1; omega
  have e2 : wt rm x * (g + bt rm x + bt rm y) = wt rm x * (g + bt rm x) + wt rm x * bt rm y := by rw [← Int.mul_add]
  rw [e1, e2]
  omega
theorem cst_front {x : Int} {q : List Int} : ∀ {p : List Int} {g : Int}, (∀ y ∈ p, Ahd rm x y) → cst rm g (x :: (p ++ q)) ≤ cst rm g (p ++ x :: q)
  | [], g, _ => Int.le_refl _
  | y :: p, g, h => by
    have ih := cst_front (p := p) (q := q) (g := g + bt rm y) fun z hz => h z (by simp [hz])
    refine Int.le_trans (cst_swap (h y (by simp))) ?_
    show wt rm y * (g + bt rm y) + cst rm (g + bt rm y) (x :: (p ++ q)) ≤ wt rm y * (g + bt rm y) + cst rm (g + bt rm y) (p ++ x :: q)
    omega
theorem smith : ∀ {l' l : List Int} {g : Int}, l'.Pairwise (Ahd rm) → l.Perm l' → cst rm g l' ≤ cst rm g l
  | [], l, g, _, hp => by rw [List.perm_nil.mp hp]; exact Int.le_refl _
  | x :: t, l, g, hs, hp => by
    obtain ⟨h1, h2⟩ := List.pairwise_cons.mp hs
    obtain ⟨p, q, rfl⟩ := List.append_of_mem (hp.mem_iff.mpr (List.mem_cons_self (a := x) (l := t)))
    have hpq : (p ++ q).Perm t := List.Perm.cons_inv (List.perm_middle.symm.trans hp)
    refine Int.le_trans ?_ (cst_front fun y hy => h1 y (hpq.mem_iff.mp (by simp [hy])))
    have ih := smith (g := g + bt rm x) h2 hpq
    show wt rm x * (g + bt rm x) + cst rm (g + bt rm x) t ≤ wt rm x * (g + bt rm x) + cst rm (g + bt rm x) (p ++ q)
    omega
end
end K59

namespace K59
open PySem PySem.Spec PyProof.Rows L2 Pv Pv.Enc
structure ROk (rm : List Rm) : Prop where
  w : ∀ r ∈ rm, 0 ≤ r.a ∧ r.a ≤ 1000
  b : ∀ r ∈ rm, 1 ≤ r.b ∧ r.b ≤ 1000
  l : rm.length ≤ 12
def In (rm : List Rm) (o : List Int) : Prop := ∀ x ∈ o, 0 ≤ x ∧ x < rm.length
theorem cst_app {rm : List Rm} : ∀ {p q : List Int} {g : Int}, cst rm g (p ++ q) = cst rm g p + cst rm (g + (p.map (bt rm)).sum) q
  | [], q, g => by simp [cst]
  | x :: p, q, g => by
    show wt rm x * (g + bt rm x) + cst rm (g + bt rm x) (p ++ q) = _
    rw [cst_app (p := p)]
    show _ = wt rm x * (g + bt rm x) + cst rm (g + bt rm x) p + cst rm (g + ((x :: p).map (bt rm)).sum) q
    rw [List.map_cons, List.sum_cons, Int.add_assoc g]
    omega
section
variable {rm : List Rm} (ro : ROk rm)
include ro
theorem cost_ok {o : List Int} (oi : In rm o) : f_cost_of.sem [.list (rm.map enc), .list (o.map PyData.int)] = .ok (.int (cst rm 0 o)) := by
  rw [e_cost_of]
  refine run_eq fun K hK => ?_
  refine W_nm ?_
  simp (disch := first | omega | (simp; done) | (simp; omega)) [okb, -R.ok_bind, -List.map_append, -List.map_set, -List.map_map, startE]
  refine W_nm ?_
  simp (disch := first | omega | (simp; done) | (simp; omega)) [okb, -R.ok_bind, -List.map_append, -List.map_set, -List.map_map]
  refine W_for (enc := PyData.int) (xs := o) (fun a e => ∃ x4 x5 x6, e = [some (.list (rm.map enc), true), some (.list (o.map PyData.int), true), some (.int (cst rm 0 a), true), some (.int (a.map (bt rm)).sum, true), x4, x5, x6]) (by simp (disch := first | omega | (simp; done) | (simp; omega)) [okb, -R.ok_bind, -List.map_append, -List.map_set, -List.map_map]) ⟨_, _, _, rfl⟩ ?_ ?_
  · rintro a x c e hx ⟨x4, x5, x6, rfl⟩ K' hT
    have xi := oi x (by rw [hx]; simp)
    have hr := ro.w _ (ix_mem (xs := rm) xi.1 xi.2)
    have ec : cst rm 0 (a ++ [x]) = cst rm 0 a + wt rm x * ((a.map (bt rm)).sum + bt rm x) := by
      rw [cst_app]
      show _ + (wt rm x * (0 + (a.map (bt rm)).sum + bt rm x) + 0) = _
      rw [Int.zero_add, Int.add_zero]
    have es : ((a ++ [x]).map (bt rm)).sum = (a.map (bt rm)).sum + bt rm x := by simp
    have eb : (ix rm x).b = bt rm x := rfl
    have ew : (ix rm x).a = wt rm x := rfl
    rw [ew] at hr
    rw [ec, es] at hT
    generalize cst rm 0 a = cc at hT
    generalize (a.map (bt rm)).sum = ss at hT
    simp (disch := first | omega | (simp; done) | (simp; omega)) [okb, -R.ok_bind, -List.map_append, -List.map_set, -List.map_map]
    refine W_asg ?_
    simp (disch := first | omega | (simp; done) | (simp; omega)) [okb, -R.ok_bind, -List.map_append, -List.map_set, -List.map_map, xi, eb, ew]
    refine W_aug ?_
    simp (disch := first | omega | (simp; done) | (simp; omega)) [okb, -R.ok_bind, -List.map_append, -List.map_set, -List.map_map]
    refine W_aug ?_
    simp (disch := first | omega | (simp; done) | (simp; omega)) [okb, -R.ok_bind, -List.map_append, -List.map_set, -List.map_map]
    exact W_nil (hT.nx _ ⟨_, _, _, rfl⟩)
  · rintro e ⟨x4, x5, x6, rfl⟩
    refine W_one ?_
    simp (disch := first | omega | (simp; done) | (simp; omega)) [okb, -R.ok_bind, -List.map_append, -List.map_set, -List.map_map]
    exact hK.rt _ rfl
theorem law_cost_ok {o : List Int} (oi : In rm o) : f_law_cost.sem [.list (rm.map enc), .list (o.map PyData.int)] = .ok (.int (cst rm 0 o)) := by
  rw [e_law_cost]
  refine run_eq fun K hK => ?_
  refine W_nm ?_
  simp (disch := first | omega | (simp; done) | (simp; omega)) [okb, -R.ok_bind, -List.map_append, -List.map_set, -List.map_map, startE]
  refine W_nm ?_
  simp (disch := first | omega | (simp; done) | (simp; omega)) [okb, -R.ok_bind, -List.map_append, -List.map_set, -List.map_map]
  refine W_for (enc := PyData.int) (xs := o) (fun a e => ∃ x4, e = [some (.list (rm.map enc), true), some (.list (o.map PyData.int), true), some (.int (a.map (bt rm)).sum, true), some (.int (cst rm 0 a), true), x4]) (by simp (disch := first | omega | (simp; done) | (simp; omega)) [okb, -R.ok_bind, -List.map_append, -List.map_set, -List.map_map]) ⟨_, rfl⟩ ?_ ?_
  · rintro a x c e hx ⟨x4, rfl⟩ K' hT
    have xi := oi x (by rw [hx]; simp)
    have hr := ro.w _ (ix_mem (xs := rm) xi.1 xi.2)
    have ec : cst rm 0 (a ++ [x]) = cst rm 0 a + wt rm x * ((a.map (bt rm)).sum + bt rm x) := by
      rw [cst_app]
      show _ + (wt rm x * (0 + (a.map (bt rm)).sum + bt rm x) + 0) = _
      rw [Int.zero_add, Int.add_zero]
    have es : ((a ++ [x]).map (bt rm)).sum = (a.map (bt rm)).sum + bt rm x := by simp
    have eb : (ix rm x).b = bt rm x := rfl
    have ew : (ix rm x).a = wt rm x := rfl
    rw [ew] at hr
    rw [ec, es] at hT
    generalize cst rm 0 a = cc at hT
    generalize (a.map (bt rm)).sum = ss at hT
    simp (disch := first | omega | (simp; done) | (simp; omega)) [okb, -R.ok_bind, -List.map_append, -List.map_set, -List.map_map]
    refine W_nm ?_
    simp (disch := first | omega | (simp; done) | (simp; omega)) [okb, -R.ok_bind, -List.map_append, -List.map_set, -List.map_map, xi, eb]
    refine W_nm ?_
    simp (disch := first | omega | (simp; done) | (simp; omega)) [okb, -R.ok_bind, -List.map_append, -List.map_set, -List.map_map, xi, ew]
    exact W_nil (hT.nx _ ⟨_, rfl⟩)
  · rintro e ⟨x4, rfl⟩
    refine W_one ?_
    simp (disch := first | omega | (simp; done) | (simp; omega)) [okb, -R.ok_bind, -List.map_append, -List.map_set, -List.map_map]
    exact hK.rt _ rfl
end
theorem stands_ok {p q : Rm} (hp : 0 ≤ p.a ∧ p.a ≤ 1000) (hq : 0 ≤ q.a ∧ q.a ≤ 1000) : f_stands_ahead.sem [enc p, enc q] = .ok (.bool (decide (q.a * p.b ≤ p.a * q.b))) := by
  rw [e_stands_ahead]
  refine run_eq fun K hK => ?_
  refine W_one ?_
  simp (disch := first | omega | (simp; done) | (simp; omega)) [okb, -R.ok_bind, -List.map_append, -List.map_set, -List.map_map, startE]
  exact hK.rt _ rfl
end K59

namespace K59
open PySem PySem.Spec PyProof.Rows L2 Pv Pv.Enc
theorem W_enm {T : Sg} {env : Ev} {K : Fl → Prop} {r : Ss} {α : Type} [Inhabited α] {f : α → D} {xs : List α} {t : G} {it : Pv.I} {b : Ss} (I : Nat → Ev → Prop) (hi : evi T it env = .ok (enumD 0 (xs.map f))) (h0 : I 0 env) (hs : ∀ k e, k < xs.length → I k e → ∀ K', Tn (I (k + 1)) (KS T r K) K' → W (gset t (.tuple [.int k, f (ix xs k)]) e) fun e' => W (evSs T b e') K') (hk : ∀ e, I xs.length e → W (evSs T r e) K) : W (evSs T (.cons (.fr t it b) r) env) K := by
  rw [enumD_rng] at hi
  refine W_for (enc := fun k : Nat => PyData.tuple [.int k, f (ix xs k)]) (xs := List.range xs.length) (fun l e => l = List.range l.length ∧ I l.length e) hi ⟨rfl, h0⟩ (fun a x c e h1 h2 K' hT => ?_) (fun e h => hk e (by simpa using h.2))
  have hx : x = a.length ∧ a.length < xs.length := by
    have := congrArg (fun l => l[a.length]?) h1
    simp only [List.getElem?_append_right (Nat.le_refl _), Nat.sub_self, List.getElem?_cons_zero] at this
    have hl := congrArg List.length h1
    simp at hl
    have hlt : a.length < xs.length := by omega
    rw [List.getElem?_range hlt] at this
    exact ⟨(Option.some.inj this).symm, hlt⟩
  obtain ⟨rfl, hlt⟩ := hx
  refine hs a.length e hlt h2.2 K' ⟨fun e he => hT.nx e ⟨?_, by simpa using he⟩, fun e he => hT.ct e ⟨?_, by simpa using he⟩, hT.bk, hT.rt, hT.ex⟩
  · rw [List.length_append, List.length_singleton, List.range_succ, ← h2.1]
  · rw [List.length_append, List.length_singleton, List.range_succ, ← h2.1]
theorem W_insM {T : Sg} {env : Ev} {K : Fl → Prop} {r : Ss} {α : Type} {f : α → D} {i : Nat} {xs : List α} {k e : E} {n : Int} (hl : lk env i = some (.list (xs.map f), false)) (ho : T.own i = .lst .sh) (hs : xs.length < 16777216) (hk : ev T k env = .ok (.int n)) (n0 : 0 ≤ n ∧ n < 9223372036854775808) (h : W (ev T e env) fun d => ∃ y, d = f y ∧ W (evSs T r (put env i (some (.list ((xs.take n.toNat ++ y :: xs.drop n.toNat).map f), false)))) K) : W (evSs T (.cons (.ins i .nil k e) r) env) K := by
  refine W_cons ?_
  obtain ⟨d, h1, y, rfl, h2⟩ := h
  refine ⟨.nx _, ?_, h2⟩
  show (evPa T .nil env >>= _) = _
  show (toInt (ev T k env) >>= _) = _
  rw [hk]
  show (noX (ev T e env) >>= _) = _
  rw [h1]
  show mutE T i [] (fIns n (f y)) env = _
  unfold mutE
  rw [hl, ho]
  show (fIns n (f y) (xs.map f) >>= _) >>= _ = _
  unfold fIns
  rw [if_pos ⟨by simpa using hs, n0.1, n0.2⟩]
  show R.ok (Fl.nx _) = _
  rw [← List.map_take, ← List.map_drop]
  simp
instance {rm : List Rm} {x y : Int} : Decidable (Ahd rm x y) := inferInstanceAs (Decidable (_ ≤ _))
theorem fm_if {α : Type} {p : α → Bool} {f : α → D} : ∀ xs : List α, xs.filterMap (fun x => if p x = true then some (f x) else none) = (xs.filter p).map f
  | [] => rfl
  | x :: r => by
    cases q : p x with
    | true => rw [List.filterMap_cons, if_pos q, List.filter_cons_of_pos q, List.map_cons]; simp only [fm_if r]
    | false => rw [List.filterMap_cons, if_neg (by rw [q]; exact Bool.false_ne_true), List.filter_cons_of_neg (by rw [q]; exact Bool.false_ne_true)]; simp only [fm_if r]
theorem prefix_ok {p : Int → Bool} {Rl : Int → Int → Prop} : ∀ {l : List Int}, l.Pairwise Rl → (∀ y ∈ l, ∀ z ∈ l, Rl y z → p z = true → p y = true) → l.take (l.filter p).length = l.filter p ∧ ∀ z ∈ l.drop (l.filter p).length, p z = false
  | [], _, _ => ⟨rfl, fun z h => by simp at h⟩
  | y :: t, hl, hp => by
    obtain ⟨h1, h2⟩ := List.pairwise_cons.mp hl
    cases q : p y with
    | true =>
      obtain ⟨a, b⟩ := prefix_ok h2 fun u hu v hv => hp u (by simp [hu]) v (by simp [hv])
      rw [List.filter_cons_of_pos q, List.length_cons, List.take_succ_cons, List.drop_succ_cons, a]
      exact ⟨rfl, b⟩
    | false =>
      have none_ : ∀ z ∈ t, p z = false := fun z hz => by
        cases w : p z with
        | false => rfl
        | true =>
          have := hp y (by simp) z (by simp [hz]) (h1 z hz) w
          rw [q] at this
          cases this
      have e : t.filter p = [] := List.filter_eq_nil_iff.mpr fun z hz => by rw [none_ z hz]; exact Bool.false_ne_true
      rw [List.filter_cons_of_neg (by rw [q]; exact Bool.false_ne_true), e]
      refine ⟨rfl, fun z hz => ?_⟩
      rcases List.mem_cons.mp hz with e | e
      · rw [e]; exact q
      · exact none_ z e
/-- the best order, room by room -/
def bo (rm : List Rm) : Nat → List Int
  | 0 => []
  | k + 1 => (bo rm k).take ((bo rm k).filter fun y => decide (Ahd rm y k)).length ++ (k : Int) :: (bo rm k).drop ((bo rm k).filter fun y => decide (Ahd rm y k)).length
section
variable {rm : List Rm} (ro : ROk rm)
include ro
theorem bt_pos {x : Int} (h : 0 ≤ x ∧ x < rm.length) : 1 ≤ bt rm x ∧ bt rm x ≤ 1000 := ro.b _ (ix_mem h.1 h.2)
theorem ahd_trans {x y z : Int} (hx : 0 ≤ x ∧ x < rm.length) (hy : 0 ≤ y ∧ y < rm.length) (hz : 0 ≤ z ∧ z < rm.length) (h1 : Ahd rm x y) (h2 : Ahd rm y z) : Ahd rm x z := by
  unfold Ahd at *
  have px := bt_pos ro hx
  have py := bt_pos ro hy
  have pz := bt_pos ro hz
  have a := Int.mul_le_mul_of_nonneg_right h2 (show 0 ≤ bt rm x by omega)
  have b := Int.mul_le_mul_of_nonneg_right h1 (show 0 ≤ bt rm z by omega)
  refine Int.le_of_mul_le_mul_right (a := bt rm y) ?_ (by omega)
  have e1 : wt rm z * bt rm x * bt rm y = wt rm z * bt rm y * bt rm x := by rw [Int.mul_assoc, Int.mul_assoc, Int.mul_comm (bt rm x)]
  have e2 : wt rm y * bt rm z * bt rm x = wt rm y * bt rm x * bt rm z := by rw [Int.mul_assoc, Int.mul_assoc, Int.mul_comm (bt rm z)]
  have e3 : wt rm x * bt rm y * bt rm z = wt rm x * bt rm z * bt rm y := by rw [Int.mul_assoc, Int.mul_assoc, Int.mul_comm (bt rm y)]
  rw [e1]
  rw [e2] at a
  rw [e3] at b
  exact Int.le_trans a b
theorem ahd_total {x y : Int} (h : ¬ Ahd rm x y) : Ahd rm y x := by
  unfold Ahd at *
  omega
theorem best_ok0 : ∃ best : List Int, f_best_order.sem [.list (rm.map enc)] = .ok (.list (best.map PyData.int)) ∧ best = bo rm rm.length ∧ best.Perm ((List.range rm.length).map fun k : Nat => (k : Int)) ∧ best.Pairwise (Ahd rm) := by
  rw [e_best_order]
  have rl := ro.l
  have key : ∃ d, runF T_best_order b_best_order 6 [.list (rm.map enc)] = .ok d ∧ ∃ best : List Int, d = .list (best.map PyData.int) ∧ best = bo rm rm.length ∧ best.Perm ((List.range rm.length).map fun k : Nat => (k : Int)) ∧ best.Pairwise (Ahd rm) := by
    refine run_W fun K hK => ?_
    refine W_own ?_
    simp (disch := first | omega | (simp; done) | (simp; omega)) [okb, -R.ok_bind, -List.map_append, -List.map_set, -List.map_map, startE]
    refine W_enm (f := (enc : Rm → D)) (xs := rm) (fun k e => ∃ (fo : List Int) (x2 x3 x4 x5 : Option (D × Bool)), e = [some (.list (rm.map enc), true), some (.list (fo.map PyData.int), false), x2, x3, x4, x5] ∧ fo = bo rm k ∧ fo.Perm ((List.range k).map fun k : Nat => (k : Int)) ∧ fo.Pairwise (Ahd rm)) (by simp (disch := first | omega | (simp; done) | (simp; omega)) [okb, -R.ok_bind, -List.map_append, -List.map_set, -List.map_map]) ⟨[], _, _, _, _, rfl, rfl, .refl _, .nil⟩ ?_ ?_
    · rintro k e hk ⟨fo, x2, x3, x4, x5, rfl, fe, pm, pw⟩ K' hT
      have fi : ∀ y ∈ fo, 0 ≤ y ∧ y < rm.length := fun y hy => by
        obtain ⟨j, hj, rfl⟩ := List.mem_map.mp (pm.mem_iff.mp hy)
        have := List.mem_range.mp hj
        omega
      have fl : fo.length = k := by rw [pm.length_eq]; simp
      have ki : 0 ≤ (k : Int) ∧ (k : Int) < rm.length := by omega
      have hq := ro.w _ (ix_mem (xs := rm) ki.1 ki.2)
      simp (disch := first | omega | (simp; done) | (simp; omega)) [okb, -R.ok_bind, -List.map_append, -List.map_set, -List.map_map]
      refine W_nm ?_
      simp (disch := first | omega | (simp; done) | (simp; omega)) [okb, -R.ok_bind, -List.map_append, -List.map_set, -List.map_map]
      rw [goC_map (enc := PyData.int) (g := fun y => if decide (Ahd rm y k) = true then some (.int y) else none) (fun y hy => ?_) (by show 0 + fo.length ≤ _; omega), List.nil_append, fm_if]
      rotate_left
      · have yi := fi y hy
        have hp := ro.w _ (ix_mem (xs := rm) yi.1 yi.2)
        have so : f_stands_ahead.sem [enc (ix rm y), enc (ix rm (k : Int))] = .ok (.bool (decide (Ahd rm y k))) := stands_ok hp hq
        have so2 : evF T_best_order 0 false [enc (ix rm y), enc (ix rm (k : Int))] = .ok (.bool (decide (Ahd rm y k))) := (c_best_order_0).trans so
        by_cases q : Ahd rm y k
        · rw [decide_eq_true q] at so2
          simp only [enc_T2, enc_int] at so2
          simp (disch := first | omega | (simp; done) | (simp; omega)) [okb, -R.ok_bind, -List.map_append, -List.map_set, -List.map_map, step_eq, so2, q, yi]
        · rw [decide_eq_false q] at so2
          simp only [enc_T2, enc_int] at so2
          simp (disch := first | omega | (simp; done) | (simp; omega)) [okb, -R.ok_bind, -List.map_append, -List.map_set, -List.map_map, step_eq, so2, q, yi]
      have P := prefix_ok (p := fun y => decide (Ahd rm y k)) pw fun y hy z hz h1 h2 => decide_eq_true (ahd_trans ro (fi y hy) (fi z hz) ki h1 (of_decide_eq_true h2))
      have fle : (fo.filter fun y => decide (Ahd rm y k)).length ≤ fo.length := List.length_filter_le _ _
      have all : ∀ y ∈ fo.filter fun y => decide (Ahd rm y k), Ahd rm y k := fun y hy => of_decide_eq_true (List.mem_filter.mp hy).2
      have fe2 : bo rm (k + 1) = fo.take (fo.filter fun y => decide (Ahd rm y k)).length ++ (k : Int) :: fo.drop (fo.filter fun y => decide (Ahd rm y k)).length := by rw [fe]; rfl
      generalize hm : (fo.filter fun y => decide (Ahd rm y k)).length = m at P fle fe2
      have tk : (fo.filter fun y => decide (Ahd rm y k)) = fo.take m := P.1.symm
      rw [tk] at all ⊢
      have ml : (List.take m (fo.map PyData.int)).length = m := by rw [List.length_take, List.length_map]; omega
      have lm : evBi .len .sh [.list (List.take m (fo.map PyData.int))] = .ok (.int (m : Int)) := by rw [evBi_len, ml]
      simp (disch := first | omega | (simp; done) | (simp; omega)) [okb, -R.ok_bind, -List.map_append, -List.map_set, -List.map_map, -evBi_len]
      refine ⟨PyData.int (m : Int), lm, ?_⟩
      refine W_insM (f := PyData.int) (xs := fo) (n := (m : Int)) rfl rfl (by omega) rfl (by omega) ?_
      simp (disch := first | omega | (simp; done) | (simp; omega)) [okb, -R.ok_bind, -List.map_append, -List.map_set, -List.map_map]
      refine W_nil (hT.nx _ ⟨fo.take m ++ (k : Int) :: fo.drop m, _, _, _, _, by first | rfl | (simp; done), fe2.symm, ?_, ?_⟩)
      · rw [List.range_succ, List.map_append]
        refine List.perm_middle.trans ?_
        rw [List.take_append_drop]
        exact (List.perm_append_singleton (k : Int) ((List.range k).map fun k : Nat => (k : Int))).symm.trans (.refl _) |>.trans (.refl _) |> fun q => (List.Perm.cons _ pm).trans q
      · rw [← List.take_append_drop m fo, List.pairwise_append] at pw
        refine List.pairwise_append.mpr ⟨pw.1, List.pairwise_cons.mpr ⟨fun z hz => ahd_total ro (of_decide_eq_false (P.2 z hz)), pw.2.1⟩, fun y hy z hz => ?_⟩
        rcases List.mem_cons.mp hz with e | e
        · rw [e]; exact all y hy
        · exact pw.2.2 y hy z e
    · rintro e ⟨fo, x2, x3, x4, x5, rfl, fe, pm, pw⟩
      exact W_mv rfl (hK.rt _ ⟨fo, rfl, fe, pm, pw⟩)
  obtain ⟨d, e, best, rfl, h0, h1, h2⟩ := key
  exact ⟨best, e, h0, h1, h2⟩
theorem best_ok : f_best_order.sem [.list (rm.map enc)] = .ok (.list ((bo rm rm.length).map PyData.int)) ∧ (bo rm rm.length).Perm ((List.range rm.length).map fun k : Nat => (k : Int)) ∧ (bo rm rm.length).Pairwise (Ahd rm) := by
  obtain ⟨best, h1, h2, h3, h4⟩ := best_ok0 ro
  subst h2
  exact ⟨h1, h3, h4⟩
end
end K59

namespace K59
open PySem PySem.Spec PyProof.Rows L2 Pv Pv.Enc
def rI (n : Nat) : List Int := (List.range n).map fun k : Nat => (k : Int)
theorem rI_pw {n : Nat} : (rI n).Pairwise (· ≤ ·) := by
  unfold rI
  rw [List.pairwise_map]
  exact (List.pairwise_lt_range (n := n)).imp fun h => by omega
theorem rI_nd {n : Nat} : (rI n).Nodup := by
  unfold rI
  rw [List.Nodup, List.pairwise_map]
  exact (List.pairwise_lt_range (n := n)).imp fun h => by omega
theorem sort_iff {o : List Int} {n : Nat} : sortI o = rI n ↔ o.Perm (rI n) :=
  ⟨fun h => (sortI_perm o).symm.trans (by rw [h]), fun h => (sortI_eq h.symm rI_pw).symm⟩
theorem rng_map {n : Nat} : rngD 0 n = (rI n).map PyData.int := by
  unfold rngD rI
  rw [List.map_map]
  refine List.map_congr_left fun k _ => ?_
  show PyData.int (0 + (k : Int)) = PyData.int (k : Int)
  rw [Int.zero_add]
/-- a fine order -/
structure Fine (rm : List Rm) (o : List Int) : Prop where
  p : o.Perm (rI rm.length)
  s : o.Pairwise (Ahd rm)
theorem Fine.inn {rm : List Rm} {o : List Int} (h : o.Perm (rI rm.length)) : In rm o := fun x hx => by
  obtain ⟨k, hk, rfl⟩ := List.mem_map.mp (h.mem_iff.mp hx)
  have := List.mem_range.mp hk
  omega
noncomputable def pB (P : Prop) : Bool := @decide P (Classical.propDecidable _)
theorem pB_t {P : Prop} (h : P) : pB P = true := by unfold pB; exact @decide_eq_true _ (Classical.propDecidable _) h
theorem pB_f {P : Prop} (h : ¬ P) : pB P = false := by unfold pB; exact @decide_eq_false _ (Classical.propDecidable _) h
theorem pB_iff {P : Prop} : pB P = true ↔ P := by unfold pB; exact @decide_eq_true_iff _ (Classical.propDecidable _)
theorem ix_get {α : Type} [Inhabited α] {xs : List α} {k : Nat} (h : k < xs.length) : ix xs (k : Int) = xs[k] := by
  rw [ix_nat, List.getD_eq_getElem?_getD, List.getElem?_eq_getElem h]; rfl
section
variable {rm : List Rm} (ro : ROk rm)
include ro
theorem chain_pw : ∀ {o : List Int}, In rm o → (∀ k : Nat, k + 1 < o.length → Ahd rm (ix o (k : Int)) (ix o ((k : Int) + 1))) → o.Pairwise (Ahd rm)
  | [], _, _ => .nil
  | [x], _, _ => by simp
  | x :: y :: t, oi, h => by
    have h0 : Ahd rm x y := h 0 (by simp)
    have ih := chain_pw (o := y :: t) (fun z hz => oi z (by simp [hz])) fun k hk => by
      have := h (k + 1) (by simp at hk ⊢; omega)
      rw [show ((k + 1 : Nat) : Int) + 1 = ((k + 2 : Nat) : Int) by omega, ix_get (by simp at hk ⊢; omega), ix_get (by simp at hk ⊢; omega)] at this
      rw [show (k : Int) + 1 = ((k + 1 : Nat) : Int) by omega, ix_get (by omega), ix_get hk]
      exact this
    refine List.pairwise_cons.mpr ⟨fun z hz => ?_, ih⟩
    rcases List.mem_cons.mp hz with e | e
    · rw [e]; exact h0
    · exact ahd_trans ro (oi x (by simp)) (oi y (by simp)) (oi z (by simp [e])) h0 ((List.pairwise_cons.mp ih).1 z e)
theorem pw_chain {o : List Int} (h : o.Pairwise (Ahd rm)) (k : Nat) (hk : k + 1 < o.length) : Ahd rm (ix o (k : Int)) (ix o ((k : Int) + 1)) := by
  rw [show (k : Int) + 1 = ((k + 1 : Nat) : Int) by omega, ix_get (by omega), ix_get hk]
  exact List.pairwise_iff_getElem.mp h k (k + 1) (by omega) hk (by omega)
theorem fulfils_ok {o : List Int} (ol : o.length < 60) : f_law_fulfils.sem [.list (rm.map enc), .list (o.map PyData.int)] = .ok (.bool (pB (Fine rm o))) := by
  rw [e_law_fulfils]
  have rl := ro.l
  have ne1 : evCmp .ne (.list ((sortI o).map PyData.int)) (.list (rngD 0 rm.length)) = .ok (!decide (sortI o = rI rm.length)) := by
    rw [rng_map]
    exact ne_enc (sortI o) (rI rm.length)
  refine run_eq fun K hK => ?_
  refine W_if ?_
  by_cases q : sortI o = rI rm.length
  · rw [decide_eq_true q] at ne1
    have pm := sort_iff.mp q
    have oi := Fine.inn pm
    have ol2 : o.length = rm.length := by rw [pm.length_eq]; simp [rI]
    simp (disch := first | omega | (simp; done) | (simp; omega)) [okb, -R.ok_bind, -List.map_append, -List.map_set, -List.map_map, startE, ne1]
    refine W_nil ?_
    refine W_rng (lo := 0) (n := o.length - 1) (fun k e => ∃ (x2 x3 x4 : Option (D × Bool)), e = [some (.list (rm.map enc), true), some (.list (o.map PyData.int), true), x2, x3, x4] ∧ ∀ j : Nat, j < k → Ahd rm (ix o (j : Int)) (ix o ((j : Int) + 1))) (by simp (disch := first | omega | (simp; done) | (simp; omega)) [okb, -R.ok_bind, -List.map_append, -List.map_set, -List.map_map]) ⟨_, _, _, rfl, fun j hj => by omega⟩ ?_ ?_
    · rintro k e hk ⟨x2, x3, x4, rfl, I⟩ K' hT
      have k1 : (k : Int) < o.length := by omega
      have k2 : (k : Int) + 1 < o.length := by omega
      have i1 := oi _ (ix_mem (xs := o) (i := (k : Int)) (by omega) k1)
      have i2 := oi _ (ix_mem (xs := o) (i := (k : Int) + 1) (by omega) k2)
      have w1 := ro.w _ (ix_mem (xs := rm) i1.1 i1.2)
      have w2 := ro.w _ (ix_mem (xs := rm) i2.1 i2.2)
      have A : Ahd rm (ix o (k : Int)) (ix o ((k : Int) + 1)) ↔ ¬ (ix rm (ix o (k : Int))).a * (ix rm (ix o ((k : Int) + 1))).b < (ix rm (ix o ((k : Int) + 1))).a * (ix rm (ix o (k : Int))).b := by
        unfold Ahd wt bt
        omega
      simp (disch := first | omega | (simp; done) | (simp; omega)) [okb, -R.ok_bind, -List.map_append, -List.map_set, -List.map_map]
      refine W_nm ?_
      simp (disch := first | omega | (simp; done) | (simp; omega)) [okb, -R.ok_bind, -List.map_append, -List.map_set, -List.map_map, k1, i1]
      refine W_nm ?_
      simp (disch := first | omega | (simp; done) | (simp; omega)) [okb, -R.ok_bind, -List.map_append, -List.map_set, -List.map_map, k2, i2]
      refine W_if ?_
      by_cases z : (ix rm (ix o (k : Int))).a * (ix rm (ix o ((k : Int) + 1))).b < (ix rm (ix o ((k : Int) + 1))).a * (ix rm (ix o (k : Int))).b
      · simp (disch := first | omega | (simp; done) | (simp; omega)) [okb, -R.ok_bind, -List.map_append, -List.map_set, -List.map_map, z]
        refine W_one ?_
        simp (disch := first | omega | (simp; done) | (simp; omega)) [okb, -R.ok_bind, -List.map_append, -List.map_set, -List.map_map]
        exact hT.rt _ (hK.rt _ (by rw [pB_f fun F => A.mp (pw_chain ro F.s k (by omega)) z]))
      · simp (disch := first | omega | (simp; done) | (simp; omega)) [okb, -R.ok_bind, -List.map_append, -List.map_set, -List.map_map, z]
        refine W_nil (W_nil (hT.nx _ ⟨_, _, _, rfl, fun j hj => ?_⟩))
        by_cases y : j = k
        · subst y; exact A.mpr z
        · exact I j (by omega)
    · rintro e ⟨x2, x3, x4, rfl, I⟩
      refine W_one ?_
      simp (disch := first | omega | (simp; done) | (simp; omega)) [okb, -R.ok_bind, -List.map_append, -List.map_set, -List.map_map]
      exact hK.rt _ (by rw [pB_t ⟨pm, chain_pw ro oi fun k hk => I k (by omega)⟩])
  · rw [decide_eq_false q] at ne1
    simp (disch := first | omega | (simp; done) | (simp; omega)) [okb, -R.ok_bind, -List.map_append, -List.map_set, -List.map_map, startE, ne1]
    refine W_one ?_
    simp (disch := first | omega | (simp; done) | (simp; omega)) [okb, -R.ok_bind, -List.map_append, -List.map_set, -List.map_map]
    exact hK.rt _ (by rw [pB_f fun F => q (sort_iff.mpr F.p)])
end
end K59

namespace K59
open PySem PySem.Spec PyProof.Rows L2 Pv Pv.Enc
section
variable {rm : List Rm} (ro : ROk rm)
include ro
theorem is_best_ok {o : List Int} (ol : o.length < 60) : f_is_best_order.sem [.list (rm.map enc), .list (o.map PyData.int)] = .ok (.bool (pB (Fine rm o))) := by
  rw [e_is_best_order]
  have rl := ro.l
  have ne1 : evCmp .ne (.list ((sortI o).map PyData.int)) (.list (rngD 0 rm.length)) = .ok (!decide (sortI o = rI rm.length)) := by
    rw [rng_map]
    exact ne_enc (sortI o) (rI rm.length)
  refine run_eq fun K hK => ?_
  refine W_if ?_
  by_cases q : sortI o = rI rm.length
  · rw [decide_eq_true q] at ne1
    have pm := sort_iff.mp q
    have oi := Fine.inn pm
    have ol2 : o.length = rm.length := by rw [pm.length_eq]; simp [rI]
    simp (disch := first | omega | (simp; done) | (simp; omega)) [okb, -R.ok_bind, -List.map_append, -List.map_set, -List.map_map, startE, ne1]
    refine W_nil ?_
    refine W_one ?_
    simp (disch := first | omega | (simp; done) | (simp; omega)) [okb, -R.ok_bind, -List.map_append, -List.map_set, -List.map_map]
    rw [goC_rngA (g := fun k : Nat => .bool (decide (Ahd rm (ix o (k : Int)) (ix o ((k : Int) + 1))))) (fun k hk => ?_) (by omega)]
    rotate_left
    · have k1 : (k : Int) < o.length := by omega
      have k2 : (k : Int) + 1 < o.length := by omega
      have i1 := oi _ (ix_mem (xs := o) (i := (k : Int)) (by omega) k1)
      have i2 := oi _ (ix_mem (xs := o) (i := (k : Int) + 1) (by omega) k2)
      have w1 := ro.w _ (ix_mem (xs := rm) i1.1 i1.2)
      have w2 := ro.w _ (ix_mem (xs := rm) i2.1 i2.2)
      have so : f_stands_ahead.sem [enc (ix rm (ix o (k : Int))), enc (ix rm (ix o ((k : Int) + 1)))] = .ok (.bool (decide (Ahd rm (ix o (k : Int)) (ix o ((k : Int) + 1))))) := stands_ok w1 w2
      have so2 : evF T_is_best_order 0 false [enc (ix rm (ix o (k : Int))), enc (ix rm (ix o ((k : Int) + 1)))] = .ok (.bool (decide (Ahd rm (ix o (k : Int)) (ix o ((k : Int) + 1))))) := (c_is_best_order_0).trans so
      simp only [enc_T2, enc_int] at so2
      simp (disch := first | omega | (simp; done) | (simp; omega)) [okb, -R.ok_bind, -List.map_append, -List.map_set, -List.map_map, step_eq, so2, k1, k2, i1, i2]
    have ea : evBi .all .sh [.list ((List.range (o.length - 1)).map fun k : Nat => PyData.bool (decide (Ahd rm (ix o (k : Int)) (ix o ((k : Int) + 1)))))] = .ok (.bool ((List.range (o.length - 1)).all fun k : Nat => decide (Ahd rm (ix o (k : Int)) (ix o ((k : Int) + 1))))) := evBi_allf
    simp (disch := first | omega | (simp; done) | (simp; omega)) [okb, -R.ok_bind, -List.map_append, -List.map_set, -List.map_map, ea, -evBi_allf]
    refine hK.rt _ (congrArg PyData.bool ?_)
    rw [Bool.eq_iff_iff, pB_iff]
    simp
    constructor
    · intro h
      exact ⟨pm, chain_pw ro oi fun k hk => h k (by omega)⟩
    · intro F k hk
      exact pw_chain ro F.s k (by omega)
  · rw [decide_eq_false q] at ne1
    simp (disch := first | omega | (simp; done) | (simp; omega)) [okb, -R.ok_bind, -List.map_append, -List.map_set, -List.map_map, startE, ne1]
    refine W_one ?_
    simp (disch := first | omega | (simp; done) | (simp; omega)) [okb, -R.ok_bind, -List.map_append, -List.map_set, -List.map_map]
    exact hK.rt _ (by rw [pB_f fun F => q (sort_iff.mpr F.p)])
end
end K59

namespace K59
open PySem PySem.Spec PyProof.Rows L2 Pv Pv.Enc
/-! Euclid -/
def eu : Nat → Int → Int → Int × Int
  | 0, a, b => (a, b)
  | n + 1, a, b => if 0 < b then eu n b (a % b) else (a, b)
theorem eu_zero : ∀ {n : Nat} {a : Int}, eu n a 0 = (a, 0)
  | 0, _ => rfl
  | n + 1, _ => rfl
theorem eu_end : ∀ (m n : Nat) (a b : Int), 0 ≤ b → b < ((2 ^ m : Nat) : Int) → 2 * m ≤ n → (eu n a b).2 = 0
  | 0, n, a, b, h0, h1, _ => by
    have : b = 0 := by
      have e : ((2 ^ 0 : Nat) : Int) = 1 := rfl
      omega
    rw [this, eu_zero]
  | m + 1, n, a, b, h0, h1, hn => by
    by_cases z : b = 0
    · rw [z, eu_zero]
    · obtain ⟨n', rfl⟩ : ∃ n', n = n' + 2 := ⟨n - 2, by omega⟩
      have bp : 0 < b := by omega
      show (if 0 < b then eu (n' + 1) b (a % b) else (a, b)).2 = 0
      rw [if_pos bp]
      have r0 := Int.emod_nonneg a (show b ≠ 0 by omega)
      have r1 := Int.emod_lt_of_pos a bp
      generalize a % b = r at r0 r1
      by_cases y : r = 0
      · rw [y, eu_zero]
      · show (if 0 < r then eu n' r (b % r) else (b, r)).2 = 0
        rw [if_pos (by omega)]
        have s0 := Int.emod_nonneg b (show r ≠ 0 by omega)
        have s1 := Int.emod_lt_of_pos b (show 0 < r by omega)
        have s2 := Int.mul_ediv_add_emod b r
        have s3 : 1 ≤ b / r := Int.le_ediv_of_mul_le (by omega) (by omega)
        have s4 : r * 1 ≤ r * (b / r) := Int.mul_le_mul_of_nonneg_left s3 (by omega)
        refine eu_end m n' r (b % r) s0 ?_ (by omega)
        have e : ((2 ^ (m + 1) : Nat) : Int) = 2 * ((2 ^ m : Nat) : Int) := by rw [Nat.pow_succ]; omega
        omega
theorem eu_gcd : ∀ (n : Nat) (a b : Int), 0 ≤ a → 0 ≤ b → 0 ≤ (eu n a b).1 ∧ 0 ≤ (eu n a b).2 ∧ Nat.gcd (eu n a b).1.natAbs (eu n a b).2.natAbs = Nat.gcd a.natAbs b.natAbs
  | 0, a, b, h0, h1 => ⟨h0, h1, rfl⟩
  | n + 1, a, b, h0, h1 => by
    by_cases z : 0 < b
    · have r0 := Int.emod_nonneg a (show b ≠ 0 by omega)
      obtain ⟨i1, i2, i3⟩ := eu_gcd n b (a % b) (by omega) r0
      have e : eu (n + 1) a b = eu n b (a % b) := if_pos z
      rw [e]
      refine ⟨i1, i2, i3.trans ?_⟩
      have q : (a % b).natAbs = a.natAbs % b.natAbs := Int.natAbs_emod_of_nonneg h0 b
      rw [q, Nat.gcd_comm b.natAbs, ← Nat.gcd_rec, Nat.gcd_comm]
    · have e : eu (n + 1) a b = (a, b) := if_neg z
      rw [e]
      exact ⟨h0, h1, rfl⟩
def gcdI (a b : Int) : Int := ((Nat.gcd a.natAbs b.natAbs : Nat) : Int)
theorem eu_is {a b : Int} (h0 : 0 ≤ a) (h1 : 0 ≤ b) (h2 : b < 65536) : (eu 200 a b).1 = gcdI a b := by
  have e := eu_end 16 200 a b h1 (by have : ((2 ^ 16 : Nat) : Int) = 65536 := rfl; omega) (by omega)
  obtain ⟨i1, i2, i3⟩ := eu_gcd 200 a b h0 h1
  rw [e] at i3
  unfold gcdI
  rw [← i3]
  show _ = ((Nat.gcd _ (Int.natAbs 0) : Nat) : Int)
  rw [Int.natAbs_zero, Nat.gcd_zero_right]
  omega
theorem gcdI_pos {a b : Int} (h : 0 < b) : 0 < gcdI a b ∧ gcdI a b ≤ b := by
  have h1 := Nat.gcd_pos_of_pos_right a.natAbs (show 0 < b.natAbs by omega)
  have h2 := Nat.gcd_le_right a.natAbs (show 0 < b.natAbs by omega)
  unfold gcdI
  omega
def whl (rm : List Rm) : Int := (rm.map fun r => r.a).sum
def meanI (rm : List Rm) (o : List Int) : T2 Int Int := ⟨cst rm 0 o / gcdI (cst rm 0 o) (whl rm), whl rm / gcdI (cst rm 0 o) (whl rm)⟩
theorem sum_map_ok (rm : List Rm) : (rm.map fun r => PyData.int r.a) = (rm.map fun r => r.a).map PyData.int := by simp
section
variable {rm : List Rm} (ro : ROk rm)
include ro
theorem cst_nn {o : List Int} (oi : In rm o) {g : Int} (hg : 0 ≤ g) : 0 ≤ cst rm g o := by
  induction o generalizing g with
  | nil => exact Int.le_refl _
  | cons x o ih =>
    have xi := oi x (by simp)
    have b := bt_pos ro xi
    have w := ro.w _ (ix_mem (xs := rm) xi.1 xi.2)
    have := ih (fun y hy => oi y (by simp [hy])) (g := g + bt rm x) (by omega)
    have m : 0 ≤ wt rm x * (g + bt rm x) := Int.mul_nonneg w.1 (by omega)
    show 0 ≤ wt rm x * (g + bt rm x) + cst rm (g + bt rm x) o
    omega
theorem whl_le : whl rm ≤ 12000 := by
  have : ∀ l : List Rm, (∀ r ∈ l, 0 ≤ r.a ∧ r.a ≤ 1000) → (l.map fun r => r.a).sum ≤ 1000 * l.length := fun l => by
    induction l with
    | nil => intro _; simp
    | cons r l ih =>
      intro h
      have := ih fun q hq => h q (by simp [hq])
      have := h r (by simp)
      rw [List.map_cons, List.sum_cons, List.length_cons]
      omega
  have := this rm ro.w
  have := ro.l
  unfold whl
  omega
theorem mean_ok {o : List Int} (oi : In rm o) (wp : 0 < whl rm) : f_mean_of.sem [.list (rm.map enc), .list (o.map PyData.int)] = .ok (enc (meanI rm o)) := by
  rw [e_mean_of]
  have co := cost_ok ro oi
  have gp := gcdI_pos (a := cst rm 0 o) wp
  have wl := whl_le ro
  have rl := ro.l
  refine run_eq fun K hK => ?_
  refine W_nm ?_
  simp (disch := first | omega | (simp; done) | (simp; omega)) [okb, -R.ok_bind, -List.map_append, -List.map_set, -List.map_map, startE, c_mean_of_0, co]
  refine W_nm ?_
  simp (disch := first | omega | (simp; done) | (simp; omega)) [okb, -R.ok_bind, -List.map_append, -List.map_set, -List.map_map]
  rw [goC_all (enc := (enc : Rm → D)) (g := fun r => .int r.a) (fun r hr => by simp (disch := first | omega | (simp; done) | (simp; omega)) [okb, -R.ok_bind, -List.map_append, -List.map_set, -List.map_map, step_eq]) (by omega), sum_map_ok]
  simp (disch := first | omega | (simp; done) | (simp; omega)) [okb, -R.ok_bind, -List.map_append, -List.map_set, -List.map_map]
  have e : (rm.map fun r => r.a).sum = whl rm := rfl
  rw [e]
  refine W_nm ?_
  simp (disch := first | omega | (simp; done) | (simp; omega)) [okb, -R.ok_bind, -List.map_append, -List.map_set, -List.map_map]
  have e2 : ((Nat.gcd (cst rm 0 o).natAbs (whl rm).natAbs : Nat) : Int) = gcdI (cst rm 0 o) (whl rm) := rfl
  rw [e2]
  refine W_one ?_
  simp (disch := first | omega | (simp; done) | (simp; omega)) [okb, -R.ok_bind, -List.map_append, -List.map_set, -List.map_map]
  exact hK.rt _ rfl
theorem law_mean_ok {o : List Int} (oi : In rm o) (wp : 0 < whl rm) : f_law_mean.sem [.list (rm.map enc), .list (o.map PyData.int)] = .ok (enc (meanI rm o)) := by
  rw [e_law_mean]
  have co := law_cost_ok ro oi
  have gp := gcdI_pos (a := cst rm 0 o) wp
  have wl := whl_le ro
  have rl := ro.l
  have cn := cst_nn ro oi (g := 0) (by omega)
  refine run_eq fun K hK => ?_
  refine W_nm ?_
  simp (disch := first | omega | (simp; done) | (simp; omega)) [okb, -R.ok_bind, -List.map_append, -List.map_set, -List.map_map, startE, c_law_mean_0, co]
  refine W_nm ?_
  simp (disch := first | omega | (simp; done) | (simp; omega)) [okb, -R.ok_bind, -List.map_append, -List.map_set, -List.map_map]
  rw [goC_all (enc := (enc : Rm → D)) (g := fun r => .int r.a) (fun r hr => by simp (disch := first | omega | (simp; done) | (simp; omega)) [okb, -R.ok_bind, -List.map_append, -List.map_set, -List.map_map, step_eq]) (by omega), sum_map_ok]
  simp (disch := first | omega | (simp; done) | (simp; omega)) [okb, -R.ok_bind, -List.map_append, -List.map_set, -List.map_map]
  have e : (rm.map fun r => r.a).sum = whl rm := rfl
  rw [e]
  refine W_nm ?_
  simp (disch := first | omega | (simp; done) | (simp; omega)) [okb, -R.ok_bind, -List.map_append, -List.map_set, -List.map_map]
  refine W_nm ?_
  simp (disch := first | omega | (simp; done) | (simp; omega)) [okb, -R.ok_bind, -List.map_append, -List.map_set, -List.map_map]
  refine W_rng (lo := 0) (n := 200) (fun k e => ∃ (x4 x5 x8 : Option (D × Bool)) (lo hi : Int), e = [some (.list (rm.map enc), true), some (.list (o.map PyData.int), true), some (.int (cst rm 0 o), true), some (.int (whl rm), true), x4, x5, some (.int lo, true), some (.int hi, true), x8] ∧ 0 ≤ lo ∧ 0 ≤ hi ∧ hi ≤ 12000 ∧ eu (200 - k) lo hi = eu 200 (cst rm 0 o) (whl rm)) (by simp (disch := first | omega | (simp; done) | (simp; omega)) [okb, -R.ok_bind, -List.map_append, -List.map_set, -List.map_map]) ⟨_, _, _, _, _, rfl, cn, by omega, wl, rfl⟩ ?_ ?_
  · rintro k e hk ⟨x4, x5, x8, lo, hi, rfl, h0, h1, h2, he⟩ K' hT
    obtain ⟨j, hj⟩ : ∃ j, 200 - k = j + 1 := ⟨199 - k, by omega⟩
    have hj2 : 200 - (k + 1) = j := by omega
    rw [hj] at he
    have he : (if 0 < hi then eu j hi (lo % hi) else (lo, hi)) = _ := he
    simp (disch := first | omega | (simp; done) | (simp; omega)) [okb, -R.ok_bind, -List.map_append, -List.map_set, -List.map_map]
    refine W_if ?_
    by_cases z : 0 < hi
    · rw [if_pos z] at he
      have m := mod_bd lo z
      simp (disch := first | omega | (simp; done) | (simp; omega)) [okb, -R.ok_bind, -List.map_append, -List.map_set, -List.map_map, z]
      refine W_par ?_
      simp (disch := first | omega | (simp; done) | (simp; omega)) [okb, -R.ok_bind, -List.map_append, -List.map_set, -List.map_map, z]
      exact W_nil (W_nil (hT.nx _ ⟨_, _, _, _, _, rfl, by omega, by omega, by omega, by rw [hj2]; exact he⟩))
    · rw [if_neg z] at he
      have z0 : hi = 0 := by omega
      simp (disch := first | omega | (simp; done) | (simp; omega)) [okb, -R.ok_bind, -List.map_append, -List.map_set, -List.map_map, z]
      exact W_nil (W_nil (hT.nx _ ⟨_, _, _, _, _, rfl, h0, h1, h2, by rw [hj2, z0, eu_zero, ← he, z0]⟩))
  · rintro e ⟨x4, x5, x8, lo, hi, rfl, h0, h1, h2, he⟩
    have he : (lo, hi) = _ := he
    have e1 : lo = gcdI (cst rm 0 o) (whl rm) := by
      rw [← eu_is cn (by omega) (by omega : whl rm < 65536), ← he]
    subst e1
    refine W_one ?_
    simp (disch := first | omega | (simp; done) | (simp; omega)) [okb, -R.ok_bind, -List.map_append, -List.map_set, -List.map_map]
    exact hK.rt _ rfl
end
end K59

namespace K59
open PySem PySem.Spec PyProof.Rows L2 Pv Pv.Enc
section
variable {rm : List Rm}
theorem cst_swap2 {g x y : Int} {r : List Int} (h : ¬ Ahd rm x y) : cst rm g (y :: x :: r) < cst rm g (x :: y :: r) := by
  show wt rm y * (g + bt rm y) + (wt rm x * (g + bt rm y + bt rm x) + cst rm (g + bt rm y + bt rm x) r) < wt rm x * (g + bt rm x) + (wt rm y * (g + bt rm x + bt rm y) + cst rm (g + bt rm x + bt rm y) r)
  have e : g + bt rm y + bt rm x = g + bt rm x + bt rm y := by omega
  rw [e]
  unfold Ahd at h
  have e1 : wt rm y * (g + bt rm x + bt rm y) = wt rm y * (g + bt rm y) + wt rm y * bt rm x := by rw [← Int.mul_add]; congr 1; omega
  have e2 : wt rm x * (g + bt rm x + bt rm y) = wt rm x * (g + bt rm x) + wt rm x * bt rm y := by rw [← Int.mul_add]
  rw [e1, e2]
  omega
theorem cst_ctx {p q q' : List Int} (h : ∀ g, cst rm g q < cst rm g q') (g : Int) : cst rm g (p ++ q) < cst rm g (p ++ q') := by
  rw [cst_app, cst_app]
  have := h (g + (p.map (bt rm)).sum)
  omega
theorem split2 {o : List Int} {k : Nat} (h : k + 1 < o.length) : o = o.take k ++ ix o (k : Int) :: ix o ((k : Int) + 1) :: o.drop (k + 2) := by
  rw [show (k : Int) + 1 = ((k + 1 : Nat) : Int) by omega, ix_get (by omega), ix_get h]
  have e1 : o.drop k = o[k] :: o.drop (k + 1) := List.drop_eq_getElem_cons (by omega)
  have e2 : o.drop (k + 1) = o[k + 1] :: o.drop (k + 2) := List.drop_eq_getElem_cons h
  rw [← e2, ← e1, List.take_append_drop]
/-- the cheapest orders are those that fulfil the rule -/
theorem cost_fine (ro : ROk rm) {o best : List Int} (F : Fine rm best) (p : o.Perm (rI rm.length)) : cst rm 0 o = cst rm 0 best ↔ Fine rm o := by
  constructor
  · intro e
    refine ⟨p, chain_pw ro (Fine.inn p) fun k hk => ?_⟩
    by_cases z : Ahd rm (ix o (k : Int)) (ix o ((k : Int) + 1))
    · exact z
    · exfalso
      have e1 := split2 hk
      have c := cst_ctx (rm := rm) (p := o.take k) (q := ix o ((k : Int) + 1) :: ix o (k : Int) :: o.drop (k + 2)) (q' := ix o (k : Int) :: ix o ((k : Int) + 1) :: o.drop (k + 2)) (fun g => cst_swap2 z) 0
      rw [← e1] at c
      have pm : (o.take k ++ ix o ((k : Int) + 1) :: ix o (k : Int) :: o.drop (k + 2)).Perm best := by
        refine List.Perm.trans ?_ (p.trans F.p.symm)
        conv => rhs; rw [e1]
        exact (List.Perm.swap _ _ _).append_left _
      have := smith (rm := rm) (g := 0) F.s pm
      omega
  · intro F2
    have a := smith (rm := rm) (g := 0) F.s (p.trans F.p.symm)
    have b := smith (rm := rm) (g := 0) F2.s (F.p.trans p.symm)
    omega
theorem cost_least {o best : List Int} (F : Fine rm best) (p : o.Perm (rI rm.length)) : cst rm 0 best ≤ cst rm 0 o := smith F.s (p.trans F.p.symm)
/-! the first of the cheapest -/
def Bst (rm : List Rm) (x y : Int) : Prop := Ahd rm x y ∧ (Ahd rm y x → x < y)
inductive LL : List Int → List Int → Prop
  | lt {x y : Int} {a b : List Int} (h : x < y) : LL (x :: a) (y :: b)
  | eq {x : Int} {a b : List Int} (h : LL a b) : LL (x :: a) (x :: b)
theorem LL.asym : ∀ {a b : List Int}, LL a b → ¬ LL b a
  | _, _, .lt h, .lt h' => by omega
  | _, _, .lt h, .eq _ => by omega
  | _, _, .eq _, .lt h => by omega
  | _, _, .eq h, .eq h' => LL.asym h h'
theorem LL.irr : ∀ {a : List Int}, ¬ LL a a
  | _, .lt h => by omega
  | _, .eq h => LL.irr h
theorem bo_bst (ro : ROk rm) : ∀ k : Nat, k ≤ rm.length → (bo rm k).Perm (rI k) ∧ (bo rm k).Pairwise (Bst rm)
  | 0, _ => ⟨.refl _, .nil⟩
  | k + 1, hk => by
    obtain ⟨pm, pw⟩ := bo_bst ro k (by omega)
    have fi : ∀ y ∈ bo rm k, 0 ≤ y ∧ y < k := fun y hy => by
      obtain ⟨j, hj, rfl⟩ := List.mem_map.mp (pm.mem_iff.mp hy)
      have := List.mem_range.mp hj
      omega
    have P := prefix_ok (p := fun y => decide (Ahd rm y k)) pw fun y hy z hz h1 h2 => decide_eq_true (ahd_trans ro (by have := fi y hy; omega) (by have := fi z hz; omega) (by omega) h1.1 (of_decide_eq_true h2))
    have e : bo rm (k + 1) = (bo rm k).take ((bo rm k).filter fun y => decide (Ahd rm y k)).length ++ (k : Int) :: (bo rm k).drop ((bo rm k).filter fun y => decide (Ahd rm y k)).length := rfl
    rw [e]
    have all : ∀ y ∈ (bo rm k).filter fun y => decide (Ahd rm y k), Ahd rm y k := fun y hy => of_decide_eq_true (List.mem_filter.mp hy).2
    generalize hm : ((bo rm k).filter fun y => decide (Ahd rm y k)).length = m at P ⊢
    rw [← P.1] at all
    refine ⟨?_, ?_⟩
    · refine List.perm_middle.trans ?_
      rw [List.take_append_drop]
      refine (List.Perm.cons _ pm).trans ?_
      unfold rI
      rw [List.range_succ, List.map_append]
      exact (List.perm_append_singleton _ _).symm
    · rw [← List.take_append_drop m (bo rm k), List.pairwise_append] at pw
      refine List.pairwise_append.mpr ⟨pw.1, List.pairwise_cons.mpr ⟨fun z hz => ?_, pw.2.1⟩, fun y hy z hz => ?_⟩
      · have nz := of_decide_eq_false (P.2 z hz)
        exact ⟨ahd_total ro nz, fun h => absurd h nz⟩
      · rcases List.mem_cons.mp hz with e | e
        · rw [e]
          exact ⟨all y hy, fun _ => (fi y (List.mem_of_mem_take hy)).2⟩
        · exact pw.2.2 y hy z e
theorem bo_scale {rm rm2 : List Rm} (h : ∀ x y : Int, Ahd rm x y ↔ Ahd rm2 x y) : ∀ k : Nat, bo rm k = bo rm2 k
  | 0 => rfl
  | k + 1 => by
    have e : (fun y => decide (Ahd rm y k)) = fun y => decide (Ahd rm2 y k) := by
      funext y
      exact decide_eq_decide.mpr (h y k)
    show (bo rm k).take ((bo rm k).filter fun y => decide (Ahd rm y k)).length ++ (k : Int) :: (bo rm k).drop ((bo rm k).filter fun y => decide (Ahd rm y k)).length = _
    rw [bo_scale h k, e]
    rfl
theorem first_ll : ∀ {b o : List Int}, b.Perm o → b.Pairwise (Bst rm) → o.Pairwise (Ahd rm) → b ≠ o → LL b o
  | [], o, p, _, _, n => absurd (List.Perm.nil_eq p) n
  | x :: b, [], p, _, _, _ => by have := p.length_eq; simp at this
  | x :: b, y :: o, p, hb, ho, n => by
    obtain ⟨b1, b2⟩ := List.pairwise_cons.mp hb
    obtain ⟨o1, o2⟩ := List.pairwise_cons.mp ho
    by_cases e : x = y
    · subst e
      exact .eq (first_ll p.cons_inv b2 o2 fun e => n (by rw [e]))
    · have m1 : x ∈ o := (List.mem_cons.mp (p.mem_iff.mp (by simp))).resolve_left e
      have m2 : y ∈ b := (List.mem_cons.mp (p.mem_iff.mpr (by simp))).resolve_left fun z => e z.symm
      exact .lt ((b1 y m2).2 (o1 x m1))
/-! all orders -/
def os (n : Nat) : Nat → List (List Int)
  | 0 => [[]]
  | t + 1 => (os n t).flatMap fun row => ((rI n).filter fun k => !decide (k ∈ row)).map fun k => row ++ [k]
theorem rI_mem {n : Nat} {k : Int} : k ∈ rI n ↔ 0 ≤ k ∧ k < n := by
  unfold rI
  rw [List.mem_map]
  constructor
  · rintro ⟨j, hj, rfl⟩
    have := List.mem_range.mp hj
    omega
  · rintro ⟨h0, h1⟩
    exact ⟨k.toNat, List.mem_range.mpr (by omega), by omega⟩
theorem os_mem {n : Nat} : ∀ {t : Nat} {o : List Int}, o ∈ os n t ↔ o.length = t ∧ o.Nodup ∧ ∀ x ∈ o, 0 ≤ x ∧ x < (n : Int)
  | 0, o => by
    show o ∈ [[]] ↔ _
    rw [List.mem_singleton]
    exact ⟨fun e => by subst e; simp, fun h => List.eq_nil_of_length_eq_zero h.1⟩
  | t + 1, o => by
    show o ∈ (os n t).flatMap _ ↔ _
    rw [List.mem_flatMap]
    constructor
    · rintro ⟨row, hr, ho⟩
      obtain ⟨k, hk, rfl⟩ := List.mem_map.mp ho
      obtain ⟨k1, k2⟩ := List.mem_filter.mp hk
      obtain ⟨r1, r2, r3⟩ := os_mem.mp hr
      refine ⟨by simp [r1], ?_, ?_⟩
      · rw [List.nodup_append]
        exact ⟨r2, by simp, fun a ha b hb e => by rw [List.mem_singleton.mp hb] at e; subst e; simp [ha] at k2⟩
      · intro x hx
        rcases List.mem_append.mp hx with h | h
        · exact r3 x h
        · rw [List.mem_singleton.mp h]; exact rI_mem.mp k1
    · rintro ⟨h1, h2, h3⟩
      have ne : o ≠ [] := fun e => by subst e; simp at h1
      have e := List.dropLast_concat_getLast ne
      rw [← e] at h2 h3
      obtain ⟨n1, _, n3⟩ := List.nodup_append.mp h2
      refine ⟨o.dropLast, os_mem.mpr ⟨by simp [h1], n1, fun x hx => h3 x (by simp [hx])⟩, List.mem_map.mpr ⟨o.getLast ne, List.mem_filter.mpr ⟨rI_mem.mpr (h3 _ (by simp)), ?_⟩, e⟩⟩
      simpa using fun h => n3 _ h _ (by simp) rfl
theorem LL.app : ∀ {a b u v : List Int}, LL a b → LL (a ++ u) (b ++ v)
  | _, _, _, _, .lt h => .lt h
  | _, _, _, _, .eq h => .eq (LL.app h)
theorem LL.pre {k l : Int} (h : k < l) : ∀ {a : List Int}, LL (a ++ [k]) (a ++ [l])
  | [] => .lt h
  | x :: a => .eq (LL.pre h)
theorem rI_lt {n : Nat} : (rI n).Pairwise (· < ·) := by
  unfold rI
  rw [List.pairwise_map]
  exact (List.pairwise_lt_range (n := n)).imp fun h => by omega
theorem os_pw {n : Nat} : ∀ t : Nat, (os n t).Pairwise LL
  | 0 => List.pairwise_singleton _ _
  | t + 1 => by
    show ((os n t).flatMap _).Pairwise LL
    rw [List.pairwise_flatMap]
    refine ⟨fun row _ => ?_, (os_pw t).imp fun h a ha b hb => ?_⟩
    · rw [List.pairwise_map]
      exact (rI_lt.filter _).imp fun h => LL.pre h
    · obtain ⟨k, _, rfl⟩ := List.mem_map.mp ha
      obtain ⟨l, _, rfl⟩ := List.mem_map.mp hb
      exact LL.app h
theorem perm_of : ∀ {o l : List Int}, o.Nodup → (∀ x ∈ o, x ∈ l) → l.length ≤ o.length → o.Perm l
  | [], l, _, _, h => by
    have e : l = [] := List.eq_nil_of_length_eq_zero (by simpa using h)
    rw [e]
  | x :: o, l, nd, hs, h => by
    have hx := hs x (by simp)
    have n1 := List.nodup_cons.mp nd
    have pe := List.perm_cons_erase hx
    have hl := pe.length_eq
    rw [List.length_cons] at hl h
    refine List.Perm.trans (List.Perm.cons x (perm_of n1.2 (fun y hy => ?_) (by omega))) pe.symm
    exact (List.mem_erase_of_ne fun e : y = x => n1.1 (by rw [← e]; exact hy)).mpr (hs y (by simp [hy]))
theorem os_perm {n : Nat} {o : List Int} : o ∈ os n n ↔ o.Perm (rI n) := by
  rw [os_mem]
  constructor
  · rintro ⟨h1, h2, h3⟩
    exact perm_of h2 (fun x hx => rI_mem.mpr (h3 x hx)) (by simp [rI, h1])
  · intro p
    exact ⟨by rw [p.length_eq]; simp [rI], p.nodup_iff.mpr rI_nd, fun x hx => rI_mem.mp (p.mem_iff.mp hx)⟩
/-- the first of the cheapest of all orders -/
theorem os_first (ro : ROk rm) {best : List Int} (F : Fine rm best) (B : best.Pairwise (Bst rm)) : ((os rm.length rm.length).filter fun o => decide (cst rm 0 o = cst rm 0 best)).head? = some best := by
  have hm : best ∈ (os rm.length rm.length).filter fun o => decide (cst rm 0 o = cst rm 0 best) := List.mem_filter.mpr ⟨os_perm.mpr F.p, by simp⟩
  have pw := (os_pw (n := rm.length) rm.length).filter fun o => decide (cst rm 0 o = cst rm 0 best)
  have al : ∀ o ∈ (os rm.length rm.length).filter fun o => decide (cst rm 0 o = cst rm 0 best), Fine rm o := fun o h => by
    obtain ⟨h1, h2⟩ := List.mem_filter.mp h
    exact (cost_fine ro F (os_perm.mp h1)).mp (of_decide_eq_true h2)
  generalize (os rm.length rm.length).filter (fun o => decide (cst rm 0 o = cst rm 0 best)) = l at hm pw al
  cases l with
  | nil => simp at hm
  | cons h t =>
    show some h = some best
    congr 1
    rcases List.mem_cons.mp hm with e | e
    · exact e.symm
    · have a := (List.pairwise_cons.mp pw).1 best e
      have Fh := al h (by simp)
      by_cases q : best = h
      · exact q.symm
      · exact absurd a (LL.asym (first_ll (F.p.trans Fh.p.symm) B Fh.s q))
/-! weights 1: the mean is at most the half of what all take and the longest -/
theorem half_mean (cs : List Int → Int) (h0 : cs [] = 0) (h1 : ∀ p x, cs (p ++ [x]) = cs p + p.sum + x) : ∀ (n : Nat) (l : List Int), l.length = n → (∀ x ∈ l, 0 ≤ x) → l.Pairwise (· ≤ ·) → 2 * cs l ≤ ((l.length : Int) + 1) * l.sum
  | 0, l, hl, _, _ => by rw [List.eq_nil_of_length_eq_zero hl, h0]; simp
  | n + 1, l, hl, hn, hs => by
    have ne : l ≠ [] := fun e => by subst e; simp at hl
    obtain ⟨p, x, rfl⟩ : ∃ p x, l = p ++ [x] := ⟨_, _, (List.dropLast_concat_getLast ne).symm⟩
    have := half_mean cs h0 h1 n p (by simpa using hl) (fun y hy => hn y (by simp [hy])) (List.pairwise_append.mp hs).1
    have hx := hn x (by simp)
    have hb : ∀ (q : List Int), (∀ y ∈ q, y ≤ x) → q.sum ≤ (q.length : Int) * x := fun q => by
      induction q with
      | nil => intro _; simp
      | cons y q ih2 =>
        intro h
        have a := ih2 fun z hz => h z (by simp [hz])
        have b := h y (by simp)
        rw [List.sum_cons, List.length_cons]
        have e : (((q.length + 1 : Nat)) : Int) * x = (q.length : Int) * x + x := by
          rw [show (((q.length + 1 : Nat)) : Int) = (q.length : Int) + 1 by omega, Int.add_mul, Int.one_mul]
        omega
    have hp := hb p fun y hy => (List.pairwise_append.mp hs).2.2 y hy x (by simp)
    rw [h1, List.length_append, List.sum_append, List.length_singleton]
    simp only [List.sum_cons, List.sum_nil]
    have e1 : (((p.length + 1 : Nat) : Int) + 1) * (p.sum + (x + 0)) = ((p.length : Int) + 1) * p.sum + p.sum + ((p.length : Int) * x + 2 * x) := by
      rw [show (((p.length + 1 : Nat) : Int) + 1) = (p.length : Int) + 1 + 1 by omega, Int.add_zero, Int.mul_add, Int.add_mul _ 1 p.sum, Int.one_mul, Int.add_mul _ 1 x, Int.add_mul _ 1 x, Int.one_mul]
      omega
    rw [e1]
    omega
end
end K59

namespace K59
open PySem PySem.Spec PyProof.Rows L2 Pv Pv.Enc
/-- the rooms that the law draws -/
def rmd (dr : List Int) (k : Nat) : Rm := ⟨ix dr (1 + 2 * (k : Int)) % ix [(4 : Int), 30, 1001] (ix dr 30 % 3), 1 + ix dr (2 + 2 * (k : Int)) % ix [(4 : Int), 12, 1000] (ix dr 31 % 3)⟩
theorem sum_nn : ∀ (l : List Int), (∀ x ∈ l, 0 ≤ x) → 0 ≤ l.sum ∧ (l.sum = 0 → ∀ x ∈ l, x = 0)
  | [], _ => by simp
  | a :: l, h => by
    obtain ⟨i1, i2⟩ := sum_nn l fun x hx => h x (by simp [hx])
    have := h a (by simp)
    rw [List.sum_cons]
    refine ⟨by omega, fun e x hx => ?_⟩
    rcases List.mem_cons.mp hx with z | z
    · omega
    · exact i2 (by omega) x z
theorem sum_pos {l : List Int} (h : ∀ x ∈ l, 0 ≤ x) {x : Int} (hx : x ∈ l) (h0 : 0 < x) : 0 < l.sum := by
  obtain ⟨a, b⟩ := sum_nn l h
  by_cases e : l.sum = 0
  · have := b e x hx
    omega
  · omega
theorem search_ok {dr : List Int} {most : Int} (hm : 1 ≤ most ∧ most ≤ 12) (dl : dr.length = 40) (hb : ∀ d ∈ dr, 0 ≤ d ∧ d < 27720) : ∃ rm : List Rm, f_law_search.sem [.list (dr.map PyData.int), .int most] = .ok (.list (rm.map enc)) ∧ ROk rm ∧ 1 ≤ rm.length ∧ (rm.length : Int) ≤ most ∧ 0 < whl rm := by
  rw [e_law_search]
  have key : ∃ d, runF T_law_search b_law_search 7 [.list (dr.map PyData.int), .int most] = .ok d ∧ ∃ rm : List Rm, d = .list (rm.map enc) ∧ (∀ r ∈ rm, 0 ≤ r.a ∧ r.a ≤ 1000 ∧ 1 ≤ r.b ∧ r.b ≤ 1000) ∧ 1 ≤ rm.length ∧ (rm.length : Int) ≤ most ∧ 0 < whl rm := by
    have B := dr_bd (L := 27720) (by omega) hb
    have m30 := mod_bd (ix dr 30) (n := 3) (by omega)
    have m31 := mod_bd (ix dr 31) (n := 3) (by omega)
    have la := ix3_bd (a := 4) (b := 30) (c := 1001) (i := ix dr 30 % 3) (lo := 4) (hi := 1001) m30.1 m30.2 (by omega) (by omega) (by omega)
    have lb := ix3_bd (a := 4) (b := 12) (c := 1000) (i := ix dr 31 % 3) (lo := 4) (hi := 1000) m31.1 m31.2 (by omega) (by omega) (by omega)
    have m0 : 0 < most := by omega
    have mc := mod_bd (ix dr 0) m0
    refine run_W fun K hK => ?_
    refine W_nm ?_
    simp (disch := first | omega | (simp; done) | (simp; omega)) [okb, -R.ok_bind, -List.map_append, -List.map_set, -List.map_map, startE, m0]
    have cb : 1 ≤ 1 + ix dr 0 % most ∧ 1 + ix dr 0 % most ≤ most := by omega
    generalize 1 + ix dr 0 % most = cnt at cb ⊢
    have la0 : 0 < ix [(4 : Int), 30, 1001] (ix dr 30 % 3) := by omega
    have lb0 : 0 < ix [(4 : Int), 12, 1000] (ix dr 31 % 3) := by omega
    refine W_own ?_
    simp (disch := first | omega | (simp; done) | (simp; omega)) [okb, -R.ok_bind, -List.map_append, -List.map_set, -List.map_map]
    rw [goC_rngA (g := fun k : Nat => enc (rmd dr k)) (fun k hk => ?_) (by omega)]
    rotate_left
    · simp (disch := first | omega | (simp; done) | (simp; omega)) [okb, -R.ok_bind, -List.map_append, -List.map_set, -List.map_map, step_eq, la0, lb0, rmd, m30, m31]
    have rb : ∀ k : Nat, 0 ≤ (rmd dr k).a ∧ (rmd dr k).a ≤ 1000 ∧ 1 ≤ (rmd dr k).b ∧ (rmd dr k).b ≤ 1000 := fun k => by
      have x1 := mod_bd (ix dr (1 + 2 * (k : Int))) la0
      have x2 := mod_bd (ix dr (2 + 2 * (k : Int))) lb0
      unfold rmd
      dsimp only
      omega
    have em : (List.range cnt.toNat).map (fun k : Nat => enc (rmd dr k)) = ((List.range cnt.toNat).map (rmd dr)).map enc := by simp
    have re0 : ∀ r ∈ (List.range cnt.toNat).map (rmd dr), 0 ≤ r.a ∧ r.a ≤ 1000 ∧ 1 ≤ r.b ∧ r.b ≤ 1000 := fun r hr => by
      obtain ⟨k, _, rfl⟩ := List.mem_map.mp hr
      exact rb k
    have rl0 : ((List.range cnt.toNat).map (rmd dr)).length = cnt.toNat := by simp
    rw [em]
    clear em
    generalize (List.range cnt.toNat).map (rmd dr) = rm0 at re0 rl0 ⊢
    have nn : ∀ l : List Rm, (∀ r ∈ l, 0 ≤ r.a ∧ r.a ≤ 1000 ∧ 1 ≤ r.b ∧ r.b ≤ 1000) → ∀ x ∈ l.map (fun r => r.a), 0 ≤ x := fun l h x hx => by
      obtain ⟨r, hr, rfl⟩ := List.mem_map.mp hx
      exact (h r hr).1
    simp (disch := first | omega | (simp; done) | (simp; omega)) [okb, -R.ok_bind, -List.map_append, -List.map_set, -List.map_map]
    refine W_ifM (fun e => ∃ rm : List Rm, e = [some (.list (dr.map PyData.int), true), some (.int most, true), some (.int cnt, true), some (.list (rm.map enc), false), none, none, none] ∧ rm.length = cnt.toNat ∧ (∀ r ∈ rm, 0 ≤ r.a ∧ r.a ≤ 1000 ∧ 1 ≤ r.b ∧ r.b ≤ 1000) ∧ 0 < whl rm) (fun K' hJ => ?_) ?_
    · simp (disch := first | omega | (simp; done) | (simp; omega)) [okb, -R.ok_bind, -List.map_append, -List.map_set, -List.map_map]
      rw [goC_all (enc := (enc : Rm → D)) (g := fun r => .int r.a) (fun r hr => by simp (disch := first | omega | (simp; done) | (simp; omega)) [okb, -R.ok_bind, -List.map_append, -List.map_set, -List.map_map, step_eq]) (by omega), sum_map_ok]
      simp (disch := first | omega | (simp; done) | (simp; omega)) [okb, -R.ok_bind, -List.map_append, -List.map_set, -List.map_map]
      have c0 : 0 < cnt := by omega
      have at_ := mod_bd (ix dr 32) c0
      have m33 := mod_bd (ix dr 33) (n := 9) (by omega)
      have z1 : ix dr 32 % cnt < rm0.length := by omega
      by_cases h : (rm0.map fun r => r.a).sum = 0
      · simp (disch := first | omega | (simp; done) | (simp; omega)) [okb, -R.ok_bind, -List.map_append, -List.map_set, -List.map_map, h]
        refine W_stM (f := (enc : Rm → D)) (xs := rm0) rfl rfl ?_
        simp (disch := first | omega | (simp; done) | (simp; omega)) [okb, -R.ok_bind, -List.map_append, -List.map_set, -List.map_map, c0, at_, z1]
        have rr := re0 _ (ix_mem (xs := rm0) at_.1 z1)
        have mm : (⟨1 + ix dr 33 % 9, (ix rm0 (ix dr 32 % cnt)).b⟩ : Rm) ∈ rm0.set (ix dr 32 % cnt).toNat ⟨1 + ix dr 33 % 9, (ix rm0 (ix dr 32 % cnt)).b⟩ := List.mem_iff_getElem?.mpr ⟨(ix dr 32 % cnt).toNat, by rw [List.getElem?_set_self (by omega)]⟩
        have re1 : ∀ r ∈ rm0.set (ix dr 32 % cnt).toNat ⟨1 + ix dr 33 % 9, (ix rm0 (ix dr 32 % cnt)).b⟩, 0 ≤ r.a ∧ r.a ≤ 1000 ∧ 1 ≤ r.b ∧ r.b ≤ 1000 := fun r hr => by
          rcases List.mem_or_eq_of_mem_set hr with h | h
          · exact re0 r h
          · rw [h]
            dsimp only
            omega
        refine ⟨⟨1 + ix dr 33 % 9, (ix rm0 (ix dr 32 % cnt)).b⟩, ⟨rfl, rfl⟩, W_nil (hJ.nx _ ⟨_, rfl, by simpa using rl0, re1, sum_pos (nn _ re1) (List.mem_map.mpr ⟨_, mm, rfl⟩) (by dsimp only; omega)⟩)⟩
      · simp (disch := first | omega | (simp; done) | (simp; omega)) [okb, -R.ok_bind, -List.map_append, -List.map_set, -List.map_map, h]
        have := (sum_nn _ (nn _ re0)).1
        exact W_nil (hJ.nx _ ⟨rm0, rfl, rl0, re0, by unfold whl; omega⟩)
    · rintro e ⟨rm, rfl, rl, re, wp⟩
      exact W_mv rfl (hK.rt _ ⟨rm, rfl, re, by omega, by omega, wp⟩)
  obtain ⟨_, h, rm, rfl, re, l1, l2, wp⟩ := key
  exact ⟨rm, h, ⟨fun r hr => by have := re r hr; omega, fun r hr => by have := re r hr; omega, by omega⟩, l1, l2, wp⟩
theorem os_len {n : Nat} (hn : n ≤ 5) : ∀ t : Nat, t ≤ 5 → (os n t).length ≤ 5 ^ t
  | 0, _ => by simp [os]
  | t + 1, h => by
    have ih := os_len hn t (by omega)
    have : ∀ l : List (List Int), (l.flatMap fun row => ((rI n).filter fun k => !decide (k ∈ row)).map fun k => row ++ [k]).length ≤ l.length * 5 := fun l => by
      induction l with
      | nil => simp
      | cons r l ih2 =>
        rw [List.flatMap_cons, List.length_append, List.length_map, List.length_cons]
        have h1 := List.length_filter_le (fun k => !decide (k ∈ r)) (rI n)
        have h2 : (rI n).length = n := by simp [rI]
        omega
    have h3 := this (os n t)
    show ((os n t).flatMap _).length ≤ 5 ^ t * 5
    omega
theorem orders_ok {n : Nat} (hn : n ≤ 5) : f_law_orders.sem [.int n] = .ok (.list ((os n n).map enc)) := by
  rw [e_law_orders]
  have ol := os_len hn
  have p5 : ∀ t : Nat, t ≤ 5 → 5 ^ t ≤ 3125 := fun t ht => Nat.le_trans (Nat.pow_le_pow_right (by omega) ht) (by decide)
  refine run_eq fun K hK => ?_
  refine W_nm ?_
  simp (disch := first | omega | (simp; done) | (simp; omega)) [okb, -R.ok_bind, -List.map_append, -List.map_set, -List.map_map, startE]
  refine W_rng (lo := 0) (n := n) (fun t e => ∃ (x2 x3 x4 x5 : Option (D × Bool)), e = [some (.int n, true), some (.list ((os n t).map enc), true), x2, x3, x4, x5]) (by simp (disch := first | omega | (simp; done) | (simp; omega)) [okb, -R.ok_bind, -List.map_append, -List.map_set, -List.map_map]) ⟨_, _, _, _, rfl⟩ ?_ ?_
  · rintro t e ht ⟨x2, x3, x4, x5, rfl⟩ K' hT
    have tl := ol t (by omega)
    have tp := p5 t (by omega)
    simp (disch := first | omega | (simp; done) | (simp; omega)) [okb, -R.ok_bind, -List.map_append, -List.map_set, -List.map_map]
    refine W_nm ?_
    simp (disch := first | omega | (simp; done) | (simp; omega)) [okb, -R.ok_bind, -List.map_append, -List.map_set, -List.map_map]
    have tl2 := ol (t + 1) (by omega)
    have tp2 := p5 (t + 1) (by omega)
    let ext := fun row : List Int => ((rI n).filter fun k => !decide (k ∈ row)).map fun k => row ++ [k]
    refine W_for (enc := (enc : List Int → D)) (xs := os n t) (fun a e => ∃ (x2 x4 x5 : Option (D × Bool)), e = [some (.int n, true), some (.list ((os n t).map enc), true), x2, some (.list ((a.flatMap ext).map (enc : List Int → D)), true), x4, x5]) (by simp (disch := first | omega | (simp; done) | (simp; omega)) [okb, -R.ok_bind, -List.map_append, -List.map_set, -List.map_map]) ⟨_, _, _, rfl⟩ ?_ ?_
    · rintro a row c e hx ⟨x2, x4, x5, rfl⟩ K'' hU
      have hrow : row ∈ os n t := by rw [hx]; simp
      have rl := (os_mem.mp hrow).1
      have al : (a.flatMap ext).length + (ext row).length ≤ 3125 := by
        have e1 : os n (t + 1) = a.flatMap ext ++ ext row ++ c.flatMap ext := by
          show (os n t).flatMap ext = _
          rw [hx, List.flatMap_append, List.flatMap_cons, List.append_assoc]
        have := congrArg List.length e1
        simp only [List.length_append] at this
        omega
      have fl : ((rI n).filter fun k => !decide (k ∈ row)).length ≤ 5 := Nat.le_trans (List.length_filter_le _ _) (by simp [rI]; omega)
      simp (disch := first | omega | (simp; done) | (simp; omega)) [okb, -R.ok_bind, -List.map_append, -List.map_set, -List.map_map]
      refine W_nm ?_
      simp (disch := first | omega | (simp; done) | (simp; omega)) [okb, -R.ok_bind, -List.map_append, -List.map_set, -List.map_map]
      rw [goC_rng (g := fun k : Nat => if (!decide ((k : Int) ∈ row)) = true then some (enc (row ++ [(k : Int)])) else none) (fun k hk => ?_) (by omega), fm_if]
      rotate_left
      · have hin : evIn (.int (k : Int)) (.list (row.map PyData.int)) = .ok (decide ((k : Int) ∈ row)) := in_enc (k : Int) row
        by_cases z : (k : Int) ∈ row
        · rw [decide_eq_true z] at hin
          simp (disch := first | omega | (simp; done) | (simp; omega)) [okb, -R.ok_bind, -List.map_append, -List.map_set, -List.map_map, step_eq, hin, z]
        · rw [decide_eq_false z] at hin
          simp (disch := first | omega | (simp; done) | (simp; omega)) [okb, -R.ok_bind, -List.map_append, -List.map_set, -List.map_map, step_eq, hin, z]
          simp
      have e2 : ((List.range n).filter fun k : Nat => !decide ((k : Int) ∈ row)).map (fun k : Nat => enc (row ++ [(k : Int)])) = (ext row).map enc := by
        show _ = (((rI n).filter fun k => !decide (k ∈ row)).map fun k => row ++ [k]).map enc
        unfold rI
        rw [List.filter_map, List.map_map, List.map_map]
        rfl
      rw [e2]
      have e3 : evBin .add .sh (.list ((a.flatMap ext).map (enc : List Int → D))) (.list ((ext row).map enc)) = .ok (.list (((a ++ [row]).flatMap ext).map enc)) := by
        rw [flatMap_snoc, List.map_append]
        exact evBin_cat (by simp only [List.length_map]; omega)
      generalize (ext row).map (enc : List Int → D) = ee at e3
      simp (disch := first | omega | (simp; done) | (simp; omega)) [okb, -R.ok_bind, -List.map_append, -List.map_set, -List.map_map, e3]
      exact W_nil (hU.nx _ ⟨_, _, _, by rw [flatMap_snoc]⟩)
    · rintro e ⟨x2, x4, x5, rfl⟩
      refine W_nm ?_
      simp (disch := first | omega | (simp; done) | (simp; omega)) [okb, -R.ok_bind, -List.map_append, -List.map_set, -List.map_map]
      exact W_nil (hT.nx _ ⟨_, _, _, _, rfl⟩)
  · rintro e ⟨x2, x3, x4, x5, rfl⟩
    refine W_one ?_
    simp (disch := first | omega | (simp; done) | (simp; omega)) [okb, -R.ok_bind, -List.map_append, -List.map_set, -List.map_map]
    exact hK.rt _ rfl
end K59

namespace K59
open PySem PySem.Spec PyProof.Rows L2 Pv Pv.Enc
theorem erase_perm {l : List Int} {i : Nat} (h : i < l.length) : (l[i] :: l.eraseIdx i).Perm l := by
  rw [List.eraseIdx_eq_take_drop_succ]
  refine List.perm_middle.symm.trans ?_
  rw [← List.drop_eq_getElem_cons h, List.take_append_drop]
theorem evBi_maxv {o : Own} {xs : List Int} {v : Int} (h1 : v ∈ xs) (h2 : ∀ y ∈ xs, y ≤ v) : evBi .max o [.list (xs.map PyData.int)] = .ok (.int v) := by
  cases xs with
  | nil => simp at h1
  | cons a r =>
    show (match intsOf ((a :: r).map PyData.int) with | some (n :: ns) => R.ok (PyData.int (maxL n ns)) | _ => .no) = _
    rw [intsOf_map]
    have h3 := maxL_mem r a
    have h4 := le_maxL r a
    have h5 := h2 _ h3
    have h6 : v ≤ maxL a r := by
      rcases List.mem_cons.mp h1 with e | e
      · rw [e]; exact h4.1
      · exact h4.2 _ e
    have : maxL a r = v := by omega
    show R.ok (PyData.int (maxL a r)) = _
    rw [this]
theorem max_ex : ∀ (a : Int) (r : List Int), ∃ v, v ∈ a :: r ∧ ∀ y ∈ a :: r, y ≤ v := fun a r => ⟨maxL a r, maxL_mem r a, fun y hy => by
  have := le_maxL r a
  rcases List.mem_cons.mp hy with e | e
  · rw [e]; exact this.1
  · exact this.2 y e⟩
/-! weights multiplied -/
def scl (t : Int) (rm : List Rm) : List Rm := rm.map fun r => ⟨t * r.a, r.b⟩
theorem ix_map {α β : Type} [Inhabited α] [Inhabited β] {f : α → β} (hd : f default = default) {xs : List α} {i : Int} : ix (xs.map f) i = f (ix xs i) := by
  unfold ix
  rw [List.getD_eq_getElem?_getD, List.getD_eq_getElem?_getD, List.getElem?_map]
  cases xs[i.toNat]? with
  | none => exact hd.symm
  | some a => rfl
theorem scl_ix {t : Int} {rm : List Rm} {x : Int} : wt (scl t rm) x = t * wt rm x ∧ bt (scl t rm) x = bt rm x := by
  have e : ix (scl t rm) x = ⟨t * (ix rm x).a, (ix rm x).b⟩ := ix_map (f := fun r : Rm => (⟨t * r.a, r.b⟩ : Rm)) (by show (⟨t * 0, 0⟩ : Rm) = ⟨0, 0⟩; rw [Int.mul_zero])
  unfold wt bt
  rw [e]
  exact ⟨rfl, rfl⟩
theorem scl_ahd {t : Int} (h : 0 < t) {rm : List Rm} (x y : Int) : Ahd rm x y ↔ Ahd (scl t rm) x y := by
  unfold Ahd
  rw [(scl_ix (rm := rm) (t := t) (x := x)).1, (scl_ix (rm := rm) (t := t) (x := x)).2, (scl_ix (rm := rm) (t := t) (x := y)).1, (scl_ix (rm := rm) (t := t) (x := y)).2, Int.mul_assoc, Int.mul_assoc]
  exact ⟨fun q => Int.mul_le_mul_of_nonneg_left q (by omega), fun q => Int.le_of_mul_le_mul_left q h⟩
theorem scl_cst {t : Int} {rm : List Rm} : ∀ {o : List Int} {g : Int}, cst (scl t rm) g o = t * cst rm g o
  | [], g => by simp [cst]
  | x :: o, g => by
    show wt (scl t rm) x * (g + bt (scl t rm) x) + cst (scl t rm) (g + bt (scl t rm) x) o = t * (wt rm x * (g + bt rm x) + cst rm (g + bt rm x) o)
    rw [scl_cst, (scl_ix (rm := rm) (t := t) (x := x)).1, (scl_ix (rm := rm) (t := t) (x := x)).2, Int.mul_add t, Int.mul_assoc]
theorem scl_whl {t : Int} : ∀ {rm : List Rm}, whl (scl t rm) = t * whl rm
  | [] => by simp [whl, scl]
  | r :: rm => by
    have ih := scl_whl (t := t) (rm := rm)
    unfold whl scl at ih ⊢
    rw [List.map_cons, List.map_cons, List.sum_cons, ih, List.map_cons, List.sum_cons, Int.mul_add]
theorem gcdI_scl {t a b : Int} (h : 0 < t) : gcdI (t * a) (t * b) = t * gcdI a b := by
  unfold gcdI
  rw [Int.natAbs_mul, Int.natAbs_mul, Nat.gcd_mul_left, Int.natCast_mul]
  congr 1
  omega
theorem scl_mean {t : Int} (h : 0 < t) {rm : List Rm} {o : List Int} : meanI (scl t rm) o = meanI rm o := by
  unfold meanI
  rw [scl_cst, scl_whl, gcdI_scl h, Int.mul_ediv_mul_of_pos _ _ h, Int.mul_ediv_mul_of_pos _ _ h]
/-! weights 1 -/
def ones (rm : List Rm) : List Rm := rm.map fun r => ⟨1, r.b⟩
def pre : Int → List Int → Int
  | _, [] => 0
  | g, x :: l => g + x + pre (g + x) l
theorem pre_app {x : Int} : ∀ {p : List Int} {g : Int}, pre g (p ++ [x]) = pre g p + g + p.sum + x
  | [], g => by simp [pre]
  | y :: p, g => by
    show g + y + pre (g + y) (p ++ [x]) = g + y + pre (g + y) p + g + (y :: p).sum + x
    rw [pre_app (p := p), List.sum_cons]
    omega
theorem ones_ix {rm : List Rm} {x : Int} (h0 : 0 ≤ x) (h1 : x < rm.length) : wt (ones rm) x = 1 ∧ bt (ones rm) x = bt rm x := by
  have e : ix (ones rm) x = ⟨1, (ix rm x).b⟩ := by
    have l : x.toNat < rm.length := by omega
    unfold ix ones
    simp [List.getElem?_eq_getElem l]
  unfold wt bt
  rw [e]
  exact ⟨rfl, rfl⟩
theorem ones_cst {rm : List Rm} : ∀ {o : List Int} {g : Int}, In rm o → cst (ones rm) g o = pre g (o.map (bt rm))
  | [], g, _ => rfl
  | x :: o, g, h => by
    have xi := h x (by simp)
    show wt (ones rm) x * (g + bt (ones rm) x) + cst (ones rm) (g + bt (ones rm) x) o = g + bt rm x + pre (g + bt rm x) (o.map (bt rm))
    rw [(ones_ix xi.1 xi.2).1, (ones_ix xi.1 xi.2).2, Int.one_mul, ones_cst fun y hy => h y (by simp [hy])]
theorem ones_whl : ∀ {rm : List Rm}, whl (ones rm) = rm.length
  | [] => rfl
  | r :: rm => by
    have ih := ones_whl (rm := rm)
    unfold whl ones at ih ⊢
    rw [List.map_cons, List.map_cons, List.sum_cons, ih, List.length_cons]
    show (1 : Int) + (rm.length : Int) = ((rm.length + 1 : Nat) : Int)
    omega
theorem evBi_minv {o : Own} {xs : List Int} {v : Int} (h1 : v ∈ xs) (h2 : ∀ y ∈ xs, v ≤ y) : evBi .min o [.list (xs.map PyData.int)] = .ok (.int v) := by
  cases xs with
  | nil => simp at h1
  | cons a r =>
    show (match intsOf ((a :: r).map PyData.int) with | some (n :: ns) => R.ok (PyData.int (minL n ns)) | _ => .no) = _
    rw [intsOf_map]
    have h3 := minL_mem r a
    have h4 := minL_le r a
    have h5 := h2 _ h3
    have h6 : minL a r ≤ v := by
      rcases List.mem_cons.mp h1 with e | e
      · rw [e]; exact h4.1
      · exact h4.2 _ e
    have : minL a r = v := by omega
    show R.ok (PyData.int (minL a r)) = _
    rw [this]
theorem plain (ns : List Int) (hl : ns.length ≤ 63) : f_law.sem [.list (ns.map PyData.int)] = .ok (.bool true) := by
  rw [e_law]
  refine run_eq fun K hK => ?_
  have cl : f_law_cell.sem [.list (ns.map PyData.int), .int 0] = .ok (.int (ns.getD 0 0)) := cell_ok ns 0
  generalize ns.getD 0 0 = cc at cl
  obtain ⟨dr, e1, drl, hb⟩ := numbers_ok cc 40 27720 (by omega) (by omega) (by omega)
  have cl2 : f_law_cell.sem [.list (ns.map PyData.int), .int 1] = .ok (.int (ns.getD 1 0)) := cell_ok ns 1
  generalize ns.getD 1 0 = cc2 at cl2
  obtain ⟨mo, e2, mol, hb2⟩ := numbers_ok cc2 40 27720 (by omega) (by omega) (by omega)
  have e1' : evF T_law 1 false [.int cc, .int 40, .int 27720] = .ok (.list (dr.map PyData.int)) := (c_law_1).trans e1
  have e2' : evF T_law 1 false [.int cc2, .int 40, .int 27720] = .ok (.list (mo.map PyData.int)) := (c_law_1).trans e2
  have B := dr_bd (L := 27720) (by omega) hb
  have m39 := mod_bd (ix dr 39) (n := 3) (by omega)
  have ms := ix3_bd (a := 5) (b := 5) (c := 12) (i := ix dr 39 % 3) (lo := 1) (hi := 12) m39.1 m39.2 (by omega) (by omega) (by omega)
  obtain ⟨rm, sr, ro, l1, l2, wp⟩ := search_ok ms drl hb
  have s6 : dr.length = 40 := drl
  have rl := ro.l
  refine W_nm ?_
  simp (disch := first | omega | (simp; done) | (simp; omega)) [okb, -R.ok_bind, -List.map_append, -List.map_set, -List.map_map, startE, c_law_0, cl, e1']
  refine W_nm ?_
  simp (disch := first | omega | (simp; done) | (simp; omega)) [okb, -R.ok_bind, -List.map_append, -List.map_set, -List.map_map, m39, c_law_2, sr]
  refine W_nm ?_
  simp (disch := first | omega | (simp; done) | (simp; omega)) [okb, -R.ok_bind, -List.map_append, -List.map_set, -List.map_map]
  refine W_nm ?_
  simp (disch := first | omega | (simp; done) | (simp; omega)) [okb, -R.ok_bind, -List.map_append, -List.map_set, -List.map_map]
  refine W_nm ?_
  simp (disch := first | omega | (simp; done) | (simp; omega)) [okb, -R.ok_bind, -List.map_append, -List.map_set, -List.map_map, c_law_0, cl2, e2']
  obtain ⟨hbest, pm, pw⟩ := best_ok ro
  have pm : (bo rm rm.length).Perm (rI rm.length) := pm
  have F : Fine rm (bo rm rm.length) := ⟨pm, pw⟩
  have BB := (bo_bst ro rm.length (Nat.le_refl _)).2
  have oi := Fine.inn pm
  have bl : (bo rm rm.length).length = rm.length := by rw [pm.length_eq]; simp [rI]
  have eb : ∀ best, bo rm rm.length = best → True := fun _ _ => trivial
  generalize hbo : bo rm rm.length = best at hbest pm pw F BB oi bl
  refine W_nm ?_
  simp (disch := first | omega | (simp; done) | (simp; omega)) [okb, -R.ok_bind, -List.map_append, -List.map_set, -List.map_map, c_law_3, hbest]
  have ne1 : evCmp .ne (.list ((sortI best).map PyData.int)) (.list (rngD 0 rm.length)) = .ok false := by
    rw [rng_map]
    have := ne_enc (sortI best) (rI rm.length)
    rwa [decide_eq_true (sort_iff.mpr pm)] at this
  have nr : evCmp .ne (.list (rm.map enc)) (.list (rm.map enc)) = .ok false := by
    have := ne_enc rm rm
    rwa [decide_eq_true rfl] at this
  have fo := fulfils_ok ro (by omega : best.length < 60)
  rw [pB_t F] at fo
  have lc := law_cost_ok ro oi
  refine W_if ?_
  simp (disch := first | omega | (simp; done) | (simp; omega)) [okb, -R.ok_bind, -List.map_append, -List.map_set, -List.map_map, ne1, nr, c_law_4, fo]
  refine W_nil ?_
  refine W_nm ?_
  simp (disch := first | omega | (simp; done) | (simp; omega)) [okb, -R.ok_bind, -List.map_append, -List.map_set, -List.map_map, c_law_5, lc]
  refine W_own ?_
  simp (disch := first | omega | (simp; done) | (simp; omega)) [okb, -R.ok_bind, -List.map_append, -List.map_set, -List.map_map]
  refine W_own ?_
  simp (disch := first | omega | (simp; done) | (simp; omega)) [okb, -R.ok_bind, -List.map_append, -List.map_set, -List.map_map]
  have B2 := dr_bd (L := 27720) (by omega) hb2
  rw [rng_map]
  refine W_rng (lo := 0) (n := rm.length) (fun k e => ∃ (dn sp : List Int) (x10 : Option (D × Bool)), e = [some (.list (ns.map PyData.int), true), some (.list (dr.map PyData.int), true), some (.list (rm.map enc), true), some (.int (rm.length : Int), true), some (.list (rm.map enc), true), some (.list (mo.map PyData.int), true), some (.list (best.map PyData.int), true), some (.int (cst rm 0 best), true), some (.list (dn.map PyData.int), false), some (.list (sp.map PyData.int), false), x10, none, none, none, none, none, none, none, none, none, none, none, none] ∧ dn.length = k ∧ (dn ++ sp).Perm (rI rm.length)) (by simp (disch := first | omega | (simp; done) | (simp; omega)) [okb, -R.ok_bind, -List.map_append, -List.map_set, -List.map_map]) ⟨[], rI rm.length, _, rfl, rfl, .refl _⟩ ?_ ?_
  · rintro k e hk ⟨dn, sp, x10, rfl, dl, dp⟩ K' hT
    have hlen := dp.length_eq
    have rIl : (rI rm.length).length = rm.length := by simp [rI]
    rw [List.length_append] at hlen
    have spp : (0 : Int) < sp.length := by omega
    have mk := mod_bd (ix mo (k : Int)) spp
    have k40 : (k : Int) < 12 := by omega
    simp (disch := first | omega | (simp; done) | (simp; omega)) [okb, -R.ok_bind, -List.map_append, -List.map_set, -List.map_map]
    refine W_xp (ds := sp.map PyData.int) (es := dn.map PyData.int) (by decide) rfl rfl rfl rfl (by simp; omega) ?_
    simp (disch := first | omega | (simp; done) | (simp; omega)) [okb, -R.ok_bind, -List.map_append, -List.map_set, -List.map_map, spp]
    generalize ix mo (k : Int) % (sp.length : Int) = at_ at mk
    refine ⟨by omega, at_.toNat, by rw [ixN_nn mk.1 (by simpa using mk.2)], ?_⟩
    have ga : at_.toNat < sp.length := by omega
    have e3 : (Option.map PyData.int sp[at_.toNat]?).getD PyData.none = PyData.int sp[at_.toNat] := by
      rw [List.getElem?_eq_getElem ga]
      rfl
    have e4 : (sp.map PyData.int).eraseIdx at_.toNat = (sp.eraseIdx at_.toNat).map PyData.int := by simp [List.eraseIdx_eq_take_drop_succ]
    rw [e3, e4]
    have e5 : dn.map PyData.int ++ [PyData.int sp[at_.toNat]] = (dn ++ [sp[at_.toNat]]).map PyData.int := by simp
    rw [e5]
    refine W_nil (hT.nx _ ⟨dn ++ [sp[at_.toNat]], sp.eraseIdx at_.toNat, _, rfl, by simp [dl], ?_⟩)
    refine List.Perm.trans ?_ dp
    rw [List.append_assoc]
    exact (erase_perm ga).append_left dn
  rintro e ⟨dn, sp, x10, rfl, dl, dp⟩
  have dlen := dp.length_eq
  have rIl : (rI rm.length).length = rm.length := by simp [rI]
  rw [List.length_append] at dlen
  have sp0 : sp = [] := List.eq_nil_of_length_eq_zero (by omega)
  subst sp0
  rw [List.append_nil] at dp
  have dni := Fine.inn dp
  refine W_fzz ?_
  refine W_fzz ?_
  refine W_own ?_
  simp (disch := first | omega | (simp; done) | (simp; omega)) [okb, -R.ok_bind, -List.map_append, -List.map_set, -List.map_map, frzE]
  have tr0 : [PyData.list (best.map PyData.int), .list (dn.map PyData.int), .list (best.map PyData.int).reverse, .list (rngD 0 rm.length)] = [best, dn, best.reverse, rI rm.length].map (enc : List Int → D) := by
    rw [rng_map]
    simp
  rw [tr0]
  have ok0 : ∀ o ∈ [best, dn, best.reverse, rI rm.length], o.Perm (rI rm.length) := fun o ho => by
    simp only [List.mem_cons, List.not_mem_nil, or_false] at ho
    rcases ho with rfl | rfl | rfl | rfl
    · exact pm
    · exact dp
    · exact (List.reverse_perm best).trans pm
    · exact .refl _
  refine W_rng (lo := 0) (n := rm.length - 1) (fun k e => ∃ (ts : List (List Int)) (x10 : Option (D × Bool)), e = [some (.list (ns.map PyData.int), true), some (.list (dr.map PyData.int), true), some (.list (rm.map enc), true), some (.int (rm.length : Int), true), some (.list (rm.map enc), true), some (.list (mo.map PyData.int), true), some (.list (best.map PyData.int), true), some (.int (cst rm 0 best), true), some (.list (dn.map PyData.int), true), some (.list ([] : List D), true), x10, some (.list (ts.map enc), false), none, none, none, none, none, none, none, none, none, none, none] ∧ ts.length = k + 4 ∧ ∀ o ∈ ts, o.Perm (rI rm.length)) (by simp (disch := first | omega | (simp; done) | (simp; omega)) [okb, -R.ok_bind, -List.map_append, -List.map_set, -List.map_map]) ⟨_, _, rfl, rfl, ok0⟩ ?_ ?_
  · rintro k e hk ⟨ts, x10, rfl, tl, tp⟩ K' hT
    have k1 : (k : Int) < best.length := by omega
    have k2 : (k : Int) + 1 < best.length := by omega
    simp (disch := first | omega | (simp; done) | (simp; omega)) [okb, -R.ok_bind, -List.map_append, -List.map_set, -List.map_map]
    refine W_appM (f := (enc : List Int → D)) (xs := ts) rfl rfl (by omega) ?_
    simp (disch := first | omega | (simp; done) | (simp; omega)) [okb, -R.ok_bind, -List.map_append, -List.map_set, -List.map_map, k1, k2]
    have sp2 := split2 (o := best) (k := k) (by omega)
    refine ⟨best.take k ++ [ix best ((k : Int) + 1), ix best (k : Int)] ++ best.drop ((k : Int) + 2).toNat, ?_, W_nil (hT.nx _ ⟨_, _, rfl, by simp [tl], fun o ho => ?_⟩)⟩
    · simp
    · rcases List.mem_append.mp ho with h | h
      · exact tp o h
      · rw [List.mem_singleton.mp h, show ((k : Int) + 2).toNat = k + 2 by omega]
        refine List.Perm.trans ?_ pm
        conv => rhs; rw [sp2]
        rw [List.append_assoc]
        exact (List.Perm.swap _ _ _).append_left _
  rintro e ⟨ts, x10, rfl, tl, tp⟩
  refine W_fzz ?_
  refine W_ifM (fun e => ∃ (ts : List (List Int)), e = [some (.list (ns.map PyData.int), true), some (.list (dr.map PyData.int), true), some (.list (rm.map enc), true), some (.int (rm.length : Int), true), some (.list (rm.map enc), true), some (.list (mo.map PyData.int), true), some (.list (best.map PyData.int), true), some (.int (cst rm 0 best), true), some (.list (dn.map PyData.int), true), some (.list ([] : List D), true), x10, some (.list (ts.map enc), true), none, none, none, none, none, none, none, none, none, none, none] ∧ ts.length ≤ 3125 ∧ ∀ o ∈ ts, o.Perm (rI rm.length)) (fun K' hJ => ?_) ?_
  · simp (disch := first | omega | (simp; done) | (simp; omega)) [okb, -R.ok_bind, -List.map_append, -List.map_set, -List.map_map, frzE]
    by_cases n6 : (rm.length : Int) < 6
    · simp (disch := first | omega | (simp; done) | (simp; omega)) [okb, -R.ok_bind, -List.map_append, -List.map_set, -List.map_map, n6]
      refine ⟨?_, fun h => by omega⟩
      have oo := orders_ok (n := rm.length) (by omega)
      have lo := os_len (n := rm.length) (by omega) rm.length (by omega)
      have lp : 5 ^ rm.length ≤ 3125 := Nat.le_trans (Nat.pow_le_pow_right (by omega) (by omega : rm.length ≤ 5)) (by decide)
      refine W_nm ?_
      simp (disch := first | omega | (simp; done) | (simp; omega)) [okb, -R.ok_bind, -List.map_append, -List.map_set, -List.map_map, c_law_6, oo]
      have mem := fun o => os_perm (n := rm.length) (o := o)
      have fst := os_first ro F BB
      generalize os rm.length rm.length = al at oo lo mem fst
      have cst_ev : ∀ o ∈ al, f_law_cost.sem [.list (rm.map enc), .list (o.map PyData.int)] = .ok (.int (cst rm 0 o)) := fun o ho => law_cost_ok ro (Fine.inn ((mem o).mp ho))
      refine W_if ?_
      simp (disch := first | omega | (simp; done) | (simp; omega)) [okb, -R.ok_bind, -List.map_append, -List.map_set, -List.map_map]
      rw [goC_all (enc := (enc : List Int → D)) (g := fun o => .int (cst rm 0 o)) (fun o ho => by simp (disch := first | omega | (simp; done) | (simp; omega)) [okb, -R.ok_bind, -List.map_append, -List.map_set, -List.map_map, step_eq, c_law_5, cst_ev o ho]) (by omega)]
      have em : evBi .min .sh [.list (al.map fun o => PyData.int (cst rm 0 o))] = .ok (.int (cst rm 0 best)) := by
        have e : (al.map fun o => PyData.int (cst rm 0 o)) = (al.map (cst rm 0)).map PyData.int := by simp
        rw [e]
        refine evBi_minv (List.mem_map.mpr ⟨best, (mem best).mpr pm, rfl⟩) fun y hy => ?_
        obtain ⟨o, ho, rfl⟩ := List.mem_map.mp hy
        exact cost_least F ((mem o).mp ho)
      simp (disch := first | omega | (simp; done) | (simp; omega)) [okb, -R.ok_bind, -List.map_append, -List.map_set, -List.map_map, em]
      rw [goC_map (enc := (enc : List Int → D)) (g := fun o => if decide (cst rm 0 o = cst rm 0 best) = true then some (enc o) else none) (fun o ho => ?_) (by show 0 + _ ≤ _; omega), List.nil_append, fm_if]
      rotate_left
      · by_cases z : cst rm 0 o = cst rm 0 best
        · simp (disch := first | omega | (simp; done) | (simp; omega)) [okb, -R.ok_bind, -List.map_append, -List.map_set, -List.map_map, step_eq, c_law_5, cst_ev o ho, z]
        · simp (disch := first | omega | (simp; done) | (simp; omega)) [okb, -R.ok_bind, -List.map_append, -List.map_set, -List.map_map, step_eq, c_law_5, cst_ev o ho, z]
      have nb : evCmp .ne (.list (best.map PyData.int)) (.list (best.map PyData.int)) = .ok false := by
        have := ne_enc best best
        rwa [decide_eq_true rfl] at this
      generalize (al.filter fun o => decide (cst rm 0 o = cst rm 0 best)) = fl at fst
      cases fl with
      | nil => cases fst
      | cons h t =>
        cases fst
        simp (disch := first | omega | (simp; done) | (simp; omega)) [okb, -R.ok_bind, -List.map_append, -List.map_set, -List.map_map, nb]
        exact W_nil (W_nil (hJ.nx _ ⟨al, rfl, by omega, fun o ho => (mem o).mp ho⟩))
    · simp (disch := first | omega | (simp; done) | (simp; omega)) [okb, -R.ok_bind, -List.map_append, -List.map_set, -List.map_map, n6]
      exact W_nil (hJ.nx _ ⟨ts, rfl, by omega, tp⟩)
  rintro e ⟨ts, rfl, tl, tp⟩
  have si : ∀ i : Int, (f_law_same 9).sem [.int i, .int i] = .ok (.bool true) := fun i => same_enc i True.intro
  have sb : ∀ b : Bool, (f_law_same 9).sem [.bool b, .bool b] = .ok (.bool true) := fun b => same_enc b True.intro
  have s2 : ∀ p : T2 Int Int, (f_law_same 9).sem [.tuple [.int p.a, .int p.b], .tuple [.int p.a, .int p.b]] = .ok (.bool true) := fun p => same_enc p ⟨True.intro, True.intro⟩
  refine W_for (enc := (enc : List Int → D)) (xs := ts) (fun a e => ∃ (x12 x13 : Option (D × Bool)), e = [some (.list (ns.map PyData.int), true), some (.list (dr.map PyData.int), true), some (.list (rm.map enc), true), some (.int (rm.length : Int), true), some (.list (rm.map enc), true), some (.list (mo.map PyData.int), true), some (.list (best.map PyData.int), true), some (.int (cst rm 0 best), true), some (.list (dn.map PyData.int), true), some (.list ([] : List D), true), x10, some (.list (ts.map enc), true), x12, x13, none, none, none, none, none, none, none, none, none]) (by simp (disch := first | omega | (simp; done) | (simp; omega)) [okb, -R.ok_bind, -List.map_append, -List.map_set, -List.map_map]) ⟨_, _, rfl⟩ ?_ ?_
  · rintro a o c e hx ⟨x12, x13, rfl⟩ K' hT
    have op := tp o (by rw [hx]; simp)
    have oi2 := Fine.inn op
    have ol : o.length = rm.length := by rw [op.length_eq]; simp [rI]
    have c1 := law_cost_ok ro oi2
    have c2 := cost_ok ro oi2
    have ib := is_best_ok ro (by omega : o.length < 60)
    have cf := cost_fine ro F op
    have cl3 := cost_least F op
    have nlt : ¬ cst rm 0 o < cst rm 0 best := by omega
    simp (disch := first | omega | (simp; done) | (simp; omega)) [okb, -R.ok_bind, -List.map_append, -List.map_set, -List.map_map]
    refine W_nm ?_
    simp (disch := first | omega | (simp; done) | (simp; omega)) [okb, -R.ok_bind, -List.map_append, -List.map_set, -List.map_map, c_law_5, c1]
    refine W_if ?_
    by_cases z : cst rm 0 o = cst rm 0 best
    · rw [pB_t (cf.mp z)] at ib
      simp (disch := first | omega | (simp; done) | (simp; omega)) [okb, -R.ok_bind, -List.map_append, -List.map_set, -List.map_map, c_law_7, c2, c_law_8, si, nlt, c_law_9, ib, sb, z]
      exact W_nil (W_nil (hT.nx _ ⟨_, _, rfl⟩))
    · rw [pB_f fun h => z (cf.mpr h)] at ib
      simp (disch := first | omega | (simp; done) | (simp; omega)) [okb, -R.ok_bind, -List.map_append, -List.map_set, -List.map_map, c_law_7, c2, c_law_8, si, nlt, c_law_9, ib, sb, z]
      exact W_nil (W_nil (hT.nx _ ⟨_, _, rfl⟩))
  rintro e ⟨x12, x13, rfl⟩
  refine W_for (enc := (enc : List Int → D)) (xs := [best, dn]) (fun a e => ∃ (x12 x13 x14 : Option (D × Bool)), e = [some (.list (ns.map PyData.int), true), some (.list (dr.map PyData.int), true), some (.list (rm.map enc), true), some (.int (rm.length : Int), true), some (.list (rm.map enc), true), some (.list (mo.map PyData.int), true), some (.list (best.map PyData.int), true), some (.int (cst rm 0 best), true), some (.list (dn.map PyData.int), true), some (.list ([] : List D), true), x10, some (.list (ts.map enc), true), x12, x13, x14, none, none, none, none, none, none, none, none]) (by simp (disch := first | omega | (simp; done) | (simp; omega)) [okb, -R.ok_bind, -List.map_append, -List.map_set, -List.map_map]) ⟨_, _, _, rfl⟩ ?_ ?_
  · rintro a o c e hx ⟨x12, x13, x14, rfl⟩ K' hT
    have om : o ∈ [best, dn] := by rw [hx]; simp
    have op : o.Perm (rI rm.length) := by
      simp only [List.mem_cons, List.not_mem_nil, or_false] at om
      rcases om with rfl | rfl
      · exact pm
      · exact dp
    have m1 := mean_ok ro (Fine.inn op) wp
    have m2 := law_mean_ok ro (Fine.inn op) wp
    rw [enc_T2, enc_int] at m1 m2
    have sq := s2 (meanI rm o)
    simp (disch := first | omega | (simp; done) | (simp; omega)) [okb, -R.ok_bind, -List.map_append, -List.map_set, -List.map_map]
    refine W_nm ?_
    simp (disch := first | omega | (simp; done) | (simp; omega)) [okb, -R.ok_bind, -List.map_append, -List.map_set, -List.map_map, c_law_10, m1]
    refine W_if ?_
    simp (disch := first | omega | (simp; done) | (simp; omega)) [okb, -R.ok_bind, -List.map_append, -List.map_set, -List.map_map, c_law_11, m2, c_law_8, sq]
    exact W_nil (W_nil (hT.nx _ ⟨_, _, _, rfl⟩))
  rintro e ⟨x12, x13, x14, rfl⟩
  have rep0 : (List.replicate rm.length [PyData.int 0]).flatten = (List.replicate rm.length (0 : Int)).map PyData.int := by rw [flat_one, List.map_replicate]
  refine W_for (enc := (enc : List Int → D)) (xs := [best.drop 1, best ++ (best.drop 0).take 1, List.replicate rm.length 0, best ++ [(rm.length : Int)], [-1] ++ best.drop 1, [], [(rm.length : Int)] ++ best.drop 1]) (fun a e => ∃ (x12 x13 x14 x15 : Option (D × Bool)), e = [some (.list (ns.map PyData.int), true), some (.list (dr.map PyData.int), true), some (.list (rm.map enc), true), some (.int (rm.length : Int), true), some (.list (rm.map enc), true), some (.list (mo.map PyData.int), true), some (.list (best.map PyData.int), true), some (.int (cst rm 0 best), true), some (.list (dn.map PyData.int), true), some (.list ([] : List D), true), x10, some (.list (ts.map enc), true), x12, x13, x14, x15, none, none, none, none, none, none, none]) ?_ ⟨_, _, _, _, rfl⟩ ?_ ?_
  · simp (disch := first | omega | (simp; done) | (simp; omega)) [okb, -R.ok_bind, -List.map_append, -List.map_set, -List.map_map, rep0]
    simp
  · rintro a o c e hx ⟨x12, x13, x14, x15, rfl⟩ K' hT
    have om : o.length < 60 := by
      have : o ∈ [best.drop 1, best ++ (best.drop 0).take 1, List.replicate rm.length 0, best ++ [(rm.length : Int)], [-1] ++ best.drop 1, [], [(rm.length : Int)] ++ best.drop 1] := by rw [hx]; simp
      simp only [List.mem_cons, List.not_mem_nil, or_false] at this
      rcases this with rfl | rfl | rfl | rfl | rfl | rfl | rfl <;> simp <;> omega
    have i1 := is_best_ok ro om
    have i2 := fulfils_ok ro om
    simp (disch := first | omega | (simp; done) | (simp; omega)) [okb, -R.ok_bind, -List.map_append, -List.map_set, -List.map_map]
    refine W_if ?_
    simp (disch := first | omega | (simp; done) | (simp; omega)) [okb, -R.ok_bind, -List.map_append, -List.map_set, -List.map_map, c_law_9, i1, c_law_4, i2, c_law_8, sb]
    exact W_nil (W_nil (hT.nx _ ⟨_, _, _, _, rfl⟩))
  rintro e ⟨x12, x13, x14, x15, rfl⟩
  obtain ⟨M, hM1, hM2⟩ := max_ex 1 (rm.map fun r => r.a)
  have M1 := hM2 1 (by simp)
  have Mr : ∀ r ∈ rm, r.a ≤ M := fun r hr => hM2 _ (by simp; exact .inr ⟨r, hr, rfl⟩)
  have M2 : M ≤ 1000 := by
    rcases List.mem_cons.mp hM1 with e | e
    · omega
    · obtain ⟨r, hr, e⟩ := List.mem_map.mp e
      have := ro.w r hr
      omega
  have em : evBi .max .sh [.list (PyData.int 1 :: (rm.map fun r => r.a).map PyData.int)] = .ok (.int M) := evBi_maxv (xs := 1 :: rm.map fun r => r.a) hM1 hM2
  refine W_nm ?_
  simp (disch := first | omega | (simp; done) | (simp; omega)) [okb, -R.ok_bind, -List.map_append, -List.map_set, -List.map_map]
  rw [goC_all (enc := (enc : Rm → D)) (g := fun r => .int r.a) (fun r hr => by simp (disch := first | omega | (simp; done) | (simp; omega)) [okb, -R.ok_bind, -List.map_append, -List.map_set, -List.map_map, step_eq]) (by omega), sum_map_ok]
  have Mb : 0 < M ∧ M < 1073741824 := by omega
  have dv : 1 ≤ 1000 / M := Int.le_ediv_of_mul_le (by omega) (by omega)
  have mxp : 0 < max 1 (1000 / M) := by omega
  have mt := mod_bd (ix mo 20) mxp
  have wll : ((rm.map fun r => r.a).map PyData.int).length ≤ 12 := by simp; omega
  generalize (rm.map fun r => r.a).map PyData.int = wl at em wll
  simp (disch := first | omega | (simp; done) | (simp; omega)) [okb, -R.ok_bind, -List.map_append, -List.map_set, -List.map_map, em, Mb, mxp]
  have ht : 1 ≤ 1 + ix mo 20 % max 1 (1000 / M) ∧ 1 + ix mo 20 % max 1 (1000 / M) ≤ 1000 / M := by omega
  generalize 1 + ix mo 20 % max 1 (1000 / M) = t at ht ⊢
  have t0 : 0 < t := by omega
  have tM : t * M ≤ 1000 := by
    have a1 : t * M ≤ (1000 / M) * M := Int.mul_le_mul_of_nonneg_right ht.2 (by omega)
    have a2 := Int.ediv_mul_le 1000 (show M ≠ 0 by omega)
    omega
  have tw : ∀ r ∈ rm, 0 ≤ t * r.a ∧ t * r.a ≤ 1000 := fun r hr => by
    have a1 := Mr r hr
    have a2 := (ro.w r hr).1
    have a3 : t * r.a ≤ t * M := Int.mul_le_mul_of_nonneg_left a1 (by omega)
    have a4 : 0 ≤ t * r.a := Int.mul_nonneg (by omega) a2
    omega
  have tl : t ≤ 1000 := by
    have : t * 1 ≤ t * M := Int.mul_le_mul_of_nonneg_left M1 (by omega)
    omega
  refine W_nm ?_
  simp (disch := first | omega | (simp; done) | (simp; omega)) [okb, -R.ok_bind, -List.map_append, -List.map_set, -List.map_map]
  rw [goC_all (enc := (enc : Rm → D)) (g := fun r => enc (⟨t * r.a, r.b⟩ : Rm)) (fun r hr => by simp (disch := first | omega | (simp; done) | (simp; omega)) [okb, -R.ok_bind, -List.map_append, -List.map_set, -List.map_map, step_eq]) (by omega)]
  have es : rm.map (fun r => enc (⟨t * r.a, r.b⟩ : Rm)) = (scl t rm).map enc := by unfold scl; simp
  rw [es]
  have sl : (scl t rm).length = rm.length := by simp [scl]
  have ro2 : ROk (scl t rm) := ⟨fun r hr => by
    obtain ⟨q, hq, rfl⟩ := List.mem_map.mp hr
    exact tw q hq, fun r hr => by
    obtain ⟨q, hq, rfl⟩ := List.mem_map.mp hr
    exact ro.b q hq, by rw [sl]; exact ro.l⟩
  have oi2 : In (scl t rm) best := fun x hx => by rw [sl]; exact oi x hx
  have d1 := cost_ok ro2 oi2
  have d2 := mean_ok ro2 oi2 (by rw [scl_whl]; exact Int.mul_pos t0 wp)
  have d3 := mean_ok ro oi wp
  have d4 := (best_ok ro2).1
  rw [sl, ← bo_scale (fun x y => scl_ahd t0 x y) rm.length, hbo] at d4
  rw [scl_cst] at d1
  rw [scl_mean t0] at d2
  have nm2 : evCmp .ne (enc (meanI rm best)) (enc (meanI rm best)) = .ok false := by
    have := ne_enc (meanI rm best) (meanI rm best)
    rwa [decide_eq_true rfl] at this
  have nb : evCmp .ne (.list (best.map PyData.int)) (.list (best.map PyData.int)) = .ok false := by
    have := ne_enc best best
    rwa [decide_eq_true rfl] at this
  generalize (scl t rm).map (enc : Rm → D) = many at d1 d2 d4
  simp (disch := first | omega | (simp; done) | (simp; omega)) [okb, -R.ok_bind, -List.map_append, -List.map_set, -List.map_map]
  refine W_if ?_
  rw [enc_T2, enc_int] at d2 d3 nm2
  simp (disch := first | omega | (simp; done) | (simp; omega)) [okb, -R.ok_bind, -List.map_append, -List.map_set, -List.map_map, c_law_7, d1, c_law_10, d2, d3, nm2, c_law_3, d4, nb]
  refine W_nil (W_nm ?_)
  simp (disch := first | omega | (simp; done) | (simp; omega)) [okb, -R.ok_bind, -List.map_append, -List.map_set, -List.map_map]
  rw [goC_all (enc := (enc : Rm → D)) (g := fun r => enc (⟨1, r.b⟩ : Rm)) (fun r hr => by simp (disch := first | omega | (simp; done) | (simp; omega)) [okb, -R.ok_bind, -List.map_append, -List.map_set, -List.map_map, step_eq]) (by omega)]
  have es3 : rm.map (fun r => enc (⟨1, r.b⟩ : Rm)) = (ones rm).map enc := by unfold ones; simp
  rw [es3]
  have ol : (ones rm).length = rm.length := by simp [ones]
  have ro3 : ROk (ones rm) := ⟨fun r hr => by
    obtain ⟨q, hq, rfl⟩ := List.mem_map.mp hr
    dsimp only
    omega, fun r hr => by
    obtain ⟨q, hq, rfl⟩ := List.mem_map.mp hr
    exact ro.b q hq, by rw [ol]; exact ro.l⟩
  obtain ⟨b3, p3, w3⟩ := best_ok ro3
  rw [ol] at b3 p3 w3
  generalize bo (ones rm) rm.length = bb at b3 p3 w3
  have p3 : bb.Perm (rI rm.length) := p3
  have bi := Fine.inn p3
  have bi3 : In (ones rm) bb := fun x hx => by rw [ol]; exact bi x hx
  have bbl : bb.length = rm.length := by rw [p3.length_eq]; simp [rI]
  have whp : whl (ones rm) = rm.length := ones_whl
  have d5 := mean_ok ro3 bi3 (by rw [whp]; omega)
  rw [enc_T2, enc_int] at d5
  have asc : (bb.map (bt rm)).Pairwise (· ≤ ·) := by
    rw [List.pairwise_map]
    refine List.Pairwise.imp_of_mem ?_ w3
    intro x y hx hy h
    unfold Ahd at h
    have xi := bi x hx
    have yi := bi y hy
    rw [(ones_ix xi.1 xi.2).1, (ones_ix yi.1 yi.2).1, (ones_ix xi.1 xi.2).2, (ones_ix yi.1 yi.2).2] at h
    omega
  have hbx : ∀ x ∈ bb, 0 ≤ x ∧ x < (ones rm).length := fun x hx => by rw [ol]; exact bi x hx
  have b3e : ∀ x ∈ bb, evIdx (.list ((ones rm).map enc)) (.int x) = .ok (.tuple [.int 1, .int (bt rm x)]) := fun x hx => by
    have h := hbx x hx
    have e := evIdx_map (f := (enc : Rm → D)) (xs := ones rm) h.1 h.2
    have q := ones_ix (rm := rm) (x := x) h.1 (by rw [ol] at h; exact h.2)
    unfold wt bt at q
    rw [e, enc_T2, q.1, q.2]
    rfl
  generalize hon : (ones rm).map (enc : Rm → D) = on at b3 d5 b3e
  simp (disch := first | omega | (simp; done) | (simp; omega)) [okb, -R.ok_bind, -List.map_append, -List.map_set, -List.map_map]
  refine W_asg ?_
  simp (disch := first | omega | (simp; done) | (simp; omega)) [okb, -R.ok_bind, -List.map_append, -List.map_set, -List.map_map, c_law_3, b3, c_law_10, d5]
  refine W_nm ?_
  simp (disch := first | omega | (simp; done) | (simp; omega)) [okb, -R.ok_bind, -List.map_append, -List.map_set, -List.map_map, c_law_3, b3]
  rw [goC_all (enc := PyData.int) (g := fun x => .int (bt rm x)) (fun x hx => by simp (disch := first | omega | (simp; done) | (simp; omega)) [okb, -R.ok_bind, -List.map_append, -List.map_set, -List.map_map, step_eq, b3e x hx]) (by omega)]
  have ebs : bb.map (fun x => PyData.int (bt rm x)) = (bb.map (bt rm)).map PyData.int := by simp
  rw [ebs]
  have bne : (bb.map (bt rm)) ≠ [] := fun e => by
    have := congrArg List.length e
    simp at this
    rw [this] at bbl
    simp at bbl
    omega
  have bnn : ∀ y ∈ bb.map (bt rm), 0 ≤ y := fun y hy => by
    obtain ⟨x, hx, rfl⟩ := List.mem_map.mp hy
    have := bt_pos ro (bi x hx)
    omega
  have hm := half_mean (pre 0) rfl (fun p x => by rw [pre_app]; omega) _ _ rfl bnn asc
  have ec := ones_cst (rm := rm) (o := bb) (g := 0) bi
  obtain ⟨M', hM1', hM2'⟩ : ∃ v, v ∈ bb.map (bt rm) ∧ ∀ y ∈ bb.map (bt rm), y ≤ v := by
    cases h : bb.map (bt rm) with
    | nil => exact absurd h bne
    | cons a r => exact max_ex a r
  have em2 : evBi .max .sh [.list ((bb.map (bt rm)).map PyData.int)] = .ok (.int M') := evBi_maxv hM1' hM2'
  have hsum : (bb.map (bt rm)).sum ≤ (rm.length : Int) * M' := by
    have : ∀ q : List Int, (∀ y ∈ q, y ≤ M') → q.sum ≤ (q.length : Int) * M' := fun q => by
      induction q with
      | nil => intro _; simp
      | cons y q ih2 =>
        intro h
        have a := ih2 fun z hz => h z (by simp [hz])
        have b := h y (by simp)
        rw [List.sum_cons, List.length_cons]
        have e : (((q.length + 1 : Nat)) : Int) * M' = (q.length : Int) * M' + M' := by
          rw [show (((q.length + 1 : Nat)) : Int) = (q.length : Int) + 1 by omega, Int.add_mul, Int.one_mul]
        omega
    have h := this _ hM2'
    rw [List.length_map, bbl] at h
    exact h
  rw [← ec, List.length_map, bbl] at hm
  have gp := gcdI_pos (a := cst (ones rm) 0 bb) (b := whl (ones rm)) (by rw [whp]; omega)
  have fin : 2 * (meanI (ones rm) bb).a ≤ (meanI (ones rm) bb).b * ((bb.map (bt rm)).sum + M') := by
    have da : gcdI (cst (ones rm) 0 bb) (whl (ones rm)) ∣ cst (ones rm) 0 bb := Int.ofNat_dvd_left.mpr (Nat.gcd_dvd_left _ _)
    have db : gcdI (cst (ones rm) 0 bb) (whl (ones rm)) ∣ whl (ones rm) := Int.ofNat_dvd_left.mpr (Nat.gcd_dvd_right _ _)
    have ea := Int.ediv_mul_cancel da
    have eb2 := Int.ediv_mul_cancel db
    show 2 * (cst (ones rm) 0 bb / gcdI (cst (ones rm) 0 bb) (whl (ones rm))) ≤ (whl (ones rm) / gcdI (cst (ones rm) 0 bb) (whl (ones rm))) * _
    generalize cst (ones rm) 0 bb = C at ea eb2 gp hm ⊢
    generalize whl (ones rm) = W at whp ea eb2 gp ⊢
    subst whp
    generalize gcdI C (rm.length : Int) = g at ea eb2 gp ⊢
    generalize C / g = qa at ea ⊢
    generalize (rm.length : Int) / g = qb at eb2 ⊢
    refine Int.le_of_mul_le_mul_right (a := g) ?_ gp.1
    have e1 : 2 * qa * g = 2 * (qa * g) := Int.mul_assoc _ _ _
    have e2 : qb * ((bb.map (bt rm)).sum + M') * g = (qb * g) * ((bb.map (bt rm)).sum + M') := by rw [Int.mul_assoc, Int.mul_comm _ g, ← Int.mul_assoc]
    rw [e1, e2, ea, eb2, Int.mul_add]
    rw [Int.add_mul, Int.one_mul] at hm
    omega
  have srt : sortI (bb.map (bt rm)) = bb.map (bt rm) := (sortI_eq (.refl _) asc).symm
  have eqb : evCmp .eq (.list ((bb.map (bt rm)).map PyData.int)) (.list ((bb.map (bt rm)).map PyData.int)) = .ok true := by
    have := eq_enc (bb.map (bt rm)) (bb.map (bt rm))
    rwa [decide_eq_true rfl] at this
  have w12 : (meanI (ones rm) bb).b < 18446744073709551616 ∧ 0 ≤ (meanI (ones rm) bb).b := by
    have h1 : 0 ≤ whl (ones rm) / gcdI (cst (ones rm) 0 bb) (whl (ones rm)) := Int.ediv_nonneg (by rw [whp]; omega) (by omega)
    have h2 : whl (ones rm) / gcdI (cst (ones rm) 0 bb) (whl (ones rm)) ≤ whl (ones rm) := Int.ediv_le_self _ (by rw [whp]; omega)
    show whl (ones rm) / gcdI (cst (ones rm) 0 bb) (whl (ones rm)) < _ ∧ 0 ≤ whl (ones rm) / gcdI (cst (ones rm) 0 bb) (whl (ones rm))
    omega
  generalize (meanI (ones rm) bb).a = fa at fin
  generalize (meanI (ones rm) bb).b = fb at fin w12
  generalize hbs : bb.map (bt rm) = bs at srt eqb em2 fin
  simp (disch := first | omega | (simp; done) | (simp; omega)) [okb, -R.ok_bind, -List.map_append, -List.map_set, -List.map_map]
  refine W_one ?_
  simp (disch := first | omega | (simp; done) | (simp; omega)) [okb, -R.ok_bind, -List.map_append, -List.map_set, -List.map_map, srt, eqb, em2, fin]
  exact hK.rt _ rfl
end K59

open PySem PySem.W PyProof.Rows
set_option maxHeartbeats 0 in
theorem PySem.Challenge.cw_hallsemptied_k59_whole_orders_of_search_holds : PySem.Challenge.rw_hallsemptied_k59_whole_orders_of_search.Holds := by
  w_on; o_law; k_head; (case hw => w_witness2)
  k_fill
  refine Pv.walk_at (l := PySem.Challenge.rw_hallsemptied_k59_whole_orders_of_search) (n := 63) (x := "script") (sp := fun _ => Pv.spL K59.f_law) rfl (by decide) rfl (fun w h Y => PySem.W.kIn_of Y) ?F ?H (fun _ _ _ _ _ h => Pv.no_cx h)
  case F =>
    intro w mg fa h KX G hmg
    refine' K59.walk ?F_cost_of ?F_mean_of ?F_stands_ahead ?F_best_order ?F_is_best_order ?F_law_cell ?F_law_numbers ?F_law_same ?F_law_search ?F_law_cost ?F_law_orders ?F_law_fulfils ?F_law_mean ?F_law   ?hb hmg
    case F_cost_of =>
      refine' Pv.fun_ex KX G ?a ?l ?c ?k (fun _ _ _ _ _ _ us hl => match us, hl with | [_, _], _ => rfl)
      (case a => k_is); (case l => k_is); (case c => k_is); (case k => k_is)
    case F_mean_of =>
      refine' Pv.fun_ex KX G ?a ?l ?c ?k (fun _ _ _ _ _ _ us hl => match us, hl with | [_, _], _ => rfl)
      (case a => k_is); (case l => k_is); (case c => k_is); (case k => k_is)
    case F_stands_ahead =>
      refine' Pv.fun_ex KX G ?a ?l ?c ?k (fun _ _ _ _ _ _ us hl => match us, hl with | [_, _], _ => rfl)
      (case a => k_is); (case l => k_is); (case c => k_is); (case k => k_is)
    case F_best_order =>
      refine' Pv.fun_ex KX G ?a ?l ?c ?k (fun _ _ _ _ _ _ us hl => match us, hl with | [_], _ => rfl)
      (case a => k_is); (case l => k_is); (case c => k_is); (case k => k_is)
    case F_is_best_order =>
      refine' Pv.fun_ex KX G ?a ?l ?c ?k (fun _ _ _ _ _ _ us hl => match us, hl with | [_, _], _ => rfl)
      (case a => k_is); (case l => k_is); (case c => k_is); (case k => k_is)
    case F_law_cell =>
      refine' Pv.fun_ex KX G ?a ?l ?c ?k (fun _ _ _ _ _ _ us hl => match us, hl with | [_, _], _ => rfl)
      (case a => k_is); (case l => k_is); (case c => k_is); (case k => k_is)
    case F_law_numbers =>
      refine' Pv.fun_ex KX G ?a ?l ?c ?k (fun _ _ _ _ _ _ us hl => match us, hl with | [_, _, _], _ => rfl)
      (case a => k_is); (case l => k_is); (case c => k_is); (case k => k_is)
    case F_law_same =>
      refine' Pv.fun_ex KX G ?a ?l ?c ?k (fun _ _ _ _ _ _ us hl => match us, hl with | [_, _], _ => rfl)
      (case a => k_is); (case l => k_is); (case c => k_is); (case k => k_is)
    case F_law_search =>
      refine' Pv.fun_ex KX G ?a ?l ?c ?k (fun _ _ _ _ _ _ us hl => match us, hl with | [_, _], _ => rfl)
      (case a => k_is); (case l => k_is); (case c => k_is); (case k => k_is)
    case F_law_cost =>
      refine' Pv.fun_ex KX G ?a ?l ?c ?k (fun _ _ _ _ _ _ us hl => match us, hl with | [_, _], _ => rfl)
      (case a => k_is); (case l => k_is); (case c => k_is); (case k => k_is)
    case F_law_orders =>
      refine' Pv.fun_ex KX G ?a ?l ?c ?k (fun _ _ _ _ _ _ us hl => match us, hl with | [_], _ => rfl)
      (case a => k_is); (case l => k_is); (case c => k_is); (case k => k_is)
    case F_law_fulfils =>
      refine' Pv.fun_ex KX G ?a ?l ?c ?k (fun _ _ _ _ _ _ us hl => match us, hl with | [_, _], _ => rfl)
      (case a => k_is); (case l => k_is); (case c => k_is); (case k => k_is)
    case F_law_mean =>
      refine' Pv.fun_ex KX G ?a ?l ?c ?k (fun _ _ _ _ _ _ us hl => match us, hl with | [_, _], _ => rfl)
      (case a => k_is); (case l => k_is); (case c => k_is); (case k => k_is)
    case F_law =>
      refine' Pv.fun_ex KX G ?a ?l ?c ?k (fun _ _ _ _ _ _ us hl => match us, hl with | [_], _ => rfl)
      (case a => k_is); (case l => k_is); (case c => k_is); (case k => k_is)
    case hb =>
      refine' ⟨Pv.mgB_n (by decide +kernel) (PySem.W.mg_none_of KX G ?z0), Pv.mgB_g (PySem.W.mg_of KX G ?z1), Pv.mgB_n (by decide +kernel) (PySem.W.mg_none_of KX G ?z2), Pv.mgB_n (by decide +kernel) (PySem.W.mg_none_of KX G ?z3), Pv.mgB_n (by decide +kernel) (PySem.W.mg_none_of KX G ?z4), Pv.mgB_n (by decide +kernel) (PySem.W.mg_none_of KX G ?z5), Pv.mgB_n (by decide +kernel) (PySem.W.mg_none_of KX G ?z6), Pv.mgB_n (by decide +kernel) (PySem.W.mg_none_of KX G ?z7), Pv.mgB_n (by decide +kernel) (PySem.W.mg_none_of KX G ?z8), Pv.mgB_n (by decide +kernel) (PySem.W.mg_none_of KX G ?z9), Pv.mgB_n (by decide +kernel) (PySem.W.mg_none_of KX G ?z10), Pv.mgB_n (by decide +kernel) (PySem.W.mg_none_of KX G ?z11), Pv.mgB_n (by decide +kernel) (PySem.W.mg_none_of KX G ?z12), Pv.mgB_n (by decide +kernel) (PySem.W.mg_none_of KX G ?z13), Pv.mgB_n (by decide +kernel) (PySem.W.mg_none_of KX G ?z14), True.intro⟩
      (case z0 => k_is); (case z1 => k_is); (case z2 => k_is); (case z3 => k_is); (case z4 => k_is); (case z5 => k_is); (case z6 => k_is); (case z7 => k_is); (case z8 => k_is); (case z9 => k_is); (case z10 => k_is); (case z11 => k_is); (case z12 => k_is); (case z13 => k_is); (case z14 => k_is)
  case H =>
    intro w H a ns hl _ hS
    exact Pv.ends (by kernel_rfl) hS rfl rfl (K59.plain ns hl)

