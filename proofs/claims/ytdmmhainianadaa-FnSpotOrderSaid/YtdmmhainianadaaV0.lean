/- VMA: values of a small machine whose slices are lists, what it means that such a value stands for a value of the model in a world, and how that is kept. -/
import Derived.WalkKit
import Derived.Deep.Upon
import Derived.Deep.MidRow
import Derived.Laws.StructEq
import Derived.Laws.Slices
import Derived.Orders
import Derived.KernelRfl
import Derived.Laws.Tables
import Derived.Laws.Pointers
import Derived.Laws.Small
import Derived.Great.BuildSlice
import Derived.Laws.MakeOwn
import Derived.Laws.BytesString
set_option linter.unusedSimpArgs false
set_option linter.unusedVariables false
set_option linter.unnecessarySimpa false
namespace Go.VM
open Go.RowKit

/-- A value: nothing known; a value as it stands; a struct by its cells; a tuple; an unchanging slice by its elements' cells (z cells each);
    a pointer to unchanging cells; a slice into the object k; a pointer into the object k; a closure; a slice that its cell alone leads to (what it holds is told where objects are told). -/
inductive VV where
  | any
  | sc (v : Value)
  | agg (cs : List VV)
  | tup (vs : List VV)
  | sl (z : Nat) (l : List (List VV))
  | pd (cs : List VV)
  | rf (k off len z : Nat)
  | pt (k off : Nat)
  | fn (f : FuncId) (caps : List VV)
  | ow (z : Nat) (l : List (List VV))

abbrev Heap := Nat → Option (List VV)
abbrev Slots := Nat → VV

/-- Where values are read: the world, the objects' blocks, the blocks that unchanging data keep off, the objects' names in use, the blocks that lie inside of objects. -/
structure Cx where
  w : World
  ρ : Nat → Nat
  F : Nat → Prop
  N : Nat → Prop
  φ : Nat → List Nat

def Room (w : World) (b m : Nat) : Prop := ∃ (vs : Array Value) (T : TypeId) (fr : Nat × Nat), w.heap[b]? = some (.cells vs T fr) ∧ m ≤ vs.size

/-- Unchanging data name no object. -/
def Cx.cl (C : Cx) : Cx := ⟨C.w, C.ρ, C.F, fun _ => False, C.φ⟩
/-- An object's blocks. -/
def Cx.ol (C : Cx) (k : Nat) : List Nat := C.ρ k :: C.φ k

mutual
def Rep (C : Cx) : VV → Value → Prop
  | .any, _ => True
  | .sc v, u => u = v
  | .agg cs, u => ∃ us : List Value, u = .agg us.toArray ∧ RepL C cs us
  | .tup vs, u => ∃ us : List Value, u = .tuple us.toArray ∧ RepL C vs us
  | .sl z l, u => ∃ a c, u = .slice a l.length c ∧ l.length ≤ c ∧ (l = [] ∨ ∃ ad, a = some ad ∧ RepR C.cl z l ad 0)
  | .pd cs, u => ∃ ad, u = .pointer (some ad) ∧ RepC C.cl cs ad 0
  | .rf k off len z, u => ∃ a c, u = .slice a len c ∧ len ≤ c ∧ (c = 0 ∨ (a = some ⟨C.ρ k, off, none⟩ ∧ Room C.w (C.ρ k) (off + c * z))) ∧ C.N k
  | .pt k off, u => u = .pointer (some ⟨C.ρ k, off, none⟩) ∧ C.N k
  | .fn f caps, u => ∃ us : List Value, u = .func (.func f) #[] us.toArray ∧ RepL C caps us
  | .ow _ l, u => ∃ a c, u = .slice a l.length c ∧ l.length ≤ c
def RepL (C : Cx) : List VV → List Value → Prop
  | [], us => us = []
  | c :: cs, us => ∃ v vs, us = v :: vs ∧ Rep C c v ∧ RepL C cs vs
def RepC (C : Cx) : List VV → Addr → Nat → Prop
  | [], _, _ => True
  | c :: cs, ad, i => (¬ C.F ad.block ∧ ∃ v, C.w.cell? (ad.add i) = some v ∧ v.oneCell' = true ∧ Rep C c v) ∧ RepC C cs ad (i + 1)
def RepR (C : Cx) (z : Nat) : List (List VV) → Addr → Nat → Prop
  | [], _, _ => True
  | r :: rs, ad, i => (r.length = z ∧ RepC C r ad i) ∧ RepR C z rs ad (i + z)
end

/-- Values that fill one cell. -/
def VV.one : VV → Bool
  | .sc v => v.oneCell'
  | .sl _ _ | .pd _ | .rf _ _ _ _ | .pt _ _ | .fn _ _ => true
  | _ => false

theorem Rep.oneCell {C : Cx} {x : VV} {v : Value} (h : Rep C x v) (h1 : x.one = true) : v.oneCell' = true := by
  cases x <;> simp only [VV.one] at h1 <;> simp only [Rep] at h
  case sc u => subst h; exact h1
  case sl z l => obtain ⟨a, c, rfl, _⟩ := h; rfl
  case pd cs => obtain ⟨ad, rfl, _⟩ := h; rfl
  case rf k off len z => obtain ⟨a, c, rfl, _⟩ := h; rfl
  case pt k off => obtain ⟨rfl, _⟩ := h; rfl
  case fn f caps => obtain ⟨us, rfl, _⟩ := h; rfl
  all_goals exact absurd h1 (by simp)

/-- What must be kept so that every value stands for what it stood for. -/
structure Le (C C' : Cx) : Prop where
  N : ∀ k, C.N k → C'.N k
  ρ : ∀ k, C.N k → C'.ρ k = C.ρ k
  cell : ∀ a v, ¬ C.F a.block → C.w.cell? a = some v → C'.w.cell? a = some v ∧ ¬ C'.F a.block
  room : ∀ b m, Room C.w b m → Room C'.w b m

theorem Le.cl {C C' : Cx} (h : Le C C') : Le C.cl C'.cl := ⟨fun _ h => h, fun _ h => h.elim, h.cell, h.room⟩
theorem Le.refl (C : Cx) : Le C C := ⟨fun _ h => h, fun _ _ => rfl, fun _ _ h1 h2 => ⟨h2, h1⟩, fun _ _ h => h⟩
theorem Le.trans {A B C : Cx} (h : Le A B) (k : Le B C) : Le A C :=
  ⟨fun j hj => k.N j (h.N j hj), fun j hj => (k.ρ j (h.N j hj)).trans (h.ρ j hj),
   fun a v h1 h2 => k.cell a v (h.cell a v h1 h2).2 (h.cell a v h1 h2).1, fun b m hm => k.room b m (h.room b m hm)⟩

mutual
theorem Rep.mono {C C' : Cx} (hL : Le C C') : ∀ (x : VV) {v : Value}, Rep C x v → Rep C' x v
  | .any, _, h => by simp only [Rep]
  | .sc _, _, h => by simpa only [Rep] using h
  | .agg cs, _, h => by
    simp only [Rep] at h ⊢
    obtain ⟨us, e, h⟩ := h
    exact ⟨us, e, RepL.mono hL cs h⟩
  | .tup cs, _, h => by
    simp only [Rep] at h ⊢
    obtain ⟨us, e, h⟩ := h
    exact ⟨us, e, RepL.mono hL cs h⟩
  | .sl z l, _, h => by
    simp only [Rep] at h ⊢
    obtain ⟨a, c, e, hc, h⟩ := h
    refine ⟨a, c, e, hc, ?_⟩
    rcases h with h | ⟨ad, ha, h⟩
    · exact .inl h
    · exact .inr ⟨ad, ha, RepR.mono hL.cl z l h⟩
  | .pd cs, _, h => by
    simp only [Rep] at h ⊢
    obtain ⟨ad, e, h⟩ := h
    exact ⟨ad, e, RepC.mono hL.cl cs h⟩
  | .rf k off len z, _, h => by
    simp only [Rep] at h ⊢
    obtain ⟨a, c, e, hc, hr, hk⟩ := h
    rw [hL.ρ k hk]
    exact ⟨a, c, e, hc, hr.imp id (fun h => ⟨h.1, hL.room _ _ h.2⟩), hL.N k hk⟩
  | .pt k off, _, h => by
    simp only [Rep] at h ⊢
    rw [hL.ρ k h.2]
    exact ⟨h.1, hL.N k h.2⟩
  | .fn f caps, _, h => by
    simp only [Rep] at h ⊢
    obtain ⟨us, e, h⟩ := h
    exact ⟨us, e, RepL.mono hL caps h⟩
  | .ow _ _, _, h => by simpa only [Rep] using h
theorem RepL.mono {C C' : Cx} (hL : Le C C') : ∀ (cs : List VV) {us : List Value}, RepL C cs us → RepL C' cs us
  | [], _, h => by simpa only [RepL] using h
  | c :: cs, _, h => by
    simp only [RepL] at h ⊢
    obtain ⟨v, vs, e, h1, h2⟩ := h
    exact ⟨v, vs, e, Rep.mono hL c h1, RepL.mono hL cs h2⟩
theorem RepC.mono {C C' : Cx} (hL : Le C C') : ∀ (cs : List VV) {ad : Addr} {i : Nat}, RepC C cs ad i → RepC C' cs ad i
  | [], _, _, h => by simp only [RepC]
  | c :: cs, ad, i, h => by
    simp only [RepC] at h ⊢
    obtain ⟨⟨hF, v, hv, ho, h1⟩, h2⟩ := h
    have hb : (ad.add i).block = ad.block := by unfold Addr.add; split <;> rfl
    have := hL.cell (ad.add i) v (by rw [hb]; exact hF) hv
    rw [hb] at this
    exact ⟨⟨this.2, v, this.1, ho, Rep.mono hL c h1⟩, RepC.mono hL cs h2⟩
theorem RepR.mono {C C' : Cx} (hL : Le C C') (z : Nat) : ∀ (l : List (List VV)) {ad : Addr} {i : Nat}, RepR C z l ad i → RepR C' z l ad i
  | [], _, _, h => by simp only [RepR]
  | r :: rs, ad, i, h => by
    simp only [RepR] at h ⊢
    exact ⟨⟨h.1.1, RepC.mono hL r h.1.2⟩, RepR.mono hL z rs h.2⟩
end

/-! ### Addresses -/
theorem add_block (a : Addr) (i : Nat) : (a.add i).block = a.block := by unfold Addr.add; split <;> rfl
theorem add_add (a : Addr) (i j : Nat) : (a.add i).add j = a.add (i + j) := by
  unfold Addr.add
  by_cases hi : i = 0
  · subst hi; simp
  · by_cases hj : j = 0
    · subst hj; simp [hi]
    · simp [hi, hj, Nat.add_assoc]

/-! ### Index by index -/
theorem RepL.iff {C : Cx} : ∀ {cs : List VV} {us : List Value}, RepL C cs us ↔ us.length = cs.length ∧ ∀ (j : Nat) (c : VV), cs[j]? = some c → ∃ v, us[j]? = some v ∧ Rep C c v
  | [], us => by
    simp only [RepL]
    constructor
    · rintro rfl; exact ⟨rfl, fun j c h => by simp at h⟩
    · rintro ⟨h, _⟩; exact List.eq_nil_of_length_eq_zero (by simpa using h)
  | c :: cs, us => by
    simp only [RepL]
    constructor
    · rintro ⟨v, vs, rfl, h1, h2⟩
      rw [RepL.iff] at h2
      refine ⟨by simp [h2.1], fun j d hj => ?_⟩
      cases j with
      | zero => simp at hj; subst hj; exact ⟨v, rfl, h1⟩
      | succ j => simpa using h2.2 j d (by simpa using hj)
    · rintro ⟨hl, h⟩
      cases us with
      | nil => simp at hl
      | cons v vs =>
        obtain ⟨u, hu, h1⟩ := h 0 c rfl
        simp at hu; subst hu
        refine ⟨_, vs, rfl, h1, ?_⟩
        rw [RepL.iff]
        exact ⟨by simpa using hl, fun j d hj => by simpa using h (j + 1) d (by simpa using hj)⟩
theorem RepC.iff {C : Cx} : ∀ {cs : List VV} {ad : Addr} {i : Nat}, RepC C cs ad i ↔ ∀ (j : Nat) (c : VV), cs[j]? = some c → ¬ C.F ad.block ∧ ∃ v, C.w.cell? (ad.add (i + j)) = some v ∧ v.oneCell' = true ∧ Rep C c v
  | [], ad, i => by simp [RepC]
  | c :: cs, ad, i => by
    simp only [RepC]
    rw [RepC.iff]
    constructor
    · rintro ⟨h1, h2⟩ j d hj
      cases j with
      | zero => simp at hj; subst hj; simpa using h1
      | succ j => have := h2 j d (by simpa using hj); rwa [show i + 1 + j = i + (j + 1) by omega] at this
    · intro h
      refine ⟨by simpa using h 0 c rfl, fun j d hj => ?_⟩
      have := h (j + 1) d (by simpa using hj)
      rwa [show i + (j + 1) = i + 1 + j by omega] at this
theorem RepR.iff {C : Cx} {z : Nat} : ∀ {l : List (List VV)} {ad : Addr} {i : Nat}, RepR C z l ad i ↔ ∀ (j : Nat) (r : List VV), l[j]? = some r → r.length = z ∧ RepC C r ad (i + j * z)
  | [], ad, i => by simp [RepR]
  | r :: rs, ad, i => by
    simp only [RepR]
    rw [RepR.iff]
    constructor
    · rintro ⟨h1, h2⟩ j d hj
      cases j with
      | zero => simp at hj; subst hj; simpa using h1
      | succ j => have := h2 j d (by simpa using hj); rwa [show i + z + j * z = i + (j + 1) * z by rw [Nat.add_mul]; omega] at this
    · intro h
      refine ⟨by simpa using h 0 r rfl, fun j d hj => ?_⟩
      have := h (j + 1) d (by simpa using hj)
      rwa [show i + (j + 1) * z = i + z + j * z by rw [Nat.add_mul]; omega] at this

/-- Cells moved: reading from a later address. -/
theorem RepC.shift {C : Cx} {cs : List VV} {ad : Addr} {i j : Nat} : RepC C cs (ad.add i) j ↔ RepC C cs ad (i + j) := by
  rw [RepC.iff, RepC.iff]
  simp only [add_add, add_block, Nat.add_assoc]
theorem RepC.drop {C : Cx} {cs : List VV} {ad : Addr} {i : Nat} (h : RepC C cs ad i) (m : Nat) : RepC C (cs.drop m) ad (i + m) := by
  rw [RepC.iff] at h ⊢
  intro j c hj
  rw [List.getElem?_drop] at hj
  have := h (m + j) c hj
  rwa [← Nat.add_assoc] at this
theorem RepC.take {C : Cx} {cs : List VV} {ad : Addr} {i : Nat} (h : RepC C cs ad i) (m : Nat) : RepC C (cs.take m) ad i := by
  rw [RepC.iff] at h ⊢
  intro j c hj
  rw [List.getElem?_take] at hj
  split at hj
  · exact h j c hj
  · simp at hj
theorem RepL.take {C : Cx} {cs : List VV} {us : List Value} (h : RepL C cs us) (m : Nat) : RepL C (cs.take m) (us.take m) := by
  rw [RepL.iff] at h ⊢
  refine ⟨by simp [h.1], fun j c hj => ?_⟩
  rw [List.getElem?_take] at hj ⊢
  split at hj
  · rename_i hlt; simp only [hlt, if_true]; exact h.2 j c hj
  · simp at hj
theorem RepL.drop {C : Cx} {cs : List VV} {us : List Value} (h : RepL C cs us) (m : Nat) : RepL C (cs.drop m) (us.drop m) := by
  rw [RepL.iff] at h ⊢
  refine ⟨by simp [h.1], fun j c hj => ?_⟩
  rw [List.getElem?_drop] at hj ⊢
  exact h.2 _ c hj
theorem RepL.append {C : Cx} : ∀ {cs ds : List VV} {us ws : List Value}, RepL C cs us → RepL C ds ws → RepL C (cs ++ ds) (us ++ ws)
  | [], ds, us, ws, h, k => by simp only [RepL] at h; subst h; simpa using k
  | c :: cs, ds, us, ws, h, k => by
    simp only [RepL] at h
    obtain ⟨v, vs, rfl, h1, h2⟩ := h
    simp only [List.cons_append, RepL]
    exact ⟨v, vs ++ ws, rfl, h1, RepL.append h2 k⟩
theorem RepL.length {C : Cx} {cs : List VV} {us : List Value} (h : RepL C cs us) : us.length = cs.length := (RepL.iff.1 h).1

/-- Cells that are read: the model's values. -/
theorem RepC.values {C : Cx} : ∀ {cs : List VV} {ad : Addr} {i : Nat}, RepC C cs ad i → ∃ us, RepL C cs us ∧ (∀ v ∈ us, v.oneCell' = true) ∧ ∀ j v, us[j]? = some v → C.w.cell? (ad.add (i + j)) = some v
  | [], ad, i, _ => ⟨[], by simp only [RepL], by simp, fun j v h => by simp at h⟩
  | c :: cs, ad, i, h => by
    simp only [RepC] at h
    obtain ⟨⟨_, v, hv, ho, hr⟩, h2⟩ := h
    obtain ⟨us, hu, h1, hc⟩ := RepC.values h2
    refine ⟨v :: us, by simp only [RepL]; exact ⟨v, us, rfl, hr, hu⟩, by simpa using ⟨ho, h1⟩, fun j u hj => ?_⟩
    cases j with
    | zero => simp at hj; subst hj; simpa using hv
    | succ j => have := hc j u (by simpa using hj); rwa [show i + 1 + j = i + (j + 1) by omega] at this

/-! ### Objects -/
mutual
/-- The blocks S, one behind the other, are what x leads to; nothing else leads there. -/
def Dp (C : Cx) : VV → Value → List Nat → Prop
  | .ow z l, u, S => ∃ (a : Option Addr) (c b : Nat) (S' : List Nat) (vs : Array Value) (T : TypeId) (fr : Nat × Nat), u = .slice a l.length c ∧ l.length ≤ c ∧ S = b :: S' ∧ (c = 0 ∨ a = some ⟨b, 0, none⟩) ∧
      C.w.heap[b]? = some (.cells vs T fr) ∧ (∀ i, i < vs.size → ¬ (fr.1 ≤ i ∧ i < fr.2)) ∧ c * z ≤ vs.size ∧ (∀ r ∈ l, r.length = z) ∧
      RepL C.cl l.flatten (vs.toList.take (l.length * z)) ∧ (∀ v ∈ vs.toList.take (l.length * z), v.oneCell' = true) ∧ DsR C l vs.toList S'
  | _, _, S => S = []
def DsL (C : Cx) : List VV → List Value → List Nat → Prop
  | [], _, S => S = []
  | x :: xs, us, S => ∃ v vs S1 S2, us = v :: vs ∧ S = S1 ++ S2 ∧ Dp C x v S1 ∧ DsL C xs vs S2
def DsR (C : Cx) : List (List VV) → List Value → List Nat → Prop
  | [], _, S => S = []
  | r :: l, us, S => ∃ S1 S2, S = S1 ++ S2 ∧ DsL C r us S1 ∧ DsR C l (us.drop r.length) S2
end
/-- Cells that lead nowhere by themselves. -/
def VV.dry : VV → Bool
  | .ow _ _ => false
  | _ => true
theorem Dp.dry {C : Cx} {x : VV} {u : Value} {S : List Nat} (hx : x.dry = true) : Dp C x u S ↔ S = [] := by
  cases x <;> simp [VV.dry] at hx <;> simp only [Dp]
theorem DsL.dry {C : Cx} : ∀ {xs : List VV} {us : List Value}, xs.all VV.dry = true → xs.length ≤ us.length → DsL C xs us []
  | [], _, _, _ => by simp only [DsL]
  | x :: xs, us, h, hl => by
    simp only [List.all_cons, Bool.and_eq_true] at h
    cases us with
    | nil => simp at hl
    | cons v vs =>
      simp only [DsL]
      exact ⟨v, vs, [], [], rfl, rfl, (Dp.dry h.1).2 rfl, DsL.dry h.2 (by simpa using hl)⟩
theorem DsL.append {C : Cx} : ∀ {xs ys : List VV} {us : List Value} {S : List Nat}, DsL C (xs ++ ys) us S ↔ ∃ S1 S2, S = S1 ++ S2 ∧ DsL C xs us S1 ∧ DsL C ys (us.drop xs.length) S2
  | [], ys, us, S => by
    simp only [List.nil_append, DsL, List.length_nil, List.drop_zero]
    constructor
    · intro h; exact ⟨[], S, rfl, rfl, h⟩
    · rintro ⟨S1, S2, rfl, rfl, h⟩; exact h
  | x :: xs, ys, us, S => by
    simp only [List.cons_append, DsL]
    constructor
    · rintro ⟨v, vs, S1, S2, rfl, rfl, h1, h2⟩
      obtain ⟨A, B, rfl, h3, h4⟩ := DsL.append.1 h2
      exact ⟨S1 ++ A, B, by simp, ⟨v, vs, S1, A, rfl, rfl, h1, h3⟩, by simpa using h4⟩
    · rintro ⟨S1, S2, rfl, ⟨v, vs, A, B, rfl, rfl, h1, h2⟩, h3⟩
      exact ⟨v, vs, A, B ++ S2, rfl, by simp, h1, DsL.append.2 ⟨B, S2, rfl, h2, by simpa using h3⟩⟩
theorem DsR.iff {C : Cx} : ∀ {l : List (List VV)} {us : List Value} {S : List Nat}, DsR C l us S ↔ DsL C l.flatten us S
  | [], us, S => by simp only [DsR, List.flatten_nil, DsL]
  | r :: l, us, S => by
    simp only [DsR, List.flatten_cons]
    rw [DsL.append]
    constructor
    · rintro ⟨A, B, e, h1, h2⟩; exact ⟨A, B, e, h1, DsR.iff.1 h2⟩
    · rintro ⟨A, B, e, h1, h2⟩; exact ⟨A, B, e, h1, DsR.iff.2 h2⟩
theorem DsL.take {C : Cx} : ∀ {xs : List VV} {us : List Value} {S : List Nat} {m : Nat}, xs.length ≤ m → (DsL C xs (us.take m) S ↔ DsL C xs us S)
  | [], us, S, m, _ => by simp only [DsL]
  | x :: xs, us, S, m, h => by
    cases m with
    | zero => simp at h
    | succ m =>
      simp only [DsL]
      cases us with
      | nil => simp
      | cons u us =>
        simp only [List.take_succ_cons, List.cons.injEq]
        constructor
        · rintro ⟨v, vs, A, B, ⟨rfl, rfl⟩, e, h1, h2⟩; exact ⟨_, _, A, B, ⟨rfl, rfl⟩, e, h1, (DsL.take (by simpa using h)).1 h2⟩
        · rintro ⟨v, vs, A, B, ⟨rfl, rfl⟩, e, h1, h2⟩; exact ⟨_, _, A, B, ⟨rfl, rfl⟩, e, h1, (DsL.take (by simpa using h)).2 h2⟩
mutual
theorem Dp.mono' {C C' : Cx} (hL : Le C.cl C'.cl) : ∀ (x : VV) {u : Value} {S : List Nat}, (∀ b ∈ S, C'.w.heap[b]? = C.w.heap[b]?) → Dp C x u S → Dp C' x u S
  | .ow z l, u, S, hb, h => by
    simp only [Dp] at h ⊢
    obtain ⟨a, c, b, S', vs, T, fr, h1, h2, rfl, h4, h5, h6, h7, h8, h9, h10, h11⟩ := h
    exact ⟨a, c, b, S', vs, T, fr, h1, h2, rfl, h4, (hb b (by simp)).trans h5, h6, h7, h8, RepL.mono hL _ h9, h10, DsR.mono' hL l (fun q hq => hb q (by simp [hq])) h11⟩
  | .any, _, _, _, h | .sc _, _, _, _, h | .agg _, _, _, _, h | .tup _, _, _, _, h | .sl _ _, _, _, _, h | .pd _, _, _, _, h | .rf _ _ _ _, _, _, _, h | .pt _ _, _, _, _, h | .fn _ _, _, _, _, h => by simpa only [Dp] using h
theorem DsL.mono' {C C' : Cx} (hL : Le C.cl C'.cl) : ∀ (xs : List VV) {us : List Value} {S : List Nat}, (∀ b ∈ S, C'.w.heap[b]? = C.w.heap[b]?) → DsL C xs us S → DsL C' xs us S
  | [], _, _, _, h => by simpa only [DsL] using h
  | x :: xs, us, S, hb, h => by
    simp only [DsL] at h ⊢
    obtain ⟨v, vs, A, B, rfl, rfl, h1, h2⟩ := h
    exact ⟨v, vs, A, B, rfl, rfl, Dp.mono' hL x (fun q hq => hb q (by simp [hq])) h1, DsL.mono' hL xs (fun q hq => hb q (by simp [hq])) h2⟩
theorem DsR.mono' {C C' : Cx} (hL : Le C.cl C'.cl) : ∀ (l : List (List VV)) {us : List Value} {S : List Nat}, (∀ b ∈ S, C'.w.heap[b]? = C.w.heap[b]?) → DsR C l us S → DsR C' l us S
  | [], _, _, _, h => by simpa only [DsR] using h
  | r :: l, us, S, hb, h => by
    simp only [DsR] at h ⊢
    obtain ⟨A, B, rfl, h1, h2⟩ := h
    exact ⟨A, B, rfl, DsL.mono' hL r (fun q hq => hb q (by simp [hq])) h1, DsR.mono' hL l (fun q hq => hb q (by simp [hq])) h2⟩
end
theorem DsL.mono {C C' : Cx} (hL : Le C C') (xs : List VV) {us : List Value} {S : List Nat} (hb : ∀ b ∈ S, C'.w.heap[b]? = C.w.heap[b]?) (h : DsL C xs us S) : DsL C' xs us S := DsL.mono' hL.cl xs hb h

def Obj' (C : Cx) (b : Nat) (cs : List VV) (S : List Nat) : Prop :=
  ∃ (vs : Array Value) (T : TypeId) (fr : Nat × Nat), C.w.heap[b]? = some (.cells vs T fr) ∧ (∀ i, i < vs.size → ¬ (fr.1 ≤ i ∧ i < fr.2)) ∧ cs.length ≤ vs.size ∧
    RepL C cs (vs.toList.take cs.length) ∧ (∀ v ∈ vs.toList.take cs.length, v.oneCell' = true) ∧ DsL C cs vs.toList S
structure HOk (C : Cx) (H : Heap) : Prop where
  nm : ∀ k cs, H k = some cs → C.N k
  own : ∀ k, H k ≠ none → ∀ b ∈ C.ol k, C.F b
  obj : ∀ k cs, H k = some cs → Obj' C (C.ρ k) cs (C.φ k)
  nodup : ∀ k, H k ≠ none → (C.ol k).Nodup
  sep : ∀ k k', H k ≠ none → H k' ≠ none → k ≠ k' → ∀ b ∈ C.ol k, b ∉ C.ol k'
def Bd (C : Cx) : Prop := ∀ b, C.F b → b < C.w.heap.size
theorem ol_self (C : Cx) (k : Nat) : C.ρ k ∈ C.ol k := by simp [Cx.ol]
theorem HOk.inj {C : Cx} {H : Heap} (h : HOk C H) (k k' : Nat) (h1 : H k ≠ none) (h2 : H k' ≠ none) (e : C.ρ k = C.ρ k') : k = k' := by
  by_cases hk : k = k'
  · exact hk
  · exact absurd (e ▸ ol_self C k' : C.ρ k ∈ C.ol k') (h.sep k k' h1 h2 hk _ (ol_self C k))

theorem Obj'.mono {C C' : Cx} (hL : Le C C') {b : Nat} {cs : List VV} {S : List Nat} (hb : ∀ q ∈ b :: S, C'.w.heap[q]? = C.w.heap[q]?) (h : Obj' C b cs S) : Obj' C' b cs S := by
  obtain ⟨vs, T, fr, h1, h2, h3, h4, h5, h6⟩ := h
  exact ⟨vs, T, fr, (hb b (by simp)).trans h1, h2, h3, RepL.mono hL _ h4, h5, DsL.mono hL _ (fun q hq => hb q (by simp [hq])) h6⟩

/-- The objects' blocks. -/
def Own (C : Cx) (H : Heap) (b : Nat) : Prop := ∃ k, H k ≠ none ∧ b ∈ C.ol k
/-- From w to w' nothing has turned but the blocks of O; no block has shrunk. -/
structure Fr (O : Nat → Prop) (w w' : World) : Prop where
  os : w'.os = w.os
  tape : w'.tape = w.tape
  output : w'.output = w.output
  size : w.heap.size ≤ w'.heap.size
  block : ∀ b, b < w.heap.size → ¬ O b → w'.heap[b]? = w.heap[b]?
  room : ∀ b m, Room w b m → Room w' b m

theorem Fr.refl (O : Nat → Prop) (w : World) : Fr O w w := ⟨rfl, rfl, rfl, Nat.le_refl _, fun _ _ _ => rfl, fun _ _ h => h⟩
theorem Fr.trans {O : Nat → Prop} {a b c : World} (h : Fr O a b) (k : Fr O b c) : Fr O a c :=
  ⟨k.os.trans h.os, k.tape.trans h.tape, k.output.trans h.output, Nat.le_trans h.size k.size,
   fun i hi ho => (k.block i (Nat.lt_of_lt_of_le hi h.size) ho).trans (h.block i hi ho), fun i m hm => k.room i m (h.room i m hm)⟩
theorem Fr.mono {O O' : Nat → Prop} {a b : World} (h : Fr O a b) (hO : ∀ i, i < a.heap.size → O i → O' i) : Fr O' a b :=
  ⟨h.os, h.tape, h.output, h.size, fun i hi ho => h.block i hi (fun x => ho (hO i hi x)), h.room⟩

theorem room_lt {w : World} {b m : Nat} (h : Room w b m) : b < w.heap.size := by
  obtain ⟨vs, T, fr, h, _⟩ := h
  exact (Array.getElem?_eq_some_iff.1 h).1
theorem Obj'.lt {C : Cx} {b : Nat} {cs : List VV} {S : List Nat} (h : Obj' C b cs S) : b < C.w.heap.size := by
  obtain ⟨vs, T, fr, h, _⟩ := h
  exact (Array.getElem?_eq_some_iff.1 h).1
/-- Behind a step that keeps off F's complement. -/
theorem Le.of_fr {C : Cx} {w' : World} {ρ' : Nat → Nat} {F' : Nat → Prop} {N' : Nat → Prop} {φ' : Nat → List Nat} (h : Fr C.F C.w w') (hn : ∀ k, C.N k → N' k) (hρ : ∀ k, C.N k → ρ' k = C.ρ k)
    (hF : ∀ b, b < C.w.heap.size → F' b → C.F b) : Le C ⟨w', ρ', F', N', φ'⟩ :=
  ⟨hn, hρ, fun a v h1 h2 => by
    have hb := World.block_lt_of_cell? C.w a h2
    exact ⟨(World.cell?_of_block (w := C.w) (h.block a.block hb h1)).trans h2, fun x => h1 (hF _ hb x)⟩, h.room⟩
end Go.VM

/- VMB: the operations of the small machine that touch no memory, and that the model's operations do the same. -/
namespace Go.VM
open Go.RowKit

/-- How values of a type are compared. -/
inductive EqK where
  | no
  | bool
  | ptr
  | st (offs : List (Nat × Nat))

/-- The machine's operations, the types looked up. -/
inductive VOp where
  | mov (x : Operand)
  | pick (c a b : Operand)
  | new (zs : List Value)
  | box (x : Operand)
  | build (zs : List Value) (ps : List (Nat × Nat × Operand))
  | bslice (z len : Nat) (zs : List Value) (ps : List (Nat × Nat × Operand))
  | load (ag : Bool) (n : Nat) (p : Operand)
  | store (n : Nat) (p x : Operand)
  | nilc (x : Operand)
  | bin (op : BinOp) (e : EqK) (x y : Operand)
  | un (op : UnOp) (x : Operand)
  | cint (k : IntKind) (x : Operand)
  | cstr (x : Operand)
  | mks (z bytes : Nat) (zs : List Value) (x : Operand)
  | mkf (f : FuncId) (caps : List Operand)
  | slice (z : Nat) (x : Operand) (lo hi : Option Operand)
  | sslice (x : Operand) (lo hi : Option Operand)
  | fad (off : Nat) (x : Operand)
  | fld (ag : Bool) (off n : Nat) (x : Operand)
  | iad (z : Nat) (x i : Operand)
  | iada (z len : Nat) (x i : Operand)
  | sidx (x i : Operand)
  | ext (x : Operand) (i : Nat)
  | app (z bytes : Nat) (s x : Operand)
  | len (str : Bool) (x : Operand)
  | call (f : FuncId) (args : List Operand)
  | callv (f : Operand) (args : List Operand)

/-! ### What an operation is, looked up in the program -/
def zeroOf (P : Program) (t : TypeId) : Option (List Value) :=
  match (P.info? t).bind (·.zero) with
  | some v => if v.cells.toList.all Value.oneCell' then some v.cells.toList else none
  | none => none
def sizeT (P : Program) (t : TypeId) : Option Nat := (P.info? t).map (·.size)
def tagOf (P : Program) (t : TypeId) : Nat :=
  match P.underlying t with
  | some (.int _) => 1
  | some .bool => 2
  | some .string => 3
  | _ => 0
def plainField (P : Program) (f : Field) : Bool := f.name != "_" && tagOf P f.type != 0
def eqK (P : Program) (t : TypeId) : EqK :=
  match P.underlying t with
  | some .bool => .bool
  | some (.pointer _) => .ptr
  | some (.struct fs) => if !P.stoodInHeld t && !(P.eqGuardType P.depth t) && fs.all (plainField P) then .st (fs.toList.map fun f => (f.offset, tagOf P f.type)) else .no
  | _ => .no
def placesOf (P : Program) (fs : Array Field) : Option (List (Nat × Nat)) := fs.toList.mapM fun f => (P.info? f.type).map fun i => (f.offset, i.size)
def partsS (pl : List (Nat × Nat)) : List (Nat × Operand) → Option (List (Nat × Nat × Operand))
  | [] => some []
  | (i, x) :: r => match pl[i]?, partsS pl r with
    | some p, some l => some ((p.1, p.2, x) :: l)
    | _, _ => none
def partsA (z : Nat) (ps : List (Nat × Operand)) : List (Nat × Nat × Operand) := ps.map fun p => (p.1 * z, z, p.2)
def compOp (P : Program) : Op → Option VOp
  | .move x | .assign x => some (.mov x)
  | .pick c a b => some (.pick c a b)
  | .alloc e => (zeroOf P e).map .new
  | .box _ x => some (.box x)
  | .build t ps => match P.underlying t, zeroOf P t with
    | some (.struct fs), some zs => ((placesOf P fs).bind fun pl => partsS pl ps.toList).map (.build zs)
    | some (.array _ e), some zs => (sizeT P e).map fun z => .build zs (partsA z ps.toList)
    | _, _ => none
  | .buildSlice t len ps => match P.underlying t with
    | some (.slice e) => match sizeT P e, zeroOf P e with
      | some z, some zs => if len * z ≤ 16777216 ∧ zs.length = z then some (.bslice z len zs (partsA z ps.toList)) else none
      | _, _ => none
    | _ => none
  | .load t p => match P.underlying t, sizeT P t with
    | some d, some n => some (.load d.isRow n p)
    | _, _ => none
  | .store t p x => (sizeT P t).map fun n => .store n p x
  | .nilCheck x => some (.nilc x)
  | .binOp op t x y _ => some (.bin op (eqK P t) x y)
  | .unOp op _ x => some (.un op x)
  | .convert src dst x => match P.underlying src, P.underlying dst with
    | some (.int _), some (.int k) => some (.cint k x)
    | some (.slice e), some .string => match P.underlying e with
      | some (.int .u8) => some (.cstr x)
      | _ => none
    | _, _ => none
  | .makeSlice t (.tmp a) (.tmp b) => if a = b then match P.underlying t with
      | some (.slice e) => match P.info? e with
        | some i => match zeroOf P e with
          | some zs => if zs.length = i.size then some (.mks i.size i.bytes zs (.tmp a)) else none
          | none => none
        | none => none
      | _ => none
    else none
  | .makeFunc (.func f) first caps => if first.size = 0 then some (.mkf f caps.toList) else none
  | .slice t x lo hi none => match P.underlying t with
    | some (.slice e) => (sizeT P e).map fun z => .slice z x lo hi
    | some .string => some (.sslice x lo hi)
    | _ => none
  | .fieldAddr s x f => match P.underlying s with
    | some (.struct fs) => match fs[f]? with
      | some fd => match sizeT P fd.type with
        | some n => if n = 0 then none else some (.fad fd.offset x)
        | none => none
      | none => none
    | _ => none
  | .field s x f => match P.underlying s with
    | some (.struct fs) => match fs[f]? with
      | some fd => match P.underlying fd.type, sizeT P fd.type with
        | some d, some n => some (.fld d.isRow fd.offset n x)
        | _, _ => none
      | none => none
    | _ => none
  | .indexAddr t x i => match P.underlying t with
    | some (.slice e) => (sizeT P e).map fun z => .iad z x i
    | some (.array n e) => (sizeT P e).map fun z => .iada z n x i
    | _ => none
  | .index t x i => match P.underlying t with
    | some .string => some (.sidx x i)
    | _ => none
  | .extract x i => some (.ext x i)
  | .call { callee := .builtin .append, args, argTypes } => match args.toList, argTypes.toList with
    | [s, x], [t, tx] => match P.underlying t, P.underlying tx with
      | some (.slice e), some (.slice e') => match P.info? e, sizeT P e' with
        | some i, some z' => if z' = i.size ∧ (zeroOf P e).isSome ∧ ((zeroOf P e).getD []).length = i.size then some (.app i.size i.bytes s x) else none
        | _, _ => none
      | _, _ => none
    | _, _ => none
  | .call { callee := .builtin .len, args, argTypes } => match args.toList, argTypes.toList with
    | [x], [t] => match P.underlying t with
      | some .string => some (.len true x)
      | some (.slice _) => some (.len false x)
      | _ => none
    | _, _ => none
  | .call { callee := .value (.func f), args, .. } => match P.funcs[f]? with
    | some fn => if fn.body.isSome ∧ fn.name ≠ "runtime.NumGoroutine" then some (.call f args.toList) else none
    | none => none
  | .call { callee := .value (.tmp t), args, .. } => some (.callv (.tmp t) args.toList)
  | _ => none

/-! ### What an operation does to the machine's values -/
def bt (s : ByteArray) (i : Int) : Int := ((s.data.toList.getD i.toNat 0).toNat : Int)
def cellsV : VV → Option (List VV)
  | .agg cs => if cs.all VV.one then some cs else none
  | v => if v.one then some [v] else none
def fillV : List VV → List (Nat × Nat × VV) → Option (List VV)
  | cs, [] => some cs
  | cs, (off, n, x) :: r => match cellsV x with
    | none => none
    | some xs => if xs.length = n ∧ off + n ≤ cs.length then fillV (cs.take off ++ (xs ++ cs.drop (off + n))) r else none
def rdV (ag : Bool) (n : Nat) (cs : List VV) : Option VV :=
  if ag then (if n ≤ cs.length then some (.agg (cs.take n)) else none) else cs.head?
def vint (op : BinOp) (k : IntKind) (a b : Int) : Option VV :=
  match op with
  | .add => some (.sc (.int k (k.wrap (a + b))))
  | .sub => some (.sc (.int k (k.wrap (a - b))))
  | .mul => some (.sc (.int k (k.wrap (a * b))))
  | .quo => if b = 0 then none else some (.sc (.int k (k.wrap (a.tdiv b))))
  | .rem => if b = 0 then none else some (.sc (.int k (a.tmod b)))
  | .xor => some (.sc (.int k (k.wrap (BitVec.ofInt k.bits a ^^^ BitVec.ofInt k.bits b).toNat)))
  | .eql => some (.sc (.bool (a == b)))
  | .neq => some (.sc (.bool (a != b)))
  | .lss => some (.sc (.bool (decide (a < b))))
  | .leq => some (.sc (.bool (decide (a ≤ b))))
  | .gtr => some (.sc (.bool (decide (a > b))))
  | .geq => some (.sc (.bool (decide (a ≥ b))))
  | _ => none
def vstr (op : BinOp) (a b : ByteArray) : Option VV :=
  match op with
  | .add => if a.size + b.size ≤ 9223372036854775807 then some (.sc (.string (a ++ b))) else none
  | .eql => some (.sc (.bool (a.toList == b.toList)))
  | .neq => some (.sc (.bool (!(a.toList == b.toList))))
  | _ => none
def eqCell : Nat → VV → VV → Option Bool
  | 1, .sc (.int k a), .sc (.int k' b) => if k = k' then some (a == b) else none
  | 2, .sc (.bool a), .sc (.bool b) => some (a == b)
  | 3, .sc (.string a), .sc (.string b) => some (a.toList == b.toList)
  | _, _, _ => none
def eqCells (xs ys : List VV) : List (Nat × Nat) → Option Bool
  | [] => some true
  | (o, g) :: r => match xs[o]?, ys[o]? with
    | some x, some y => match eqCell g x y, eqCells xs ys r with
      | some a, some b => some (a && b)
      | _, _ => none
    | _, _ => none
def neg (op : BinOp) (b : Bool) : Option VV :=
  match op with
  | .eql => some (.sc (.bool b))
  | .neq => some (.sc (.bool (!b)))
  | _ => none
def isNilP : VV → Option Bool
  | .pt _ _ | .pd _ => some false
  | .sc (.pointer none) => some true
  | _ => none
def vbin (op : BinOp) (e : EqK) (x y : VV) : Option VV :=
  match x, y with
  | .sc (.int k a), .sc (.int k' b) => if k = k' then vint op k a b else none
  | .sc (.string a), .sc (.string b) => vstr op a b
  | .sc (.bool a), .sc (.bool b) => match e with
    | .bool => neg op (a == b)
    | _ => none
  | .agg xs, .agg ys => match e with
    | .st offs => (eqCells xs ys offs).bind (neg op)
    | _ => none
  | x, .sc (.pointer none) => match e with
    | .ptr => (isNilP x).bind (neg op)
    | _ => none
  | _, _ => none
def vun (op : UnOp) (x : VV) : Option VV :=
  match op, x with
  | .not, .sc (.bool b) => some (.sc (.bool (!b)))
  | .neg, .sc (.int k a) => some (.sc (.int k (k.wrap (0 - a))))
  | _, _ => none
/-- A bound of a slice expression. -/
def bnd (dflt : Nat) (s : Operand → VV) : Option Operand → Option Nat
  | none => some dflt
  | some x => match s x with
    | .sc (.int _ n) => if 0 ≤ n then some n.toNat else none
    | _ => none
def sliceV (z : Nat) (x : VV) (lo : Option Nat) (hi : Option Nat) : Option VV :=
  match lo, hi with
  | some l, some h => match x with
    | .sl z' r => if z' = z ∧ l ≤ h ∧ h ≤ r.length then some (.sl z ((r.take h).drop l)) else none
    | .rf k off len z' => if z' = z ∧ l ≤ h ∧ h ≤ len then some (.rf k (off + l * z) (h - l) z) else none
    | _ => none
  | _, _ => none
def lenV : VV → Option Nat
  | .sl _ l => some l.length
  | .rf _ _ len _ => some len
  | .sc (.slice none 0 0) => some 0
  | .ow _ l => some l.length
  | _ => none
def vpure (s : Operand → VV) : VOp → Option VV
  | .mov x => some (s x)
  | .pick c a b => match s c with
    | .sc (.bool t) => some (if t = true then s a else s b)
    | _ => none
  | .build zs ps => (fillV (zs.map .sc) (ps.map fun p => (p.1, p.2.1, s p.2.2))).map .agg
  | .nilc x => match s x with
    | .pt k o => some (.pt k o)
    | .pd cs => some (.pd cs)
    | .fn f cs => some (.fn f cs)
    | _ => none
  | .bin op e x y => vbin op e (s x) (s y)
  | .un op x => vun op (s x)
  | .cint k x => match s x with
    | .sc (.int _ n) => some (.sc (.int k (k.wrap n)))
    | _ => none
  | .mkf f caps => some (.fn f (caps.map s))
  | .slice z x lo hi => sliceV z (s x) (bnd 0 s lo) (bnd ((lenV (s x)).getD 0) s hi)
  | .sslice x lo hi => match s x with
    | .sc (.string b) => match bnd 0 s lo, bnd b.size s hi with
      | some l, some h => if l ≤ h ∧ h ≤ b.size then some (.sc (.string (b.extract l h))) else none
      | _, _ => none
    | _ => none
  | .fad off x => match s x with
    | .pt k o => some (.pt k (o + off))
    | .pd cs => some (.pd (cs.drop off))
    | _ => none
  | .fld ag off n x => match s x with
    | .agg cs => if off + n ≤ cs.length then rdV ag n (cs.drop off) else none
    | _ => none
  | .iad z x i => match s i with
    | .sc (.int _ j) => match s x with
      | .sl z' l => if z' = z ∧ 0 ≤ j ∧ j < l.length then some (.pd (l.getD j.toNat [])) else none
      | .rf k off len z' => if z' = z ∧ 0 ≤ j ∧ j < len then some (.pt k (off + j.toNat * z)) else none
      | _ => none
    | _ => none
  | .iada z len x i => match s i with
    | .sc (.int _ j) => match s x with
      | .pt k off => if 0 ≤ j ∧ j < len then some (.pt k (off + j.toNat * z)) else none
      | .pd cs => if 0 ≤ j ∧ j < len then some (.pd (cs.drop (j.toNat * z))) else none
      | _ => none
    | _ => none
  | .sidx x i => match s x, s i with
    | .sc (.string b), .sc (.int _ j) => if 0 ≤ j ∧ j < b.size then some (.sc (.int .u8 (bt b j))) else none
    | _, _ => none
  | .ext x i => match s x with
    | .tup vs => vs[i]?
    | _ => none
  | .len true x => match s x with
    | .sc (.string b) => some (.sc (.int .i64 b.size))
    | _ => none
  | .len false x => (lenV (s x)).map fun n => .sc (.int .i64 n)
  | _ => none

/-! ### Small facts -/
theorem RepL.cons {C : Cx} {c : VV} {cs : List VV} {v : Value} {vs : List Value} (h : Rep C c v) (k : RepL C cs vs) : RepL C (c :: cs) (v :: vs) := by
  simp only [RepL]; exact ⟨v, vs, rfl, h, k⟩
theorem RepL.nil {C : Cx} : RepL C [] [] := by simp only [RepL]
theorem RepL.scs {C : Cx} : ∀ (zs : List Value), RepL C (zs.map .sc) zs
  | [] => RepL.nil
  | z :: zs => RepL.cons (by simp only [Rep]) (RepL.scs zs)
theorem RepL.map {C : Cx} {s : Operand → VV} {e : Operand → Value} (h : ∀ x, Rep C (s x) (e x)) : ∀ (l : List Operand), RepL C (l.map s) (l.map e)
  | [] => RepL.nil
  | x :: l => RepL.cons (h x) (RepL.map h l)
theorem cells_one {v : Value} (h : v.oneCell' = true) : v.cells = #[v] := by cases v <;> first | rfl | (simp [Value.oneCell'] at h)
theorem cellsV_ok {C : Cx} {x : VV} {u : Value} {xs : List VV} (h : Rep C x u) (hx : cellsV x = some xs) : RepL C xs u.cells.toList ∧ (∀ v ∈ u.cells.toList, v.oneCell' = true) := by
  have one : ∀ y : VV, Rep C y u → y.one = true → RepL C [y] u.cells.toList ∧ (∀ v ∈ u.cells.toList, v.oneCell' = true) := by
    intro y hy h1
    have h2 := hy.oneCell h1
    rw [cells_one h2]
    exact ⟨RepL.cons hy RepL.nil, by simpa using h2⟩
  unfold cellsV at hx
  split at hx
  · rename_i cs
    split at hx
    · rename_i hall
      injection hx with hx; subst hx
      simp only [Rep] at h
      obtain ⟨us, rfl, h⟩ := h
      refine ⟨by simpa [Value.cells] using h, fun v hv => ?_⟩
      simp only [Value.cells] at hv
      obtain ⟨j, hj, rfl⟩ := List.getElem_of_mem hv
      rw [RepL.iff] at h
      have hj' : j < cs.length := by rw [← h.1]; simpa using hj
      obtain ⟨v, hv, hr⟩ := h.2 j cs[j] (List.getElem?_eq_getElem hj')
      have := hr.oneCell (List.all_eq_true.1 hall _ (List.getElem_mem hj'))
      rw [List.getElem?_eq_getElem (by simpa using hj)] at hv
      injection hv with hv
      simpa [hv] using this
    · simp at hx
  · split at hx
    · rename_i h1
      injection hx with hx; subst hx
      exact one _ h h1
    · simp at hx
theorem rdV_cells {C : Cx} {ag : Bool} {n : Nat} {cs : List VV} {r : VV} {us : List Value} (h : rdV ag n cs = some r) (hu : RepL C cs us) :
    (ag = true → n ≤ us.length ∧ Rep C r (.agg (us.take n).toArray)) ∧ (ag = false → ∃ v, us[0]? = some v ∧ Rep C r v) := by
  unfold rdV at h
  cases ag with
  | true =>
    simp only [if_true] at h
    split at h
    · rename_i hn
      injection h with h; subst h
      refine ⟨fun _ => ⟨by rw [hu.length]; exact hn, ?_⟩, fun h => by simp at h⟩
      simp only [Rep]
      exact ⟨us.take n, rfl, hu.take n⟩
    · simp at h
  | false =>
    simp only [Bool.false_eq_true, if_false] at h
    refine ⟨fun h => by simp at h, fun _ => ?_⟩
    cases cs with
    | nil => simp at h
    | cons c cs =>
      simp at h; subst h
      simp only [RepL] at hu
      obtain ⟨v, vs, rfl, h1, _⟩ := hu
      exact ⟨v, rfl, h1⟩
end Go.VM

/- VMC: the operations that touch no memory: what the machine says, the model does. -/
namespace Go.VM
open Go.RowKit

theorem run_v {P : Program} {w w' : World} {x : Sem Value} {v : Value} (h : x.run P w = .ok v w') : ((do pure (.value (← x)) : Sem Next)).run P w = .ok (.value v) w' := by simp [h]

/-! ### Cells that are set one after another -/
theorem take_set_succ (l : List Value) (i : Nat) (v : Value) (h : i < l.length) : (l.set i v).take (i + 1) = l.take i ++ [v] := by
  rw [List.set_eq_take_append_cons_drop, if_pos h]
  have hl : (l.take i).length = i := by simp; omega
  rw [List.take_append, hl, List.take_take, Nat.min_eq_right (by omega)]
  have : i + 1 - i = 1 := by omega
  rw [this]; rfl
theorem drop_set_later (l : List Value) (i m : Nat) (v : Value) (h : i < m) : (l.set i v).drop m = l.drop m := by
  apply List.ext_getElem?
  intro j
  rw [List.getElem?_drop, List.getElem?_drop, List.getElem?_set_ne (by omega)]
theorem foldl_set : ∀ (vs : List Value) (off k : Nat) (cells : Array Value), off + k + vs.length ≤ cells.size →
    ((vs.zipIdx k).foldl (fun (cs : Array Value) (p : Value × Nat) => cs.setIfInBounds (off + p.2) p.1) cells).toList = cells.toList.take (off + k) ++ (vs ++ cells.toList.drop (off + k + vs.length))
  | [], off, k, cells, h => by simp
  | v :: vs, off, k, cells, h => by
    simp only [List.length_cons] at h
    rw [List.zipIdx_cons, List.foldl_cons, foldl_set vs off (k + 1) _ (by simp; omega)]
    simp only [Array.toList_setIfInBounds]
    rw [show off + (k + 1) = off + k + 1 by omega, take_set_succ _ _ _ (by simp; omega), drop_set_later _ _ _ _ (by omega), List.append_assoc, List.length_cons, show off + k + (vs.length + 1) = off + k + 1 + vs.length by omega]
    rfl

def PartsRel (C : Cx) (place : Nat → Option (Nat × Nat)) : List (Nat × Value) → List (Nat × Nat × VV) → Prop
  | [], [] => True
  | (i, v) :: r, (off, n, x) :: q => place i = some (off, n) ∧ Rep C x v ∧ PartsRel C place r q
  | _, _ => False
theorem fill_ok {C : Cx} {place : Nat → Option (Nat × Nat)} : ∀ {parts : List (Nat × Value)} {qs : List (Nat × Nat × VV)} {cs cs' : List VV} {cells : Array Value},
    PartsRel C place parts qs → RepL C cs cells.toList → fillV cs qs = some cs' → ∃ cells', Instr.fill place cells parts = some cells' ∧ RepL C cs' cells'.toList ∧ cells'.size = cells.size ∧
      ((∀ u ∈ cells.toList, u.oneCell' = true) → ∀ u ∈ cells'.toList, u.oneCell' = true)
  | [], [], cs, cs', cells, _, hc, h => by
    simp only [fillV] at h; injection h with h; subst h
    exact ⟨cells, rfl, hc, rfl, fun h => h⟩
  | (i, v) :: r, (off, n, x) :: q, cs, cs', cells, hp, hc, h => by
    obtain ⟨hpl, hx, hp⟩ := hp
    simp only [fillV] at h
    cases hcv : cellsV x with
    | none => simp [hcv] at h
    | some xs =>
      simp only [hcv] at h
      split at h
      · rename_i hn
        obtain ⟨hn, hle⟩ := hn
        obtain ⟨hxs, hone⟩ := cellsV_ok hx hcv
        have hl : v.cells.size = n := by have := hxs.length; rw [← hn, ← this]; simp
        have hcl : cells.size = cs.length := by have := hc.length; simpa using this
        simp only [Instr.fill, hpl]
        have hcond : ¬ (v.cells.size ≠ n || decide (off + v.cells.size > cells.size)) = true := by
          simp [hl]; omega
        rw [if_neg hcond]
        have hf := foldl_set v.cells.toList off 0 cells (by simp; omega)
        have ef : (v.cells.zipIdx.foldl (fun cs (c, j) => cs.setIfInBounds (off + j) c) cells) = (v.cells.toList.zipIdx 0).foldl (fun (cs : Array Value) (p : Value × Nat) => cs.setIfInBounds (off + p.2) p.1) cells := by
          rw [← Array.foldl_toList]
          simp
        rw [ef]
        simp only [Nat.add_zero] at hf
        rw [show off + v.cells.toList.length = off + n by simp [hl]] at hf
        obtain ⟨cells', g1, g2, g3, g4⟩ := fill_ok hp (by rw [hf]; exact (hc.take off).append (hxs.append (hc.drop _))) h
        refine ⟨cells', g1, g2, ?_, fun h1 => g4 ?_⟩
        · rw [g3]
          have := congrArg List.length hf
          simp only [Array.length_toList, List.length_append, List.length_take, List.length_drop] at this
          omega
        · rw [hf]
          intro u hu
          rcases List.mem_append.1 hu with hu | hu
          · exact h1 u (List.mem_of_mem_take hu)
          · rcases List.mem_append.1 hu with hu | hu
            · exact hone u hu
            · exact h1 u (List.mem_of_mem_drop hu)
      · simp at h
  | [], _ :: _, _, _, _, hp, _, _ => by simp [PartsRel] at hp
  | _ :: _, [], _, _, _, hp, _, _ => by simp [PartsRel] at hp

section
variable {P : Program} {C : Cx} {s : Operand → VV} {e : Operand → Value} (hS : ∀ x, Rep C (s x) (e x))
include hS

theorem partsS_rel {pl : List (Nat × Nat)} : ∀ {ps : List (Nat × Operand)} {qs : List (Nat × Nat × Operand)}, partsS pl ps = some qs →
    PartsRel C (pl.toArray[·]?) (ps.map fun (i, x) => (i, e x)) (qs.map fun p => (p.1, p.2.1, s p.2.2))
  | [], qs, h => by simp only [partsS] at h; injection h with h; subst h; simp [PartsRel]
  | (i, x) :: r, qs, h => by
    simp only [partsS] at h
    cases h1 : pl[i]? with
    | none => simp [h1] at h
    | some p =>
      cases h2 : partsS pl r with
      | none => simp [h1, h2] at h
      | some l =>
        simp only [h1, h2] at h; injection h with h; subst h
        simp only [List.map_cons, PartsRel]
        exact ⟨by simpa using h1, hS x, partsS_rel h2⟩
theorem partsA_rel (z : Nat) : ∀ (ps : List (Nat × Operand)), PartsRel C (fun i => some (i * z, z)) (ps.map fun (i, x) => (i, e x)) ((partsA z ps).map fun p => (p.1, p.2.1, s p.2.2))
  | [] => by simp [partsA, PartsRel]
  | (i, x) :: r => by
    simp only [partsA, List.map_cons, PartsRel]
    exact ⟨trivial, hS x, partsA_rel z r⟩

theorem build_ok {t : TypeId} {ps : Array (Nat × Operand)} {vo : VOp} {r : VV} (hc : compOp P (.build t ps) = some vo) (hv : vpure s vo = some r) :
    ∃ v, (Instr.build t (ps.map fun (i, x) => (i, e x))).run P C.w = .ok v C.w ∧ Rep C r v := by
  simp only [compOp] at hc
  have key : ∀ (zs : List Value) (qs : List (Nat × Nat × Operand)) (place : Nat → Option (Nat × Nat)), vpure s (.build zs qs) = some r →
      PartsRel C place (ps.toList.map fun (i, x) => (i, e x)) (qs.map fun p => (p.1, p.2.1, s p.2.2)) → ∃ cells, Instr.fill place zs.toArray (ps.map fun (i, x) => (i, e x)).toList = some cells ∧ Rep C r (.agg cells) := by
    intro zs qs place hv hp
    simp only [vpure] at hv
    cases hf : fillV (zs.map .sc) (qs.map fun p => (p.1, p.2.1, s p.2.2)) with
    | none => simp [hf] at hv
    | some cs =>
      simp only [hf, Option.map_some] at hv; injection hv with hv; subst hv
      obtain ⟨cells, h1, h2, _⟩ := fill_ok hp (cells := zs.toArray) (by simpa using RepL.scs zs) hf
      refine ⟨cells, by simpa using h1, ?_⟩
      simp only [Rep]
      exact ⟨cells.toList, by simp, h2⟩
  cases hu : P.underlying t with
  | none => simp [hu] at hc
  | some d =>
    cases hz : zeroOf P t with
    | none => cases d <;> simp [hu, hz] at hc
    | some zs =>
      cases hi : P.info? t with
      | none => simp [zeroOf, hi] at hz
      | some it =>
        cases hiz : it.zero with
        | none => simp [zeroOf, hi, hiz] at hz
        | some zv =>
          have hzs : zs = zv.cells.toList := by
            simp only [zeroOf, hi, Option.bind_some, hiz] at hz
            split at hz
            · injection hz with hz; exact hz.symm
            · simp at hz
          cases d <;> try (simp [hu, hz] at hc; done)
          case array n el =>
            simp only [hu, hz] at hc
            cases hie : P.info? el with
            | none => simp [sizeT, hie] at hc
            | some ie =>
              simp only [sizeT, hie, Option.map_some] at hc
              injection hc with hc; subst hc
              obtain ⟨cells, h1, h2⟩ := key zs _ (fun i => some (i * ie.size, ie.size)) hv (partsA_rel hS ie.size ps.toList)
              refine ⟨_, run_build C.w t _ cells ?_, h2⟩
              rw [hzs] at h1
              simpa [Program.built, hi, hu, hiz, hie] using h1
          case struct fs =>
            simp only [hu, hz] at hc
            cases hp : placesOf P fs with
            | none => simp [hp] at hc
            | some pl =>
              cases hq : partsS pl ps.toList with
              | none => simp [hp, hq] at hc
              | some qs =>
                simp only [hp, hq, Option.bind_some, Option.map_some] at hc
                injection hc with hc; subst hc
                obtain ⟨cells, h1, h2⟩ := key zs _ (pl.toArray[·]?) hv (partsS_rel hS hq)
                refine ⟨_, run_build C.w t _ cells ?_, h2⟩
                rw [hzs] at h1
                unfold placesOf at hp
                simpa [Program.built, hi, hu, hiz, hp] using h1
end

/-! ### Comparisons and sums -/
section
variable {P : Program} {C : Cx} {w : World}
theorem run_isAgg_plain {t : TypeId} (h : tagOf P t ≠ 0) : (isAgg t).run P w = .ok false w := by
  unfold tagOf at h
  cases hu : P.underlying t with
  | none => simp [hu] at h
  | some d => unfold isAgg; cases d <;> simp [hu] at h <;> simp [run_underlying hu]
theorem run_part_plain' {t : TypeId} (h : tagOf P t ≠ 0) {us : List Value} {o : Nat} {v : Value} (hv : us[o]? = some v) : (part t us.toArray o).run P w = .ok v w := by
  unfold part
  simp [run_isAgg_plain (w := w) h, hv]
theorem eqCell_ok {x y : VV} {u v : Value} {t : TypeId} {b : Bool} (d : Nat) (hx : Rep C x u) (hy : Rep C y v) (h : eqCell (tagOf P t) x y = some b) : (Op.equalIn (d + 1) t u v).run P w = .ok b w := by
  unfold eqCell at h
  split at h
  · rename_i k a k' b' ht
    split at h
    · rename_i hk; subst hk
      simp only [Rep] at hx hy; subst hx hy
      injection h with h; subst h
      unfold tagOf at ht
      split at ht <;> simp at ht
      rename_i k2 hu
      exact run_equalIn_int w d t k k2 a b' hu
    · simp at h
  · rename_i a b' ht
    simp only [Rep] at hx hy; subst hx hy
    injection h with h; subst h
    unfold tagOf at ht
    split at ht <;> simp at ht
    rename_i hu
    exact run_equalIn_bool w d t a b' hu
  · rename_i a b' ht
    simp only [Rep] at hx hy; subst hx hy
    injection h with h; subst h
    unfold tagOf at ht
    split at ht <;> simp at ht
    rename_i hu
    exact run_equalIn_string w d t a b' hu
  · simp at h
theorem eqFields_ok {xs ys : List VV} {us vs : List Value} (hx : RepL C xs us) (hy : RepL C ys vs) (d : Nat) : ∀ (fs : List Field) (b : Bool), fs.all (plainField P) = true →
    eqCells xs ys (fs.map fun f => (f.offset, tagOf P f.type)) = some b → (Op.eqFields (d + 1) us.toArray vs.toArray fs).run P w = .ok b w
  | [], b, _, h => by
    simp only [List.map_nil, eqCells] at h; injection h with h; subst h
    simp [Op.eqFields]
  | f :: fs, b, hall, h => by
    simp only [List.all_cons, Bool.and_eq_true] at hall
    obtain ⟨hf, hall⟩ := hall
    unfold plainField at hf
    simp only [Bool.and_eq_true, bne_iff_ne, ne_eq] at hf
    simp only [List.map_cons, eqCells] at h
    cases hx0 : xs[f.offset]? with
    | none => simp [hx0] at h
    | some x =>
      cases hy0 : ys[f.offset]? with
      | none => simp [hx0, hy0] at h
      | some y =>
        cases he : eqCell (tagOf P f.type) x y with
        | none => simp [hx0, hy0, he] at h
        | some b1 =>
          cases hr : eqCells xs ys (fs.map fun f => (f.offset, tagOf P f.type)) with
          | none => simp [hx0, hy0, he, hr] at h
          | some b2 =>
            simp only [hx0, hy0, he, hr] at h; injection h with h; subst h
            obtain ⟨u, hu, hxu⟩ := (RepL.iff.1 hx).2 _ _ hx0
            obtain ⟨v, hv, hyv⟩ := (RepL.iff.1 hy).2 _ _ hy0
            have h1 := eqCell_ok (w := w) d hxu hyv he
            have h2 := eqFields_ok hx hy d fs b2 hall hr
            simp only [Op.eqFields, hf.1, ne_eq, not_false_eq_true, if_true, Sem.run_bind, run_part_plain' (w := w) hf.2 hu, run_part_plain' (w := w) hf.2 hv, Result.andThen_ok, h1]
            cases b1 <;> simp [h2]
theorem neg_ok {op : BinOp} {b : Bool} {r : VV} (h : neg op b = some r) : (op = .eql ∧ r = .sc (.bool b)) ∨ (op = .neq ∧ r = .sc (.bool (!b))) := by
  cases op <;> simp [neg] at h <;> subst h <;> simp
theorem eqK_bool {t : TypeId} (h : eqK P t = .bool) : P.underlying t = some .bool := by
  unfold eqK at h
  split at h
  · assumption
  · simp at h
  · split at h <;> simp at h
  · simp at h
theorem eqK_ptr {t : TypeId} (h : eqK P t = .ptr) : ∃ e, P.underlying t = some (.pointer e) := by
  unfold eqK at h
  split at h
  · simp at h
  · exact ⟨_, by assumption⟩
  · split at h <;> simp at h
  · simp at h
theorem eqK_st {t : TypeId} {l : List (Nat × Nat)} (h : eqK P t = .st l) : ∃ fs : Array Field, P.underlying t = some (.struct fs) ∧ P.stoodInHeld t = false ∧ P.eqGuardType P.depth t = false ∧ fs.toList.all (plainField P) = true ∧ l = fs.toList.map fun f => (f.offset, tagOf P f.type) := by
  unfold eqK at h
  split at h
  · simp at h
  · simp at h
  · rename_i fs hu
    split at h
    · rename_i hc
      injection h with h
      simp only [Bool.and_eq_true, Bool.not_eq_true'] at hc
      exact ⟨fs, hu, hc.1.1, hc.1.2, by simpa using hc.2, h.symm⟩
    · simp at h
  · simp at h
theorem bin_ok {op : BinOp} {t : TypeId} {x y : VV} {u v : Value} {ox oy : Operand} {r : VV} (hv : vbin op (eqK P t) x y = some r) (hx : Rep C x u) (hy : Rep C y v) :
    ∃ z, (do eqGuard op t ox oy u v; binOp op t u v : Sem Value).run P w = .ok z w ∧ Rep C r z := by
  unfold vbin at hv
  split at hv
  · rename_i k a k' b
    split at hv
    · rename_i hk; subst hk
      simp only [Rep] at hx hy; subst hx hy
      unfold vint at hv
      split at hv <;> first
        | (simp at hv; done)
        | (split at hv
           · simp at hv
           · rename_i hb
             injection hv with hv; subst hv
             exact ⟨_, by simp [eqGuard, binOp, Op.intDiv, hb]; rfl, by simp only [Rep]⟩)
        | (injection hv with hv; subst hv
           refine ⟨.int k (k.wrap (BitVec.ofInt k.bits a ^^^ BitVec.ofInt k.bits b).toNat), ?_, by simp only [Rep]⟩
           simp [eqGuard, binOp, Op.intBits]; done)
        | (injection hv with hv; subst hv
           exact ⟨_, by simp [eqGuard, binOp, Op.intArith, Op.intCmp]; rfl, by simp only [Rep]⟩)
    · simp at hv
  · rename_i a b
    simp only [Rep] at hx hy; subst hx hy
    unfold vstr at hv
    split at hv
    · split at hv
      · rename_i hb
        injection hv with hv; subst hv
        have hb' : ¬ ((9223372036854775807 : Int) < (a.size : Int) + (b.size : Int)) := by omega
        exact ⟨.string (a ++ b), by simp [eqGuard, binOp, Op.stringOp, IntKind.max, IntKind.bits, IntKind.signed, hb'], by simp only [Rep]⟩
      · simp at hv
    · injection hv with hv; subst hv
      exact ⟨_, by simp [eqGuard, binOp, Op.stringOp]; rfl, by simp only [Rep]⟩
    · injection hv with hv; subst hv
      exact ⟨_, by simp [eqGuard, binOp, Op.stringOp]; rfl, by simp only [Rep]⟩
    · simp at hv
  · rename_i a b
    simp only [Rep] at hx hy; subst hx hy
    cases hk : eqK P t <;> simp only [hk] at hv <;> try (simp at hv; done)
    have hu := eqK_bool hk
    rcases neg_ok hv with ⟨rfl, rfl⟩ | ⟨rfl, rfl⟩
    · exact ⟨.bool (a == b), by simp [eqGuard, binOp, run_equal_bool w t a b hu], by simp only [Rep]⟩
    · exact ⟨.bool (!(a == b)), by simp [eqGuard, binOp, run_equal_bool w t a b hu], by simp only [Rep]⟩
  · rename_i xs ys
    simp only [Rep] at hx hy
    obtain ⟨us, rfl, hx⟩ := hx
    obtain ⟨vs, rfl, hy⟩ := hy
    cases hk : eqK P t <;> simp only [hk] at hv <;> try (simp at hv; done)
    rename_i offs
    obtain ⟨fs, hu, hp, hg, hall, rfl⟩ := eqK_st hk
    cases he : eqCells xs ys (fs.toList.map fun f => (f.offset, tagOf P f.type)) with
    | none => simp [he] at hv
    | some b =>
      simp only [he, Option.bind_some] at hv
      have hfo : P.fieldsOf t = fs := by simp [Program.fieldsOf, hu]
      have hrun : (Op.equalIn 10000 t (.agg us.toArray) (.agg vs.toArray)).run P w = .ok b w := by
        rw [run_equalIn_struct w 9999 t us.toArray vs.toArray (by rw [hfo]; exact hu) hp, hfo]
        exact eqFields_ok hx hy 9998 fs.toList b hall he
      rcases neg_ok hv with ⟨rfl, rfl⟩ | ⟨rfl, rfl⟩
      · exact ⟨.bool b, by rw [Sem.run_bind, run_eqGuard_agg w .eql t ox oy us.toArray vs.toArray hg]; simp only [Result.andThen_ok]; rw [run_eql_struct]; simp [hrun], by simp only [Rep]⟩
      · exact ⟨.bool (!b), by rw [Sem.run_bind, run_eqGuard_agg w .neq t ox oy us.toArray vs.toArray hg]; simp only [Result.andThen_ok]; rw [run_neq_struct]; simp [hrun], by simp only [Rep]⟩
  · simp only [Rep] at hy; subst hy
    cases hk : eqK P t <;> simp only [hk] at hv <;> try (simp at hv; done)
    obtain ⟨el, hu⟩ := eqK_ptr hk
    have hu' : P.underlying t = some (.pointer (P.pointee t)) := by simp [Program.pointee, hu]
    cases hn : isNilP x with
    | none => simp [hn] at hv
    | some b =>
      simp only [hn, Option.bind_some] at hv
      have : ∃ p : Option Addr, u = .pointer p ∧ p.isNone = b := by
        unfold isNilP at hn
        split at hn
        · simp only [Rep] at hx; exact ⟨_, hx.1, by simpa using hn⟩
        · simp only [Rep] at hx; obtain ⟨ad, rfl, _⟩ := hx; exact ⟨_, rfl, by simpa using hn⟩
        · simp only [Rep] at hx; exact ⟨_, hx, by simpa using hn⟩
        · simp at hn
      obtain ⟨p, rfl, rfl⟩ := this
      rcases neg_ok hv with ⟨rfl, rfl⟩ | ⟨rfl, rfl⟩
      · exact ⟨.bool p.isNone, by rw [Sem.run_bind]; simp only [show (eqGuard .eql t ox oy (.pointer p) (.pointer none)).run P w = .ok () w by simp [eqGuard], Result.andThen_ok]; exact run_eql_pointer_nil w t p hu', by simp only [Rep]⟩
      · exact ⟨.bool (!p.isNone), by rw [Sem.run_bind]; simp only [show (eqGuard .neq t ox oy (.pointer p) (.pointer none)).run P w = .ok () w by simp [eqGuard], Result.andThen_ok]; exact run_neq_pointer_nil w t p hu', by simp only [Rep]⟩
  · simp at hv
end

/-! ### Slices, fields, indexes -/
section
variable {P : Program} {C : Cx} {s : Operand → VV} {e : Operand → Value}
theorem bnd_ok (hS : ∀ x, Rep C (s x) (e x)) {d n : Nat} {o : Option Operand} (h : bnd d s o = some n) : (o = none ∧ n = d) ∨ ∃ x k j, o = some x ∧ e x = .int k j ∧ 0 ≤ j ∧ j.toNat = n := by
  cases o with
  | none => simp only [bnd] at h; injection h with h; exact .inl ⟨rfl, h.symm⟩
  | some x =>
    simp only [bnd] at h
    have hx := hS x
    split at h
    · rename_i k j hs
      split at h
      · rename_i hj
        injection h with h
        rw [hs] at hx; simp only [Rep] at hx
        exact .inr ⟨x, k, j, rfl, hx, hj, h⟩
      · simp at h
    · simp at h
theorem lenV_ok {w : World} {x : VV} {u : Value} {n : Nat} {t ty el : TypeId} (hx : Rep C x u) (h : lenV x = some n) (hel : P.underlying t = some (.slice el)) : (Builtin.len_ #[t] ty #[u]).run P w = .ok (.int .i64 n) w := by
  unfold lenV at h
  split at h
  · simp only [Rep] at hx
    obtain ⟨a, c, rfl, _⟩ := hx
    injection h with h; subst h
    simp [Builtin.len_, run_underlying hel, goInt]
  · simp only [Rep] at hx
    obtain ⟨a, c, rfl, _⟩ := hx
    injection h with h; subst h
    simp [Builtin.len_, run_underlying hel, goInt]
  · simp only [Rep] at hx; subst hx
    injection h with h; subst h
    simp [Builtin.len_, run_underlying hel, goInt]
  · simp only [Rep] at hx
    obtain ⟨a, c, rfl, _⟩ := hx
    injection h with h; subst h
    simp [Builtin.len_, run_underlying hel, goInt]
  · simp at h
theorem sliceV_ok (hS : ∀ x, Rep C (s x) (e x)) {t el : TypeId} (ht : P.underlying t = some (.slice el)) {z : Nat} (hz : sizeT P el = some z) {x : Operand} {lo hi : Option Operand} {r : VV}
    (h : sliceV z (s x) (bnd 0 s lo) (bnd ((lenV (s x)).getD 0) s hi) = some r) :
    ∃ v, (Instr.sliceAt t (e x) (lo.map e) (hi.map e) none).run P C.w = .ok v C.w ∧ Rep C r v := by
  have ht' : P.underlying t = some (.slice (P.elem t)) := by simp [Program.elem, ht]
  have hel : P.elem t = el := by simp [Program.elem, ht]
  have hsz : (sizeOf el).run P C.w = .ok z C.w := by
    unfold sizeT at hz
    cases hi : P.info? el with
    | none => simp [hi] at hz
    | some i => simp [hi] at hz; simp [sizeOf, typeInfo, hi, hz]
  unfold sliceV at h
  cases hl : bnd 0 s lo with
  | none => simp [hl] at h
  | some l =>
    cases hh : bnd ((lenV (s x)).getD 0) s hi with
    | none => simp [hl, hh] at h
    | some m =>
      simp only [hl, hh] at h
      have key : ∀ (a : Option Addr) (n c : Nat), e x = .slice a n c → (lenV (s x)).getD 0 = n → l ≤ m → m ≤ n → n ≤ c →
          (Instr.sliceAt t (e x) (lo.map e) (hi.map e) none).run P C.w = .ok (sliced a l m c z) C.w := by
        intro a n c he hn hlm hmn hnc
        rw [run_sliceAt_slice C.w t _ _ _ _ ht', he]
        rw [hn] at hh
        rcases bnd_ok hS hl with ⟨rfl, rfl⟩ | ⟨xl, kl, jl, rfl, hxl, hjl, rfl⟩ <;> rcases bnd_ok hS hh with ⟨rfl, rfl⟩ | ⟨xh, kh, jh, rfl, hxh, hjh, rfl⟩
        · simp only [Option.map_none]; rw [run_slice_all C.w t a _ c ht']; simp [hel, hsz]
        · simp only [Option.map_none, Option.map_some, hxh]; rw [run_slice_h C.w t a n c ht' kh jh hjh (by omega)]; simp [hel, hsz]
        · simp only [Option.map_none, Option.map_some, hxl]; rw [run_slice_l C.w t a _ c ht' kl jl hjl (by omega)]; simp [hel, hsz]
        · simp only [Option.map_some, hxl, hxh]; rw [run_slice_lh C.w t a n c ht' kl kh jl jh hjl (by omega) (by omega)]; simp [hel, hsz]
      have hx := hS x
      split at h
      · rename_i z' rows hsx
        split at h
        · rename_i hc
          obtain ⟨rfl, hlm, hmn⟩ := hc
          injection h with h; subst h
          rw [hsx] at hx; simp only [Rep] at hx
          obtain ⟨a, c, he, hnc, hr⟩ := hx
          refine ⟨_, key a rows.length c he (by simp [hsx, lenV]) hlm hmn hnc, ?_⟩
          simp only [Rep, sliced]
          have hlen : ((rows.take m).drop l).length = m - l := by simp; omega
          refine ⟨_, c - l, by rw [hlen], by rw [hlen]; omega, ?_⟩
          by_cases hempty : (rows.take m).drop l = []
          · exact .inl hempty
          · right
            have hml : l < m := by
              rcases Nat.lt_or_ge l m with h | h
              · exact h
              · exact absurd (List.eq_nil_of_length_eq_zero (by rw [hlen]; omega)) hempty
            rcases hr with hr | ⟨ad, ha, hr⟩
            · subst hr; simp at hmn; omega
            · refine ⟨ad.add (l * z'), by rw [if_neg (by omega), ha]; rfl, ?_⟩
              rw [RepR.iff] at hr ⊢
              intro j r hj
              rw [List.getElem?_drop, List.getElem?_take] at hj
              split at hj
              · have := hr (l + j) r hj
                refine ⟨this.1, ?_⟩
                rw [RepC.shift]
                have h2 := this.2
                rwa [show 0 + (l + j) * z' = l * z' + (0 + j * z') by rw [Nat.add_mul]; omega] at h2
              · simp at hj
        · simp at h
      · rename_i k off len z' hsx
        split at h
        · rename_i hc
          obtain ⟨rfl, hlm, hmn⟩ := hc
          injection h with h; subst h
          rw [hsx] at hx; simp only [Rep] at hx
          obtain ⟨a, c, he, hnc, hr, hN⟩ := hx
          refine ⟨_, key a len c he (by simp [hsx, lenV]) hlm hmn hnc, ?_⟩
          simp only [Rep, sliced]
          refine ⟨_, c - l, rfl, by omega, ?_, hN⟩
          rcases hr with hr | ⟨ha, hr⟩
          · exact .inl (by omega)
          · by_cases hcl : c = l
            · exact .inl (by omega)
            · refine .inr ⟨by rw [if_neg hcl, ha]; simp [Addr.add_lit], ?_⟩
              have e1 : off + l * z' + (c - l) * z' = off + c * z' := by rw [Nat.add_assoc, ← Nat.add_mul]; congr 2; omega
              rw [e1]; exact hr
        · simp at h
      · simp at h
end
end Go.VM

/- VMD: every operation of the machine that touches no memory is the model's. -/
namespace Go.VM
open Go.RowKit
section
variable {P : Program} {C : Cx} {s : Operand → VV} {e : Operand → Value} {o : Oper} {vo : VOp} {r : VV}

theorem fad_ok (hS : ∀ x, Rep C (s x) (e x)) {t : TypeId} {x : Operand} {f : Nat} (hc : compOp P (.fieldAddr t x f) = some vo) (hv : vpure s vo = some r) :
    ∃ v, (Instr.fieldAt t (e x) f).run P C.w = .ok v C.w ∧ Rep C r v := by
  simp only [compOp] at hc
  cases hu : P.underlying t with
  | none => simp [hu] at hc
  | some d =>
    cases d <;> try (simp [hu] at hc; done)
    rename_i fs
    simp only [hu] at hc
    cases hf : fs[f]? with
    | none => simp [hf] at hc
    | some fd =>
      simp only [hf] at hc
      cases hi : P.info? fd.type with
      | none => simp [sizeT, hi] at hc
      | some i =>
        simp only [sizeT, hi, Option.map_some] at hc
        split at hc
        · simp at hc
        · rename_i hn
          injection hc with hc; subst hc
          simp only [vpure] at hv
          have hrun : ∀ ad : Addr, (Instr.fieldAt t (.pointer (some ad)) f).run P C.w = .ok (.pointer (some (ad.add fd.offset))) C.w := by
            intro ad
            simp [Instr.fieldAt, run_underlying hu, hf, Instr.sureAddr, fieldPlace, sizeOf, typeInfo, hi, hn]
          have hx := hS x
          split at hv
          · rename_i k off hs
            injection hv with hv; subst hv
            rw [hs] at hx; simp only [Rep] at hx
            exact ⟨_, by rw [hx.1]; exact hrun _, by simp only [Rep]; exact ⟨by rw [Addr.add_lit], hx.2⟩⟩
          · rename_i cs hs
            injection hv with hv; subst hv
            rw [hs] at hx; simp only [Rep] at hx
            obtain ⟨ad, he, hr⟩ := hx
            refine ⟨_, by rw [he]; exact hrun _, ?_⟩
            simp only [Rep]
            refine ⟨_, rfl, ?_⟩
            rw [RepC.shift]
            have := hr.drop fd.offset
            rwa [Nat.zero_add] at this
          · simp at hv

theorem run_isAgg {t : TypeId} {d : TypeDesc} (hu : P.underlying t = some d) (w : World) : (isAgg t).run P w = .ok d.isRow w := by
  unfold isAgg
  cases d <;> simp [run_underlying hu, TypeDesc.isRow]

theorem fld_ok (hS : ∀ x, Rep C (s x) (e x)) {t : TypeId} {x : Operand} {f : Nat} (hc : compOp P (.field t x f) = some vo) (hv : vpure s vo = some r) :
    ∃ v, (Instr.field t (e x) f).run P C.w = .ok v C.w ∧ Rep C r v := by
  simp only [compOp] at hc
  cases hu : P.underlying t with
  | none => simp [hu] at hc
  | some d =>
    cases d <;> try (simp [hu] at hc; done)
    rename_i fs
    simp only [hu] at hc
    cases hf : fs[f]? with
    | none => simp [hf] at hc
    | some fd =>
      simp only [hf] at hc
      cases hd : P.underlying fd.type with
      | none => simp [hd] at hc
      | some dd =>
        cases hi : P.info? fd.type with
        | none => simp [hd, sizeT, hi] at hc
        | some i =>
          simp only [hd, sizeT, hi, Option.map_some] at hc
          injection hc with hc; subst hc
          simp only [vpure] at hv
          have hx := hS x
          split at hv
          · rename_i cs hs
            rw [hs] at hx; simp only [Rep] at hx
            obtain ⟨us, he, hr⟩ := hx
            split at hv
            · rename_i hle
              have hd2 := hr.drop fd.offset
              have hl := hr.length
              obtain ⟨h1, h2⟩ := rdV_cells hv hd2
              rw [he]
              cases ha : dd.isRow with
              | true =>
                obtain ⟨hn, hrep⟩ := h1 ha
                refine ⟨_, ?_, hrep⟩
                simp [Instr.field, run_underlying hu, hf, part, run_isAgg hd, ha, asAgg, sizeOf, typeInfo, hi]
              | false =>
                obtain ⟨v, hv', hrep⟩ := h2 ha
                refine ⟨v, ?_, hrep⟩
                rw [List.getElem?_drop] at hv'
                simp only [Nat.add_zero] at hv'
                simp [Instr.field, run_underlying hu, hf, part, run_isAgg hd, ha, asAgg, hv']
            · simp at hv
          · simp at hv

theorem iad_ok (hS : ∀ x, Rep C (s x) (e x)) {t : TypeId} {x i : Operand} (hc : compOp P (.indexAddr t x i) = some vo) (hv : vpure s vo = some r) :
    ∃ v, (Instr.indexAt t (e x) (e i)).run P C.w = .ok v C.w ∧ Rep C r v := by
  simp only [compOp] at hc
  have hx := hS x
  have hi0 := hS i
  cases hu : P.underlying t with
  | none => simp [hu] at hc
  | some d =>
    cases d <;> try (simp [hu] at hc; done)
    case slice el =>
      simp only [hu] at hc
      cases hi : P.info? el with
      | none => simp [sizeT, hi] at hc
      | some inf =>
        simp only [sizeT, hi, Option.map_some] at hc
        injection hc with hc; subst hc
        simp only [vpure] at hv
        split at hv
        · rename_i k j hsi
          rw [hsi] at hi0; simp only [Rep] at hi0
          have hrun : ∀ (ad : Addr) (len cap : Nat), 0 ≤ j → j < len → (Instr.indexAt t (.slice (some ad) len cap) (e i)).run P C.w = .ok (.pointer (some (ad.add (j.toNat * inf.size)))) C.w := by
            intro ad len cap h0 h1
            simp [Instr.indexAt, hi0, asIntOf, run_underlying hu, h0, h1, sizeOf, typeInfo, hi]
          split at hv
          · rename_i z' l hsx
            split at hv
            · rename_i hcnd
              obtain ⟨rfl, h0, h1⟩ := hcnd
              injection hv with hv; subst hv
              rw [hsx] at hx; simp only [Rep] at hx
              obtain ⟨a, c, he, _, hr⟩ := hx
              rcases hr with rfl | ⟨ad, ha, hr⟩
              · simp at h1; omega
              · refine ⟨_, by rw [he, ha]; exact hrun ad _ c h0 h1, ?_⟩
                simp only [Rep]
                refine ⟨_, rfl, ?_⟩
                rw [RepC.shift]
                have hj : j.toNat < l.length := by omega
                have := ((RepR.iff.1 hr) j.toNat (l.getD j.toNat []) (by simp [List.getD, List.getElem?_eq_getElem hj])).2
                rwa [Nat.zero_add] at this
            · simp at hv
          · rename_i kk off len z' hsx
            split at hv
            · rename_i hcnd
              obtain ⟨rfl, h0, h1⟩ := hcnd
              injection hv with hv; subst hv
              rw [hsx] at hx; simp only [Rep] at hx
              obtain ⟨a, c, he, hlc, hr, hN⟩ := hx
              rcases hr with hr | ⟨ha, hr⟩
              · omega
              · refine ⟨_, by rw [he, ha]; exact hrun _ _ c h0 h1, ?_⟩
                simp only [Rep]
                exact ⟨by rw [Addr.add_lit], hN⟩
            · simp at hv
          · simp at hv
        · simp at hv
    case array n el =>
      simp only [hu] at hc
      cases hi : P.info? el with
      | none => simp [sizeT, hi] at hc
      | some inf =>
        simp only [sizeT, hi, Option.map_some] at hc
        injection hc with hc; subst hc
        simp only [vpure] at hv
        split at hv
        · rename_i k j hsi
          rw [hsi] at hi0; simp only [Rep] at hi0
          have hrun : ∀ (ad : Addr), 0 ≤ j → j < n → (Instr.indexAt t (.pointer (some ad)) (e i)).run P C.w = .ok (.pointer (some (ad.add (j.toNat * inf.size)))) C.w := by
            intro ad h0 h1
            simp [Instr.indexAt, hi0, asIntOf, run_underlying hu, h0, h1, sizeOf, typeInfo, hi, Instr.sureAddr]
          split at hv
          · rename_i kk off hsx
            split at hv
            · rename_i hcnd
              injection hv with hv; subst hv
              rw [hsx] at hx; simp only [Rep] at hx
              refine ⟨_, by rw [hx.1]; exact hrun _ hcnd.1 hcnd.2, ?_⟩
              simp only [Rep]
              exact ⟨by rw [Addr.add_lit], hx.2⟩
            · simp at hv
          · rename_i cs hsx
            split at hv
            · rename_i hcnd
              injection hv with hv; subst hv
              rw [hsx] at hx; simp only [Rep] at hx
              obtain ⟨ad, he, hr⟩ := hx
              refine ⟨_, by rw [he]; exact hrun _ hcnd.1 hcnd.2, ?_⟩
              simp only [Rep]
              refine ⟨_, rfl, ?_⟩
              rw [RepC.shift]
              have := hr.drop (j.toNat * inf.size)
              rwa [Nat.zero_add] at this
            · simp at hv
          · simp at hv
        · simp at hv

theorem vpure_ok (hS : ∀ x, Rep C (s x) (e x)) (hc : compOp P o.op = some vo) (hv : vpure s vo = some r) : ∃ v, (execOp e o).run P C.w = .ok (.value v) C.w ∧ Rep C r v := by
  obtain ⟨dst, op, ty, pos, after, guard⟩ := o
  simp only at hc
  cases op
  case move x => simp only [compOp] at hc; injection hc with hc; subst hc; simp only [vpure] at hv; injection hv with hv; subst hv; exact ⟨_, by simp [execOp], hS x⟩
  case assign x => simp only [compOp] at hc; injection hc with hc; subst hc; simp only [vpure] at hv; injection hv with hv; subst hv; exact ⟨_, by simp [execOp], hS x⟩
  case pick c a b =>
    simp only [compOp] at hc; injection hc with hc; subst hc
    simp only [vpure] at hv
    have h1 := hS c
    split at hv
    · rename_i t ht
      injection hv with hv; subst hv
      rw [ht] at h1; simp only [Rep] at h1
      cases t
      · exact ⟨e b, by simp [execOp, h1, asBool], by simpa using hS b⟩
      · exact ⟨e a, by simp [execOp, h1, asBool], by simpa using hS a⟩
    · simp at hv
  case build t ps =>
    obtain ⟨v, h1, h2⟩ := build_ok hS hc hv
    exact ⟨v, by simp only [execOp]; exact run_v h1, h2⟩
  case nilCheck x =>
    simp only [compOp] at hc; injection hc with hc; subst hc
    simp only [vpure] at hv
    have h1 := hS x
    split at hv
    · rename_i k off hs
      injection hv with hv; subst hv
      rw [hs] at h1
      refine ⟨e x, ?_, h1⟩
      simp only [Rep] at h1
      simp [execOp, h1.1]
    · rename_i cs hs
      injection hv with hv; subst hv
      rw [hs] at h1
      refine ⟨e x, ?_, h1⟩
      simp only [Rep] at h1
      obtain ⟨ad, he, _⟩ := h1
      simp [execOp, he]
    · rename_i f cs hs
      injection hv with hv; subst hv
      rw [hs] at h1
      refine ⟨e x, ?_, h1⟩
      simp only [Rep] at h1
      obtain ⟨us, he, _⟩ := h1
      simp [execOp, he]
    · simp at hv
  case binOp bop t x y yt =>
    simp only [compOp] at hc; injection hc with hc; subst hc
    simp only [vpure] at hv
    obtain ⟨z, h1, h2⟩ := bin_ok (P := P) (w := C.w) (ox := x) (oy := y) hv (hS x) (hS y)
    exact ⟨z, by simp only [execOp]; exact run_v h1, h2⟩
  case unOp uop t x =>
    simp only [compOp] at hc; injection hc with hc; subst hc
    simp only [vpure] at hv
    have h1 := hS x
    unfold vun at hv
    split at hv
    · rename_i b hs
      injection hv with hv; subst hv
      rw [hs] at h1; simp only [Rep] at h1
      exact ⟨.bool (!b), by simp [execOp, h1, Op.unary], by simp only [Rep]⟩
    · rename_i k a hs
      injection hv with hv; subst hv
      rw [hs] at h1; simp only [Rep] at h1
      exact ⟨.int k (k.wrap (0 - a)), by simp [execOp, h1, Op.unary, Op.intArith], by simp only [Rep]⟩
    · simp at hv
  case convert src dst x =>
    simp only [compOp] at hc
    cases hs : P.underlying src with
    | none => simp [hs] at hc
    | some d1 =>
      cases hd : P.underlying dst with
      | none => cases d1 <;> simp [hs, hd] at hc
      | some d2 =>
        cases d1 <;> try (simp [hs, hd] at hc; done)
        case int k1 =>
          cases d2 <;> try (simp [hs, hd] at hc; done)
          rename_i k2
          simp only [hs, hd] at hc; injection hc with hc; subst hc
          simp only [vpure] at hv
          have h1 := hS x
          split at hv
          · rename_i kk n hsx
            injection hv with hv; subst hv
            rw [hsx] at h1; simp only [Rep] at h1
            refine ⟨.int k2 (k2.wrap n), ?_, by simp only [Rep]⟩
            simp [execOp, h1, convert, run_underlying hs, run_underlying hd, Conv.intToInt]
          · simp at hv
        case slice el =>
          cases d2 <;> try (simp [hs, hd] at hc; done)
          simp only [hs, hd] at hc
          split at hc
          · injection hc with hc; subst hc; simp [vpure] at hv
          · simp at hc
  case makeFunc f first caps =>
    cases f <;> simp only [compOp] at hc <;> try (simp at hc; done)
    rename_i f
    split at hc
    · rename_i hz
      injection hc with hc; subst hc
      simp only [vpure] at hv; injection hv with hv; subst hv
      have : first = #[] := Array.eq_empty_of_size_eq_zero hz
      subst this
      refine ⟨.func (.func f) #[] (caps.map e), by simp [execOp, Instr.makeFunc], ?_⟩
      simp only [Rep]
      exact ⟨caps.toList.map e, by apply congrArg; apply Array.ext'; simp, RepL.map hS _⟩
    · simp at hc
  case slice t x lo hi mx =>
    cases mx with
    | some m => simp [compOp] at hc
    | none =>
      simp only [compOp] at hc
      cases hu : P.underlying t with
      | none => simp [hu] at hc
      | some d =>
        cases d <;> try (simp [hu] at hc; done)
        case slice el =>
          simp only [hu] at hc
          cases hz : sizeT P el with
          | none => simp [hz] at hc
          | some z =>
            simp only [hz, Option.map_some] at hc; injection hc with hc; subst hc
            simp only [vpure] at hv
            obtain ⟨v, h1, h2⟩ := sliceV_ok hS hu hz hv
            exact ⟨v, by simp only [execOp, Option.map_none]; exact run_v h1, h2⟩
        case string =>
          simp only [hu] at hc; injection hc with hc; subst hc
          simp only [vpure] at hv
          have h1 := hS x
          split at hv
          · rename_i b hs
            rw [hs] at h1; simp only [Rep] at h1
            cases hl : bnd 0 s lo with
            | none => simp [hl] at hv
            | some l =>
              cases hh : bnd b.size s hi with
              | none => simp [hl, hh] at hv
              | some m =>
                simp only [hl, hh] at hv
                split at hv
                · rename_i hcnd
                  injection hv with hv; subst hv
                  refine ⟨.string (b.extract l m), ?_, by simp only [Rep]⟩
                  simp only [execOp, Option.map_none]
                  refine run_v ?_
                  rw [run_sliceAt_string C.w t _ _ _ _ hu, h1]
                  rcases bnd_ok hS hl with ⟨rfl, rfl⟩ | ⟨xl, kl, jl, rfl, hxl, hjl, rfl⟩ <;> rcases bnd_ok hS hh with ⟨rfl, rfl⟩ | ⟨xh, kh, jh, rfl, hxh, hjh, rfl⟩
                  · simp [Instr.slice, run_underlying hu, Instr.sliceBounds]
                  · have e1 : jh ≤ (b.size : Int) := by omega
                    simp [Instr.slice, run_underlying hu, Instr.sliceBounds, hxh, run_sliceBound, hjh, e1]
                  · have e1 : jl ≤ (b.size : Int) := by omega
                    simp [Instr.slice, run_underlying hu, Instr.sliceBounds, hxl, run_sliceBound, hjl, e1]
                  · have e1 : jh ≤ (b.size : Int) := by omega
                    have e2 : jl ≤ ((jh.toNat : Nat) : Int) := by omega
                    simp [Instr.slice, run_underlying hu, Instr.sliceBounds, hxl, hxh, run_sliceBound _ kh jh b.size _ hjh e1, run_sliceBound _ kl jl jh.toNat _ hjl e2]
                · simp at hv
          · simp at hv
  case fieldAddr t x f =>
    obtain ⟨v, h1, h2⟩ := fad_ok hS hc hv
    exact ⟨v, by simp only [execOp]; exact run_v h1, h2⟩
  case field t x f =>
    obtain ⟨v, h1, h2⟩ := fld_ok hS hc hv
    exact ⟨v, by simp only [execOp]; exact run_v h1, h2⟩
  case indexAddr t x i =>
    obtain ⟨v, h1, h2⟩ := iad_ok hS hc hv
    exact ⟨v, by simp only [execOp]; exact run_v h1, h2⟩
  case index t x i =>
    simp only [compOp] at hc
    split at hc
    · rename_i hu
      injection hc with hc; subst hc
      simp only [vpure] at hv
      have h1 := hS x
      have h2 := hS i
      split at hv
      · rename_i b k j hsx hsi
        split at hv
        · rename_i hcnd
          injection hv with hv; subst hv
          rw [hsx] at h1; rw [hsi] at h2; simp only [Rep] at h1 h2
          refine ⟨.int .u8 (bt b j), ?_, by simp only [Rep]⟩
          simp only [execOp]
          refine run_v ?_
          have hj : j.toNat < b.data.size := by have : b.size = b.data.size := rfl; omega
          have hg : b[j.toNat]? = some b.data[j.toNat] := by
            have : j.toNat < b.size := hj
            rw [getElem?_pos b j.toNat this]; rfl
          have hbt : bt b j = (b.data[j.toNat].toNat : Int) := by
            unfold bt
            rw [List.getD_eq_getElem?_getD, Array.getElem?_toList, Array.getElem?_eq_getElem hj]; rfl
          simp [Instr.index, h1, h2, asIntOf, run_underlying hu, hcnd.1, hg, hbt]
        · simp at hv
      · simp at hv
    · simp at hc
  case extract x i =>
    simp only [compOp] at hc; injection hc with hc; subst hc
    simp only [vpure] at hv
    have h1 := hS x
    split at hv
    · rename_i vs hs
      rw [hs] at h1; simp only [Rep] at h1
      obtain ⟨us, he, hr⟩ := h1
      obtain ⟨v, hv', hrep⟩ := (RepL.iff.1 hr).2 _ _ hv
      exact ⟨v, by simp [execOp, he, Instr.extract, hv'], hrep⟩
    · simp at hv
  case call c =>
    obtain ⟨callee, args, argTypes⟩ := c
    cases callee
    case invoke rv m => simp [compOp] at hc
    case value f =>
      cases f <;> simp only [compOp] at hc <;> try (simp at hc; done)
      · injection hc with hc; subst hc; simp [vpure] at hv
      · split at hc
        · split at hc
          · injection hc with hc; subst hc; simp [vpure] at hv
          · simp at hc
        · simp at hc
    case builtin b =>
      cases b <;> simp only [compOp] at hc <;> try (simp at hc; done)
      case append =>
        split at hc
        · split at hc
          · split at hc
            · split at hc
              · injection hc with hc; subst hc; simp [vpure] at hv
              · simp at hc
            · simp at hc
          · simp at hc
        · simp at hc
      case len =>
        split at hc
        · rename_i x t ha ht
          have ea : args = #[x] := by apply Array.ext'; simpa using ha
          have et : argTypes = #[t] := by apply Array.ext'; simpa using ht
          subst ea et
          split at hc
          · rename_i hu
            injection hc with hc; subst hc
            simp only [vpure] at hv
            have h1 := hS x
            split at hv
            · rename_i b hs
              injection hv with hv; subst hv
              rw [hs] at h1; simp only [Rep] at h1
              exact ⟨.int .i64 b.size, by simp [execOp, resolve, invoke, builtin, Builtin.len_, run_underlying hu, h1, goInt], by simp only [Rep]⟩
            · simp at hv
          · rename_i el hu
            injection hc with hc; subst hc
            simp only [vpure] at hv
            cases hl : lenV (s x) with
            | none => simp [hl] at hv
            | some n =>
              simp only [hl] at hv; injection hv with hv; subst hv
              have h1 := lenV_ok (w := C.w) (ty := ty) (hS x) hl hu
              exact ⟨.int .i64 n, by simp [execOp, resolve, invoke, builtin, h1], by simp only [Rep]⟩
          · simp at hc
        · simp at hc
  case alloc t =>
    simp only [compOp] at hc
    cases hz : zeroOf P t with
    | none => simp [hz] at hc
    | some zs => simp only [hz, Option.map_some] at hc; injection hc with hc; subst hc; simp [vpure] at hv
  case box t x => simp only [compOp] at hc; injection hc with hc; subst hc; simp [vpure] at hv
  case buildSlice t n ps =>
    simp only [compOp] at hc
    split at hc
    · split at hc
      · split at hc
        · injection hc with hc; subst hc; simp [vpure] at hv
        · simp at hc
      · simp at hc
    · simp at hc
  case load t x =>
    simp only [compOp] at hc
    split at hc
    · injection hc with hc; subst hc; simp [vpure] at hv
    · simp at hc
  case store t x y =>
    simp only [compOp] at hc
    cases hz : sizeT P t with
    | none => simp [hz] at hc
    | some n => simp only [hz, Option.map_some] at hc; injection hc with hc; subst hc; simp [vpure] at hv
  case makeSlice t l c =>
    cases l <;> cases c <;> simp only [compOp] at hc <;> try (simp at hc; done)
    split at hc
    · split at hc
      · split at hc
        · split at hc
          · split at hc
            · injection hc with hc; subst hc; simp [vpure] at hv
            · simp at hc
          · simp at hc
        · simp at hc
      · simp at hc
    · simp at hc
  all_goals (simp [compOp] at hc)
end
end Go.VM

/- VME: the operations that read, make or write memory. -/
namespace Go.VM
open Go.RowKit

def upd (H : Heap) (k : Nat) (cs : List VV) : Heap := fun j => if j = k then some cs else H j
def kill (H : Heap) (k : Nat) : Heap := fun j => if j = k then none else H j

/-- The cells of a slice that is read, and how many elements it has. -/
def srcV (z : Nat) (H : Heap) : VV → Option (Nat × List VV)
  | .sl z' l => if z' = z then some (l.length, l.flatten) else none
  | .rf j off len z' => if z' = z then (match H j with
      | some cs => if off + len * z ≤ cs.length then some (len, (cs.drop off).take (len * z)) else none
      | none => none) else none
  | .sc (.slice none 0 0) => some (0, [])
  | _ => none
def nums8 : List VV → Option (List Int)
  | [] => some []
  | .sc (.int .u8 n) :: r => (nums8 r).map fun l => n :: l
  | _ => none
def strOf (ns : List Int) : ByteArray := ns.foldl (fun r n => r.push (UInt8.ofNat n.toNat)) ByteArray.empty
def lim : Nat := 140737488355328
def dryV (o : Option (Nat × List VV)) : Option (Nat × List VV) :=
  match o with
  | some (n, xs) => if xs.all VV.dry = true then some (n, xs) else none
  | none => none
def appV (z bytes : Nat) (H : Heap) (k : Nat) (a b : VV) : Option (VV × Heap) :=
  match dryV (srcV z H b) with
  | none => none
  | some (n, xs) => match a with
    | .sc (.slice none 0 0) => if n = 0 then some (.sc (.slice none 0 0), H) else if n * bytes ≤ lim ∧ n ≤ 9223372036854775807 then some (.rf k 0 n z, upd H k xs) else none
    | .rf j 0 len z' => match H j with
      | some cs => if z' = z ∧ len * z ≤ cs.length ∧ (len + n) * bytes ≤ lim ∧ len + n ≤ 9223372036854775807 then some (.rf k 0 (len + n) z, upd (kill H j) k (cs.take (len * z) ++ xs)) else none
      | none => none
    | _ => none
def vop (s : Operand → VV) (H : Heap) (k : Nat) : VOp → Option (VV × Heap)
  | .new zs => some (.pt k 0, upd H k (zs.map .sc))
  | .box x => (cellsV (s x)).map fun cs => (.pt k 0, upd H k cs)
  | .bslice z len zs ps => (fillV (List.replicate len (zs.map VV.sc)).flatten (ps.map fun p => (p.1, p.2.1, s p.2.2))).map fun cs => (.rf k 0 len z, upd H k cs)
  | .load ag n p => match s p with
    | .pt j off => match H j with
      | some cs => (rdV ag n (cs.drop off)).map fun r => (r, H)
      | none => none
    | .pd cs => (rdV ag n cs).map fun r => (r, H)
    | _ => none
  | .store n p x => match s p with
    | .pt j off => match H j, cellsV (s x) with
      | some cs, some xs => if xs.length = n ∧ off + n ≤ cs.length then some (.sc undef, upd H j (cs.take off ++ (xs ++ cs.drop (off + n)))) else none
      | _, _ => none
    | _ => none
  | .cstr x => match srcV 1 H (s x) with
    | some (_, cs) => (nums8 cs).map fun ns => (.sc (.string (strOf ns)), H)
    | none => none
  | .mks z bytes zs x => match s x with
    | .sc (.int _ n) => if 0 ≤ n ∧ n * bytes ≤ 281474976710656 ∧ n ≤ 9223372036854775807 then some (.rf k 0 n.toNat z, upd H k (List.replicate n.toNat (zs.map VV.sc)).flatten) else none
    | _ => none
  | .app z bytes a b => appV z bytes H k (s a) (s b)
  | o => (vpure s o).map fun r => (r, H)

/-- What a step of the machine is in the model. -/
structure Stp (C C' : Cx) (H H' : Heap) (k : Nat) : Prop where
  le : Le C C'
  fr : Fr (Own C H) C.w C'.w
  hok : HOk C' H'
  bd : Bd C'
  nN : ∀ j, C'.N j → C.N j ∨ j = k
  nF : ∀ b, C'.F b → C.F b ∨ C.w.heap.size ≤ b
  mF : ∀ b, C.F b → C'.F b
  ow : ∀ b, Own C' H' b → Own C H b ∨ C.w.heap.size ≤ b

theorem Stp.refl {C : Cx} {H : Heap} (k : Nat) (hH : HOk C H) (hB : Bd C) : Stp C C H H k :=
  ⟨Le.refl C, Fr.refl _ _, hH, hB, fun _ h => .inl h, fun _ h => .inl h, fun _ h => h, fun _ h => .inl h⟩

theorem own_F {C : Cx} {H : Heap} (hH : HOk C H) {b : Nat} (h : Own C H b) : C.F b := by
  obtain ⟨k, hk, hb⟩ := h
  exact hH.own k hk b hb

/-! ### A new block -/
theorem alloc_old' (w : World) (o : Obj) (b : Nat) (h : b < w.heap.size) : (w.alloc o).heap[b]? = w.heap[b]? := by
  show (w.heap.push o)[b]? = _
  rw [Array.getElem?_push, if_neg (by omega)]
theorem room_push {w : World} {o : Obj} {b m : Nat} (h : Room w b m) : Room (w.alloc o) b m := by
  have hb := room_lt h
  obtain ⟨vs, T, fr, h1, h2⟩ := h
  exact ⟨vs, T, fr, by rw [alloc_old' w o b hb]; exact h1, h2⟩
theorem fr_alloc (O : Nat → Prop) (w : World) (o : Obj) : Fr O w (w.alloc o) :=
  ⟨rfl, rfl, rfl, by simp, fun b hb _ => alloc_old' w o b hb, fun b m h => room_push h⟩
theorem fr_drew (O : Nat → Prop) (w : World) : Fr O w w.drew := ⟨rfl, rfl, rfl, Nat.le_refl _, fun _ _ _ => rfl, fun _ _ h => h⟩

def newC (C : Cx) (w' : World) (k : Nat) (S : List Nat) : Cx := ⟨w', fun j => if j = k then C.w.heap.size else C.ρ j, fun b => C.F b ∨ b = C.w.heap.size, fun j => C.N j ∨ j = k, fun j => if j = k then S else C.φ j⟩

theorem le_new {C : Cx} {w' : World} {k : Nat} {S : List Nat} (hk : ¬ C.N k) (hf : Fr (fun _ => False) C.w w') : Le C (newC C w' k S) := by
  refine Le.of_fr (hf.mono fun _ _ h => h.elim) (fun j h => .inl h) (fun j hj => ?_) (fun b hb h => ?_)
  · show (if j = k then _ else _) = _
    rw [if_neg (fun e : j = k => hk (e ▸ hj))]
  · exact h.resolve_right (by omega)

/-- A new object, that may take over the blocks S out of one that is dropped. -/
theorem stp_new {C : Cx} {H Hd : Heap} {k : Nat} {S : List Nat} {cs : List VV} {vs : Array Value} {T : TypeId} {w' : World} (hH : HOk C H) (hB : Bd C) (hk : ¬ C.N k)
    (hd : ∀ j, Hd j = none ∨ Hd j = H j) (hS : S.Nodup) (hSO : ∀ b ∈ S, Own C H b ∧ ∀ j, Hd j ≠ none → b ∉ C.ol j)
    (hf : Fr (fun _ => False) C.w w') (hsz : w'.heap.size = C.w.heap.size + 1) (hb : w'.heap[C.w.heap.size]? = some (.cells vs T (0, 0))) (hle : cs.length ≤ vs.size)
    (hr : RepL C cs (vs.toList.take cs.length)) (h1 : ∀ v ∈ vs.toList.take cs.length, v.oneCell' = true) (hD : DsL C cs vs.toList S) : Stp C (newC C w' k S) H (upd Hd k cs) k := by
  have hL := le_new (w' := w') (S := S) hk hf
  have live : ∀ j, Hd j ≠ none → H j ≠ none := fun j h => by
    rcases hd j with e | e
    · exact absurd e h
    · rw [← e]; exact h
  have live' : ∀ j cs, Hd j = some cs → H j = some cs := fun j cs h => by
    rcases hd j with e | e
    · rw [e] at h; simp at h
    · rw [← e]; exact h
  have hnk : ∀ j, H j ≠ none → j ≠ k := fun j h e => by
    obtain ⟨cs, hcs⟩ := Option.ne_none_iff_exists'.1 h
    exact hk (e ▸ hH.nm j cs hcs)
  have hρ : ∀ j, j ≠ k → (newC C w' k S).ρ j = C.ρ j := fun j h => if_neg h
  have hφ : ∀ j, j ≠ k → (newC C w' k S).φ j = C.φ j := fun j h => if_neg h
  have hol : ∀ j, j ≠ k → (newC C w' k S).ol j = C.ol j := fun j h => by unfold Cx.ol; rw [hρ j h, hφ j h]
  have holk : (newC C w' k S).ol k = C.w.heap.size :: S := by
    show (if k = k then _ else _) :: (if k = k then _ else _) = _
    rw [if_pos rfl, if_pos rfl]
  have hlt : ∀ j, H j ≠ none → ∀ b ∈ C.ol j, b < C.w.heap.size := fun j h b hb' => hB b (hH.own j h b hb')
  have hSlt : ∀ b ∈ S, b < C.w.heap.size := fun b hb' => by
    obtain ⟨j, hj, hbj⟩ := (hSO b hb').1
    exact hlt j hj b hbj
  have hup : ∀ j, upd Hd k cs j ≠ none → j ≠ k → Hd j ≠ none := fun j h hj => by unfold upd at h; rwa [if_neg hj] at h
  refine ⟨hL, hf.mono fun _ _ h => h.elim, ⟨?_, ?_, ?_, ?_, ?_⟩, ?_, fun j h => h, fun b h => h.imp id (fun e => by omega), fun b h => .inl h, ?_⟩
  · intro j ds hj
    unfold upd at hj
    split at hj
    · exact .inr (by assumption)
    · exact .inl (hH.nm j ds (live' j ds hj))
  · intro j hj b hb'
    by_cases e : j = k
    · subst e
      rw [holk] at hb'
      rcases List.mem_cons.1 hb' with e | h
      · exact .inr e
      · exact .inl (own_F hH (hSO b h).1)
    · rw [hol j e] at hb'
      exact .inl (hH.own j (live j (hup j hj e)) b hb')
  · intro j ds hj
    unfold upd at hj
    split at hj
    · rename_i e; subst e
      injection hj with hj; subst hj
      have e1 : (newC C w' j S).ρ j = C.w.heap.size := if_pos rfl
      have e2 : (newC C w' j S).φ j = S := if_pos rfl
      rw [e1, e2]
      exact ⟨vs, T, (0, 0), hb, fun i _ h => by omega, hle, RepL.mono hL _ hr, h1, DsL.mono hL _ (fun q hq => hf.block q (hSlt q hq) (fun h => h)) hD⟩
    · rename_i e
      have hj' := live' j ds hj
      have hne : H j ≠ none := by rw [hj']; simp
      rw [hρ j e, hφ j e]
      exact (hH.obj j ds hj').mono hL (fun q hq => hf.block q (hlt j hne q hq) (fun h => h))
  · intro j hj
    by_cases e : j = k
    · subst e
      rw [holk, List.nodup_cons]
      exact ⟨fun h => by have := hSlt _ h; omega, hS⟩
    · rw [hol j e]
      exact hH.nodup j (live j (hup j hj e))
  · intro i j hi hj hij b hbi hbj
    by_cases e : i = k
    · subst e
      have hjk : j ≠ i := fun e => hij e.symm
      have hj' := hup j hj hjk
      rw [holk] at hbi
      rw [hol j hjk] at hbj
      rcases List.mem_cons.1 hbi with e | h
      · have := hlt j (live j hj') b hbj; omega
      · exact (hSO b h).2 j hj' hbj
    · have hi' := hup i hi e
      rw [hol i e] at hbi
      by_cases e' : j = k
      · subst e'
        rw [holk] at hbj
        rcases List.mem_cons.1 hbj with e' | h
        · have := hlt i (live i hi') b hbi; omega
        · exact (hSO b h).2 i hi' hbi
      · rw [hol j e'] at hbj
        exact hH.sep i j (live i hi') (live j (hup j hj e')) hij b hbi hbj
  · intro b hb'
    show b < w'.heap.size
    rcases hb' with h | h
    · have := hB b h; omega
    · omega
  · rintro b ⟨j, hj, hbj⟩
    by_cases e : j = k
    · subst e
      rw [holk] at hbj
      rcases List.mem_cons.1 hbj with e | h
      · right; omega
      · left; exact (hSO b h).1
    · rw [hol j e] at hbj
      exact .inl ⟨j, live j (hup j hj e), hbj⟩
end Go.VM

/- VMF: the operations that read, make or write memory: what the machine says, the model does. -/
namespace Go.VM
open Go.RowKit

/-! ### Cells that are written -/
theorem heap_setCell {w : World} {b o : Nat} {v : Value} {vs : Array Value} {T : TypeId} {fr : Nat × Nat} (h : w.heap[b]? = some (.cells vs T fr)) :
    (w.setCell ⟨b, o, none⟩ v).heap[b]? = some (.cells (vs.setIfInBounds o v) T fr) := by
  simp [World.setCell, Array.getElem?_modify, h]
theorem heap_setCells : ∀ (us : List Value) {w : World} {b o : Nat} {vs : Array Value} {T : TypeId} {fr : Nat × Nat}, w.heap[b]? = some (.cells vs T fr) → o + us.length ≤ vs.size →
    ∃ vs' : Array Value, (w.setCells b o us).heap[b]? = some (.cells vs' T fr) ∧ vs'.size = vs.size ∧ vs'.toList = vs.toList.take o ++ (us ++ vs.toList.drop (o + us.length))
  | [], w, b, o, vs, T, fr, h, _ => ⟨vs, h, rfl, by simp⟩
  | u :: us, w, b, o, vs, T, fr, h, hl => by
    simp only [List.length_cons] at hl
    obtain ⟨vs', h1, h2, h3⟩ := heap_setCells us (heap_setCell (o := o) (v := u) h) (o := o + 1) (by simp; omega)
    refine ⟨vs', h1, by simpa using h2, ?_⟩
    rw [h3, Array.toList_setIfInBounds, take_set_succ _ _ _ (by simp; omega), drop_set_later _ _ _ _ (by omega), List.append_assoc, List.length_cons, show o + (us.length + 1) = o + 1 + us.length by omega]
    rfl
theorem size_setCells : ∀ (us : List Value) (w : World) (b o : Nat), (w.setCells b o us).heap.size = w.heap.size
  | [], _, _, _ => rfl
  | u :: us, w, b, o => by rw [World.setCells, size_setCells us]; simp
theorem tape_setCells : ∀ (us : List Value) (w : World) (b o : Nat), (w.setCells b o us).tape = w.tape
  | [], _, _, _ => rfl
  | u :: us, w, b, o => by rw [World.setCells, tape_setCells us]; simp
theorem fr_setCells {w : World} {b o : Nat} {us : List Value} {vs : Array Value} {T : TypeId} {fr : Nat × Nat} (h : w.heap[b]? = some (.cells vs T fr)) (hl : o + us.length ≤ vs.size) (O : Nat → Prop) (hO : O b) :
    Fr O w (w.setCells b o us) := by
  have ho : ∀ i, i < w.heap.size → i ≠ b → (w.setCells b o us).heap[i]? = w.heap[i]? := fun i hi hne => World.heap_setCells_other w b o us hi hne
  refine ⟨World.os_setCells w b o us, tape_setCells us w b o, World.output_setCells w b o us, by rw [size_setCells]; exact Nat.le_refl _, fun i hi hO' => ho i hi (fun e => hO' (e ▸ hO)), fun i m hm => ?_⟩
  by_cases e : i = b
  · subst e
    obtain ⟨vs', h1, h2, _⟩ := heap_setCells us h hl
    obtain ⟨ws, T', fr', h3, h4⟩ := hm
    rw [h] at h3; injection h3 with h3; injection h3 with h5 h6 h7
    exact ⟨vs', T, fr, h1, by rw [h2, h5]; exact h4⟩
  · obtain ⟨ws, T', fr', h3, h4⟩ := hm
    exact ⟨ws, T', fr', by rw [ho i (Array.getElem?_eq_some_iff.1 h3).1 e]; exact h3, h4⟩
theorem there_of_obj {w : World} {b o n : Nat} {vs : Array Value} {T : TypeId} {fr : Nat × Nat} (h : w.heap[b]? = some (.cells vs T fr)) (hf : ∀ i, i < vs.size → ¬ (fr.1 ≤ i ∧ i < fr.2)) (hl : o + n ≤ vs.size) : w.there b o n := by
  intro j hj
  have : o + j < vs.size := by omega
  constructor
  · simp [World.cell?, h, this]
  · have := hf (o + j) this
    simp only [World.frozen?, h]
    simp only [Bool.and_eq_false_iff, decide_eq_false_iff_not]
    omega

/-- An object is written, or its block goes over to a new object (append in place). -/
theorem stp_write {C : Cx} {H : Heap} {j k : Nat} {cs : List VV} {vs : Array Value} {T : TypeId} {fr : Nat × Nat} {o : Nat} {us : List Value} {ds : List VV} {S : List Nat} (hH : HOk C H) (hB : Bd C)
    (hj : H j = some cs) (hb : C.w.heap[C.ρ j]? = some (.cells vs T fr)) (hfz : ∀ i, i < vs.size → ¬ (fr.1 ≤ i ∧ i < fr.2)) (hl : o + us.length ≤ vs.size)
    (hk : ¬ C.N k) (hds : ds.length ≤ vs.size) (hS : S.Sublist (C.φ j))
    (hr : ∀ (C' : Cx) (vs' : Array Value), Le C C' → (∀ q ∈ C.φ j, C'.w.heap[q]? = C.w.heap[q]?) → vs'.toList = vs.toList.take o ++ (us ++ vs.toList.drop (o + us.length)) → RepL C' ds (vs'.toList.take ds.length) ∧ (∀ v ∈ vs'.toList.take ds.length, v.oneCell' = true) ∧ DsL C' ds vs'.toList S)
    (same : Bool) :
    Stp C ⟨C.w.setCells (C.ρ j) o us, fun i => if same = false ∧ i = k then C.ρ j else C.ρ i, C.F, fun i => C.N i ∨ (same = false ∧ i = k), fun i => if i = (if same = true then j else k) then S else C.φ i⟩ H (if same then upd H j ds else upd (kill H j) k ds) k := by
  have hjn : H j ≠ none := by rw [hj]; simp
  have hfr := fr_setCells hb hl (Own C H) ⟨j, hjn, ol_self C j⟩
  have hρ : ∀ i, C.N i → (if same = false ∧ i = k then C.ρ j else C.ρ i) = C.ρ i := fun i hi => if_neg (fun e : same = false ∧ i = k => hk (e.2 ▸ hi))
  have hL : Le C ⟨C.w.setCells (C.ρ j) o us, fun i => if same = false ∧ i = k then C.ρ j else C.ρ i, C.F, fun i => C.N i ∨ (same = false ∧ i = k), fun i => if i = (if same = true then j else k) then S else C.φ i⟩ :=
    Le.of_fr (hfr.mono fun b _ h => own_F hH h) (fun i h => .inl h) hρ (fun b _ h => h)
  have hlt : ∀ i, H i ≠ none → ∀ b ∈ C.ol i, b < C.w.heap.size := fun i h b hb' => hB b (hH.own i h b hb')
  have hnj : C.ρ j ∉ C.φ j := by
    have := hH.nodup j hjn
    unfold Cx.ol at this
    exact (List.nodup_cons.1 this).1
  have hin : ∀ q ∈ C.φ j, (C.w.setCells (C.ρ j) o us).heap[q]? = C.w.heap[q]? := fun q hq =>
    World.heap_setCells_other _ _ _ _ (hlt j hjn q (by simp [Cx.ol, hq])) (fun e => hnj (e ▸ hq))
  have hoth : ∀ i es, H i = some es → i ≠ j → Obj' ⟨C.w.setCells (C.ρ j) o us, fun i => if same = false ∧ i = k then C.ρ j else C.ρ i, C.F, fun i => C.N i ∨ (same = false ∧ i = k), fun i => if i = (if same = true then j else k) then S else C.φ i⟩ (C.ρ i) es (C.φ i) := by
    intro i es hi hne
    have hin : H i ≠ none := by rw [hi]; simp
    exact (hH.obj i es hi).mono hL (fun q hq => World.heap_setCells_other _ _ _ _ (hlt i hin q hq) (fun e => hH.sep i j hin hjn hne q hq (e ▸ ol_self C j)))
  have hnew : Obj' ⟨C.w.setCells (C.ρ j) o us, fun i => if same = false ∧ i = k then C.ρ j else C.ρ i, C.F, fun i => C.N i ∨ (same = false ∧ i = k), fun i => if i = (if same = true then j else k) then S else C.φ i⟩ (C.ρ j) ds S := by
    obtain ⟨vs', g1, g2, g3⟩ := heap_setCells us hb hl
    obtain ⟨q1, q2, q3⟩ := hr _ vs' hL hin g3
    exact ⟨vs', T, fr, g1, by rw [g2]; exact hfz, by rw [g2]; exact hds, q1, q2, q3⟩
  have hNj : C.N j := hH.nm j cs hj
  have hSub : ∀ b ∈ C.ρ j :: S, b ∈ C.ol j := fun b hb' => by
    rcases List.mem_cons.1 hb' with e | h
    · rw [e]; exact ol_self C j
    · exact List.mem_cons_of_mem _ (hS.mem h)
  have hnd : (C.ρ j :: S).Nodup := List.Nodup.sublist (List.Sublist.cons_cons _ hS) (hH.nodup j hjn)
  cases same with
  | true =>
    simp only [Bool.true_eq_false, false_and, if_false, or_false, if_true] at hL hoth hnew ⊢
    have live : ∀ i, upd H j ds i ≠ none → H i ≠ none := by
      intro i hi
      unfold upd at hi
      split at hi
      · rename_i e; subst e; exact hjn
      · exact hi
    have holj : ∀ i, i = j → Cx.ol ⟨C.w.setCells (C.ρ j) o us, C.ρ, C.F, C.N, fun i => if i = j then S else C.φ i⟩ i = C.ρ j :: S := fun i e => by subst e; simp [Cx.ol]
    have holn : ∀ i, i ≠ j → Cx.ol ⟨C.w.setCells (C.ρ j) o us, C.ρ, C.F, C.N, fun i => if i = j then S else C.φ i⟩ i = C.ol i := fun i e => by simp [Cx.ol, e]
    have hols : ∀ i, ∀ b ∈ Cx.ol ⟨C.w.setCells (C.ρ j) o us, C.ρ, C.F, C.N, fun i => if i = j then S else C.φ i⟩ i, b ∈ C.ol i := fun i b hb' => by
      by_cases e : i = j
      · rw [holj i e] at hb'; rw [e]; exact hSub b hb'
      · rw [holn i e] at hb'; exact hb'
    refine ⟨hL, hfr, ⟨?_, ?_, ?_, ?_, ?_⟩, fun b h => by show b < (C.w.setCells _ _ _).heap.size; rw [size_setCells]; exact hB b h, fun i h => .inl h, fun b h => .inl h, fun b h => h, ?_⟩
    · intro i es hi
      unfold upd at hi
      split at hi
      · rename_i e; subst e; exact hNj
      · exact hH.nm i es hi
    · intro i hi b hb'
      exact hH.own i (live i hi) b (hols i b hb')
    · intro i es hi
      unfold upd at hi
      split at hi
      · rename_i e; subst e; injection hi with hi; subst hi
        show Obj' _ (C.ρ i) _ (if i = i then S else C.φ i)
        rw [if_pos rfl]; exact hnew
      · rename_i hne
        show Obj' _ (C.ρ i) _ (if i = j then S else C.φ i)
        rw [if_neg hne]; exact hoth i es hi hne
    · intro i hi
      by_cases e : i = j
      · rw [holj i e]; exact hnd
      · rw [holn i e]; exact hH.nodup i (live i hi)
    · intro a b ha hb' hab q hqa hqb
      exact hH.sep a b (live a ha) (live b hb') hab q (hols a q hqa) (hols b q hqb)
    · rintro b ⟨i, hi, hbi⟩
      exact .inl ⟨i, live i hi, hols i b hbi⟩
  | false =>
    simp only [true_and, Bool.false_eq_true, if_false] at hL hoth hnew hρ ⊢
    have hjk : j ≠ k := fun e => hk (e ▸ hNj)
    have live : ∀ i, upd (kill H j) k ds i ≠ none → i = k ∨ (i ≠ k ∧ i ≠ j ∧ H i ≠ none) := by
      intro i hi
      unfold upd kill at hi
      split at hi
      · exact .inl (by assumption)
      · split at hi
        · simp at hi
        · exact .inr ⟨by assumption, by assumption, hi⟩
    have holk : Cx.ol ⟨C.w.setCells (C.ρ j) o us, fun i => if i = k then C.ρ j else C.ρ i, C.F, fun i => C.N i ∨ i = k, fun i => if i = k then S else C.φ i⟩ k = C.ρ j :: S := by simp [Cx.ol]
    have holn : ∀ i, i ≠ k → Cx.ol ⟨C.w.setCells (C.ρ j) o us, fun i => if i = k then C.ρ j else C.ρ i, C.F, fun i => C.N i ∨ i = k, fun i => if i = k then S else C.φ i⟩ i = C.ol i := fun i e => by simp [Cx.ol, e]
    refine ⟨hL, hfr, ⟨?_, ?_, ?_, ?_, ?_⟩, fun b h => by show b < (C.w.setCells _ _ _).heap.size; rw [size_setCells]; exact hB b h, fun i h => h, fun b h => .inl h, fun b h => h, ?_⟩
    · intro i es hi
      unfold upd kill at hi
      split at hi
      · exact .inr (by assumption)
      · split at hi
        · simp at hi
        · exact .inl (hH.nm i es hi)
    · intro i hi b hb'
      rcases live i hi with h | ⟨h, h2, h3⟩
      · subst h; rw [holk] at hb'
        exact hH.own j hjn b (hSub b hb')
      · rw [holn i h] at hb'
        exact hH.own i h3 b hb'
    · intro i es hi
      unfold upd kill at hi
      split at hi
      · rename_i e; injection hi with hi; subst hi
        show Obj' _ (if i = k then _ else _) _ (if i = k then _ else _)
        rw [if_pos e, if_pos e]; exact hnew
      · rename_i e
        split at hi
        · simp at hi
        · rename_i hne
          show Obj' _ (if i = k then _ else _) _ (if i = k then _ else _)
          rw [if_neg e, if_neg e]; exact hoth i es hi hne
    · intro i hi
      rcases live i hi with h | ⟨h, h2, h3⟩
      · subst h; rw [holk]; exact hnd
      · rw [holn i h]; exact hH.nodup i h3
    · intro a b ha hb' hab q hqa hqb
      rcases live a ha with h | ⟨h, h2, h3⟩ <;> rcases live b hb' with g | ⟨g, g2, g3⟩
      · exact hab (h.trans g.symm)
      · subst h; rw [holk] at hqa; rw [holn b g] at hqb
        exact hH.sep j b hjn g3 (Ne.symm g2) q (hSub q hqa) hqb
      · subst g; rw [holk] at hqb; rw [holn a h] at hqa
        exact hH.sep a j h3 hjn h2 q hqa (hSub q hqb)
      · rw [holn a h] at hqa; rw [holn b g] at hqb
        exact hH.sep a b h3 g3 hab q hqa hqb
    · rintro b ⟨i, hi, hbi⟩
      left
      rcases live i hi with h | ⟨h, h2, h3⟩
      · subst h; rw [holk] at hbi; exact ⟨j, hjn, hSub b hbi⟩
      · rw [holn i h] at hbi; exact ⟨i, h3, hbi⟩
end Go.VM

/- VMG: every operation of the machine, calls apart, is the model's. -/
namespace Go.VM
open Go.RowKit
section
variable {P : Program} {C : Cx} {s : Operand → VV} {e : Operand → Value} {o : Oper} {vo : VOp} {r : VV} {H H' : Heap} {k : Nat}

theorem zeroOf_ok {t : TypeId} {zs : List Value} (h : zeroOf P t = some zs) : ∃ i v, P.info? t = some i ∧ i.zero = some v ∧ zs = v.cells.toList ∧ ∀ z ∈ zs, z.oneCell' = true := by
  unfold zeroOf at h
  cases hi : P.info? t with
  | none => simp [hi] at h
  | some i =>
    cases hz : i.zero with
    | none => simp [hi, hz] at h
    | some v =>
      simp only [hi, Option.bind_some, hz] at h
      split at h
      · rename_i hall
        injection h with h; subst h
        exact ⟨i, v, rfl, hz, rfl, fun z hz' => List.all_eq_true.1 hall z hz'⟩
      · simp at h
theorem sizeT_ok {t : TypeId} {n : Nat} (h : sizeT P t = some n) : ∃ i, P.info? t = some i ∧ i.size = n := by
  unfold sizeT at h
  cases hi : P.info? t with
  | none => simp [hi] at h
  | some i => simp [hi] at h; exact ⟨i, rfl, h⟩
theorem run_v' {w w' : World} {x : Sem Value} {v : Value} (h : x.run P w = .ok v w') : (do let a ← x; pure (Next.value a) : Sem Next).run P w = .ok (.value v) w' := by simp [h]

/-- A step, for one operation. -/
def Does (P : Program) (e : Operand → Value) (o : Oper) (C : Cx) (r : VV) (H H' : Heap) (k : Nat) : Prop :=
  ∃ C' v, ((execOp e o).run P C.w = .ok (.value v) C'.w ∨ ((execOp e o).run P C.w = .ok .skip C'.w ∧ v = undef)) ∧ Rep C' r v ∧ Stp C C' H H' k

theorem newC_rf {S : List Nat} {w' : World} {n c z : Nat} {vs : Array Value} {T : TypeId} {fr : Nat × Nat} (hb : w'.heap[C.w.heap.size]? = some (.cells vs T fr)) (hn : n ≤ c) (hc : c * z ≤ vs.size) :
    Rep (newC C w' k S) (.rf k 0 n z) (.slice (some ⟨C.w.heap.size, 0, none⟩) n c) := by
  simp only [Rep]
  refine ⟨_, c, rfl, hn, .inr ⟨?_, ?_⟩, .inr rfl⟩
  · show _ = some (⟨(if k = k then C.w.heap.size else C.ρ k), 0, none⟩ : Addr); rw [if_pos rfl]
  · show Room w' (if k = k then C.w.heap.size else C.ρ k) _
    rw [if_pos rfl, Nat.zero_add]; exact ⟨vs, T, fr, hb, hc⟩
theorem newC_pt {S : List Nat} {w' : World} : Rep (newC C w' k S) (.pt k 0) (.pointer (some ⟨C.w.heap.size, 0, none⟩)) := by
  simp only [Rep]
  exact ⟨by show _ = Value.pointer (some (⟨(if k = k then C.w.heap.size else C.ρ k), 0, none⟩ : Addr)); rw [if_pos rfl], .inr rfl⟩

theorem alloc_new' (w : World) (o : Obj) : (w.alloc o).heap[w.heap.size]? = some o := by
  show (w.heap.push o)[w.heap.size]? = _
  rw [Array.getElem?_push, if_pos rfl]

theorem new_ok (hH : HOk C H) (hB : Bd C) (hk : ¬ C.N k) {cs : List VV} {vs : List Value} {T : TypeId} (hr : RepL C cs vs) (h1 : ∀ v ∈ vs, v.oneCell' = true) (hdry : cs.all VV.dry = true) :
    Stp C (newC C (C.w.alloc (.cells vs.toArray T)) k []) H (upd H k cs) k := by
  have hl := hr.length
  have ht : vs.toArray.toList.take cs.length = vs := by simp [← hl]
  exact stp_new hH hB hk (fun _ => .inr rfl) (by simp) (fun b hb => by simp at hb) (fr_alloc _ _ _) (by simp) (alloc_new' _ _) (by simp [hl]) (by rw [ht]; exact hr) (by rw [ht]; exact h1) (DsL.dry hdry (by simp [hl]))

theorem repl_flat {zs : List Value} : ∀ (n : Nat), RepL C (List.replicate n (zs.map VV.sc)).flatten (List.replicate n zs).flatten
  | 0 => by simpa using RepL.nil
  | n + 1 => by
    rw [List.replicate_succ, List.replicate_succ, List.flatten_cons, List.flatten_cons]
    exact (RepL.scs zs).append (repl_flat n)
theorem range_flat (zs : List Value) (z : Nat) (hz : zs.length = z) (n : Nat) : ((Array.range (n * z)).map (zs.toArray[· % zs.toArray.size]!)).toList = (List.replicate n zs).flatten := by
  apply List.ext_getElem?
  intro i
  have hfl : ∀ (n : Nat) (i : Nat), i < n * z → (List.replicate n zs).flatten[i]? = zs[i % z]? := by
    intro n
    induction n with
    | zero => intro i hi; simp at hi
    | succ n ih =>
      intro i hi
      rw [List.replicate_succ, List.flatten_cons, List.getElem?_append]
      split
      · rw [Nat.mod_eq_of_lt (by omega)]
      · rw [ih (i - zs.length) (by rw [hz]; rw [Nat.add_mul] at hi; omega), hz]
        congr 1
        exact (Nat.mod_eq_sub_mod (by omega)).symm
  have hlen : ((List.replicate n zs).flatten).length = n * z := by simp [hz]
  by_cases hi : i < n * z
  · rw [hfl n i hi]
    have hz0 : 0 < z := by
      rcases Nat.eq_zero_or_pos z with h | h
      · subst h; simp at hi
      · exact h
    have hm : i % z < zs.length := by rw [hz]; exact Nat.mod_lt _ hz0
    simp only [Array.toList_map, Array.toList_range, List.getElem?_map, List.getElem?_range hi, Option.map_some, List.size_toArray, hz]
    rw [List.getElem?_eq_getElem hm]
    simp [hm]
  · rw [List.getElem?_eq_none (by simpa using hi), List.getElem?_eq_none (by omega)]

theorem one_dry {x : VV} (h : x.one = true) : x.dry = true := by cases x <;> simp [VV.one] at h <;> rfl
theorem sc_dry (zs : List Value) : (zs.map VV.sc).all VV.dry = true := by simp [VV.dry]
theorem cellsV_dry {x : VV} {xs : List VV} (h : cellsV x = some xs) : xs.all VV.dry = true := by
  unfold cellsV at h
  split at h
  · split at h
    · rename_i hall
      injection h with h; subst h
      rw [List.all_eq_true] at hall ⊢
      exact fun y hy => one_dry (hall y hy)
    · simp at h
  · split at h
    · rename_i h1
      injection h with h; subst h
      simpa using one_dry h1
    · simp at h
theorem fillV_dry : ∀ {ps : List (Nat × Nat × VV)} {cs ds : List VV}, cs.all VV.dry = true → fillV cs ps = some ds → ds.all VV.dry = true
  | [], cs, ds, h, hf => by simp only [fillV] at hf; injection hf with hf; subst hf; exact h
  | (off, n, x) :: r, cs, ds, h, hf => by
    simp only [fillV] at hf
    split at hf
    · simp at hf
    · rename_i xs hx
      split at hf
      · refine fillV_dry ?_ hf
        rw [List.all_append, List.all_append, cellsV_dry hx]
        rw [List.all_eq_true] at h
        simp only [Bool.true_and, Bool.and_eq_true, List.all_eq_true]
        exact ⟨fun y hy => h y (List.mem_of_mem_take hy), fun y hy => h y (List.mem_of_mem_drop hy)⟩
      · simp at hf
theorem repl_dry {zs : List Value} (n : Nat) : ((List.replicate n (zs.map VV.sc)).flatten).all VV.dry = true := by
  rw [List.all_eq_true]
  intro y hy
  obtain ⟨l, hl, hy⟩ := List.mem_flatten.1 hy
  rw [List.eq_of_mem_replicate hl] at hy
  exact List.all_eq_true.1 (sc_dry zs) y hy
theorem buildSlice_ok (hS : ∀ x, Rep C (s x) (e x)) (hH : HOk C H) (hB : Bd C) (hk : ¬ C.N k) {t : TypeId} {n : Nat} {ps : Array (Nat × Operand)} (hc : compOp P (.buildSlice t n ps) = some vo) (hv : vop s H k vo = some (r, H')) :
    ∃ C' v, (Instr.buildSlice t n (ps.map fun (i, x) => (i, e x))).run P C.w = .ok v C'.w ∧ Rep C' r v ∧ Stp C C' H H' k := by
  simp only [compOp] at hc
  cases hu : P.underlying t with
  | none => simp [hu] at hc
  | some d =>
    cases d <;> try (simp [hu] at hc; done)
    rename_i el
    simp only [hu] at hc
    cases hz : sizeT P el with
    | none => simp [hz] at hc
    | some z =>
      cases hzs : zeroOf P el with
      | none => simp [hz, hzs] at hc
      | some zs =>
        simp only [hz, hzs] at hc
        split at hc
        · rename_i hcnd
          injection hc with hc; subst hc
          obtain ⟨i, hi, hsz⟩ := sizeT_ok hz
          obtain ⟨i', v, hi', hiz, rfl, hone⟩ := zeroOf_ok hzs
          rw [hi] at hi'; injection hi' with hi'; subst hi'
          subst hsz
          simp only [vop] at hv
          cases hf : fillV (List.replicate n (v.cells.toList.map VV.sc)).flatten ((partsA i.size ps.toList).map fun p => (p.1, p.2.1, s p.2.2)) with
          | none => simp [hf] at hv
          | some cs =>
            simp only [hf, Option.map_some] at hv; injection hv with hv; injection hv with hv1 hv2; subst hv1 hv2
            have hrf := range_flat v.cells.toList i.size hcnd.2 n
            obtain ⟨cells, q1, q2, q3, q4⟩ := fill_ok (C := C) (cells := (Array.range (n * i.size)).map (v.cells[· % v.cells.size]!)) (partsA_rel hS i.size ps.toList) (by simp only [Array.toArray_toList] at hrf; rw [hrf]; exact repl_flat n) hf
            have hone' : ∀ u ∈ cells.toList, u.oneCell' = true := q4 (by
              simp only [Array.toArray_toList] at hrf
              rw [hrf]
              intro u hu
              obtain ⟨l, hl, hu⟩ := List.mem_flatten.1 hu
              rw [List.eq_of_mem_replicate hl] at hu
              exact hone u hu)
            have hst := new_ok (T := el) hH hB hk q2 hone' (fillV_dry (repl_dry n) hf)
            simp only [Array.toArray_toList] at hst
            have hlen : cells.size = n * i.size := by rw [q3]; simp
            refine ⟨_, .slice (some ⟨C.w.heap.size, 0, none⟩) n n, ?_, newC_rf (alloc_new' _ _) (Nat.le_refl _) (by rw [hlen]; exact Nat.le_refl _), hst⟩
            show _ = Result.ok _ (C.w.alloc (.cells cells el))
            by_cases h0 : n * i.size = 0
            · have q1' : Instr.fill (fun j => some (j * i.size, i.size)) #[] (ps.map fun (i, x) => (i, e x)).toList = some cells := by
                rw [h0] at q1
                have : ∀ f : Nat → Value, (Array.range 0).map f = #[] := fun f => by simp [Array.range_zero']
                rw [this] at q1
                simpa using q1
              have e1 : ∀ f : Nat → Value, (Array.range 0).map f = #[] := fun f => by simp [Array.range_zero']
              simp only [Instr.buildSlice, Sem.run_bind, run_underlying hu, Result.andThen_ok, sizeOf, typeInfo, run_program, hi, Sem.run_pure, h0, if_true, newRow]
              simp only [Nat.not_lt_zero, gt_iff_lt, if_false, Sem.run_pure, Result.andThen_ok, e1, q1', Sem.run_bind, run_newObj]
              rfl
            · exact run_buildSlice C.w t el n _ cells i v hu hi hiz (by have := hcnd.1; omega) h0 (by simpa using q1)
        · simp at hc
end
end Go.VM

/- VMH: loads, stores, make, append; and all operations together. -/
namespace Go.VM
open Go.RowKit

theorem cl_le (C : Cx) : Le C.cl C := ⟨fun _ h => h.elim, fun _ h => h.elim, fun _ _ h1 h2 => ⟨h2, h1⟩, fun _ _ h => h⟩
theorem add_zero' (a : Addr) : a.add 0 = a := by unfold Addr.add; simp

/-- An object that is dropped. -/
theorem HOk.sub {C : Cx} {H1 H2 : Heap} (h : HOk C H1) (hs : ∀ j, H2 j = none ∨ H2 j = H1 j) : HOk C H2 := by
  have key : ∀ j cs, H2 j = some cs → H1 j = some cs := fun j cs hj => by
    rcases hs j with h | h
    · rw [h] at hj; simp at hj
    · rw [← h]; exact hj
  have key' : ∀ j, H2 j ≠ none → H1 j ≠ none := fun j hj => by
    rcases hs j with h | h
    · exact absurd h hj
    · rw [← h]; exact hj
  exact ⟨fun j cs hj => h.nm j cs (key j cs hj), fun j hj => h.own j (key' j hj), fun j cs hj => h.obj j cs (key j cs hj), fun j hj => h.nodup j (key' j hj), fun i j hi hj => h.sep i j (key' i hi) (key' j hj)⟩
theorem Own.sub {C : Cx} {H1 H2 : Heap} (hs : ∀ j, H2 j = none ∨ H2 j = H1 j) {b : Nat} (h : Own C H2 b) : Own C H1 b := by
  obtain ⟨j, hj, hb⟩ := h
  refine ⟨j, ?_, hb⟩
  rcases hs j with h | h
  · exact absurd h hj
  · rw [← h]; exact hj
theorem Stp.sub {C C' : Cx} {H H1 H2 : Heap} {k : Nat} (h : Stp C C' H H1 k) (hs : ∀ j, H2 j = none ∨ H2 j = H1 j) : Stp C C' H H2 k :=
  ⟨h.le, h.fr, h.hok.sub hs, h.bd, h.nN, h.nF, h.mF, fun b hb => h.ow b (hb.sub hs)⟩

section
variable {P : Program} {C : Cx} {s : Operand → VV} {e : Operand → Value} {o : Oper} {vo : VOp} {r : VV} {H H' : Heap} {k : Nat}

theorem loadVar_ok {t : TypeId} {d : TypeDesc} {n : Nat} {w : World} (hu : P.underlying t = some d) (hn : sizeT P t = some n) {ad : Addr} {us : List Value} (hc : ∀ j v, us[j]? = some v → w.cell? (ad.add j) = some v) :
    (d.isRow = true → n ≤ us.length → (loadVar t ad).run P w = .ok (.agg (us.take n).toArray) w) ∧ (d.isRow = false → ∀ v, us[0]? = some v → (loadVar t ad).run P w = .ok v w) := by
  obtain ⟨i, hi, hsz⟩ := sizeT_ok hn
  constructor
  · intro hr hle
    have hl : (us.take n).length = n := by simp; omega
    have := run_loadCells_list (P := P) w ad (us.take n) (fun j v hj => hc j v (by
      rw [List.getElem?_take] at hj
      split at hj
      · exact hj
      · simp at hj))
    rw [hl] at this
    simp [loadVar, run_isAgg hu, hr, sizeOf, typeInfo, hi, hsz, this]
  · intro hr v hv
    have := hc 0 v hv
    rw [add_zero'] at this
    simp [loadVar, run_isAgg hu, hr, this]
theorem obj_cells {b : Nat} {cs : List VV} {S : List Nat} (h : Obj' C b cs S) (off : Nat) : ∃ us, RepL C (cs.drop off) us ∧ (∀ v ∈ us, v.oneCell' = true) ∧ ∀ j v, us[j]? = some v → C.w.cell? ((⟨b, off, none⟩ : Addr).add j) = some v := by
  obtain ⟨vs, T, fr, h1, h2, h3, h4, h5, _⟩ := h
  refine ⟨(vs.toList.take cs.length).drop off, h4.drop off, fun v hv => h5 v (List.mem_of_mem_drop hv), fun j v hj => ?_⟩
  rw [List.getElem?_drop, List.getElem?_take] at hj
  split at hj
  · rw [Addr.add_lit]
    simp only [World.cell?, h1]
    simpa using hj
  · simp at hj
theorem load_ok (hS : ∀ x, Rep C (s x) (e x)) (hH : HOk C H) {t : TypeId} {x : Operand} (hc : compOp P (.load t x) = some vo) (hv : vop s H k vo = some (r, H')) :
    H' = H ∧ ∃ v, (Instr.loadAt t (e x)).run P C.w = .ok v C.w ∧ Rep C r v := by
  simp only [compOp] at hc
  cases hu : P.underlying t with
  | none => simp [hu] at hc
  | some d =>
    cases hn : sizeT P t with
    | none => simp [hu, hn] at hc
    | some n =>
      simp only [hu, hn] at hc; injection hc with hc; subst hc
      simp only [vop] at hv
      have hx := hS x
      have fin : ∀ (ad : Addr) (cs : List VV) (us : List Value), e x = .pointer (some ad) → RepL C cs us → (∀ j v, us[j]? = some v → C.w.cell? (ad.add j) = some v) → rdV d.isRow n cs = some r →
          ∃ v, (Instr.loadAt t (e x)).run P C.w = .ok v C.w ∧ Rep C r v := by
        intro ad cs us he hr hcell hrd
        obtain ⟨h1, h2⟩ := rdV_cells hrd hr
        obtain ⟨g1, g2⟩ := loadVar_ok (P := P) hu hn hcell
        cases hrow : d.isRow with
        | true =>
          obtain ⟨hle, hrep⟩ := h1 hrow
          exact ⟨_, by simp [Instr.loadAt, he, Instr.sureAddr, g1 hrow hle], hrep⟩
        | false =>
          obtain ⟨v, hv0, hrep⟩ := h2 hrow
          exact ⟨v, by simp [Instr.loadAt, he, Instr.sureAddr, g2 hrow v hv0], hrep⟩
      split at hv
      · rename_i j off hs
        rw [hs] at hx; simp only [Rep] at hx
        split at hv
        · rename_i cs hj
          cases hrd : rdV d.isRow n (cs.drop off) with
          | none => simp [hrd] at hv
          | some r' =>
            simp only [hrd, Option.map_some] at hv; injection hv with hv; injection hv with hv1 hv2; subst hv1 hv2
            obtain ⟨us, q1, _, q2⟩ := obj_cells (hH.obj j cs hj) off
            exact ⟨rfl, fin _ _ us hx.1 q1 q2 hrd⟩
        · simp at hv
      · rename_i cs hs
        rw [hs] at hx; simp only [Rep] at hx
        obtain ⟨ad, he, hr⟩ := hx
        cases hrd : rdV d.isRow n cs with
        | none => simp [hrd] at hv
        | some r' =>
          simp only [hrd, Option.map_some] at hv; injection hv with hv; injection hv with hv1 hv2; subst hv1 hv2
          obtain ⟨us, q1, _, q2⟩ := hr.values
          exact ⟨rfl, fin ad cs us he (RepL.mono (cl_le C) _ q1) (fun j v hj => by have := q2 j v hj; rwa [Nat.zero_add] at this) hrd⟩
      · simp at hv

theorem take_mid {α : Type} (A B D : List α) (L a b : Nat) (hA : A.length = a) (hB : B.length = b) (hL : a + b ≤ L) : (A ++ (B ++ D)).take L = A ++ (B ++ D.take (L - (a + b))) := by
  rw [List.take_append, List.take_of_length_le (by omega), List.take_append, List.take_of_length_le (by omega), hA, hB, Nat.sub_sub]

theorem store_ok (hS : ∀ x, Rep C (s x) (e x)) (hH : HOk C H) (hB : Bd C) (hk : ¬ C.N k) {t : TypeId} {x y : Operand} (hc : compOp P (.store t x y) = some vo) (hv : vop s H k vo = some (r, H')) :
    ∃ C', (Instr.storeAt t (e x) (e y)).run P C.w = .ok () C'.w ∧ r = .sc undef ∧ Stp C C' H H' k := by
  simp only [compOp] at hc
  cases hn : sizeT P t with
  | none => simp [hn] at hc
  | some n =>
    simp only [hn, Option.map_some] at hc; injection hc with hc; subst hc
    simp only [vop] at hv
    have hx := hS x
    split at hv
    · rename_i j off hs
      rw [hs] at hx; simp only [Rep] at hx
      split at hv
      · rename_i cs xs hj hxs
        split at hv
        · rename_i hcnd
          injection hv with hv; injection hv with hv1 hv2; subst hv1 hv2
          obtain ⟨hrx, hone⟩ := cellsV_ok (hS y) hxs
          obtain ⟨i, hi, hsz⟩ := sizeT_ok hn
          obtain ⟨vs, T, fr, h1, h2, h3, h4, h5, h6⟩ := hH.obj j cs hj
          have hxl : xs.length = n := hcnd.1
          -- what is left of what lies inside
          have hcs : cs = cs.take off ++ ((cs.drop off).take n ++ cs.drop (off + n)) := by rw [← List.drop_drop, List.take_append_drop, List.take_append_drop]
          rw [hcs, DsL.append] at h6
          obtain ⟨S1, S2, hS, d1, d2⟩ := h6
          rw [DsL.append] at d2
          obtain ⟨S3, S4, rfl, _, d4⟩ := d2
          have htl : (cs.take off).length = off := by rw [List.length_take]; omega
          have hml : ((cs.drop off).take n).length = n := by rw [List.length_take, List.length_drop]; omega
          rw [hml, htl, List.drop_drop] at d4
          have hul : (e y).cells.toList.length = n := by rw [hrx.length]; exact hcnd.1
          have hfit : off + (e y).cells.toList.length ≤ vs.size := by omega
          have hth := there_of_obj h1 h2 hfit
          have hst := run_storeCells_cells (P := P) (C.ρ j) off (e y).cells.toList 0 C.w (fun q hq => by simpa using (hth q hq).1) (fun q hq => by simpa using (hth q hq).2) hone
          simp only [Nat.add_zero] at hst
          have hlen : (cs.take off ++ (xs ++ cs.drop (off + n))).length = cs.length := by
            simp only [List.length_append, List.length_take, List.length_drop]; omega
          have hw := stp_write (k := k) (o := off) (us := (e y).cells.toList) (ds := cs.take off ++ (xs ++ cs.drop (off + n))) (S := S1 ++ S4) hH hB hj h1 h2 hfit hk (by rw [hlen]; exact h3) (by rw [hS]; exact List.Sublist.append (List.Sublist.refl _) (List.sublist_append_right _ _)) (fun C' vs' hL hin hvs => by
            rw [hlen, hvs]
            have e1 := take_mid (vs.toList.take off) (e y).cells.toList (vs.toList.drop (off + (e y).cells.toList.length)) cs.length off n (by simp; omega) hul (by omega)
            rw [e1]
            have a1 : vs.toList.take off = (vs.toList.take cs.length).take off := by rw [List.take_take, Nat.min_eq_left (by omega)]
            have a2 : (vs.toList.drop (off + (e y).cells.toList.length)).take (cs.length - (off + n)) = (vs.toList.take cs.length).drop (off + n) := by rw [hul, List.drop_take]
            rw [a1, a2]
            refine ⟨(RepL.mono hL _ (h4.take off)).append ((RepL.mono hL _ hrx).append (RepL.mono hL _ (h4.drop _))), fun v hv => ?_, ?_⟩
            · rcases List.mem_append.1 hv with hv | hv
              · exact h5 v (List.mem_of_mem_take hv)
              · rcases List.mem_append.1 hv with hv | hv
                · exact hone v hv
                · exact h5 v (List.mem_of_mem_drop hv)
            · rw [← a1, DsL.append]
              refine ⟨S1, S4, rfl, ?_, ?_⟩
              · have e2 : (vs.toList.take off ++ ((e y).cells.toList ++ vs.toList.drop (off + (e y).cells.toList.length))).take off = vs.toList.take off := by
                  rw [List.take_append_of_le_length (by simp; omega), List.take_take, Nat.min_self]
                rw [← DsL.take (m := off) (by omega), e2, DsL.take (by omega)]
                exact DsL.mono hL _ (fun q hq => hin q (by rw [hS]; simp [hq])) d1
              · rw [htl, DsL.append]
                refine ⟨[], S4, rfl, DsL.dry (cellsV_dry hxs) ?_, ?_⟩
                · have hvl : vs.toList.length = vs.size := by simp
                  simp only [List.length_drop, List.length_append, List.length_take]; omega
                · rw [hxl, List.drop_drop]
                  have hvl : vs.toList.length = vs.size := by simp
                  have e3 : (vs.toList.take off ++ ((e y).cells.toList ++ vs.toList.drop (off + (e y).cells.toList.length))).drop (off + n) = vs.toList.drop (off + n) := by
                    rw [List.drop_append, List.drop_of_length_le (by simp only [List.length_take]; omega), List.nil_append, List.drop_append, List.drop_of_length_le (by simp only [List.length_take]; omega), List.nil_append, List.drop_drop, hul]
                    congr 1
                    simp only [List.length_take]; omega
                  rw [e3]
                  exact DsL.mono hL _ (fun q hq => hin q (by rw [hS]; simp [hq])) d4) true
          refine ⟨_, ?_, rfl, hw⟩
          have hsz' : (e y).cells.size = i.size := by rw [hsz, ← hul]; simp
          rw [hx.1]
          simp [Instr.storeAt, Instr.sureAddr, storeVar, sizeOf, typeInfo, hi, hsz', hst]
        · simp at hv
      · simp at hv
    · simp at hv

theorem flatten_cells {C : Cx} {z : Nat} : ∀ {l : List (List VV)} {ad : Addr} {i : Nat}, RepR C z l ad i → l.flatten.length = l.length * z ∧ RepC C l.flatten ad i
  | [], ad, i, _ => ⟨by simp, by simp only [List.flatten_nil, RepC]⟩
  | r :: rs, ad, i, h => by
    simp only [RepR] at h
    obtain ⟨h1, h2⟩ := flatten_cells h.2
    refine ⟨by rw [List.flatten_cons, List.length_append, h1, h.1.1, List.length_cons, Nat.add_mul]; omega, ?_⟩
    rw [List.flatten_cons, RepC.iff]
    intro j c hj
    rw [List.getElem?_append] at hj
    split at hj
    · exact (RepC.iff.1 h.1.2) j c hj
    · have := (RepC.iff.1 h2) (j - r.length) c hj
      rw [h.1.1] at this
      rwa [show i + z + (j - z) = i + j by have := h.1.1; omega] at this
theorem src_ok (hH : HOk C H) {z n : Nat} {x : VV} {u : Value} {xs : List VV} (hx : Rep C x u) (h : srcV z H x = some (n, xs)) :
    ∃ a c, u = .slice a n c ∧ n ≤ c ∧ xs.length = n * z ∧ (n = 0 ∨ ∃ ad us, a = some ad ∧ RepL C xs us ∧ (∀ v ∈ us, v.oneCell' = true) ∧ ∀ j v, us[j]? = some v → C.w.cell? (ad.add j) = some v) := by
  unfold srcV at h
  split at h
  · rename_i z' l
    split at h
    · rename_i hz; subst hz
      injection h with h; injection h with h1 h2; subst h1 h2
      simp only [Rep] at hx
      obtain ⟨a, c, he, hle, hr⟩ := hx
      rcases hr with rfl | ⟨ad, ha, hr⟩
      · exact ⟨a, c, he, hle, by simp, .inl rfl⟩
      · obtain ⟨g1, g2⟩ := flatten_cells hr
        obtain ⟨us, q1, q2, q3⟩ := g2.values
        exact ⟨a, c, he, hle, g1, .inr ⟨ad, us, ha, RepL.mono (cl_le C) _ q1, q2, fun j v hj => by have := q3 j v hj; rwa [Nat.zero_add] at this⟩⟩
    · simp at h
  · rename_i j off len z'
    split at h
    · rename_i hz; subst hz
      split at h
      · rename_i cs hj
        split at h
        · rename_i hle
          injection h with h; injection h with h1 h2; subst h1 h2
          simp only [Rep] at hx
          obtain ⟨a, c, he, hlc, hr, _⟩ := hx
          refine ⟨a, c, he, hlc, by simp; omega, ?_⟩
          rcases hr with hr | ⟨ha, hr⟩
          · exact .inl (by omega)
          · obtain ⟨us, q1, q2, q3⟩ := obj_cells (hH.obj j cs hj) off
            refine .inr ⟨_, us.take (len * z'), ha, q1.take _, fun v hv => q2 v (List.mem_of_mem_take hv), fun i v hi => q3 i v ?_⟩
            rw [List.getElem?_take] at hi
            split at hi
            · exact hi
            · simp at hi
        · simp at h
      · simp at h
    · simp at h
  · injection h with h; injection h with h1 h2; subst h1 h2
    simp only [Rep] at hx
    exact ⟨none, 0, hx, Nat.le_refl _, by simp, .inl rfl⟩
  · simp at h

theorem src_Src (hH : HOk C H) {z n : Nat} {x : VV} {u : Value} {xs : List VV} {tx e' : TypeId} (hk' : P.underlying tx = some (.slice e')) (hx : Rep C x u) (h : srcV z H x = some (n, xs)) :
    ∃ news, Src P z tx u n news C.w ∧ RepL C xs news ∧ news.length = n * z ∧ ∀ v ∈ news, v.oneCell' = true := by
  obtain ⟨a, c, rfl, hle, hl, hd⟩ := src_ok hH hx h
  rcases hd with rfl | ⟨ad, us, rfl, q1, q2, q3⟩
  · have : xs = [] := List.eq_nil_of_length_eq_zero (by simpa using hl)
    subst this
    cases a with
    | none => exact ⟨[], Src.ofNil C.w hk' c, RepL.nil, by simp, by simp⟩
    | some ad => exact ⟨[], Src.ofSlice C.w hk' ad 0 c [] (by simp) (by simp) (by simp), RepL.nil, by simp, by simp⟩
  · have hul : us.length = n * z := by rw [q1.length, hl]
    exact ⟨us, Src.ofSlice C.w hk' ad n c us hul q3 q2, q1, hul, q2⟩
end
end Go.VM

/- VMI: append, make, strings out of bytes; and all operations together. -/
namespace Go.VM
open Go.RowKit
section
variable {P : Program} {C : Cx} {s : Operand → VV} {e : Operand → Value} {o : Oper} {vo : VOp} {r : VV} {H H' : Heap} {k : Nat}

theorem dryV_ok {o : Option (Nat × List VV)} {n : Nat} {xs : List VV} (h : dryV o = some (n, xs)) : o = some (n, xs) ∧ xs.all VV.dry = true := by
  unfold dryV at h
  split at h
  · split at h
    · rename_i hd
      injection h with h; injection h with h1 h2; subst h1 h2
      exact ⟨rfl, hd⟩
    · simp at h
  · simp at h
theorem cells_at {w : World} {b : Nat} {vs : Array Value} {T : TypeId} {fr : Nat × Nat} (h : w.heap[b]? = some (.cells vs T fr)) (m j : Nat) (v : Value) (hj : (vs.toList.take m)[j]? = some v) : w.cell? ((⟨b, 0, none⟩ : Addr).add j) = some v := by
  rw [List.getElem?_take] at hj
  split at hj
  · rw [Addr.add_lit]
    simp only [World.cell?, h]
    simpa using hj
  · simp at hj
theorem appV_ok (hH : HOk C H) (hB : Bd C) (hk : ¬ C.N k) {t tx ty el e' : TypeId} {i : TypeInfo} {zv : Value} (ht : P.underlying t = some (.slice el)) (htx : P.underlying tx = some (.slice e')) (hi : P.info? el = some i) (hz : i.zero = some zv)
    (hzl : zv.cells.size = i.size) (hzo : ∀ z ∈ zv.cells.toList, z.oneCell' = true) {x y : VV} {u v : Value} (hx : Rep C x u) (hy : Rep C y v) (h : appV i.size i.bytes H k x y = some (r, H')) :
    ∃ C' v', (Builtin.append_ #[t, tx] ty #[u, v]).run P C.w = .ok v' C'.w ∧ Rep C' r v' ∧ Stp C C' H H' k := by
  unfold appV at h
  cases hds : dryV (srcV i.size H y) with
  | none => simp [hds] at h
  | some p =>
    obtain ⟨n, xs⟩ := p
    simp only [hds] at h
    obtain ⟨hs, hdry⟩ := dryV_ok hds
    obtain ⟨news, hsrc, hrn, hnl, hno⟩ := src_Src hH htx hy hs
    -- a new row
    have grow : ∀ (Hd : Heap) (S : List Nat) (bs : Option Addr) (sLen sCap : Nat) (os : List VV) (olds : List Value), (∀ j, Hd j = none ∨ Hd j = H j) → S.Nodup → (∀ b ∈ S, Own C H b ∧ ∀ j, Hd j ≠ none → b ∉ C.ol j) → DsL C os olds S → u = .slice bs sLen sCap → sCap < sLen + n → (sLen + n) * i.bytes ≤ lim → sLen + n ≤ 9223372036854775807 →
        (Builtin.firstCells i.size sLen (.slice bs sLen sCap)).run P C.w.drew = .ok olds.toArray C.w.drew → RepL C os olds → olds.length = sLen * i.size → (∀ v ∈ olds, v.oneCell' = true) →
        ∃ C' v', (Builtin.append_ #[t, tx] ty #[u, v]).run P C.w = .ok v' C'.w ∧ Rep C' (.rf k 0 (sLen + n) i.size) v' ∧ Stp C C' H (upd Hd k (os ++ xs)) k := by
      rintro Hd S bs sLen sCap os olds hHd hSn hSO hDs rfl hg hb h63 hold hro hol hoo
      have hrun := run_append_grow_src (P := P) C.w t tx ty el i zv ht hi hz bs sLen sCap olds hold v n news hsrc hg (by omega) (growslice_fits hg (by unfold lim at hb; exact hb))
      have hge := grownCap_ge C.w (sLen + n) sCap el
      have hlen : (os ++ xs).length = (sLen + n) * i.size := by rw [← (hro.append hrn).length, List.length_append, hol, hnl, Nat.add_mul]
      have htl : ((olds ++ news).toArray ++ Builtin.zeroCells zv.cells (grownCap C.w (sLen + n) sCap el - (sLen + n))).toList.take (os ++ xs).length = olds ++ news := by
        rw [Array.toList_append, List.take_append_of_le_length (by simp [← (hro.append hrn).length]), List.take_of_length_le (by simp [← (hro.append hrn).length])]
      have hvs : ((olds ++ news).toArray ++ Builtin.zeroCells zv.cells (grownCap C.w (sLen + n) sCap el - (sLen + n))).size = grownCap C.w (sLen + n) sCap el * i.size := by
        rw [Array.size_append, List.size_toArray, List.length_append, hol, hnl, size_zeroCells, hzl, ← Nat.add_mul, ← Nat.add_mul]
        congr 1; omega
      have hbk := alloc_new' C.w.drew (.cells ((olds ++ news).toArray ++ Builtin.zeroCells zv.cells (grownCap C.w (sLen + n) sCap el - (sLen + n))) el)
      have hst := stp_new (k := k) (cs := os ++ xs) (w' := C.w.drew.alloc (.cells ((olds ++ news).toArray ++ Builtin.zeroCells zv.cells (grownCap C.w (sLen + n) sCap el - (sLen + n))) el)) hH hB hk hHd hSn hSO
        ((fr_drew _ _).trans (fr_alloc _ _ _)) (by simp) hbk (by rw [hvs, hlen]; exact Nat.mul_le_mul_right _ hge) (by rw [htl]; exact hro.append hrn) (by rw [htl]; exact fun v hv => (List.mem_append.1 hv).elim (hoo v) (hno v)) (by
          rw [← DsL.take (m := (os ++ xs).length) (Nat.le_refl _), htl, DsL.append]
          refine ⟨S, [], by simp, ?_, DsL.dry hdry ?_⟩
          · have e1 : (olds ++ news).take os.length = olds := by rw [← hro.length, List.take_append_of_le_length (Nat.le_refl _), List.take_length]
            rw [← DsL.take (m := os.length) (Nat.le_refl _), e1]; exact hDs
          · rw [← hro.length, List.drop_append_of_le_length (Nat.le_refl _), List.drop_length, List.nil_append, hrn.length]; exact Nat.le_refl _)
      exact ⟨_, _, hrun, newC_rf hbk hge (by rw [hvs]; exact Nat.le_refl _), hst⟩
    split at h
    · -- nothing ahead
      simp only [Rep] at hx; subst hx
      split at h
      · rename_i h0; subst h0
        injection h with h; injection h with h1 h2; subst h1 h2
        have : news = [] := List.eq_nil_of_length_eq_zero (by simpa using hnl)
        subst this
        exact ⟨C, _, run_append_nothing (P := P) C.w t tx ty el i ht hi none 0 0 (Nat.le_refl _) v hsrc, by simp only [Rep], Stp.refl k hH hB⟩
      · rename_i h0
        split at h
        · rename_i hcnd
          injection h with h; injection h with h1 h2; subst h1 h2
          have := grow H [] none 0 0 [] [] (fun _ => .inr rfl) (by simp) (fun b hb => by simp at hb) (by simp only [DsL]) rfl (by omega) (by simpa using hcnd.1) (by simpa using hcnd.2) (run_firstCells_none C.w.drew i.size 0 0 0) RepL.nil (by simp) (by simp)
          simpa using this
        · simp at h
    · rename_i j len z'
      split at h
      · rename_i cs hj
        split at h
        · rename_i hcnd
          obtain ⟨rfl, hle, hb, h63⟩ := hcnd
          injection h with h; injection h with h1 h2; subst h1 h2
          simp only [Rep] at hx
          obtain ⟨a, c, rfl, hlc, hr, hN⟩ := hx
          obtain ⟨vs, T, fr, g1, g2, g3, g4, g5, g6⟩ := hH.obj j cs hj
          -- what goes along
          rw [← List.take_append_drop (len * i.size) cs, DsL.append] at g6
          obtain ⟨S1, S2, hSS, d1, _⟩ := g6
          have hjn : H j ≠ none := by rw [hj]; simp
          have hS1 : ∀ b ∈ S1, b ∈ C.ol j := fun b hb => by simp [Cx.ol, hSS, hb]
          have hS1n : S1.Nodup := by
            have := hH.nodup j hjn
            unfold Cx.ol at this
            rw [hSS] at this
            exact (List.nodup_append.1 (List.nodup_cons.1 this).2).1
          have hnk : j ≠ k := fun e' => hk (e' ▸ hN)
          -- the old cells
          obtain ⟨us, hus, q1, q2, q3⟩ : ∃ us, us = vs.toList.take cs.length ∧ RepL C cs us ∧ (∀ v ∈ us, v.oneCell' = true) ∧ ∀ q v, us[q]? = some v → C.w.cell? ((⟨C.ρ j, 0, none⟩ : Addr).add q) = some v :=
            ⟨_, rfl, g4, g5, cells_at g1 _⟩
          have hol : (us.take (len * i.size)).length = len * i.size := by rw [List.length_take, q1.length]; omega
          by_cases hroom : len + n ≤ c
          · -- there is room
            have hnl' : news.length = n * i.size := hnl
            have hfit : c = 0 ∨ len * i.size + news.length ≤ vs.size := by
              rcases hr with hr | ⟨_, ws, T', fr', e1, e2⟩
              · exact .inl hr
              · right
                rw [g1] at e1; injection e1 with e1; injection e1 with e1 _ _
                rw [← e1, Nat.zero_add] at e2
                have : (len + n) * i.size ≤ c * i.size := Nat.mul_le_mul_right _ hroom
                rw [Nat.add_mul] at this; omega
            have hfit' : len * i.size + news.length ≤ vs.size := by
              rcases hfit with h0 | h0
              · have hl0 : len = 0 := by omega
                have hn0 : n = 0 := by omega
                rw [hnl, hl0, hn0]; simp
              · exact h0
            have hdl : (cs.take (len * i.size) ++ xs).length = len * i.size + news.length := by
              rw [List.length_append, List.length_take, Nat.min_eq_left hle, hrn.length]
            have hw := stp_write (k := k) (o := len * i.size) (us := news) (ds := cs.take (len * i.size) ++ xs) (S := S1) hH hB hj g1 g2 hfit' hk (by rw [hdl]; exact hfit') (by rw [hSS]; exact List.sublist_append_left _ _) (fun C' vs' hL hin hvs => by
              have e0 : vs'.toList.take (cs.take (len * i.size) ++ xs).length = vs.toList.take (len * i.size) ++ news := by
                rw [hvs, hdl, take_mid _ _ _ _ (len * i.size) news.length (by simp; omega) rfl (Nat.le_refl _)]
                simp
              have e1 : vs.toList.take (len * i.size) = (vs.toList.take cs.length).take (len * i.size) := by rw [List.take_take, Nat.min_eq_left hle]
              rw [e0, e1]
              refine ⟨(RepL.mono hL _ (g4.take _)).append (RepL.mono hL _ hrn), fun v hv => ?_, ?_⟩
              · rcases List.mem_append.1 hv with hv | hv
                · exact g5 v (List.mem_of_mem_take hv)
                · exact hno v hv
              · rw [← DsL.take (m := (cs.take (len * i.size) ++ xs).length) (Nat.le_refl _), e0, DsL.append]
                have hvl : vs.toList.length = vs.size := by simp
                have htl : (cs.take (len * i.size)).length = len * i.size := by rw [List.length_take]; omega
                have hvt : (vs.toList.take (len * i.size)).length = len * i.size := by rw [List.length_take]; omega
                refine ⟨S1, [], by simp, ?_, DsL.dry hdry ?_⟩
                · rw [← DsL.take (m := len * i.size) (by omega), List.take_append_of_le_length (by omega), List.take_take, Nat.min_self, DsL.take (by omega)]
                  exact DsL.mono hL _ (fun q hq => hin q (by rw [hSS]; simp [hq])) d1
                · rw [htl, List.drop_append_of_le_length (by omega), List.drop_of_length_le (by omega), List.nil_append, hrn.length]; exact Nat.le_refl _) false
            simp only [Bool.false_eq_true, if_false] at hw
            rcases hr with hc0 | ⟨ha, hrm⟩
            · have hl0 : len = 0 := by omega
              have hn0 : n = 0 := by omega
              subst hl0 hn0 hc0
              have : news = [] := List.eq_nil_of_length_eq_zero (by simpa using hnl)
              subst this
              refine ⟨_, .slice a 0 0, ?_, ?_, hw⟩
              · exact run_append_nothing (P := P) C.w t tx ty el i ht hi a 0 0 (Nat.le_refl _) v hsrc
              · simp only [Rep]
                exact ⟨a, 0, rfl, Nat.le_refl _, .inl rfl, .inr (by simp)⟩
            · subst ha
              have hth := there_of_obj g1 g2 hfit'
              have hrun := run_append_room_src (P := P) C.w t tx ty el i ht hi (C.ρ j) 0 len c v n news hsrc hroom (fun q hq => by rw [Nat.zero_add]; exact (hth q hq).1) (fun q hq => by rw [Nat.zero_add]; exact (hth q hq).2)
              rw [Nat.zero_add] at hrun
              refine ⟨_, _, hrun, ?_, hw⟩
              simp only [Rep]
              refine ⟨_, c, rfl, hroom, .inr ⟨?_, ?_⟩, .inr (by simp)⟩
              · simp
              · simp only [and_self, if_true]
                exact hw.le.room _ _ hrm
          · -- there is none
            have hold : (Builtin.firstCells i.size len (.slice a len c)).run P C.w.drew = .ok (us.take (len * i.size)).toArray C.w.drew := by
              rcases hr with hc0 | ⟨ha, _⟩
              · have hl0 : len = 0 := by omega
                subst hl0
                cases a with
                | none => simpa using run_firstCells_none (P := P) C.w.drew i.size 0 0 c
                | some ad => simpa using run_firstCells_some (P := P) C.w.drew i.size 0 ad 0 c [] (by simp) (by simp)
              · subst ha
                exact run_firstCells_some (P := P) C.w.drew i.size len _ len c _ hol (fun q w hq => by
                  rw [List.getElem?_take] at hq
                  split at hq
                  · simpa using q3 q w hq
                  · simp at hq)
            exact grow (kill H j) S1 a len c (cs.take (len * i.size)) (us.take (len * i.size)) (fun q => by unfold kill; by_cases e : q = j <;> simp [e]) hS1n
              (fun b hb => ⟨⟨j, hjn, hS1 b hb⟩, fun q hq hbq => by
                unfold kill at hq
                by_cases e : q = j
                · simp [e] at hq
                · rw [if_neg e] at hq
                  exact hH.sep j q hjn hq (Ne.symm e) b (hS1 b hb) hbq⟩)
              (by
                have hvl : vs.toList.length = vs.size := by simp
                rw [hus, List.take_take, Nat.min_eq_left hle, DsL.take (by rw [List.length_take]; omega)]; exact d1)
              rfl (by omega) hb h63 hold (q1.take _) hol (fun v hv => q2 v (List.mem_of_mem_take hv))
        · simp at h
      · simp at h
    · simp at h

theorem nums8_ok : ∀ {cs : List VV} {ns : List Int} {us : List Value}, nums8 cs = some ns → RepL C cs us → us = ns.map (Value.int .u8)
  | [], ns, us, h, hr => by
    simp only [nums8] at h; injection h with h; subst h
    simp only [RepL] at hr; subst hr; rfl
  | c :: cs, ns, us, h, hr => by
    simp only [RepL] at hr
    obtain ⟨v, vs, rfl, h1, h2⟩ := hr
    unfold nums8 at h
    split at h
    · rename_i heq; cases heq
    · rename_i m rr heq
      cases heq
      cases hn : nums8 cs with
      | none => simp [hn] at h
      | some l =>
        simp only [hn, Option.map_some] at h; injection h with h; subst h
        simp only [Rep] at h1; subst h1
        rw [nums8_ok hn h2]; rfl
    · simp at h

theorem bsize_mul (a b : Nat) : ((a : Int) * (b : Int)) = ((a * b : Nat) : Int) := by simp

def VOp.isPure : VOp → Bool
  | .new _ | .box _ | .bslice _ _ _ _ | .load _ _ _ | .store _ _ _ | .cstr _ | .mks _ _ _ _ | .app _ _ _ _ => false
  | _ => true
theorem vop_pure (h : vo.isPure = true) : vop s H k vo = (vpure s vo).map (fun r => (r, H)) := by
  cases vo <;> first | rfl | (simp [VOp.isPure] at h)
theorem pure_ok (hS : ∀ x, Rep C (s x) (e x)) (hH : HOk C H) (hB : Bd C) (hc : compOp P o.op = some vo) (hp : vo.isPure = true) (hv : vop s H k vo = some (r, H')) : Does P e o C r H H' k := by
  rw [vop_pure hp] at hv
  cases hq : vpure s vo with
  | none => simp [hq] at hv
  | some r' =>
    simp only [hq, Option.map_some] at hv; injection hv with hv; injection hv with hv1 hv2; subst hv1 hv2
    obtain ⟨v, g1, g2⟩ := vpure_ok hS hc hq
    exact ⟨C, v, .inl g1, g2, Stp.refl k hH hB⟩

theorem strOf_ok (hH : HOk C H) {src dst el : TypeId} (hs : P.underlying src = some (.slice el)) (he : P.underlying el = some (.int .u8)) (hd : P.underlying dst = some .string) {x : VV} {u : Value} (hx : Rep C x u) {n : Nat} {cs : List VV} {ns : List Int}
    (h : srcV 1 H x = some (n, cs)) (hn : nums8 cs = some ns) : (convert src dst u).run P C.w = .ok (.string (strOf ns)) C.w := by
  obtain ⟨a, c, rfl, hle, hl, hd'⟩ := src_ok hH hx h
  rw [run_convert_bytes_string C.w src dst el a n c hs he hd]
  rcases hd' with rfl | ⟨ad, us, rfl, q1, _, q3⟩
  · have : cs = [] := List.eq_nil_of_length_eq_zero (by simpa using hl)
    subst this
    simp only [nums8] at hn; injection hn with hn; subst hn
    cases a with
    | none => simp [Conv.bytesToString, strOf]
    | some ad =>
      have := run_bytesToString (P := P) C.w ad 0 c [] (by simpa using run_loadCells_list (P := P) C.w ad [] (by simp))
      simpa [strOf] using this
  · have hu := nums8_ok hn q1
    have hul : us.length = n := by rw [q1.length, hl, Nat.mul_one]
    have hl2 := run_loadCells_list (P := P) C.w ad us q3
    rw [hul, hu] at hl2
    exact run_bytesToString (P := P) C.w ad n c ns hl2

theorem vop_ok (hS : ∀ x, Rep C (s x) (e x)) (hH : HOk C H) (hB : Bd C) (hk : ¬ C.N k) (hc : compOp P o.op = some vo) (hv : vop s H k vo = some (r, H')) : Does P e o C r H H' k := by
  by_cases hp : vo.isPure = true
  · exact pure_ok hS hH hB hc hp hv
  obtain ⟨dst, op, ty, pos, after, guard⟩ := o
  simp only at hc
  cases op
  case alloc t =>
    simp only [compOp] at hc
    cases hz : zeroOf P t with
    | none => simp [hz] at hc
    | some zs' =>
      simp only [hz, Option.map_some] at hc; injection hc with hc; subst hc
      simp only [vop] at hv; injection hv with hv; injection hv with hv1 hv2; subst hv1 hv2
      obtain ⟨i, v, hi, hiz, rfl, hone⟩ := zeroOf_ok hz
      have hst := new_ok (T := t) hH hB hk (RepL.scs (C := C) v.cells.toList) hone (sc_dry _)
      simp only [Array.toArray_toList] at hst
      refine ⟨_, .pointer (some ⟨C.w.heap.size, 0, none⟩), .inl ?_, newC_pt, hst⟩
      simp [execOp, Instr.alloc, zeroValue, typeInfo, hi, hiz, newVar, newRow]
      rfl
  case box t y =>
    simp only [compOp] at hc; injection hc with hc; subst hc
    simp only [vop] at hv
    cases hcv : cellsV (s y) with
    | none => simp [hcv] at hv
    | some cs =>
      simp only [hcv, Option.map_some] at hv; injection hv with hv; injection hv with hv1 hv2; subst hv1 hv2
      obtain ⟨h1, h2⟩ := cellsV_ok (hS y) hcv
      have hst := new_ok (T := t) hH hB hk h1 h2 (cellsV_dry hcv)
      simp only [Array.toArray_toList] at hst
      refine ⟨_, .pointer (some ⟨C.w.heap.size, 0, none⟩), .inl ?_, newC_pt, hst⟩
      simp [execOp, Instr.box, newVar, newRow]
      rfl
  case buildSlice t n ps =>
    obtain ⟨C', v, h1, h2, h3⟩ := buildSlice_ok hS hH hB hk hc hv
    exact ⟨C', v, .inl (by simp only [execOp]; exact run_v h1), h2, h3⟩
  case load t x =>
    obtain ⟨rfl, v, h1, h2⟩ := load_ok hS hH hc hv
    exact ⟨C, v, .inl (by simp only [execOp]; exact run_v h1), h2, Stp.refl k hH hB⟩
  case store t x y =>
    obtain ⟨C', h1, rfl, h3⟩ := store_ok hS hH hB hk hc hv
    exact ⟨C', undef, .inr ⟨by simp [execOp, h1], rfl⟩, by simp only [Rep], h3⟩
  case convert src dst x =>
    simp only [compOp] at hc
    cases hs : P.underlying src with
    | none => simp [hs] at hc
    | some d1 =>
      cases hd : P.underlying dst with
      | none => cases d1 <;> simp [hs, hd] at hc
      | some d2 =>
        cases d1 <;> try (simp [hs, hd] at hc; done)
        case int k1 =>
          cases d2 <;> try (simp [hs, hd] at hc; done)
          simp only [hs, hd] at hc; injection hc with hc; subst hc
          exact absurd rfl hp
        case slice el =>
          cases d2 <;> try (simp [hs, hd] at hc; done)
          simp only [hs, hd] at hc
          split at hc
          · rename_i he
            injection hc with hc; subst hc
            simp only [vop] at hv
            cases hsrc : srcV 1 H (s x) with
            | none => simp [hsrc] at hv
            | some p =>
              obtain ⟨n, cs⟩ := p
              simp only [hsrc] at hv
              cases hn : nums8 cs with
              | none => simp [hn] at hv
              | some ns =>
                simp only [hn, Option.map_some] at hv; injection hv with hv; injection hv with hv1 hv2; subst hv1 hv2
                have := strOf_ok hH hs he hd (hS x) hsrc hn
                exact ⟨C, _, .inl (by simp only [execOp]; exact run_v this), by simp only [Rep], Stp.refl k hH hB⟩
          · simp at hc
  case makeSlice t l c =>
    cases l <;> cases c <;> simp only [compOp] at hc <;> try (simp at hc; done)
    rename_i a b
    split at hc
    · rename_i hab; subst hab
      cases hu : P.underlying t with
      | none => simp [hu] at hc
      | some d =>
        cases d <;> try (simp [hu] at hc; done)
        rename_i el
        simp only [hu] at hc
        cases hi : P.info? el with
        | none => simp [hi] at hc
        | some i =>
          cases hz : zeroOf P el with
          | none => simp [hi, hz] at hc
          | some zs =>
            simp only [hi, hz] at hc
            split at hc
            · rename_i hzl
              injection hc with hc; subst hc
              obtain ⟨i', v, hi', hiz, rfl, hone⟩ := zeroOf_ok hz
              rw [hi] at hi'; injection hi' with hi'; subst hi'
              simp only [vop] at hv
              have hx := hS (.tmp a)
              split at hv
              · rename_i kk n hs
                split at hv
                · rename_i hcnd
                  obtain ⟨h0, hb, h63⟩ := hcnd
                  injection hv with hv; injection hv with hv1 hv2; subst hv1 hv2
                  rw [hs] at hx; simp only [Rep] at hx
                  have hrun := run_make (P := P) C.w t el i v hu hi hiz kk kk n n h0 (Int.le_refl _) (by rw [Int.mul_comm]; exact hb) h63
                  have hml : (madeCells v.cells (n.toNat * i.size)).toList = (List.replicate n.toNat v.cells.toList).flatten := by
                    have := range_flat v.cells.toList i.size hzl n.toNat
                    simpa [madeCells] using this
                  have hr := repl_flat (C := C) (zs := v.cells.toList) n.toNat
                  rw [← hml] at hr
                  have hst := new_ok (T := el) hH hB hk hr (by
                    rw [hml]
                    intro u hu'
                    obtain ⟨l, hl, hu'⟩ := List.mem_flatten.1 hu'
                    rw [List.eq_of_mem_replicate hl] at hu'
                    exact hone u hu') (repl_dry _)
                  simp only [Array.toArray_toList] at hst
                  refine ⟨_, _, .inl ?_, newC_rf (alloc_new' _ _) (Nat.le_refl _) (by rw [size_madeCells]; exact Nat.le_refl _), hst⟩
                  simp only [execOp, hx]
                  exact run_v hrun
                · simp at hv
              · simp at hv
            · simp at hc
    · simp at hc
  case call c =>
    obtain ⟨callee, args, argTypes⟩ := c
    cases callee
    case invoke rv m => simp [compOp] at hc
    case value f =>
      cases f <;> simp only [compOp] at hc <;> try (simp at hc; done)
      · injection hc with hc; subst hc; exact absurd rfl hp
      · split at hc
        · split at hc
          · injection hc with hc; subst hc; exact absurd rfl hp
          · simp at hc
        · simp at hc
    case builtin b =>
      cases b <;> simp only [compOp] at hc <;> try (simp at hc; done)
      case append =>
        split at hc
        · rename_i a b t tx ha ht
          have ea : args = #[a, b] := by apply Array.ext'; simpa using ha
          have et : argTypes = #[t, tx] := by apply Array.ext'; simpa using ht
          subst ea et
          cases hu : P.underlying t with
          | none => simp [hu] at hc
          | some d =>
            cases hu2 : P.underlying tx with
            | none => cases d <;> simp [hu, hu2] at hc
            | some d2 =>
              cases d <;> try (simp [hu, hu2] at hc; done)
              cases d2 <;> try (simp [hu, hu2] at hc; done)
              rename_i el el2
              simp only [hu, hu2] at hc
              cases hi : P.info? el with
              | none => simp [hi] at hc
              | some i =>
                cases hz2 : sizeT P el2 with
                | none => simp [hi, hz2] at hc
                | some z2 =>
                  simp only [hi, hz2] at hc
                  split at hc
                  · rename_i hcnd
                    injection hc with hc; subst hc
                    obtain ⟨zs, hz⟩ := Option.isSome_iff_exists.1 hcnd.2.1
                    obtain ⟨i', v, hi', hiz, hzs, hone⟩ := zeroOf_ok hz
                    rw [hi] at hi'; injection hi' with hi'; subst hi'
                    simp only [vop] at hv
                    have hzl : v.cells.size = i.size := by
                      have := hcnd.2.2
                      rw [hz, hzs] at this
                      simpa using this
                    obtain ⟨C', v', h1, h2, h3⟩ := appV_ok (ty := ty) hH hB hk hu hu2 hi hiz hzl (by rw [← hzs]; exact hone) (hS a) (hS b) hv
                    exact ⟨C', v', .inl (by simp [execOp, resolve, invoke, builtin, h1]), h2, h3⟩
                  · simp at hc
        · simp at hc
      case len =>
        split at hc
        · split at hc
          · injection hc with hc; subst hc; exact absurd rfl hp
          · injection hc with hc; subst hc; exact absurd rfl hp
          · simp at hc
        · simp at hc
  all_goals (exfalso; apply hp; simp only [compOp] at hc)
  case binOp => injection hc with hc; subst hc; rfl
  case unOp => injection hc with hc; subst hc; rfl
  case move => injection hc with hc; subst hc; rfl
  case assign => injection hc with hc; subst hc; rfl
  case pick => injection hc with hc; subst hc; rfl
  case nilCheck => injection hc with hc; subst hc; rfl
  case extract => injection hc with hc; subst hc; rfl
  case build =>
    split at hc
    · obtain ⟨_, _, rfl⟩ := Option.map_eq_some_iff.1 hc; rfl
    · obtain ⟨_, _, rfl⟩ := Option.map_eq_some_iff.1 hc; rfl
    · simp at hc
  case field =>
    split at hc
    · split at hc
      · split at hc
        · injection hc with hc; subst hc; rfl
        · simp at hc
      · simp at hc
    · simp at hc
  case fieldAddr =>
    split at hc
    · split at hc
      · split at hc
        · split at hc
          · simp at hc
          · injection hc with hc; subst hc; rfl
        · simp at hc
      · simp at hc
    · simp at hc
  case indexAddr =>
    split at hc
    · obtain ⟨_, _, rfl⟩ := Option.map_eq_some_iff.1 hc; rfl
    · obtain ⟨_, _, rfl⟩ := Option.map_eq_some_iff.1 hc; rfl
    · simp at hc
  case index =>
    split at hc
    · injection hc with hc; subst hc; rfl
    · simp at hc
  case slice t x lo hi mx =>
    cases mx <;> simp only at hc
    · split at hc
      · obtain ⟨_, _, rfl⟩ := Option.map_eq_some_iff.1 hc; rfl
      · injection hc with hc; subst hc; rfl
      · simp at hc
    · simp at hc
  case makeFunc f a b =>
    cases f <;> simp only at hc
    · split at hc
      · injection hc with hc; subst hc; rfl
      · simp at hc
    all_goals (simp at hc)
  all_goals (simp at hc)
end
end Go.VM

/- VMJ: regions, code, loops, calls: what the machine derives holds in the model. -/
namespace Go.VM
open Go.RowKit

/-- Many steps, from a function's entry on. -/
structure StpM (C C' : Cx) (H H' : Heap) (n n' : Nat) : Prop where
  le : Le C C'
  fr : Fr (Own C H) C.w C'.w
  hok : HOk C' H'
  bd : Bd C'
  nn : n ≤ n'
  nN : ∀ j, C'.N j → j < n'
  nO : ∀ j, C'.N j → C.N j ∨ n ≤ j
  mF : ∀ b, b < C.w.heap.size → C.F b → C'.F b ∨ Own C H b
  nF : ∀ b, C'.F b → C.F b ∨ C.w.heap.size ≤ b
  ow : ∀ b, Own C' H' b → Own C H b ∨ C.w.heap.size ≤ b

theorem StpM.refl {C : Cx} {H : Heap} {n : Nat} (hH : HOk C H) (hB : Bd C) (hn : ∀ j, C.N j → j < n) : StpM C C H H n n :=
  ⟨Le.refl C, Fr.refl _ _, hH, hB, Nat.le_refl _, hn, fun _ h => .inl h, fun _ _ h => .inl h, fun _ h => .inl h, fun _ h => .inl h⟩
theorem fr_trans {A B : Cx} {H K : Heap} {w : World} (h : Fr (Own A H) A.w B.w) (k : Fr (Own B K) B.w w)
    (how : ∀ b, Own B K b → Own A H b ∨ A.w.heap.size ≤ b) : Fr (Own A H) A.w w :=
  ⟨k.os.trans h.os, k.tape.trans h.tape, k.output.trans h.output, Nat.le_trans h.size k.size,
   fun i hi ho => (k.block i (Nat.lt_of_lt_of_le hi h.size) (fun x => (how i x).elim ho (fun g => by omega))).trans (h.block i hi ho), fun i m hm => k.room i m (h.room i m hm)⟩
theorem StpM.trans {A B C : Cx} {H K L : Heap} {n m p : Nat} (h : StpM A B H K n m) (k : StpM B C K L m p) : StpM A C H L n p :=
  ⟨h.le.trans k.le, fr_trans h.fr k.fr h.ow, k.hok, k.bd, Nat.le_trans h.nn k.nn, k.nN, fun j hj => (k.nO j hj).elim (h.nO j) (fun g => .inr (Nat.le_trans h.nn g)),
   fun b hb hF => (h.mF b hb hF).elim (fun g => (k.mF b (Nat.lt_of_lt_of_le hb h.fr.size) g).elim .inl (fun x => (h.ow b x).elim .inr (fun y => by omega))) .inr,
   fun b hb => (k.nF b hb).elim (h.nF b) (fun g => .inr (Nat.le_trans h.fr.size g)),
   fun b hb => (k.ow b hb).elim (h.ow b) (fun g => .inr (Nat.le_trans h.fr.size g))⟩

/-! ### Functions' contracts -/
abbrev FS := List VV → Heap → Nat → (VV → Heap → Nat → Prop) → Prop
structure SatF (P : Program) (f : FuncId) (S : FS) : Prop where
  fn : ∃ fn, P.funcs[f]? = some fn ∧ fn.body.isSome ∧ fn.name ≠ "runtime.NumGoroutine"
  calls : ∀ (args : List VV) (H : Heap) (n : Nat) (K : VV → Heap → Nat → Prop), S args H n K → ∀ (C : Cx) (vs : List Value), HOk C H → Bd C → (∀ j, C.N j → j < n) → RepL C args vs →
    Calls P f vs.toArray C.w fun e w' => ∃ r H' n' C' v, K r H' n' ∧ e = .returned v ∧ C'.w = w' ∧ Rep C' r v ∧ StpM C C' H H' n n'
def CallP (P : Program) (f : FuncId) (args : List VV) (H : Heap) (n : Nat) (K : VV → Heap → Nat → Prop) : Prop := ∃ S, SatF P f S ∧ S args H n K

/-! ### The machine's steps -/
def Slots.ev (s : Slots) : Operand → VV
  | .tmp t => s t
  | .const v => .sc v
  | .global g => .sc (.pointer (some ⟨g, 0, none⟩))
  | .func f => .fn f []
def Slots.put (s : Slots) (d : Option Nat) (v : VV) : Slots :=
  match d with
  | none => s
  | some d => fun j => if j = d then v else s j
structure VOper where
  dst : Option Nat
  op : VOp
  gd : Option (Nat × Bool)
inductive VCode where
  | skip
  | reg (ops : List VOper)
  | drw (ops : List (VOper × List Nat))
  | seq (a b : VCode)
  | cond (c : Operand) (a b : VCode)
  | block (id : Nat) (b : VCode)
  | loop (b : VCode)
  | exit (id : Nat)
  | ret
inductive VExit where
  | normal
  | exit (id : Nat)
  | ret
abbrev VPost := VExit → Slots → Heap → Nat → Prop

def gdV (s : Slots) : Option (Nat × Bool) → Option Bool
  | none => some true
  | some (d, b) => match s d with
    | .sc (.bool t) => some (t == b)
    | .sc (.tuple _) => some false
    | _ => none
def vstep (P : Program) (o : VOper) (K : Slots → Heap → Nat → Prop) (s : Slots) (H : Heap) (n : Nat) : Prop :=
  match o.op with
  | .call f args => CallP P f (args.map s.ev) H n fun r H' n' => K (s.put o.dst r) H' n'
  | .callv f args => match s.ev f with
    | .fn g caps => CallP P g (args.map s.ev ++ caps) H n fun r H' n' => K (s.put o.dst r) H' n'
    | _ => False
  | op => match vop s.ev H n op with
    | some (r, H') => K (s.put o.dst r) H' (n + 1)
    | none => False
def vops (P : Program) : List VOper → (Slots → Heap → Nat → Prop) → Slots → Heap → Nat → Prop
  | [], K, s, H, n => K s H n
  | o :: r, K, s, H, n => match gdV s o.gd with
    | some true => vstep P o (vops P r K) s H n
    | some false => vops P r K (s.put o.dst (.sc undef)) H n
    | none => False

/-! ### The model's code, looked up -/
def okDst (m : Nat) : Option Nat → Bool
  | none => true
  | some d => decide (d < m)
def compOper (P : Program) (m : Nat) (ops : Array Oper) (o : Oper) : Option VOper :=
  match compOp P o.op with
  | none => none
  | some v => if okDst m o.dst then
      match o.guard with
      | none => some ⟨o.dst, v, none⟩
      | some (j, b) => match (ops[j]?).bind (·.dst) with
        | some d => if d < m then some ⟨o.dst, v, some (d, b)⟩ else none
        | none => none
    else none
def compOps (P : Program) (m : Nat) (ops : Array Oper) : List Oper → Option (List VOper)
  | [] => some []
  | o :: r => match compOper P m ops o, compOps P m ops r with
    | some v, some l => some (v :: l)
    | _, _ => none

/-- The machine's state stands for the model's. -/
structure St (m : Nat) (C : Cx) (s : Slots) (a : Act) : Prop where
  slots : ∀ j, j < m → Rep C (s j) (a.tmps.getD j undef)
  out : ∀ j, m ≤ j → s j = .any ∨ s j = .sc undef
  size : a.tmps.size = m
  defers : a.defers = []

theorem St.ev {m : Nat} {C : Cx} {s : Slots} {a : Act} (h : St m C s a) (x : Operand) : Rep C (s.ev x) (a.eval x) := by
  cases x with
  | tmp t =>
    show Rep C (s t) (a.tmps.getD t undef)
    by_cases ht : t < m
    · exact h.slots t ht
    · rcases h.out t (Nat.le_of_not_lt ht) with e | e
      · rw [e]; simp only [Rep]
      · rw [e]; simp only [Rep]
        rw [Array.getD_eq_getD_getElem?, Array.getElem?_eq_none (by rw [h.size]; exact Nat.le_of_not_lt ht)]; rfl
  | const v => simp only [Slots.ev, Rep]; rfl
  | global g => simp only [Slots.ev, Rep]; rfl
  | func f => simp only [Slots.ev, Rep]; exact ⟨[], rfl, RepL.nil⟩
theorem St.put {m : Nat} {C C' : Cx} {s : Slots} {a : Act} (h : St m C s a) (hL : Le C C') {d : Option Nat} (hd : okDst m d = true) {r : VV} {v : Value} (hr : Rep C' r v) : St m C' (s.put d r) (a.put d v) := by
  cases d with
  | none => exact ⟨fun j hj => (h.slots j hj).mono hL, h.out, h.size, h.defers⟩
  | some d =>
    simp only [okDst, decide_eq_true_eq] at hd
    refine ⟨fun j hj => ?_, fun j hj => ?_, by simp [Act.put, h.size], h.defers⟩
    · show Rep C' (if j = d then r else s j) ((a.tmps.setIfInBounds d v).getD j undef)
      by_cases e : j = d
      · subst e
        rw [if_pos rfl, Array.getD_eq_getD_getElem?, Array.getElem?_setIfInBounds_self_of_lt (by rw [h.size]; exact hd)]
        exact hr
      · rw [if_neg e, Array.getD_eq_getD_getElem?, Array.getElem?_setIfInBounds_ne (Ne.symm e), ← Array.getD_eq_getD_getElem?]
        exact (h.slots j hj).mono hL
    · show (if j = d then r else s j) = _ ∨ (if j = d then r else s j) = _
      rw [if_neg (by omega)]; exact h.out j hj
theorem St.mono {m : Nat} {C C' : Cx} {s : Slots} {a : Act} (h : St m C s a) (hL : Le C C') : St m C' s a := ⟨fun j hj => (h.slots j hj).mono hL, h.out, h.size, h.defers⟩

section
variable {P : Program} {m : Nat} {ops : Array Oper}

theorem wanted_ok {o : Oper} {v : VOper} (hc : compOper P m ops o = some v) {C : Cx} {s : Slots} {a : Act} (hS : St m C s a) {t : Bool} (hg : gdV s v.gd = some t) : Region.wanted o (yielded ops a.tmps) = t := by
  unfold compOper at hc
  cases hop : compOp P o.op with
  | none => simp [hop] at hc
  | some w =>
    simp only [hop] at hc
    split at hc
    · cases hgd : o.guard with
      | none =>
        simp only [hgd] at hc; injection hc with hc; subst hc
        simp only [gdV] at hg; injection hg with hg; subst hg
        simp [Region.wanted, hgd]
      | some p =>
        obtain ⟨j, b⟩ := p
        simp only [hgd] at hc
        cases hd : (ops[j]?).bind (·.dst) with
        | none => simp [hd] at hc
        | some d =>
          simp only [hd] at hc
          split at hc
          · rename_i hdm
            injection hc with hc; subst hc
            simp only [gdV] at hg
            have hr := hS.slots d hdm
            have hget : a.tmps[d]? = some (a.tmps.getD d undef) := by
              rw [Array.getD_eq_getD_getElem?, Array.getElem?_eq_getElem (by rw [hS.size]; exact hdm)]; rfl
            split at hg
            · rename_i tt hs
              injection hg with hg; subst hg
              rw [hs] at hr; simp only [Rep] at hr
              simp only [Region.wanted, hgd, yielded, hd, Option.bind_some, hget, hr]
              cases tt <;> cases b <;> rfl
            · rename_i l hs
              injection hg with hg; subst hg
              rw [hs] at hr; simp only [Rep] at hr
              simp only [Region.wanted, hgd, yielded, hd, Option.bind_some, hget, hr]
              rfl
            · simp at hg
          · simp at hc
    · simp at hc
theorem compOper_ok {o : Oper} {v : VOper} (hc : compOper P m ops o = some v) : compOp P o.op = some v.op ∧ okDst m o.dst = true ∧ v.dst = o.dst := by
  unfold compOper at hc
  cases hop : compOp P o.op with
  | none => simp [hop] at hc
  | some w =>
    simp only [hop] at hc
    split at hc
    · rename_i hd
      cases hgd : o.guard with
      | none => simp only [hgd] at hc; injection hc with hc; subst hc; exact ⟨rfl, hd, rfl⟩
      | some p =>
        simp only [hgd] at hc
        split at hc
        · split at hc
          · injection hc with hc; subst hc; exact ⟨rfl, hd, rfl⟩
          · simp at hc
        · simp at hc
    · simp at hc

theorem Stp.toM {C C' : Cx} {H H' : Heap} {n : Nat} (h : Stp C C' H H' n) (hn : ∀ j, C.N j → j < n) : StpM C C' H H' n (n + 1) :=
  ⟨h.le, h.fr, h.hok, h.bd, by omega, fun j hj => (h.nN j hj).elim (fun g => by have := hn j g; omega) (fun g => by omega), fun j hj => (h.nN j hj).imp id (fun g => by omega), fun b _ hF => .inl (h.mF b hF), h.nF, h.ow⟩
end
end Go.VM

/- VMK: the machine's regions, calls and code are the model's. -/
namespace Go.VM
open Go.RowKit

/-- What one call of a function is derived in. -/
structure Fn where
  P : Program
  m : Nat
  C : Cx
  H : Heap
  n : Nat

/-- A state that a function has come to. -/
structure At (X : Fn) (C : Cx) (s : Slots) (H : Heap) (n : Nat) (a : Act) : Prop where
  stp : StpM X.C C X.H H X.n n
  st : St X.m C s a

def VExit.of : Exit → Option VExit
  | .normal => some .normal
  | .exit id => some (.exit id)
  | .ret => some .ret
  | _ => none
/-- The post of the model's code. -/
def MPost (X : Fn) (Q : VPost) (x : Exit) (a : Act) (w : World) : Prop :=
  ∃ C s H n v, C.w = w ∧ At X C s H n a ∧ VExit.of x = some v ∧ Q v s H n

section
variable {X : Fn}

theorem callFunc_run {P : Program} {f : FuncId} {args : Array Value} {w : World} (h : ∃ fn, P.funcs[f]? = some fn ∧ fn.body.isSome ∧ fn.name ≠ "runtime.NumGoroutine") :
    (callFunc f args).run P w = .ok (.enter f args) w := by
  obtain ⟨fn, h1, h2, h3⟩ := h
  cases hb : fn.body with
  | none => simp [hb] at h2
  | some b => simp [callFunc, h1, h3, hb]

theorem comp_call {P : Program} {op : Op} {f : FuncId} {args : List Operand} (h : compOp P op = some (.call f args)) : ∃ as ts, op = .call ⟨.value (.func f), as, ts⟩ ∧ as.toList = args := by
  cases op <;> simp only [compOp] at h
  case call c =>
    obtain ⟨callee, as, ts⟩ := c
    cases callee
    case invoke => simp [compOp] at h
    case builtin b =>
      cases b <;> simp only [compOp] at h <;> (repeat' split at h) <;> simp at h
    case value g =>
      cases g <;> simp only [compOp] at h
      case func g' =>
        (repeat' split at h) <;> simp at h
        obtain ⟨rfl, h⟩ := h
        exact ⟨as, ts, rfl, h⟩
      all_goals simp at h
  case slice t x lo hi mx => cases mx <;> simp only [compOp] at h <;> (repeat' split at h) <;> simp at h
  case makeFunc g a b => cases g <;> simp only [compOp] at h <;> (repeat' split at h) <;> simp at h
  case makeSlice t a b => cases a <;> cases b <;> simp only [compOp] at h <;> (repeat' split at h) <;> simp at h
  all_goals ((repeat' split at h) <;> first | (simp at h; done) | (obtain ⟨_, _, h⟩ := Option.map_eq_some_iff.1 h; simp at h; done))
theorem comp_callv {P : Program} {op : Op} {f : Operand} {args : List Operand} (h : compOp P op = some (.callv f args)) : ∃ as ts, op = .call ⟨.value f, as, ts⟩ ∧ as.toList = args := by
  cases op <;> simp only [compOp] at h
  case call c =>
    obtain ⟨callee, as, ts⟩ := c
    cases callee
    case invoke => simp [compOp] at h
    case builtin b =>
      cases b <;> simp only [compOp] at h <;> (repeat' split at h) <;> simp at h
    case value g =>
      cases g <;> simp only [compOp] at h
      case func g' => (repeat' split at h) <;> simp at h
      case tmp g' =>
        simp at h
        obtain ⟨rfl, h⟩ := h
        exact ⟨as, ts, rfl, h⟩
      all_goals simp at h
  case slice t x lo hi mx => cases mx <;> simp only [compOp] at h <;> (repeat' split at h) <;> simp at h
  case makeFunc g a b => cases g <;> simp only [compOp] at h <;> (repeat' split at h) <;> simp at h
  case makeSlice t a b => cases a <;> cases b <;> simp only [compOp] at h <;> (repeat' split at h) <;> simp at h
  all_goals ((repeat' split at h) <;> first | (simp at h; done) | (obtain ⟨_, _, h⟩ := Option.map_eq_some_iff.1 h; simp at h; done))

/-- One operation. -/
theorem vstep_ok {ops : Array Oper} {o : Oper} {v : VOper} (hc : compOper X.P X.m ops o = some v) {C : Cx} {s : Slots} {H : Heap} {n : Nat} {a : Act} (hA : At X C s H n a) {K : Slots → Heap → Nat → Prop}
    (h : vstep X.P v K s H n) {next : Act → World → Prop} {Q : Exit → Act → World → Prop} (hn : ∀ C' s' H' n' a', At X C' s' H' n' a' → K s' H' n' → next a' C'.w) : o.wp X.P a C.w next Q := by
  obtain ⟨hop, hd, hdst⟩ := compOper_ok hc
  have hS := hA.st.ev
  -- a call
  have call : ∀ (f : FuncId) (vs : List VV) (us : List Value), RepL C vs us → CallP X.P f vs H n (fun r H' n' => K (s.put v.dst r) H' n') → (∀ w, (∃ fn, X.P.funcs[f]? = some fn ∧ fn.body.isSome ∧ fn.name ≠ "runtime.NumGoroutine") → (execOp a.eval o).run X.P w = .ok (.enter f us.toArray) w) →
      o.wp X.P a C.w next Q := by
    rintro f vs us hr ⟨S, hsat, hSp⟩ hrun
    unfold Oper.wp
    rw [hrun C.w hsat.fn, Oper.upon_enter]
    refine (hsat.calls vs H n _ hSp C us hA.stp.hok hA.stp.bd hA.stp.nN hr).mono ?_
    rintro e w' ⟨r, H', n', C', u, hK, rfl, rfl, hrep, hstp⟩
    refine hn C' _ H' n' _ ⟨hA.stp.trans hstp, ?_⟩ hK
    rw [hdst]
    exact hA.st.put hstp.le hd hrep
  have plain : vop s.ev H n v.op ≠ none → (∀ r H', vop s.ev H n v.op = some (r, H') → K (s.put v.dst r) H' (n + 1)) → o.wp X.P a C.w next Q := by
    intro hne hK
    obtain ⟨⟨r, H'⟩, hv⟩ := Option.ne_none_iff_exists'.1 hne
    obtain ⟨C', u, hrun, hrep, hstp⟩ := vop_ok hS hA.stp.hok hA.stp.bd (fun hN => by have := hA.stp.nN _ hN; omega) hop hv
    have hA' : At X C' (s.put v.dst r) H' (n + 1) (a.put o.dst u) := by
      refine ⟨hA.stp.trans (hstp.toM hA.stp.nN), ?_⟩
      rw [hdst]
      exact hA.st.put hstp.le hd hrep
    unfold Oper.wp
    rcases hrun with hrun | ⟨hrun, hu⟩
    · rw [hrun, Oper.upon_value]
      exact hn C' _ H' _ _ hA' (hK r H' hv)
    · rw [hrun, Oper.upon_skip, ← hu]
      exact hn C' _ H' _ _ hA' (hK r H' hv)
  unfold vstep at h
  split at h
  · rename_i f args heq
    rw [heq] at hop
    refine call f _ (args.map a.eval) (RepL.map hS args) h (fun w hf => ?_)
    obtain ⟨dst, op, ty, pos, after, guard⟩ := o
    obtain ⟨as, ts, rfl, rfl⟩ := comp_call hop
    have := callFunc_run (args := (as.toList.map a.eval).toArray) (w := w) hf
    have e1 : as.map a.eval = (as.toList.map a.eval).toArray := by apply Array.ext'; simp
    simp [execOp, resolve, Act.eval, Deferred.ofValue, invoke, e1, this]
  · rename_i f args heq
    split at h
    · rename_i g caps hg
      obtain ⟨dst, op, ty, pos, after, guard⟩ := o
      rw [heq] at hop
      obtain ⟨as, ts, rfl, rfl⟩ := comp_callv hop
      have hr := hS f
      rw [hg] at hr; simp only [Rep] at hr
      obtain ⟨us, he, hru⟩ := hr
      refine call g _ (as.toList.map a.eval ++ us) ((RepL.map hS as.toList).append hru) h (fun w hf => ?_)
      have := callFunc_run (args := (as.toList.map a.eval ++ us).toArray) (w := w) hf
      have e1 : as.map a.eval ++ us.toArray = (as.toList.map a.eval ++ us).toArray := by apply Array.ext'; simp
      simp [execOp, resolve, he, Deferred.ofValue, invoke, e1, this]
    · exact h.elim
  · rename_i op hnc hnc2
    split at h
    · rename_i r H' hv
      exact plain (by rw [hv]; simp) (fun r' H'' e => by rw [hv] at e; injection e with e; injection e with e1 e2; subst e1 e2; exact h)
    · exact h.elim
/-- A region's operations in the text's order. -/
theorem vops_ok {ops : Array Oper} {Q : Exit → Act → World → Prop} {K : Slots → Heap → Nat → Prop} : ∀ (os : List Oper) (vs : List VOper) (l : List Nat), compOps X.P X.m ops os = some vs → l.map (ops[·]?) = os.map some →
    ∀ {C : Cx} {s : Slots} {H : Heap} {n : Nat} {a : Act}, At X C s H n a → vops X.P vs K s H n → (∀ C' s' H' n' a', At X C' s' H' n' a' → K s' H' n' → Q .normal a' C'.w) → wpOps X.P ops Q l a C.w
  | [], vs, l, hc, hl, C, s, H, n, a, hA, h, hK => by
    simp only [compOps] at hc; injection hc with hc; subst hc
    have : l = [] := by simpa using hl
    subst this
    simp only [wpOps]
    exact hK C s H n a hA h
  | o :: os, vs, l, hc, hl, C, s, H, n, a, hA, h, hK => by
    cases l with
    | nil => simp at hl
    | cons i l =>
      simp only [List.map_cons, List.cons.injEq] at hl
      obtain ⟨hi, hl⟩ := hl
      simp only [compOps] at hc
      cases hv : compOper X.P X.m ops o with
      | none => simp [hv] at hc
      | some v =>
        cases hr : compOps X.P X.m ops os with
        | none => simp [hv, hr] at hc
        | some r =>
          simp only [hv, hr] at hc; injection hc with hc; subst hc
          simp only [vops] at h
          simp only [wpOps, hi]
          split at h
          · rename_i hg
            rw [if_pos (wanted_ok hv hA.st hg)]
            exact .inl (vstep_ok hv hA h fun C' s' H' n' a' hA' hK' => vops_ok os r l hr hl hA' hK' hK)
          · rename_i hg
            rw [if_neg (by rw [wanted_ok hv hA.st hg]; simp)]
            obtain ⟨_, hd, hdst⟩ := compOper_ok hv
            refine vops_ok os r l hr hl (C := C) (s := s.put v.dst (.sc undef)) ⟨hA.stp, ?_⟩ h hK
            rw [hdst]
            exact hA.st.put (Le.refl C) hd (by simp only [Rep])
          · exact h.elim
end
end Go.VM

/- VML: what may be forgotten or laid down as unchanging; code; loops; functions. -/
namespace Go.VM
open Go.RowKit

mutual
/-- It names no object. -/
def VV.clo : VV → Bool
  | .any | .sc _ | .sl _ _ | .pd _ | .ow _ _ => true
  | .agg cs => VV.cloL cs
  | .tup cs => VV.cloL cs
  | .fn _ cs => VV.cloL cs
  | .rf _ _ _ _ | .pt _ _ => false
def VV.cloL : List VV → Bool
  | [] => true
  | c :: cs => c.clo && VV.cloL cs
end
theorem cloL_iff : ∀ {cs : List VV}, VV.cloL cs = true ↔ ∀ c ∈ cs, c.clo = true
  | [] => by simp [VV.cloL]
  | c :: cs => by simp [VV.cloL, cloL_iff]
mutual
theorem Rep.cl {C : Cx} : ∀ (x : VV) {v : Value}, Rep C x v → x.clo = true → Rep C.cl x v
  | .any, _, _, _ => by simp only [Rep]
  | .sc _, _, h, _ => by simpa only [Rep] using h
  | .agg cs, _, h, hc => by
    simp only [Rep] at h ⊢
    simp only [VV.clo] at hc
    obtain ⟨us, e, h⟩ := h
    exact ⟨us, e, RepL.cl cs h hc⟩
  | .tup cs, _, h, hc => by
    simp only [Rep] at h ⊢
    simp only [VV.clo] at hc
    obtain ⟨us, e, h⟩ := h
    exact ⟨us, e, RepL.cl cs h hc⟩
  | .fn _ cs, _, h, hc => by
    simp only [Rep] at h ⊢
    simp only [VV.clo] at hc
    obtain ⟨us, e, h⟩ := h
    exact ⟨us, e, RepL.cl cs h hc⟩
  | .sl z l, _, h, _ => by simp only [Rep] at h ⊢; exact h
  | .ow z l, _, h, _ => by simpa only [Rep] using h
  | .pd cs, _, h, _ => by simp only [Rep] at h ⊢; exact h
  | .rf _ _ _ _, _, _, hc => by simp [VV.clo] at hc
  | .pt _ _, _, _, hc => by simp [VV.clo] at hc
theorem RepL.cl {C : Cx} : ∀ (cs : List VV) {us : List Value}, RepL C cs us → VV.cloL cs = true → RepL C.cl cs us
  | [], _, h, _ => by simpa only [RepL] using h
  | c :: cs, _, h, hc => by
    simp only [RepL] at h ⊢
    simp only [VV.cloL, Bool.and_eq_true] at hc
    obtain ⟨v, vs, e, h1, h2⟩ := h
    exact ⟨v, vs, e, Rep.cl c h1 hc.1, RepL.cl cs h2 hc.2⟩
end

mutual
/-- What lies inside, laid down as unchanging data. -/
def VV.frz : VV → VV
  | .ow z l => .sl z (VV.frzR l)
  | x => x
def VV.frzL : List VV → List VV
  | [] => []
  | x :: xs => x.frz :: VV.frzL xs
def VV.frzR : List (List VV) → List (List VV)
  | [] => []
  | r :: l => VV.frzL r :: VV.frzR l
end
theorem frzR_length : ∀ (l : List (List VV)), (VV.frzR l).length = l.length
  | [] => rfl
  | r :: l => by simp only [VV.frzR, List.length_cons, frzR_length l]
theorem frzL_length : ∀ (l : List VV), (VV.frzL l).length = l.length
  | [] => rfl
  | r :: l => by simp only [VV.frzL, List.length_cons, frzL_length l]

/-- What a value becomes where the objects of D are laid down as unchanging data, and what is above n' is forgotten. -/
inductive Conv (τ : Nat → Nat) (H : Heap) (D : Nat → Prop) (n' : Nat) : VV → VV → Prop where
  | any (x : VV) : Conv τ H D n' x .any
  | clo {x : VV} (h : x.clo = true) : Conv τ H D n' x x
  | nil (z : Nat) : Conv τ H D n' (.sc (.slice none 0 0)) (.sl z [])
  | rf {k j off len z : Nat} (e : τ j = k) (hk : ¬ D k) (h : j < n') : Conv τ H D n' (.rf k off len z) (.rf j off len z)
  | pt {k j off : Nat} (e : τ j = k) (hk : ¬ D k) (h : j < n') : Conv τ H D n' (.pt k off) (.pt j off)
  | agg {cs ds : List VV} (hl : cs.length = ds.length) (h : ∀ (j : Nat) (x y : VV), cs[j]? = some x → ds[j]? = some y → Conv τ H D n' x y) : Conv τ H D n' (.agg cs) (.agg ds)
  | tup {cs ds : List VV} (hl : cs.length = ds.length) (h : ∀ (j : Nat) (x y : VV), cs[j]? = some x → ds[j]? = some y → Conv τ H D n' x y) : Conv τ H D n' (.tup cs) (.tup ds)
  | fn {f : FuncId} {cs ds : List VV} (hl : cs.length = ds.length) (h : ∀ (j : Nat) (x y : VV), cs[j]? = some x → ds[j]? = some y → Conv τ H D n' x y) : Conv τ H D n' (.fn f cs) (.fn f ds)
  | frf {k off len z : Nat} {cs : List VV} {l : List (List VV)} (hk : D k) (hc : H k = some cs) (hl : l.length = len) (he : (cs.drop off).take (len * z) = l.flatten) (hz : ∀ r ∈ l, r.length = z) (hcl : VV.cloL l.flatten = true) :
      Conv τ H D n' (.rf k off len z) (.sl z l)
  | frd {k off len z : Nat} {cs : List VV} {l : List (List VV)} (hk : D k) (hc : H k = some cs) (hl : l.length = len) (he : (cs.drop off).take (len * z) = l.flatten) (hz : ∀ r ∈ l, r.length = z) (hcl : VV.cloL l.flatten = true) :
      Conv τ H D n' (.rf k off len z) (.sl z (VV.frzR l))
  | frn {k off len z : Nat} {cs : List VV} {l : List (List VV)} (hk : D k) (hc : H k = some cs) (hl : l.length = len) (he : ((cs.drop off).take (len * z)).length = l.flatten.length)
      (hcs : ∀ (j : Nat) (x y : VV), ((cs.drop off).take (len * z))[j]? = some x → l.flatten[j]? = some y → Conv τ H D n' x y) (hz : ∀ r ∈ l, r.length = z) (hcl : VV.cloL l.flatten = true) : Conv τ H D n' (.rf k off len z) (.sl z l)
  | fpd {k off : Nat} {cs ds : List VV} (hk : D k) (hc : H k = some cs) (he : cs.drop off = ds) (hcl : VV.cloL ds = true) : Conv τ H D n' (.pt k off) (.pd (VV.frzL ds))
  | fpt {k off : Nat} {cs ds : List VV} (hk : D k) (hc : H k = some cs) (he : cs.drop off = ds) (hcl : VV.cloL ds = true) : Conv τ H D n' (.pt k off) (.pd ds)

structure XOk (X : Fn) : Prop where
  hok : HOk X.C X.H
  bd : Bd X.C
  nN : ∀ j, X.C.N j → j < X.n

/-- A state may be seen as another one, of which less is known. -/
structure Cov (X : Fn) (τ : Nat → Nat) (s : Slots) (H : Heap) (n : Nat) (s' : Slots) (H' : Heap) (n' : Nat) (D : Nat → Prop) : Prop where
  slots : ∀ j, Conv τ H D n' (s j) (s' j)
  heap : ∀ k cs', H' k = some cs' → k < n' ∧ ¬ D (τ k) ∧ ∃ cs, H (τ k) = some cs ∧ cs.length = cs'.length ∧ ∀ (j : Nat) (x y : VV), cs[j]? = some x → cs'[j]? = some y → Conv τ H D n' x y ∧ (x.dry = false → y = x)
  nn : X.n ≤ n'
  low : ∀ j, j < X.n → τ j = j
  inj : ∀ i j, H' i ≠ none → H' j ≠ none → τ i = τ j → i = j

/-- The context behind it. -/
def covC (C : Cx) (τ : Nat → Nat) (H : Heap) (D : Nat → Prop) (n' : Nat) : Cx := ⟨C.w, fun j => C.ρ (τ j), fun b => C.F b ∧ ¬ ∃ k, D k ∧ H k ≠ none ∧ b ∈ C.ol k, fun j => C.N (τ j) ∧ j < n', fun j => C.φ (τ j)⟩

theorem RepL.of_cells {C C' : Cx} {cs ds : List VV} {us : List Value} (h : RepL C cs us) (hl : cs.length = ds.length) (hc : ∀ (j : Nat) (x y : VV) (v : Value), cs[j]? = some x → ds[j]? = some y → Rep C x v → Rep C' y v) : RepL C' ds us := by
  rw [RepL.iff] at h ⊢
  refine ⟨by rw [h.1, hl], fun j y hj => ?_⟩
  have hj' : j < cs.length := by rw [hl]; exact (List.getElem?_eq_some_iff.1 hj).1
  obtain ⟨v, hv, hr⟩ := h.2 j cs[j] (List.getElem?_eq_getElem hj')
  exact ⟨v, hv, hc j _ y v (List.getElem?_eq_getElem hj') hj hr⟩
theorem le_cov (C : Cx) (τ : Nat → Nat) (H : Heap) (D : Nat → Prop) (n' : Nat) : Le C.cl (covC C τ H D n') :=
  ⟨fun _ h => h.elim, fun _ h => h.elim, fun _ _ h1 h2 => ⟨h2, fun x => h1 x.1⟩, fun _ _ h => h⟩
theorem le_cov' (C : Cx) (τ : Nat → Nat) (H : Heap) (D : Nat → Prop) (n' : Nat) : Le C.cl (covC C τ H D n').cl :=
  ⟨fun _ h => h.elim, fun _ h => h.elim, fun _ _ h1 h2 => ⟨h2, fun x => h1 x.1⟩, fun _ _ h => h⟩
theorem repR_of_cells {C : Cx} {ad : Addr} {z : Nat} (hF : ¬ C.F ad.block) : ∀ (l : List (List VV)) (i : Nat) (us : List Value), (∀ r ∈ l, r.length = z) → RepL C l.flatten us → (∀ v ∈ us, v.oneCell' = true) → (∀ j v, us[j]? = some v → C.w.cell? (ad.add (i + j)) = some v) → RepR C z l ad i
  | [], _, _, _, _, _, _ => by simp only [RepR]
  | r :: l, i, us, hz, hr, h1, hc => by
    simp only [RepR]
    rw [List.flatten_cons] at hr
    have hzr := hz r (by simp)
    have hlen := hr.length
    simp only [List.length_append] at hlen
    have ha := hr.take r.length
    rw [List.take_append_of_le_length (Nat.le_refl _), List.take_length] at ha
    have hb := hr.drop r.length
    rw [List.drop_append_of_le_length (Nat.le_refl _), List.drop_length, List.nil_append] at hb
    refine ⟨⟨hzr, ?_⟩, repR_of_cells hF l (i + z) (us.drop r.length) (fun q hq => hz q (by simp [hq])) hb (fun v hv => h1 v (List.mem_of_mem_drop hv)) (fun j v hj => ?_)⟩
    · rw [RepC.iff]
      intro j c hj
      obtain ⟨v, hv, hrep⟩ := (RepL.iff.1 ha).2 j c hj
      rw [List.getElem?_take] at hv
      split at hv
      · exact ⟨hF, v, hc j v hv, h1 v (List.mem_of_getElem? hv), hrep⟩
      · simp at hv
    · rw [List.getElem?_drop, hzr] at hj
      have := hc _ v hj
      rwa [← Nat.add_assoc] at this
theorem repC_of_cells {C : Cx} {ad : Addr} (hF : ¬ C.F ad.block) {cs : List VV} {us : List Value} (hr : RepL C cs us) (h1 : ∀ v ∈ us, v.oneCell' = true) (hc : ∀ j v, us[j]? = some v → C.w.cell? (ad.add j) = some v) : RepC C cs ad 0 := by
  rw [RepC.iff]
  intro j c hj
  obtain ⟨v, hv, hrep⟩ := (RepL.iff.1 hr).2 j c hj
  exact ⟨hF, v, by rw [Nat.zero_add]; exact hc j v hv, h1 v (List.mem_of_getElem? hv), hrep⟩

theorem flat_len_z {z : Nat} : ∀ {l : List (List VV)}, (∀ r ∈ l, r.length = z) → l.flatten.length = l.length * z
  | [], _ => by simp
  | r :: l, h => by rw [List.flatten_cons, List.length_append, flat_len_z (fun q hq => h q (by simp [hq])), h r (by simp), List.length_cons, Nat.add_mul]; omega
mutual
theorem frz_ok {C C' : Cx} (hL : Le C.cl C'.cl) (hw : C'.w = C.w) : ∀ (x : VV) {v : Value} {S : List Nat}, (∀ b ∈ S, ¬ C'.F b) → Rep C.cl x v → Dp C x v S → Rep C'.cl x.frz v
  | .ow z l, v, S, hF, _, hd => by
    simp only [Dp] at hd
    obtain ⟨a, c, b, S', vs, T, fr, rfl, hlc, rfl, ha, hb, _, hsz, hz, hrep, hone, hD⟩ := hd
    simp only [VV.frz, Rep]
    refine ⟨a, c, by rw [frzR_length], by rw [frzR_length]; exact hlc, ?_⟩
    rcases ha with h0 | rfl
    · left
      have : l = [] := List.eq_nil_of_length_eq_zero (by omega)
      subst this; rfl
    · right
      have hfl := flat_len_z hz
      refine ⟨_, rfl, ?_⟩
      refine frzR_ok hL hw l (fun q hq => hF q (by simp [hq])) (hF b (by simp)) hz (us := vs.toList) (by rw [hfl]; exact hrep) (by rw [hfl]; exact hone) hD (fun j u hj hlt => ?_)
      rw [Nat.zero_add, hw]
      exact cells_at hb l.flatten.length j u (by rw [List.getElem?_take, if_pos hlt]; exact hj)
  | .any, _, _, _, h, _ | .sc _, _, _, _, h, _ | .agg _, _, _, _, h, _ | .tup _, _, _, _, h, _ | .sl _ _, _, _, _, h, _ | .pd _, _, _, _, h, _ | .rf _ _ _ _, _, _, _, h, _ | .pt _ _, _, _, _, h, _ | .fn _ _, _, _, _, h, _ => by
    simp only [VV.frz]; exact Rep.mono hL _ h
theorem frzL_ok {C C' : Cx} (hL : Le C.cl C'.cl) (hw : C'.w = C.w) : ∀ (xs : List VV) {us : List Value} {S : List Nat} {ad : Addr} {i : Nat}, (∀ b ∈ S, ¬ C'.F b) → ¬ C'.F ad.block → RepL C.cl xs (us.take xs.length) → (∀ v ∈ us.take xs.length, v.oneCell' = true) → DsL C xs us S →
    (∀ j u, us[j]? = some u → j < xs.length → C'.w.cell? (ad.add (i + j)) = some u) → RepC C'.cl (VV.frzL xs) ad i
  | [], us, S, ad, i, _, _, _, _, _, _ => by simp only [VV.frzL, RepC]
  | x :: xs, us, S, ad, i, hF, hb, hr, h1, hd, hc => by
    simp only [DsL] at hd
    obtain ⟨v, vs, S1, S2, rfl, rfl, hd1, hd2⟩ := hd
    simp only [List.length_cons, List.take_succ_cons, RepL] at hr
    obtain ⟨v', vs', e, hr1, hr2⟩ := hr
    injection e with e1 e2; subst e1 e2
    simp only [List.length_cons, List.take_succ_cons] at h1
    simp only [VV.frzL, RepC]
    refine ⟨⟨hb, v, ?_, h1 v (by simp), frz_ok hL hw x (fun b hb => hF b (by simp [hb])) hr1 hd1⟩, ?_⟩
    · have := hc 0 v (by simp) (by simp)
      rwa [Nat.add_zero] at this
    · refine frzL_ok hL hw xs (fun b hb => hF b (by simp [hb])) hb hr2 (fun u hu => h1 u (by simp [hu])) hd2 (fun j u hj hlt => ?_)
      have := hc (j + 1) u (by simpa using hj) (by simpa using hlt)
      rwa [show i + (j + 1) = i + 1 + j by omega] at this
theorem frzR_ok {C C' : Cx} (hL : Le C.cl C'.cl) (hw : C'.w = C.w) : ∀ (l : List (List VV)) {us : List Value} {S : List Nat} {ad : Addr} {i z : Nat}, (∀ b ∈ S, ¬ C'.F b) → ¬ C'.F ad.block → (∀ r ∈ l, r.length = z) → RepL C.cl l.flatten (us.take l.flatten.length) → (∀ v ∈ us.take l.flatten.length, v.oneCell' = true) → DsR C l us S →
    (∀ j u, us[j]? = some u → j < l.flatten.length → C'.w.cell? (ad.add (i + j)) = some u) → RepR C'.cl z (VV.frzR l) ad i
  | [], us, S, ad, i, z, _, _, _, _, _, _, _ => by simp only [VV.frzR, RepR]
  | r :: l, us, S, ad, i, z, hF, hb, hz, hr, h1, hd, hc => by
    simp only [DsR] at hd
    obtain ⟨S1, S2, rfl, hd1, hd2⟩ := hd
    have hzr := hz r (by simp)
    simp only [List.flatten_cons, List.length_append] at hr h1 hc
    have hlen := hr.length
    have ha := hr.take r.length
    rw [List.take_append_of_le_length (Nat.le_refl _), List.take_length, List.take_take, Nat.min_eq_left (by omega)] at ha
    have hb' := hr.drop r.length
    rw [List.drop_append_of_le_length (Nat.le_refl _), List.drop_length, List.nil_append, List.drop_take, Nat.add_sub_cancel_left] at hb'
    simp only [VV.frzR, RepR]
    refine ⟨⟨by rw [frzL_length]; exact hzr, ?_⟩, ?_⟩
    · refine frzL_ok hL hw r (fun b hb => hF b (by simp [hb])) hb ha (fun v hv => h1 v ?_) hd1 (fun j u hj hlt => hc j u hj (by omega))
      rw [show us.take r.length = (us.take (r.length + l.flatten.length)).take r.length by rw [List.take_take, Nat.min_eq_left (by omega)]] at hv
      exact List.mem_of_mem_take hv
    · refine frzR_ok hL hw l (us := us.drop r.length) (fun b hb => hF b (by simp [hb])) hb (fun q hq => hz q (by simp [hq])) hb' (fun v hv => h1 v ?_) hd2 (fun j u hj hlt => ?_)
      · rw [show (us.drop r.length).take l.flatten.length = (us.take (r.length + l.flatten.length)).drop r.length by rw [List.drop_take, Nat.add_sub_cancel_left]] at hv
        exact List.mem_of_mem_drop hv
      · rw [List.getElem?_drop] at hj
        have := hc _ u hj (by omega)
        rwa [show i + (r.length + j) = i + z + j by omega] at this
end
theorem Conv.ok {C : Cx} {τ : Nat → Nat} {H : Heap} {D : Nat → Prop} {n' : Nat} (hH : HOk C H) {x y : VV} (h : Conv τ H D n' x y) : ∀ {v : Value}, Rep C x v → Rep (covC C τ H D n') y v := by
  induction h with
  | any x => intro v _; simp only [Rep]
  | clo h => intro v hr; exact (hr.cl _ h).mono (le_cov C τ H D n')
  | nil z =>
    intro v hr
    simp only [Rep] at hr ⊢
    exact ⟨none, 0, hr, Nat.le_refl _, .inl trivial⟩
  | rf e hk h =>
    intro v hr
    subst e
    simp only [Rep] at hr ⊢
    obtain ⟨a, c, e, hle, hd, hN⟩ := hr
    exact ⟨a, c, e, hle, hd, hN, h⟩
  | pt e hk h =>
    intro v hr
    subst e
    simp only [Rep] at hr ⊢
    exact ⟨hr.1, hr.2, h⟩
  | agg hl _ ih =>
    intro v hr
    simp only [Rep] at hr ⊢
    obtain ⟨us, e, hr⟩ := hr
    exact ⟨us, e, hr.of_cells hl fun j x y v h1 h2 h3 => ih j x y h1 h2 h3⟩
  | tup hl _ ih =>
    intro v hr
    simp only [Rep] at hr ⊢
    obtain ⟨us, e, hr⟩ := hr
    exact ⟨us, e, hr.of_cells hl fun j x y v h1 h2 h3 => ih j x y h1 h2 h3⟩
  | fn hl _ ih =>
    intro v hr
    simp only [Rep] at hr ⊢
    obtain ⟨us, e, hr⟩ := hr
    exact ⟨us, e, hr.of_cells hl fun j x y v h1 h2 h3 => ih j x y h1 h2 h3⟩
  | @frf k off len z cs l hk hc hl he hz hcl =>
    intro v hr
    simp only [Rep] at hr ⊢
    obtain ⟨a, c, e, hle, hd, hN⟩ := hr
    refine ⟨a, c, by rw [e, hl], by rw [hl]; exact hle, ?_⟩
    rcases hd with hd | ⟨ha, _⟩
    · left; exact List.eq_nil_of_length_eq_zero (by omega)
    · right
      refine ⟨_, ha, ?_⟩
      obtain ⟨us, q1, q2, q3⟩ := obj_cells (hH.obj k cs hc) off
      refine repR_of_cells (C := (covC C τ H D n').cl) (fun hF => hF.2 ⟨k, hk, by rw [hc]; simp, ol_self C k⟩) l 0 (us.take (len * z)) hz ?_ (fun v hv => q2 v (List.mem_of_mem_take hv)) (fun j v hj => ?_)
      · rw [← he]
        refine RepL.mono (le_cov' C τ H D n') _ (RepL.cl _ (q1.take _) ?_)
        rw [he]; exact hcl
      · rw [List.getElem?_take] at hj
        split at hj
        · rw [Nat.zero_add]; exact q3 j v hj
        · simp at hj
  | @fpt k off cs ds hk hc he hcl =>
    intro v hr
    simp only [Rep] at hr ⊢
    refine ⟨_, hr.1, ?_⟩
    obtain ⟨us, q1, q2, q3⟩ := obj_cells (hH.obj k cs hc) off
    refine repC_of_cells (C := (covC C τ H D n').cl) (fun hF => hF.2 ⟨k, hk, by rw [hc]; simp, ol_self C k⟩) ?_ q2 q3
    rw [← he]
    exact RepL.mono (le_cov' C τ H D n') _ (RepL.cl _ q1 (by rw [he]; exact hcl))
  | @frd k off len z cs l hk hc hl he hz hcl =>
    intro v hr
    simp only [Rep] at hr ⊢
    obtain ⟨a, c, e, hle, hd, hN⟩ := hr
    refine ⟨a, c, by rw [e, frzR_length, hl], by rw [frzR_length, hl]; exact hle, ?_⟩
    rcases hd with hd | ⟨ha, _⟩
    · left
      have : l = [] := List.eq_nil_of_length_eq_zero (by omega)
      subst this; rfl
    · right
      refine ⟨_, ha, ?_⟩
      obtain ⟨vs, T, fr, g1, g2, g3, g4, g5, g6⟩ := hH.obj k cs hc
      have hdead : ∀ b ∈ C.ol k, ¬ (covC C τ H D n').F b := fun b hb hF => hF.2 ⟨k, hk, by rw [hc]; simp, hb⟩
      rw [← List.take_append_drop off cs, DsL.append] at g6
      obtain ⟨S1, S2, hS, _, d2⟩ := g6
      rw [← List.take_append_drop (len * z) (cs.drop off), he, DsL.append] at d2
      obtain ⟨S3, S4, rfl, d3, _⟩ := d2
      have hfl : l.flatten.length ≤ cs.length - off := by rw [← he, List.length_take, List.length_drop]; omega
      by_cases hoff : off ≤ cs.length
      · have htl : (cs.take off).length = off := by rw [List.length_take]; omega
        rw [htl] at d3
        have e1 : (vs.toList.drop off).take l.flatten.length = ((vs.toList.take cs.length).drop off).take l.flatten.length := by
          rw [List.drop_take, List.take_take, Nat.min_eq_left (by omega)]
        refine frzR_ok (C := C) (C' := covC C τ H D n') (le_cov' C τ H D n') rfl l (us := vs.toList.drop off) (S := S3) (fun b hb => hdead b (by simp [Cx.ol, hS, hb])) (hdead _ (ol_self C k)) hz ?_ (fun v hv => ?_) (DsR.iff.2 d3) (fun j u hj hlt => ?_)
        · rw [e1, ← he]
          have h1 := (g4.drop off).take ((cs.drop off).take (len * z)).length
          have h2 : (cs.drop off).take ((cs.drop off).take (len * z)).length = (cs.drop off).take (len * z) := by
            rw [List.length_take, List.take_eq_take_iff]; omega
          rw [h2] at h1
          exact RepL.cl _ h1 (by rw [he]; exact hcl)
        · rw [e1] at hv
          exact g5 v (List.mem_of_mem_drop (List.mem_of_mem_take hv))
        · rw [Nat.zero_add, Addr.add_lit]
          rw [List.getElem?_drop] at hj
          simp only [World.cell?]
          have g1' : (covC C τ H D n').w.heap[C.ρ k]? = some (.cells vs T fr) := g1
          rw [g1']
          simpa using hj
      · have : l = [] ∨ z = 0 := by
          have h0 : l.flatten = [] := by rw [← he, List.drop_of_length_le (by omega)]; simp
          cases l with
          | nil => exact .inl rfl
          | cons r l =>
            right
            have := hz r (by simp)
            rw [List.flatten_cons, List.append_eq_nil_iff] at h0
            rw [← this, h0.1]; rfl
        rw [RepR.iff]
        intro j r hj
        rcases this with rfl | rfl
        · simp [VV.frzR] at hj
        · have hr0 : ∀ (l : List (List VV)), (∀ r ∈ l, r.length = 0) → ∀ r ∈ VV.frzR l, r = [] := by
            intro l
            induction l with
            | nil => intro _ r hr; simp [VV.frzR] at hr
            | cons q l ih =>
              intro hz r hr
              simp only [VV.frzR, List.mem_cons] at hr
              rcases hr with rfl | hr
              · have := hz q (by simp)
                have : q = [] := List.eq_nil_of_length_eq_zero this
                subst this; rfl
              · exact ih (fun q hq => hz q (by simp [hq])) r hr
          have := hr0 l hz r (List.mem_of_getElem? hj)
          subst this
          exact ⟨rfl, by simp only [RepC]⟩
  | @frn k off len z cs l hk hc hl he _ hz hcl ih =>
    intro v hr
    simp only [Rep] at hr ⊢
    obtain ⟨a, c, e, hle, hd, hN⟩ := hr
    refine ⟨a, c, by rw [e, hl], by rw [hl]; exact hle, ?_⟩
    rcases hd with hd | ⟨ha, _⟩
    · left; exact List.eq_nil_of_length_eq_zero (by omega)
    · right
      refine ⟨_, ha, ?_⟩
      obtain ⟨us, q1, q2, q3⟩ := obj_cells (hH.obj k cs hc) off
      have h1 := (q1.take (len * z)).of_cells (C' := covC C τ H D n') he fun j x y v a b c => ih j x y a b c
      refine repR_of_cells (C := (covC C τ H D n').cl) (fun hF => hF.2 ⟨k, hk, by rw [hc]; simp, ol_self C k⟩) l 0 (us.take (len * z)) hz (RepL.cl _ h1 hcl) (fun v hv => q2 v (List.mem_of_mem_take hv)) (fun j v hj => ?_)
      rw [List.getElem?_take] at hj
      split at hj
      · rw [Nat.zero_add]; exact q3 j v hj
      · simp at hj
  | @fpd k off cs ds hk hc he hcl =>
    intro v hr
    simp only [Rep] at hr ⊢
    refine ⟨_, hr.1, ?_⟩
    obtain ⟨vs, T, fr, g1, g2, g3, g4, g5, g6⟩ := hH.obj k cs hc
    have hdead : ∀ b ∈ C.ol k, ¬ (covC C τ H D n').F b := fun b hb hF => hF.2 ⟨k, hk, by rw [hc]; simp, hb⟩
    rw [← List.take_append_drop off cs, DsL.append] at g6
    obtain ⟨S1, S2, hS, _, d2⟩ := g6
    by_cases hoff : off ≤ cs.length
    · have htl : (cs.take off).length = off := by rw [List.length_take]; omega
      rw [htl, he] at d2
      have hdl : ds.length = cs.length - off := by rw [← he, List.length_drop]
      have e1 : (vs.toList.drop off).take ds.length = (vs.toList.take cs.length).drop off := by rw [List.drop_take, hdl]
      refine frzL_ok (C := C) (C' := covC C τ H D n') (le_cov' C τ H D n') rfl ds (us := vs.toList.drop off) (S := S2) (fun b hb => hdead b (by simp [Cx.ol, hS, hb])) (hdead _ (ol_self C k)) ?_ (fun v hv => ?_) d2 (fun j u hj hlt => ?_)
      · rw [e1, ← he]
        exact RepL.cl _ (g4.drop off) (by rw [he]; exact hcl)
      · rw [e1] at hv
        exact g5 v (List.mem_of_mem_drop hv)
      · rw [Nat.zero_add, Addr.add_lit]
        rw [List.getElem?_drop] at hj
        simp only [World.cell?]
        have g1' : (covC C τ H D n').w.heap[C.ρ k]? = some (.cells vs T fr) := g1
        rw [g1']
        simpa using hj
    · have : ds = [] := by rw [← he]; exact List.drop_of_length_le (by omega)
      subst this
      simp only [VV.frzL, RepC]


theorem Conv.dry {τ : Nat → Nat} {H : Heap} {D : Nat → Prop} {n' : Nat} {x y : VV} (h : Conv τ H D n' x y) (hx : x.dry = true) : y.dry = true := by
  cases h <;> first | rfl | exact hx
theorem conv_DsL {C C' : Cx} {τ : Nat → Nat} {H : Heap} {D : Nat → Prop} {n' : Nat} (hL : Le C.cl C'.cl) (hw : C'.w = C.w) : ∀ {cs ds : List VV} {us : List Value} {S : List Nat}, cs.length = ds.length →
    (∀ (j : Nat) (x y : VV), cs[j]? = some x → ds[j]? = some y → Conv τ H D n' x y ∧ (x.dry = false → y = x)) → DsL C cs us S → DsL C' ds us S
  | [], [], us, S, _, _, h => by simpa only [DsL] using h
  | x :: cs, y :: ds, us, S, hl, hc, h => by
    simp only [DsL] at h ⊢
    obtain ⟨v, vs, S1, S2, rfl, rfl, h1, h2⟩ := h
    obtain ⟨c1, c2⟩ := hc 0 x y rfl rfl
    refine ⟨v, vs, S1, S2, rfl, rfl, ?_, conv_DsL hL hw (by simpa using hl) (fun j a b ha hb => hc (j + 1) a b (by simpa using ha) (by simpa using hb)) h2⟩
    cases hx : x.dry with
    | false => rw [c2 hx]; exact Dp.mono' hL x (fun b _ => by rw [hw]) h1
    | true =>
      rw [Dp.dry (c1.dry hx)]
      exact (Dp.dry hx).1 h1
  | [], _ :: _, _, _, hl, _, _ => by simp at hl
  | _ :: _, [], _, _, hl, _, _ => by simp at hl

theorem cov_stp {X : Fn} (hX : XOk X) {C : Cx} {τ : Nat → Nat} {s s' : Slots} {H H' : Heap} {n n' : Nat} {D : Nat → Prop} (hS : StpM X.C C X.H H X.n n) (hc : Cov X τ s H n s' H' n' D) : StpM X.C (covC C τ H D n') X.H H' X.n n' := by
  have hlive : ∀ k, H' k ≠ none → k < n' ∧ ¬ D (τ k) ∧ H (τ k) ≠ none := fun k hk => by
    obtain ⟨cs', h'⟩ := Option.ne_none_iff_exists'.1 hk
    obtain ⟨h1, h2, cs, h3, _⟩ := hc.heap k cs' h'
    exact ⟨h1, h2, by rw [h3]; simp⟩
  have hlow : ∀ k, X.C.N k → τ k = k := fun k hk => hc.low k (hX.nN k hk)
  have hol : ∀ k, (covC C τ H D n').ol k = C.ol (τ k) := fun k => rfl
  refine ⟨⟨fun k hk => ⟨by rw [hlow k hk]; exact hS.le.N k hk, Nat.lt_of_lt_of_le (hX.nN k hk) hc.nn⟩, fun k hk => by show C.ρ (τ k) = _; rw [hlow k hk]; exact hS.le.ρ k hk, fun a v h1 h2 => ⟨(hS.le.cell a v h1 h2).1, fun x => (hS.le.cell a v h1 h2).2 x.1⟩, hS.le.room⟩, hS.fr, ⟨?_, ?_, ?_, ?_, ?_⟩, fun b hb => hS.bd b hb.1, hc.nn, fun j hj => hj.2, fun j hj => ?_, ?_, fun b hb => hS.nF b hb.1, ?_⟩
  · intro k cs' hk
    obtain ⟨h1, _, cs, h3, _⟩ := hc.heap k cs' hk
    exact ⟨hS.hok.nm (τ k) cs h3, h1⟩
  · intro k hk b hb
    obtain ⟨h1, h2, h3⟩ := hlive k hk
    rw [hol] at hb
    refine ⟨hS.hok.own (τ k) h3 b hb, ?_⟩
    rintro ⟨q, hq, hq2, e⟩
    by_cases hqk : q = τ k
    · exact h2 (hqk ▸ hq)
    · exact hS.hok.sep q (τ k) hq2 h3 hqk b e hb
  · intro k cs' hk
    obtain ⟨h1, h2, cs, h3, hl, h4⟩ := hc.heap k cs' hk
    obtain ⟨vs, T, fr, g1, g2, g3, g4, g5, g6⟩ := hS.hok.obj (τ k) cs h3
    refine ⟨vs, T, fr, g1, g2, by rw [← hl]; exact g3, ?_, by rw [← hl]; exact g5, conv_DsL (C := C) (le_cov' C τ H D n') rfl hl h4 g6⟩
    rw [← hl]
    exact g4.of_cells hl fun j x y v a1 a2 a3 => (h4 j x y a1 a2).1.ok hS.hok a3
  · intro k hk
    rw [hol]; exact hS.hok.nodup (τ k) (hlive k hk).2.2
  · intro i j hi hj hij b hbi hbj
    rw [hol] at hbi hbj
    exact hS.hok.sep (τ i) (τ j) (hlive i hi).2.2 (hlive j hj).2.2 (fun e => hij (hc.inj i j hi hj e)) b hbi hbj
  · by_cases hj' : j < X.n
    · have hj1 : C.N (τ j) := hj.1
      rw [hc.low j hj'] at hj1
      exact hS.nO j hj1
    · exact .inr (by omega)
  · intro b hb hF
    rcases hS.mF b hb hF with h | h
    · by_cases hd : ∃ k, D k ∧ H k ≠ none ∧ b ∈ C.ol k
      · obtain ⟨k, _, hk2, hbk⟩ := hd
        rcases hS.ow b ⟨k, hk2, hbk⟩ with h | h
        · exact .inr h
        · omega
      · exact .inl ⟨h, hd⟩
    · exact .inr h
  · rintro b ⟨k, hk, hb⟩
    rw [hol] at hb
    exact hS.ow b ⟨τ k, (hlive k hk).2.2, hb⟩
theorem Cov.at {X : Fn} (hX : XOk X) {C : Cx} {τ : Nat → Nat} {s s' : Slots} {H H' : Heap} {n n' : Nat} {D : Nat → Prop} {a : Act} (hA : At X C s H n a) (hc : Cov X τ s H n s' H' n' D) (hout : ∀ j, X.m ≤ j → s' j = .any ∨ s' j = .sc undef) : At X (covC C τ H D n') s' H' n' a :=
  ⟨cov_stp hX hA.stp hc, ⟨fun j hj => (hc.slots j).ok hA.stp.hok (hA.st.slots j hj), hout, hA.st.size, hA.st.defers⟩⟩

/-! ### Seen otherwise -/
/-- What a state may be seen as: values x as y where R x y. -/
def Vw (X : Fn) (R : VV → VV → Prop) (H : Heap) (n : Nat) (H' : Heap) (n' : Nat) : Prop :=
  ∀ C, StpM X.C C X.H H X.n n → ∃ C', C'.w = C.w ∧ StpM X.C C' X.H H' X.n n' ∧ ∀ x y v, R x y → Rep C x v → Rep C' y v
theorem Vw.refl (X : Fn) (H : Heap) (n : Nat) : Vw X Eq H n H n := fun C h => ⟨C, rfl, h, fun x y v e hr => e ▸ hr⟩
theorem Vw.trans {X : Fn} {R R' : VV → VV → Prop} {H H' H'' : Heap} {n n' n'' : Nat} (h : Vw X R H n H' n') (k : Vw X R' H' n' H'' n'') : Vw X (fun x z => ∃ y, R x y ∧ R' y z) H n H'' n'' := by
  intro C hC
  obtain ⟨C', e, hC', h1⟩ := h C hC
  obtain ⟨C'', e', hC'', h2⟩ := k C' hC'
  exact ⟨C'', e'.trans e, hC'', fun x z v ⟨y, a, b⟩ hr => h2 y z v b (h1 x y v a hr)⟩
theorem Vw.mono {X : Fn} {R R' : VV → VV → Prop} {H H' : Heap} {n n' : Nat} (h : Vw X R H n H' n') (hR : ∀ x y, R' x y → R x y) : Vw X R' H n H' n' := fun C hC => by
  obtain ⟨C', e, hC', h1⟩ := h C hC
  exact ⟨C', e, hC', fun x y v a hr => h1 x y v (hR x y a) hr⟩
theorem Cov.vw {X : Fn} (hX : XOk X) {τ : Nat → Nat} {s s' : Slots} {H H' : Heap} {n n' : Nat} {D : Nat → Prop} (hc : Cov X τ s H n s' H' n' D) : Vw X (Conv τ H D n') H n H' n' :=
  fun C hC => ⟨covC C τ H D n', rfl, cov_stp hX hC hc, fun _ _ _ h hr => h.ok hC.hok hr⟩
theorem Vw.at {X : Fn} {R : VV → VV → Prop} {s s' : Slots} {H H' : Heap} {n n' : Nat} (h : Vw X R H n H' n') (hs : ∀ j, R (s j) (s' j)) (hl : ∀ j, X.m ≤ j → s' j = .any ∨ s' j = .sc undef) {C : Cx} {a : Act} (hA : At X C s H n a) :
    ∃ C', C'.w = C.w ∧ At X C' s' H' n' a := by
  obtain ⟨C', e, hC', h1⟩ := h C hA.stp
  exact ⟨C', e, hC', ⟨fun j hj => h1 _ _ _ (hs j) (hA.st.slots j hj), hl, hA.st.size, hA.st.defers⟩⟩

theorem Le.ofφ {C : Cx} {φ' : Nat → List Nat} : Le C ⟨C.w, C.ρ, C.F, C.N, φ'⟩ := ⟨fun _ h => h, fun _ _ => rfl, fun _ _ h1 h2 => ⟨h2, h1⟩, fun _ _ h => h⟩
theorem Le.ofφ' {C : Cx} {φ' : Nat → List Nat} : Le ⟨C.w, C.ρ, C.F, C.N, φ'⟩ C := ⟨fun _ h => h, fun _ _ => rfl, fun _ _ h1 h2 => ⟨h2, h1⟩, fun _ _ h => h⟩
theorem DsL.split {C : Cx} {cs : List VV} {us : List Value} {S : List Nat} {j : Nat} {x : VV} (h : DsL C cs us S) (hj : cs[j]? = some x) :
    ∃ v S1 S2 S3, us[j]? = some v ∧ S = S1 ++ (S2 ++ S3) ∧ DsL C (cs.take j) us S1 ∧ Dp C x v S2 ∧ DsL C (cs.drop (j + 1)) (us.drop (j + 1)) S3 := by
  have hjl : j < cs.length := (List.getElem?_eq_some_iff.1 hj).1
  have hx : cs[j] = x := (List.getElem?_eq_some_iff.1 hj).2
  rw [← List.take_append_drop j cs, List.drop_eq_getElem_cons hjl, DsL.append, hx] at h
  obtain ⟨S1, S', rfl, h1, h2⟩ := h
  have htl : (cs.take j).length = j := by rw [List.length_take]; omega
  rw [htl] at h2
  simp only [DsL] at h2
  obtain ⟨v, vs, S2, S3, e, rfl, h3, h4⟩ := h2
  refine ⟨v, S1, S2, S3, ?_, rfl, h1, h3, ?_⟩
  · have := congrArg (fun l => l[0]?) e
    simpa using this
  · rw [show us.drop (j + 1) = (us.drop j).drop 1 by rw [List.drop_drop], e]
    exact h4
theorem DsL.join {C : Cx} {cs : List VV} {us : List Value} {S1 S2 S3 : List Nat} {j : Nat} {y : VV} {v : Value} (hjl : j < cs.length) (hv : us[j]? = some v) (h1 : DsL C (cs.take j) us S1) (h2 : Dp C y v S2)
    (h3 : DsL C (cs.drop (j + 1)) (us.drop (j + 1)) S3) : DsL C (cs.set j y) us (S1 ++ (S2 ++ S3)) := by
  rw [List.set_eq_take_append_cons_drop, if_pos hjl, DsL.append]
  refine ⟨S1, S2 ++ S3, rfl, h1, ?_⟩
  have htl : (cs.take j).length = j := by rw [List.length_take]; omega
  rw [htl]
  have hul : j < us.length := (List.getElem?_eq_some_iff.1 hv).1
  have hx : us[j] = v := (List.getElem?_eq_some_iff.1 hv).2
  rw [List.drop_eq_getElem_cons hul, hx]
  simp only [DsL]
  exact ⟨v, _, S2, S3, rfl, rfl, h2, h3⟩
theorem RepL.set {C : Cx} {cs : List VV} {us : List Value} {j : Nat} {y : VV} {v : Value} (h : RepL C cs us) (hv : us[j]? = some v) (hy : Rep C y v) : RepL C (cs.set j y) us := by
  rw [RepL.iff] at h ⊢
  refine ⟨by simp [h.1], fun i c hi => ?_⟩
  rw [List.getElem?_set] at hi
  split at hi
  · rename_i e; subst e
    split at hi
    · injection hi with hi; subst hi; exact ⟨v, hv, hy⟩
    · simp at hi
  · exact h.2 i c hi
/-- An object that one cell alone leads to is put inside. -/
theorem Vw.pack {X : Fn} {H : Heap} {n k m j z : Nat} {cs : List VV} {l : List (List VV)} (hk : H k = some cs) (hj : cs[j]? = some (.rf m 0 l.length z)) (hm : H m = some l.flatten) (hkm : k ≠ m) (hz : ∀ r ∈ l, r.length = z)
    (hcl : VV.cloL l.flatten = true) : Vw X Eq H n (upd (kill H m) k (cs.set j (.ow z l))) n := by
  intro C hS
  have hH := hS.hok
  have hkn : H k ≠ none := by rw [hk]; simp
  have hmn : H m ≠ none := by rw [hm]; simp
  obtain ⟨vs, T, fr, g1, g2, g3, g4, g5, g6⟩ := hH.obj k cs hk
  obtain ⟨vm, Tm, fm, m1, m2, m3, m4, m5, m6⟩ := hH.obj m _ hm
  obtain ⟨v, S1, S2, S3, hv, hφ, d1, d2, d3⟩ := g6.split hj
  simp only [Dp] at d2; subst d2
  have hjl : j < cs.length := (List.getElem?_eq_some_iff.1 hj).1
  have hfl := flat_len_z hz
  -- the cell
  obtain ⟨v', hv', hrep⟩ := (RepL.iff.1 g4).2 j _ hj
  rw [List.getElem?_take, if_pos hjl, hv] at hv'
  injection hv' with hv'; subst hv'
  simp only [Rep] at hrep
  obtain ⟨a, c, rfl, hlc, hroom, _⟩ := hrep
  let φ' : Nat → List Nat := fun i => if i = k then S1 ++ (C.ol m ++ S3) else C.φ i
  let C' : Cx := ⟨C.w, C.ρ, C.F, C.N, φ'⟩
  have hL : Le C C' := Le.ofφ
  have hupd : ∀ i, upd (kill H m) k (cs.set j (.ow z l)) i ≠ none → i = k ∨ (i ≠ k ∧ i ≠ m ∧ H i ≠ none) := by
    intro i hi
    unfold upd kill at hi
    split at hi
    · exact .inl (by assumption)
    · split at hi
      · simp at hi
      · exact .inr ⟨by assumption, by assumption, hi⟩
  have holk : C'.ol k = C.ρ k :: (S1 ++ (C.ol m ++ S3)) := by show C.ρ k :: (if k = k then _ else _) = _; rw [if_pos rfl]
  have holn : ∀ i, i ≠ k → C'.ol i = C.ol i := fun i hi => by show C.ρ i :: (if i = k then _ else _) = _; rw [if_neg hi]; rfl
  have hmem : ∀ b ∈ C'.ol k, b ∈ C.ol k ∨ b ∈ C.ol m := by
    intro b hb
    rw [holk] at hb
    simp only [List.mem_cons, List.mem_append] at hb
    unfold Cx.ol
    rw [hφ]
    simp only [List.mem_cons, List.mem_append, List.not_mem_nil, false_or]
    rcases hb with h | h | h | h
    · exact .inl (.inl h)
    · exact .inl (.inr (.inl h))
    · right
      simpa [Cx.ol] using h
    · exact .inl (.inr (.inr h))
  refine ⟨C', rfl, ⟨hS.le.trans hL, hS.fr, ⟨?_, ?_, ?_, ?_, ?_⟩, hS.bd, hS.nn, hS.nN, hS.nO, hS.mF, hS.nF, ?_⟩, fun x y v e hr => e ▸ hr.mono hL⟩
  · intro i es hi
    unfold upd kill at hi
    split at hi
    · rename_i e; subst e; exact hH.nm _ cs hk
    · split at hi
      · simp at hi
      · exact hH.nm i es hi
  · intro i hi b hb
    rcases hupd i hi with rfl | ⟨h1, h2, h3⟩
    · rcases hmem b hb with h | h
      · exact hH.own _ hkn b h
      · exact hH.own m hmn b h
    · rw [holn i h1] at hb
      exact hH.own i h3 b hb
  · intro i es hi
    unfold upd kill at hi
    split at hi
    · rename_i e; subst e
      injection hi with hi; subst hi
      have e2 : C'.φ i = S1 ++ (C.ol m ++ S3) := if_pos rfl
      rw [e2]
      refine ⟨vs, T, fr, g1, g2, by simpa using g3, ?_, by simpa using g5, ?_⟩
      · rw [List.length_set]
        refine (RepL.mono hL _ g4).set (v := .slice a l.length c) (by rw [List.getElem?_take, if_pos hjl]; exact hv) ?_
        simp only [Rep]; exact ⟨a, c, rfl, hlc⟩
      · refine DsL.join hjl hv (DsL.mono hL _ (fun _ _ => rfl) d1) ?_ (DsL.mono hL _ (fun _ _ => rfl) d3)
        simp only [Dp]
        refine ⟨a, c, C.ρ m, C.φ m, vm, Tm, fm, rfl, hlc, rfl, hroom.imp id (fun h => h.1), m1, m2, ?_, hz, ?_, ?_, ?_⟩
        · rcases hroom with h | ⟨_, vs', T', fr', r1, r2⟩
          · subst h; simp
          · rw [m1] at r1; injection r1 with r1; injection r1 with r1 _ _
            rw [← r1, Nat.zero_add] at r2; exact r2
        · rw [← hfl]
          exact RepL.mono hL.cl _ (RepL.cl _ m4 hcl)
        · rw [← hfl]; exact m5
        · exact DsR.iff.2 (DsL.mono hL _ (fun _ _ => rfl) m6)
    · split at hi
      · simp at hi
      · rename_i h1 h2
        have e2 : C'.φ i = C.φ i := if_neg h1
        rw [e2]
        exact (hH.obj i es hi).mono hL (fun _ _ => rfl)
  · intro i hi
    rcases hupd i hi with rfl | ⟨h1, h2, h3⟩
    · rw [holk]
      have n1 := hH.nodup _ hkn
      have n2 := hH.nodup m hmn
      have n3 := hH.sep _ m hkn hmn hkm
      unfold Cx.ol at n1
      rw [hφ, List.nil_append] at n1
      have hp : (C.ρ i :: (S1 ++ (C.ol m ++ S3))).Perm ((C.ρ i :: (S1 ++ S3)) ++ C.ol m) := by
        refine List.Perm.cons _ ?_
        show (S1 ++ (C.ol m ++ S3)).Perm ((S1 ++ S3) ++ C.ol m)
        rw [List.append_assoc]
        exact List.Perm.append_left _ List.perm_append_comm
      rw [hp.nodup_iff, List.nodup_append]
      refine ⟨n1, n2, fun x hx y hy e => ?_⟩
      subst e
      exact n3 x (by unfold Cx.ol; rw [hφ, List.nil_append]; exact hx) hy
    · rw [holn i h1]; exact hH.nodup i h3
  · intro i i' hi hi' hne b hb hb'
    rcases hupd i hi with rfl | ⟨h1, h2, h3⟩ <;> rcases hupd i' hi' with rfl | ⟨k1, k2, k3⟩
    · exact hne rfl
    · rw [holn i' k1] at hb'
      rcases hmem b hb with h | h
      · exact hH.sep _ i' hkn k3 (Ne.symm k1) b h hb'
      · exact hH.sep m i' hmn k3 (Ne.symm k2) b h hb'
    · rw [holn i h1] at hb
      rcases hmem b hb' with h | h
      · exact hH.sep i _ h3 hkn h1 b hb h
      · exact hH.sep i m h3 hmn h2 b hb h
    · rw [holn i h1] at hb; rw [holn i' k1] at hb'
      exact hH.sep i i' h3 k3 hne b hb hb'
  · rintro b ⟨i, hi, hb⟩
    rcases hupd i hi with rfl | ⟨h1, h2, h3⟩
    · rcases hmem b hb with h | h
      · exact hS.ow b ⟨_, hkn, h⟩
      · exact hS.ow b ⟨m, hmn, h⟩
    · rw [holn i h1] at hb
      exact hS.ow b ⟨i, h3, hb⟩
/-- What lies inside gets a name. -/
theorem Vw.unpack {X : Fn} {H : Heap} {n k j z : Nat} {cs : List VV} {l : List (List VV)} (hk : H k = some cs) (hj : cs[j]? = some (.ow z l)) : Vw X Eq H n (upd (upd H k (cs.set j (.rf n 0 l.length z))) n l.flatten) (n + 1) := by
  intro C hS
  have hH := hS.hok
  have hkn : H k ≠ none := by rw [hk]; simp
  have hlt : ∀ i, H i ≠ none → i < n := fun i hi => by
    obtain ⟨es, he⟩ := Option.ne_none_iff_exists'.1 hi
    exact hS.nN i (hH.nm i es he)
  have hkl := hlt k hkn
  obtain ⟨vs, T, fr, g1, g2, g3, g4, g5, g6⟩ := hH.obj k cs hk
  obtain ⟨v, S1, S2, S3, hv, hφ, d1, d2, d3⟩ := g6.split hj
  have hjl : j < cs.length := (List.getElem?_eq_some_iff.1 hj).1
  simp only [Dp] at d2
  obtain ⟨a, c, b, S', vm, Tm, fm, rfl, hlc, rfl, ha, m1, m2, m3, hz, m4, m5, m6⟩ := d2
  have hfl := flat_len_z hz
  let C' : Cx := ⟨C.w, fun i => if i = n then b else C.ρ i, C.F, fun i => C.N i ∨ i = n, fun i => if i = n then S' else if i = k then S1 ++ S3 else C.φ i⟩
  have hL : Le C C' := ⟨fun _ h => .inl h, fun i hi => if_neg (by have := hS.nN i hi; omega), fun _ _ h1 h2 => ⟨h2, h1⟩, fun _ _ h => h⟩
  have holN : C'.ol n = b :: S' := by show (if n = n then _ else _) :: (if n = n then _ else _) = _; rw [if_pos rfl, if_pos rfl]
  have holk : C'.ol k = C.ρ k :: (S1 ++ S3) := by show (if k = n then _ else _) :: (if k = n then _ else if k = k then _ else _) = _; rw [if_neg (by omega), if_neg (by omega), if_pos rfl]
  have holn : ∀ i, i ≠ n → i ≠ k → C'.ol i = C.ol i := fun i h1 h2 => by show (if i = n then _ else _) :: (if i = n then _ else if i = k then _ else _) = _; rw [if_neg h1, if_neg h1, if_neg h2]; rfl
  have hall : C.ol k = C.ρ k :: (S1 ++ (b :: S' ++ S3)) := by unfold Cx.ol; rw [hφ]
  have hin1 : ∀ q ∈ C'.ol n, q ∈ C.ol k := fun q hq => by rw [holN] at hq; rw [hall]; simp only [List.mem_cons, List.mem_append] at hq ⊢; rcases hq with h | h <;> simp [h]
  have hin2 : ∀ q ∈ C'.ol k, q ∈ C.ol k := fun q hq => by rw [holk] at hq; rw [hall]; simp only [List.mem_cons, List.mem_append] at hq ⊢; rcases hq with h | h | h <;> simp [h]
  have hp : (C.ol k).Perm ((C.ρ k :: (S1 ++ S3)) ++ (b :: S')) := by
    rw [hall]
    refine List.Perm.cons _ ?_
    show (S1 ++ (b :: S' ++ S3)).Perm ((S1 ++ S3) ++ (b :: S'))
    rw [List.append_assoc]
    exact List.Perm.append_left _ List.perm_append_comm
  have hnd := hH.nodup k hkn
  rw [hp.nodup_iff, List.nodup_append] at hnd
  obtain ⟨hnd1, hnd2, hnd3⟩ := hnd
  have hup : ∀ i, upd (upd H k (cs.set j (.rf n 0 l.length z))) n l.flatten i ≠ none → i = n ∨ (i ≠ n ∧ i = k) ∨ (i ≠ n ∧ i ≠ k ∧ H i ≠ none) := by
    intro i hi
    unfold upd at hi
    split at hi
    · exact .inl (by assumption)
    · split at hi
      · exact .inr (.inl ⟨by assumption, by assumption⟩)
      · exact .inr (.inr ⟨by assumption, by assumption, hi⟩)
  refine ⟨C', rfl, ⟨hS.le.trans hL, hS.fr, ⟨?_, ?_, ?_, ?_, ?_⟩, hS.bd, by have := hS.nn; omega, ?_, ?_, hS.mF, hS.nF, ?_⟩, fun x y v e hr => e ▸ hr.mono hL⟩
  · intro i es hi
    unfold upd at hi
    split at hi
    · exact .inr (by assumption)
    · split at hi
      · rename_i e; subst e; exact .inl (hH.nm _ cs hk)
      · exact .inl (hH.nm i es hi)
  · intro i hi q hq
    rcases hup i hi with rfl | ⟨h1, rfl⟩ | ⟨h1, h2, h3⟩
    · exact hH.own k hkn q (hin1 q hq)
    · exact hH.own i hkn q (hin2 q hq)
    · rw [holn i h1 h2] at hq
      exact hH.own i h3 q hq
  · intro i es hi
    unfold upd at hi
    split at hi
    · rename_i e; subst e
      injection hi with hi; subst hi
      have e1 : C'.ρ i = b := if_pos rfl
      have e2 : C'.φ i = S' := if_pos rfl
      rw [e1, e2]
      have hle : l.flatten.length ≤ vm.size := by rw [hfl]; exact Nat.le_trans (Nat.mul_le_mul_right _ hlc) m3
      exact ⟨vm, Tm, fm, m1, m2, hle, by rw [hfl]; exact RepL.mono (cl_le C') _ (RepL.mono hL.cl _ m4), by rw [hfl]; exact m5, DsL.mono hL _ (fun _ _ => rfl) (DsR.iff.1 m6)⟩
    · rename_i hne
      split at hi
      · rename_i e; subst e
        injection hi with hi; subst hi
        have e1 : C'.ρ i = C.ρ i := if_neg hne
        have e2 : C'.φ i = S1 ++ S3 := by show (if i = n then _ else if i = i then _ else _) = _; rw [if_neg hne, if_pos rfl]
        rw [e1, e2]
        refine ⟨vs, T, fr, g1, g2, by simpa using g3, ?_, by simpa using g5, ?_⟩
        · rw [List.length_set]
          refine (RepL.mono hL _ g4).set (v := .slice a l.length c) (by rw [List.getElem?_take, if_pos hjl]; exact hv) ?_
          simp only [Rep]
          refine ⟨a, c, rfl, hlc, ?_, .inr rfl⟩
          rcases ha with h | h
          · exact .inl h
          · right
            have e3 : C'.ρ n = b := if_pos rfl
            rw [e3]
            exact ⟨h, vm, Tm, fm, m1, by rw [Nat.zero_add]; exact m3⟩
        · have := DsL.join (S2 := []) (y := .rf n 0 l.length z) hjl hv (DsL.mono hL _ (fun _ _ => rfl) d1) (by simp only [Dp]) (DsL.mono hL _ (fun _ _ => rfl) d3)
          simpa using this
      · rename_i hne2
        have e1 : C'.ρ i = C.ρ i := if_neg hne
        have e2 : C'.φ i = C.φ i := by show (if i = n then _ else if i = k then _ else _) = _; rw [if_neg hne, if_neg hne2]
        rw [e1, e2]
        exact (hH.obj i es hi).mono hL (fun _ _ => rfl)
  · intro i hi
    rcases hup i hi with rfl | ⟨h1, rfl⟩ | ⟨h1, h2, h3⟩
    · rw [holN]; exact hnd2
    · rw [holk]; exact hnd1
    · rw [holn i h1 h2]; exact hH.nodup i h3
  · intro i i' hi hi' hne q hq hq'
    rcases hup i hi with rfl | ⟨h1, rfl⟩ | ⟨h1, h2, h3⟩ <;> rcases hup i' hi' with rfl | ⟨k1, rfl⟩ | ⟨k1, k2, k3⟩
    · exact hne rfl
    · rw [holN] at hq; rw [holk] at hq'
      exact hnd3 q hq' q hq rfl
    · rw [holn i' k1 k2] at hq'
      exact hH.sep k i' hkn k3 (Ne.symm k2) q (hin1 q hq) hq'
    · rw [holk] at hq; rw [holN] at hq'
      exact hnd3 q hq q hq' rfl
    · exact hne rfl
    · rw [holn i' k1 k2] at hq'
      exact hH.sep i i' hkn k3 hne q (hin2 q hq) hq'
    · rw [holn i h1 h2] at hq
      exact hH.sep i k h3 hkn h2 q hq (hin1 q hq')
    · rw [holn i h1 h2] at hq
      exact hH.sep i i' h3 hkn hne q hq (hin2 q hq')
    · rw [holn i h1 h2] at hq; rw [holn i' k1 k2] at hq'
      exact hH.sep i i' h3 k3 hne q hq hq'
  · intro i hi
    rcases hi with h | rfl
    · have := hS.nN i h; omega
    · omega
  · intro i hi
    rcases hi with h | rfl
    · exact hS.nO i h
    · exact .inr hS.nn
  · rintro q ⟨i, hi, hq⟩
    rcases hup i hi with rfl | ⟨h1, rfl⟩ | ⟨h1, h2, h3⟩
    · exact hS.ow q ⟨k, hkn, hin1 q hq⟩
    · exact hS.ow q ⟨i, hkn, hin2 q hq⟩
    · rw [holn i h1 h2] at hq
      exact hS.ow q ⟨i, h3, hq⟩
end Go.VM

/- VMN: regions whose operations may come in any order that the edges leave. -/
namespace Go.VM
open Go.RowKit

/-! ### What an operation looks at -/
def opdsO : Option Operand → List Operand
  | some x => [x]
  | none => []
def opds : VOp → List Operand
  | .mov x | .box x | .nilc x | .cstr x | .un _ x | .cint _ x | .fad _ x | .fld _ _ _ x | .ext x _ | .len _ x | .load _ _ x | .mks _ _ _ x => [x]
  | .pick c a b => [c, a, b]
  | .new _ => []
  | .build _ ps => ps.map (·.2.2)
  | .bslice _ _ _ ps => ps.map (·.2.2)
  | .store _ p x => [p, x]
  | .bin _ _ x y => [x, y]
  | .mkf _ cs => cs
  | .slice _ x lo hi => x :: (opdsO lo ++ opdsO hi)
  | .sslice x lo hi => x :: (opdsO lo ++ opdsO hi)
  | .iad _ x i => [x, i]
  | .iada _ _ x i => [x, i]
  | .sidx x i => [x, i]
  | .app _ _ a b => [a, b]
  | .call _ as => as
  | .callv f as => f :: as
def tmpsOf : List Operand → List Nat
  | [] => []
  | .tmp t :: r => t :: tmpsOf r
  | _ :: r => tmpsOf r
theorem mem_tmpsOf {t : Nat} : ∀ {l : List Operand}, Operand.tmp t ∈ l → t ∈ tmpsOf l
  | x :: l, h => by
    rcases List.mem_cons.1 h with e | h
    · subst e; simp [tmpsOf]
    · have := mem_tmpsOf h
      cases x <;> simp [tmpsOf, this]
def looksV (o : VOper) : List Nat :=
  match o.gd with
  | some (d, _) => d :: tmpsOf (opds o.op)
  | none => tmpsOf (opds o.op)
def isCall : VOp → Bool
  | .call _ _ | .callv _ _ => true
  | _ => false
/-- It may touch the memory. -/
def heapy : VOp → Bool
  | .call _ _ | .callv _ _ | .new _ | .box _ | .bslice _ _ _ _ | .load _ _ _ | .store _ _ _ | .cstr _ | .mks _ _ _ _ | .app _ _ _ _ => true
  | _ => false

theorem ev_congr {s s' : Slots} {l : List Operand} (h : ∀ t ∈ tmpsOf l, s t = s' t) : ∀ x ∈ l, s.ev x = s'.ev x := by
  intro x hx
  cases x with
  | tmp t => exact h t (mem_tmpsOf hx)
  | _ => rfl
theorem bnd_congr {s s' : Operand → VV} {d : Nat} {o : Option Operand} (h : ∀ x ∈ opdsO o, s x = s' x) : bnd d s o = bnd d s' o := by
  cases o with
  | none => rfl
  | some x => simp only [bnd]; rw [h x (by simp [opdsO])]
theorem parts_congr {s s' : Operand → VV} : ∀ {ps : List (Nat × Nat × Operand)}, (∀ x ∈ ps.map (·.2.2), s x = s' x) → (ps.map fun p => (p.1, p.2.1, s p.2.2)) = ps.map fun p => (p.1, p.2.1, s' p.2.2)
  | [], _ => rfl
  | p :: ps, h => by
    simp only [List.map_cons]
    rw [h p.2.2 (by simp), parts_congr (ps := ps) (fun x hx => h x (by simp at hx ⊢; exact .inr hx))]
theorem vop_congr {s s' : Operand → VV} {H : Heap} {k : Nat} {op : VOp} (h : ∀ x ∈ opds op, s x = s' x) : vop s H k op = vop s' H k op := by
  cases op <;> simp only [opds, List.mem_cons, List.mem_append, forall_eq_or_imp, List.not_mem_nil, false_imp_iff, implies_true, and_true] at h <;> simp only [vop, vpure]
  case build zs ps => rw [parts_congr h]
  case bslice z len zs ps => rw [parts_congr h]
  case mkf f cs => rw [List.map_congr_left h]
  case slice z x lo hi => rw [h.1, bnd_congr (fun y hy => h.2 y (.inl hy)), bnd_congr (fun y hy => h.2 y (.inr hy))]
  case sslice x lo hi =>
    rw [h.1, bnd_congr (s := s) (s' := s') (o := lo) (fun y hy => h.2 y (.inl hy))]
    have : ∀ d, bnd d s hi = bnd d s' hi := fun d => bnd_congr (fun y hy => h.2 y (.inr hy))
    simp only [this]
  case len b x => cases b <;> simp only [vpure, h]
  all_goals simp only [h]

/-! ### Which objects an operation reads and writes -/
def rfn : VV → List Nat
  | .rf j _ _ _ => [j]
  | _ => []
def ptn : VV → List Nat
  | .pt j _ => [j]
  | _ => []
def rds (s : Operand → VV) : VOp → List Nat
  | .load _ _ p => ptn (s p)
  | .store _ p _ => ptn (s p)
  | .cstr x => rfn (s x)
  | .app _ _ a b => rfn (s a) ++ rfn (s b)
  | _ => []
def wrs (k : Nat) (s : Operand → VV) : VOp → List Nat
  | .new _ | .box _ | .bslice _ _ _ _ | .mks _ _ _ _ => [k]
  | .store _ p _ => ptn (s p)
  | .app _ _ a _ => k :: rfn (s a)
  | _ => []
theorem srcV_local {z : Nat} {H H2 : Heap} {v : VV} (h : ∀ j ∈ rfn v, H2 j = H j) : srcV z H2 v = srcV z H v := by
  cases v with
  | rf j off len z' => simp only [srcV]; rw [h j (by simp [rfn])]
  | sc u => unfold srcV; split <;> first | rfl | simp_all
  | _ => rfl
theorem vop_frame {s : Operand → VV} {H H' : Heap} {k : Nat} {op : VOp} {r : VV} (h : vop s H k op = some (r, H')) : ∀ j, j ∉ wrs k s op → H' j = H j := by
  intro j hj
  have pure : ∀ o : Option VV, (o.map fun r => (r, H)) = some (r, H') → H' j = H j := by
    intro o ho
    obtain ⟨_, _, e⟩ := Option.map_eq_some_iff.1 ho
    injection e with _ e; rw [e]
  cases op <;> simp only [wrs, List.mem_cons, List.not_mem_nil, or_false] at hj <;> simp only [vop] at h <;> try exact pure _ h
  case new zs => injection h with h; injection h with _ h; subst h; exact if_neg hj
  case box x => obtain ⟨_, _, e⟩ := Option.map_eq_some_iff.1 h; injection e with _ e; subst e; exact if_neg hj
  case bslice => obtain ⟨_, _, e⟩ := Option.map_eq_some_iff.1 h; injection e with _ e; subst e; exact if_neg hj
  case load ag n p =>
    split at h
    · split at h
      · exact pure _ h
      · simp at h
    · exact pure _ h
    · simp at h
  case store n p x =>
    split at h
    · rename_i i off hs
      rw [hs] at hj; simp only [ptn, List.mem_cons, List.not_mem_nil, or_false] at hj
      split at h
      · split at h
        · injection h with h; injection h with _ h; subst h; exact if_neg hj
        · simp at h
      · simp at h
    · simp at h
  case cstr x =>
    split at h
    · obtain ⟨_, _, e⟩ := Option.map_eq_some_iff.1 h; injection e with _ e; rw [e]
    · simp at h
  case mks z b zs x =>
    split at h
    · split at h
      · injection h with h; injection h with _ h; subst h; exact if_neg hj
      · simp at h
    · simp at h
  case app z b x y =>
    unfold appV at h
    split at h
    · simp at h
    · split at h
      · split at h
        · injection h with h; injection h with _ h; rw [h]
        · split at h
          · injection h with h; injection h with _ h; subst h; exact if_neg (fun e => hj (.inl e))
          · simp at h
      · rename_i i len z' hs
        rw [hs] at hj; simp only [rfn, List.mem_cons, List.not_mem_nil, or_false] at hj
        split at h
        · split at h
          · injection h with h; injection h with _ h; subst h
            show (if j = k then _ else kill H i j) = _
            rw [if_neg (fun e => hj (.inl e))]
            exact if_neg (fun e => hj (.inr e))
          · simp at h
        · simp at h
      · simp at h
theorem vop_local {s : Operand → VV} {H H' H2 : Heap} {k : Nat} {op : VOp} {r : VV} (h : vop s H k op = some (r, H')) (ha : ∀ j, j ∈ rds s op ∨ j ∈ wrs k s op → H2 j = H j) :
    ∃ H2', vop s H2 k op = some (r, H2') ∧ ∀ j, j ∈ wrs k s op → H2' j = H' j := by
  have pure : ∀ o : Option VV, (o.map fun r => (r, H)) = some (r, H') → (∀ j, j ∈ wrs k s op → H2 j = H j) → ∃ H2', (o.map fun r => (r, H2)) = some (r, H2') ∧ ∀ j, j ∈ wrs k s op → H2' j = H' j := by
    intro o ho hw
    obtain ⟨v, hv, e⟩ := Option.map_eq_some_iff.1 ho
    injection e with e1 e2; subst e1 e2
    exact ⟨H2, by rw [hv]; rfl, hw⟩
  have hw : ∀ j, j ∈ wrs k s op → H2 j = H j := fun j hj => ha j (.inr hj)
  have hr : ∀ j, j ∈ rds s op → H2 j = H j := fun j hj => ha j (.inl hj)
  cases op <;> simp only [wrs, rds] at hw hr pure ⊢ <;> simp only [vop] at h ⊢ <;> try exact pure _ h hw
  case new zs =>
    injection h with h; injection h with h1 h2; subst h1 h2
    exact ⟨_, rfl, fun j hj => by simp only [List.mem_cons, List.not_mem_nil, or_false] at hj; subst hj; simp [upd]⟩
  case box x =>
    obtain ⟨v, hv, e⟩ := Option.map_eq_some_iff.1 h; injection e with e1 e2; subst e1 e2
    exact ⟨_, by rw [hv]; rfl, fun j hj => by simp only [List.mem_cons, List.not_mem_nil, or_false] at hj; subst hj; simp [upd]⟩
  case bslice =>
    obtain ⟨v, hv, e⟩ := Option.map_eq_some_iff.1 h; injection e with e1 e2; subst e1 e2
    exact ⟨_, by rw [hv]; rfl, fun j hj => by simp only [List.mem_cons, List.not_mem_nil, or_false] at hj; subst hj; simp [upd]⟩
  case load ag n p =>
    split at h
    · rename_i i off hs
      rw [hs] at hr
      rw [hr i (by simp [ptn])]
      split at h
      · exact pure _ h hw
      · simp at h
    · exact pure _ h hw
    · simp at h
  case store n p x =>
    split at h
    · rename_i i off hs
      rw [hs] at hr ⊢
      rw [hr i (by simp [ptn])]
      split at h
      · split at h
        · rename_i hc
          injection h with h; injection h with h1 h2; subst h1 h2
          refine ⟨_, by simp only [hc, and_self, if_true]; rfl, fun j hj => ?_⟩
          simp only [ptn, List.mem_cons, List.not_mem_nil, or_false] at hj; subst hj
          simp [upd]
        · simp at h
      · simp at h
    · simp at h
  case cstr x =>
    rw [srcV_local hr]
    split at h
    · obtain ⟨v, hv, e⟩ := Option.map_eq_some_iff.1 h; injection e with e1 e2; subst e1 e2
      exact ⟨H2, by rw [hv]; rfl, hw⟩
    · simp at h
  case mks z b zs x =>
    split at h
    · split at h
      · rename_i hc
        injection h with h; injection h with h1 h2; subst h1 h2
        refine ⟨_, by simp only [hc, and_self, if_true]; rfl, fun j hj => ?_⟩
        simp only [List.mem_cons, List.not_mem_nil, or_false] at hj; subst hj; simp [upd]
      · simp at h
    · simp at h
  case app z b x y =>
    unfold appV at h ⊢
    rw [srcV_local (fun j hj => hr j (List.mem_append_right _ hj))]
    split at h
    · simp at h
    · rename_i n xs hsrc
      split at h
      · rename_i hs
        split at h
        · rename_i hn
          injection h with h; injection h with h1 h2; subst h1 h2
          exact ⟨H2, by simp only [hn, if_true], hw⟩
        · rename_i hn
          split at h
          · rename_i hc
            injection h with h; injection h with h1 h2; subst h1 h2
            refine ⟨_, by simp only [hn, if_false, hc, and_self, if_true]; rfl, fun j hj => ?_⟩
            rw [hs] at hj; simp only [rfn, List.mem_cons, List.not_mem_nil, or_false] at hj; subst hj; simp [upd]
          · simp at h
      · rename_i i len z' hs
        rw [hs] at hr hw ⊢
        rw [hr i (by simp [rfn])]
        split at h
        · split at h
          · rename_i hc
            injection h with h; injection h with h1 h2; subst h1 h2
            refine ⟨_, by simp only [hc, and_self, if_true]; rfl, fun j hj => ?_⟩
            simp only [rfn, List.mem_cons, List.not_mem_nil, or_false] at hj
            unfold upd kill
            rcases hj with rfl | rfl
            · simp
            · by_cases e : j = k <;> simp [e]
          · simp at h
        · simp at h
      · simp at h
theorem foot_pure {s : Operand → VV} {k : Nat} {op : VOp} (h : heapy op = false) : rds s op = [] ∧ wrs k s op = [] := by
  cases op <;> simp [heapy] at h <;> exact ⟨rfl, rfl⟩
end Go.VM

/- VMV: values under other names. -/
namespace Go.VM
open Go.RowKit
/-! ### Other names -/
mutual
def VV.ren (σ : Nat → Nat) : VV → VV
  | .rf k off len z => .rf (σ k) off len z
  | .pt k off => .pt (σ k) off
  | .agg cs => .agg (VV.renL σ cs)
  | .tup cs => .tup (VV.renL σ cs)
  | .fn f cs => .fn f (VV.renL σ cs)
  | .any => .any
  | .sc v => .sc v
  | .sl z l => .sl z l
  | .pd cs => .pd cs
  | .ow z l => .ow z l
def VV.renL (σ : Nat → Nat) : List VV → List VV
  | [] => []
  | c :: cs => c.ren σ :: VV.renL σ cs
end
mutual
/-- It names objects below m alone. -/
def VV.under (m : Nat) : VV → Bool
  | .rf k _ _ _ => decide (k < m)
  | .pt k _ => decide (k < m)
  | .agg cs => VV.underL m cs
  | .tup cs => VV.underL m cs
  | .fn _ cs => VV.underL m cs
  | .any | .sc _ | .sl _ _ | .pd _ | .ow _ _ => true
def VV.underL (m : Nat) : List VV → Bool
  | [] => true
  | c :: cs => c.under m && VV.underL m cs
end
theorem renL_map {σ : Nat → Nat} : ∀ (cs : List VV), VV.renL σ cs = cs.map (VV.ren σ)
  | [] => rfl
  | c :: cs => by rw [VV.renL, List.map_cons, renL_map cs]
theorem underL_all {m : Nat} : ∀ (cs : List VV), VV.underL m cs = cs.all (VV.under m)
  | [] => rfl
  | c :: cs => by rw [VV.underL, List.all_cons, underL_all cs]
mutual
theorem ren_clo {σ : Nat → Nat} : ∀ (x : VV), x.clo = true → x.ren σ = x
  | .any, _ | .sc _, _ | .sl _ _, _ | .pd _, _ | .ow _ _, _ => by simp only [VV.ren]
  | .agg cs, h => by simp only [VV.clo] at h; simp only [VV.ren, ren_cloL cs h]
  | .tup cs, h => by simp only [VV.clo] at h; simp only [VV.ren, ren_cloL cs h]
  | .fn f cs, h => by simp only [VV.clo] at h; simp only [VV.ren, ren_cloL cs h]
  | .rf _ _ _ _, h | .pt _ _, h => by simp [VV.clo] at h
theorem ren_cloL {σ : Nat → Nat} : ∀ (cs : List VV), VV.cloL cs = true → VV.renL σ cs = cs
  | [], _ => rfl
  | c :: cs, h => by
    simp only [VV.cloL, Bool.and_eq_true] at h
    simp only [VV.renL, ren_clo c h.1, ren_cloL cs h.2]
end
mutual
theorem clo_under {m : Nat} : ∀ (x : VV), x.clo = true → x.under m = true
  | .any, _ | .sc _, _ | .sl _ _, _ | .pd _, _ | .ow _ _, _ => by simp only [VV.under]
  | .agg cs, h | .tup cs, h | .fn _ cs, h => by simp only [VV.clo] at h; simp only [VV.under, cloL_under cs h]
  | .rf _ _ _ _, h | .pt _ _, h => by simp [VV.clo] at h
theorem cloL_under {m : Nat} : ∀ (cs : List VV), VV.cloL cs = true → VV.underL m cs = true
  | [], _ => rfl
  | c :: cs, h => by
    simp only [VV.cloL, Bool.and_eq_true] at h
    simp only [VV.underL, clo_under c h.1, cloL_under cs h.2, Bool.and_self]
end
theorem ren_dry {σ : Nat → Nat} (x : VV) : (x.ren σ).dry = x.dry := by cases x <;> rfl
mutual
/-- Read backwards: the caller's names as the callee's. -/
theorem conv_ren {σ : Nat → Nat} {H : Heap} {m : Nat} : ∀ (x : VV), x.under m = true → Conv σ H (fun _ => False) m (x.ren σ) x
  | .rf k off len z, h => by simp only [VV.under, decide_eq_true_eq] at h; simp only [VV.ren]; exact .rf rfl (fun h => h) h
  | .pt k off, h => by simp only [VV.under, decide_eq_true_eq] at h; simp only [VV.ren]; exact .pt rfl (fun h => h) h
  | .agg cs, h => by simp only [VV.under] at h; simp only [VV.ren]; exact .agg (conv_renL (H := H) cs h).1 (conv_renL cs h).2
  | .tup cs, h => by simp only [VV.under] at h; simp only [VV.ren]; exact .tup (conv_renL (H := H) cs h).1 (conv_renL cs h).2
  | .fn f cs, h => by simp only [VV.under] at h; simp only [VV.ren]; exact .fn (conv_renL (H := H) cs h).1 (conv_renL cs h).2
  | .any, _ | .sc _, _ | .sl _ _, _ | .pd _, _ | .ow _ _, _ => by simp only [VV.ren]; exact .clo rfl
theorem conv_renL {σ : Nat → Nat} {H : Heap} {m : Nat} : ∀ (cs : List VV), VV.underL m cs = true → (VV.renL σ cs).length = cs.length ∧ ∀ (j : Nat) (x y : VV), (VV.renL σ cs)[j]? = some x → cs[j]? = some y → Conv σ H (fun _ => False) m x y
  | [], _ => ⟨rfl, fun j x y h => by simp [VV.renL] at h⟩
  | c :: cs, h => by
    simp only [VV.underL, Bool.and_eq_true] at h
    obtain ⟨h1, h2⟩ := conv_renL (σ := σ) (H := H) cs h.2
    refine ⟨by simp [VV.renL, h1], fun j x y hx hy => ?_⟩
    cases j with
    | zero => simp [VV.renL] at hx hy; subst hx hy; exact conv_ren c h.1
    | succ j => exact h2 j x y (by simpa [VV.renL] using hx) (by simpa using hy)
end
mutual
/-- Read forwards. -/
theorem Rep.ren {C C' : Cx} {σ : Nat → Nat} {m : Nat} (hL : Le C.cl C'.cl) (hN : ∀ k, k < m → C.N k → C'.N (σ k) ∧ C'.ρ (σ k) = C.ρ k) : ∀ (x : VV) {v : Value}, x.under m = true → Rep C x v → Rep C' (x.ren σ) v
  | .rf k off len z, v, hu, h => by
    simp only [VV.under, decide_eq_true_eq] at hu
    simp only [Rep, VV.ren] at h ⊢
    obtain ⟨a, c, e, hle, hd, hk⟩ := h
    obtain ⟨h1, h2⟩ := hN k hu hk
    rw [h2]
    exact ⟨a, c, e, hle, hd.imp id (fun h => ⟨h.1, hL.room _ _ h.2⟩), h1⟩
  | .pt k off, v, hu, h => by
    simp only [VV.under, decide_eq_true_eq] at hu
    simp only [Rep, VV.ren] at h ⊢
    obtain ⟨h1, h2⟩ := hN k hu h.2
    rw [h2]
    exact ⟨h.1, h1⟩
  | .agg cs, v, hu, h => by
    simp only [VV.under] at hu
    simp only [Rep, VV.ren] at h ⊢
    obtain ⟨us, e, h⟩ := h
    exact ⟨us, e, RepL.ren hL hN cs hu h⟩
  | .tup cs, v, hu, h => by
    simp only [VV.under] at hu
    simp only [Rep, VV.ren] at h ⊢
    obtain ⟨us, e, h⟩ := h
    exact ⟨us, e, RepL.ren hL hN cs hu h⟩
  | .fn f cs, v, hu, h => by
    simp only [VV.under] at hu
    simp only [Rep, VV.ren] at h ⊢
    obtain ⟨us, e, h⟩ := h
    exact ⟨us, e, RepL.ren hL hN cs hu h⟩
  | .any, v, _, _ => by simp only [VV.ren, Rep]
  | .sc u, v, _, h => by simpa only [VV.ren, Rep] using h
  | .ow z l, v, _, h => by simpa only [VV.ren, Rep] using h
  | .sl z l, v, _, h => by
    simp only [Rep, VV.ren] at h ⊢
    obtain ⟨a, c, e, hle, hd⟩ := h
    exact ⟨a, c, e, hle, hd.imp id (fun ⟨ad, h1, h2⟩ => ⟨ad, h1, RepR.mono hL z l h2⟩)⟩
  | .pd cs, v, _, h => by
    simp only [Rep, VV.ren] at h ⊢
    obtain ⟨ad, e, h⟩ := h
    exact ⟨ad, e, RepC.mono hL cs h⟩
theorem RepL.ren {C C' : Cx} {σ : Nat → Nat} {m : Nat} (hL : Le C.cl C'.cl) (hN : ∀ k, k < m → C.N k → C'.N (σ k) ∧ C'.ρ (σ k) = C.ρ k) : ∀ (cs : List VV) {us : List Value}, VV.underL m cs = true → RepL C cs us → RepL C' (VV.renL σ cs) us
  | [], us, _, h => by simpa only [VV.renL, RepL] using h
  | c :: cs, us, hu, h => by
    simp only [VV.underL, Bool.and_eq_true] at hu
    simp only [VV.renL, RepL] at h ⊢
    obtain ⟨v, vs, e, h1, h2⟩ := h
    exact ⟨v, vs, e, Rep.ren hL hN c hu.1 h1, RepL.ren hL hN cs hu.2 h2⟩
end
theorem DsL.ren {C C' : Cx} {σ : Nat → Nat} (hL : Le C.cl C'.cl) (hw : C'.w = C.w) : ∀ (cs : List VV) {us : List Value} {S : List Nat}, DsL C cs us S → DsL C' (VV.renL σ cs) us S
  | [], us, S, h => by simpa only [VV.renL, DsL] using h
  | x :: cs, us, S, h => by
    simp only [VV.renL, DsL] at h ⊢
    obtain ⟨v, vs, S1, S2, e1, e2, h1, h2⟩ := h
    refine ⟨v, vs, S1, S2, e1, e2, ?_, DsL.ren hL hw cs h2⟩
    cases hx : x.dry with
    | true => rw [Dp.dry (by rw [ren_dry]; exact hx)]; exact (Dp.dry hx).1 h1
    | false =>
      have : x.ren σ = x := by cases x <;> simp [VV.dry] at hx <;> rfl
      rw [this]
      exact Dp.mono' hL x (fun b _ => by rw [hw]) h1

mutual
/-- Its names are such. -/
def VV.nms (p : Nat → Bool) : VV → Bool
  | .rf k _ _ _ => p k
  | .pt k _ => p k
  | .agg cs => VV.nmsL p cs
  | .tup cs => VV.nmsL p cs
  | .fn _ cs => VV.nmsL p cs
  | .any | .sc _ | .sl _ _ | .pd _ | .ow _ _ => true
def VV.nmsL (p : Nat → Bool) : List VV → Bool
  | [] => true
  | c :: cs => c.nms p && VV.nmsL p cs
end
mutual
theorem nms_under {p : Nat → Bool} {m : Nat} (h : ∀ k, p k = true → k < m) : ∀ (x : VV), x.nms p = true → x.under m = true
  | .rf k _ _ _, hx => by simp only [VV.nms] at hx; simp only [VV.under, decide_eq_true_eq]; exact h k hx
  | .pt k _, hx => by simp only [VV.nms] at hx; simp only [VV.under, decide_eq_true_eq]; exact h k hx
  | .agg cs, hx | .tup cs, hx | .fn _ cs, hx => by simp only [VV.nms] at hx; simp only [VV.under]; exact nmsL_under h cs hx
  | .any, _ | .sc _, _ | .sl _ _, _ | .pd _, _ | .ow _ _, _ => by simp only [VV.under]
theorem nmsL_under {p : Nat → Bool} {m : Nat} (h : ∀ k, p k = true → k < m) : ∀ (cs : List VV), VV.nmsL p cs = true → VV.underL m cs = true
  | [], _ => rfl
  | c :: cs, hx => by
    simp only [VV.nmsL, Bool.and_eq_true] at hx
    simp only [VV.underL, nms_under h c hx.1, nmsL_under h cs hx.2, Bool.and_self]
end
mutual
theorem ren_nms {p : Nat → Bool} {σ : Nat → Nat} {m : Nat} (h : ∀ k, k < m → p (σ k) = true) : ∀ (x : VV), x.under m = true → (x.ren σ).nms p = true
  | .rf k _ _ _, hx => by simp only [VV.under, decide_eq_true_eq] at hx; simp only [VV.ren, VV.nms]; exact h k hx
  | .pt k _, hx => by simp only [VV.under, decide_eq_true_eq] at hx; simp only [VV.ren, VV.nms]; exact h k hx
  | .agg cs, hx | .tup cs, hx | .fn _ cs, hx => by simp only [VV.under] at hx; simp only [VV.ren, VV.nms]; exact renL_nms h cs hx
  | .any, _ | .sc _, _ | .sl _ _, _ | .pd _, _ | .ow _ _, _ => by simp only [VV.ren, VV.nms]
theorem renL_nms {p : Nat → Bool} {σ : Nat → Nat} {m : Nat} (h : ∀ k, k < m → p (σ k) = true) : ∀ (cs : List VV), VV.underL m cs = true → VV.nmsL p (VV.renL σ cs) = true
  | [], _ => rfl
  | c :: cs, hx => by
    simp only [VV.underL, Bool.and_eq_true] at hx
    simp only [VV.renL, VV.nmsL, ren_nms h c hx.1, renL_nms h cs hx.2, Bool.and_self]
end
mutual
theorem ren_ren {σ τ κ : Nat → Nat} {m : Nat} (h : ∀ k, k < m → τ (σ k) = κ k) : ∀ (x : VV), x.under m = true → (x.ren σ).ren τ = x.ren κ
  | .rf k _ _ _, hx => by simp only [VV.under, decide_eq_true_eq] at hx; simp only [VV.ren, h k hx]
  | .pt k _, hx => by simp only [VV.under, decide_eq_true_eq] at hx; simp only [VV.ren, h k hx]
  | .agg cs, hx => by simp only [VV.under] at hx; simp only [VV.ren, renL_renL h cs hx]
  | .tup cs, hx => by simp only [VV.under] at hx; simp only [VV.ren, renL_renL h cs hx]
  | .fn _ cs, hx => by simp only [VV.under] at hx; simp only [VV.ren, renL_renL h cs hx]
  | .any, _ | .sc _, _ | .sl _ _, _ | .pd _, _ | .ow _ _, _ => by simp only [VV.ren]
theorem renL_renL {σ τ κ : Nat → Nat} {m : Nat} (h : ∀ k, k < m → τ (σ k) = κ k) : ∀ (cs : List VV), VV.underL m cs = true → VV.renL τ (VV.renL σ cs) = VV.renL κ cs
  | [], _ => rfl
  | c :: cs, hx => by
    simp only [VV.underL, Bool.and_eq_true] at hx
    simp only [VV.renL, ren_ren h c hx.1, renL_renL h cs hx.2]
end
mutual
/-- Read in two places, the names known from the first. -/
theorem Rep.two {A B C : Cx} (hL : Le B.cl C.cl) (hN : ∀ k, A.N k → B.N k → C.N k ∧ C.ρ k = B.ρ k) : ∀ (x : VV) {u v : Value}, Rep A x u → Rep B x v → Rep C x v
  | .rf k off len z, u, v, h, g => by
    simp only [Rep] at h g ⊢
    obtain ⟨_, _, _, _, _, hk⟩ := h
    obtain ⟨a, c, e, hle, hd, hk'⟩ := g
    obtain ⟨h1, h2⟩ := hN k hk hk'
    rw [h2]
    exact ⟨a, c, e, hle, hd.imp id (fun h => ⟨h.1, hL.room _ _ h.2⟩), h1⟩
  | .pt k off, u, v, h, g => by
    simp only [Rep] at h g ⊢
    obtain ⟨h1, h2⟩ := hN k h.2 g.2
    rw [h2]; exact ⟨g.1, h1⟩
  | .agg cs, u, v, h, g => by
    simp only [Rep] at h g ⊢
    obtain ⟨us, _, h⟩ := h
    obtain ⟨vs, e, g⟩ := g
    exact ⟨vs, e, RepL.two hL hN cs h g⟩
  | .tup cs, u, v, h, g => by
    simp only [Rep] at h g ⊢
    obtain ⟨us, _, h⟩ := h
    obtain ⟨vs, e, g⟩ := g
    exact ⟨vs, e, RepL.two hL hN cs h g⟩
  | .fn f cs, u, v, h, g => by
    simp only [Rep] at h g ⊢
    obtain ⟨us, _, h⟩ := h
    obtain ⟨vs, e, g⟩ := g
    exact ⟨vs, e, RepL.two hL hN cs h g⟩
  | .any, _, _, _, _ => by simp only [Rep]
  | .sc w, _, _, _, g => by simpa only [Rep] using g
  | .ow z l, _, _, _, g => by simpa only [Rep] using g
  | .sl z l, _, v, _, g => by
    simp only [Rep] at g ⊢
    obtain ⟨a, c, e, hle, hd⟩ := g
    exact ⟨a, c, e, hle, hd.imp id (fun ⟨ad, h1, h2⟩ => ⟨ad, h1, RepR.mono hL z l h2⟩)⟩
  | .pd cs, _, v, _, g => by
    simp only [Rep] at g ⊢
    obtain ⟨ad, e, g⟩ := g
    exact ⟨ad, e, RepC.mono hL cs g⟩
theorem RepL.two {A B C : Cx} (hL : Le B.cl C.cl) (hN : ∀ k, A.N k → B.N k → C.N k ∧ C.ρ k = B.ρ k) : ∀ (cs : List VV) {us vs : List Value}, RepL A cs us → RepL B cs vs → RepL C cs vs
  | [], _, _, _, g => by simpa only [RepL] using g
  | c :: cs, us, vs, h, g => by
    simp only [RepL] at h g ⊢
    obtain ⟨u, us', _, h1, h2⟩ := h
    obtain ⟨v, vs', e, g1, g2⟩ := g
    exact ⟨v, vs', e, Rep.two hL hN c h1 g1, RepL.two hL hN cs h2 g2⟩
end
end Go.VM

/- VMO: a region that draws: one order derived, all orders shown. -/
namespace Go.VM
open Go.RowKit

/-- A call of which it is known which objects it touches; it makes no object. -/
def CallD0 (P : Program) (f : FuncId) (args : List VV) (H : Heap) (ks : List Nat) (r : VV) (H' : Heap) : Prop :=
  ∀ (H2 : Heap) (n : Nat), (∀ j ∈ ks, H2 j = H j) → CallP P f args H2 n fun r' H'' n' => r' = r ∧ n' = n ∧ ∀ j, H'' j = if j ∈ ks then H' j else H2 j
def mv (m n i : Nat) : Nat := if i = m then n else i
/-- One that makes one object, to be called m. -/
def CallD1 (P : Program) (f : FuncId) (args : List VV) (H : Heap) (m : Nat) (ks : List Nat) (r : VV) (H' : Heap) : Prop :=
  m ∈ ks ∧ H m = none ∧ (∀ j ∈ ks, j ≠ m → H j ≠ none) ∧ r.nms (fun k => ks.contains k) = true ∧ (∀ j cs, j ∈ ks → H' j = some cs → VV.nmsL (fun k => ks.contains k) cs = true) ∧
    ∀ (H2 : Heap) (n : Nat), (∀ j ∈ ks, H2 j = H j) → m < n → (∀ j ∈ ks, j < n) → CallP P f args H2 n fun r' H'' n' => r' = r.ren (mv m n) ∧ n' = n + 1 ∧ ∀ j, H'' j = if j = n then (H' m).map (VV.renL (mv m n)) else if j = m then none else if j ∈ ks then (H' j).map (VV.renL (mv m n)) else H2 j
def CallD (P : Program) (f : FuncId) (args : List VV) (H : Heap) (m : Nat) (ks : List Nat) (r : VV) (H' : Heap) : Prop :=
  (∀ j, j ∉ ks → H' j = H j) ∧ (CallD0 P f args H ks r H' ∨ CallD1 P f args H m ks r H')
def Disj (rd wr rd' wr' : List Nat) : Prop := (∀ k ∈ wr, k ∉ rd' ∧ k ∉ wr') ∧ ∀ k ∈ wr', k ∉ rd ∧ k ∉ wr
instance {a b c d : List Nat} : Decidable (Disj a b c d) := by unfold Disj; infer_instance
theorem Disj.loads {a b : List Nat} : Disj a [] b [] = True := eq_true ⟨fun _ h => by simp at h, fun _ h => by simp at h⟩
abbrev Log := List (Nat × List Nat × List Nat)
def okInc : Log → List Nat → List Nat → List Nat → Prop
  | [], _, _, _ => True
  | (m, rd', wr') :: l, inc, rd, wr => (m ∈ inc → Disj rd' wr' rd wr) ∧ okInc l inc rd wr
def addLog (i : Nat) : List Nat → List Nat → Log → Log
  | [], [], l => l
  | rd, wr, l => (i, rd, wr) :: l
def vdr1 (P : Program) (n i : Nat) (log : Log) (inc : List Nat) (o : VOper) (K : Log → Slots → Heap → Prop) (s : Slots) (H : Heap) : Prop :=
  match o.op with
  | .call f args => ∃ ks v H', CallD P f (args.map s.ev) H (n + i) ks v H' ∧ okInc log inc ks ks ∧ K (addLog i ks ks log) (s.put o.dst v) H'
  | .callv f args => match s.ev f with
    | .fn g caps => ∃ ks v H', CallD P g (args.map s.ev ++ caps) H (n + i) ks v H' ∧ okInc log inc ks ks ∧ K (addLog i ks ks log) (s.put o.dst v) H'
    | _ => False
  | op => match vop s.ev H (n + i) op with
    | some (v, H') => okInc log inc (rds s.ev op) (wrs (n + i) s.ev op) ∧ K (addLog i (rds s.ev op) (wrs (n + i) s.ev op) log) (s.put o.dst v) H'
    | none => False
def vdr (P : Program) (n : Nat) : List (VOper × List Nat) → Nat → Log → (Slots → Heap → Prop) → Slots → Heap → Prop
  | [], _, _, K, s, H => K s H
  | (o, inc) :: r, i, log, K, s, H => match gdV s o.gd with
    | some true => vdr1 P n i log inc o (fun log => vdr P n r (i + 1) log K) s H
    | some false => vdr P n r (i + 1) log K (s.put o.dst (.sc undef)) H
    | none => False

/-! ### What the derived order was -/
structure Rec where
  v : VV
  rd : List Nat
  wr : List Nat
  s : Slots
  H : Heap
inductive DStep (P : Program) (n i : Nat) (o : VOper) (t : Rec) (H' : Heap) : Prop where
  | off (hg : gdV t.s o.gd = some false) (hv : t.v = .sc undef) (hH : H' = t.H) (hr : t.rd = []) (hw : t.wr = [])
  | call (hg : gdV t.s o.gd = some true) (f : FuncId) (args : List Operand) (ho : o.op = .call f args) (hc : CallD P f (args.map t.s.ev) t.H (n + i) t.rd t.v H') (hw : t.wr = t.rd)
  | callv (hg : gdV t.s o.gd = some true) (f : Operand) (args : List Operand) (ho : o.op = .callv f args) (g : FuncId) (caps : List VV) (he : t.s.ev f = .fn g caps) (hc : CallD P g (args.map t.s.ev ++ caps) t.H (n + i) t.rd t.v H') (hw : t.wr = t.rd)
  | op (hg : gdV t.s o.gd = some true) (ho : isCall o.op = false) (hv : vop t.s.ev t.H (n + i) o.op = some (t.v, H')) (hr : t.rd = rds t.s.ev o.op) (hw : t.wr = wrs (n + i) t.s.ev o.op)

theorem okInc_mem : ∀ {l : Log} {inc rd wr : List Nat}, okInc l inc rd wr → ∀ m rd' wr', (m, rd', wr') ∈ l → m ∈ inc → Disj rd' wr' rd wr
  | [], _, _, _, _, _, _, _, h, _ => by simp at h
  | e :: l, inc, rd, wr, h, m, rd', wr', hm, hi => by
    obtain ⟨a, b, c⟩ := e
    simp only [okInc] at h
    rcases List.mem_cons.1 hm with e | hm
    · injection e with e1 e2; injection e2 with e2 e3; subst e1 e2 e3; exact h.1 hi
    · exact okInc_mem h.2 m rd' wr' hm hi
theorem addLog_mem {i : Nat} {rd wr : List Nat} {l : Log} : (∀ e ∈ l, e ∈ addLog i rd wr l) ∧ ((i, rd, wr) ∈ addLog i rd wr l ∨ (rd = [] ∧ wr = [])) := by
  cases rd with
  | nil => cases wr with
    | nil => exact ⟨fun _ h => h, .inr ⟨rfl, rfl⟩⟩
    | cons => exact ⟨fun _ h => List.mem_cons_of_mem _ h, .inl (by simp [addLog])⟩
  | cons => exact ⟨fun _ h => List.mem_cons_of_mem _ h, .inl (by simp [addLog])⟩
theorem Disj.nil {rd wr : List Nat} : Disj [] [] rd wr := ⟨fun _ h => by simp at h, fun _ _ => ⟨by simp, by simp⟩⟩
theorem Disj.nil' {rd wr : List Nat} : Disj rd wr [] [] := ⟨fun _ _ => ⟨by simp, by simp⟩, fun _ h => by simp at h⟩

structure Tr (P : Program) (n : Nat) (l : List (VOper × List Nat)) (i : Nat) (log : Log) (T : Nat → Rec) : Prop where
  step : ∀ j o inc, l[j]? = some (o, inc) → DStep P n (i + j) o (T (i + j)) (T (i + j + 1)).H ∧ (T (i + j + 1)).s = (T (i + j)).s.put o.dst (T (i + j)).v
  log : ∀ j o inc, l[j]? = some (o, inc) → ∀ m rd wr, (m, rd, wr) ∈ log → m ∈ inc → Disj rd wr (T (i + j)).rd (T (i + j)).wr
  inc : ∀ j o inc, l[j]? = some (o, inc) → ∀ m, i ≤ m → m < i + j → m ∈ inc → Disj (T m).rd (T m).wr (T (i + j)).rd (T (i + j)).wr

theorem vdr_tr {P : Program} {n : Nat} {K : Slots → Heap → Prop} : ∀ (l : List (VOper × List Nat)) (i : Nat) (log : Log) (s : Slots) (H : Heap), vdr P n l i log K s H →
    ∃ T : Nat → Rec, (T i).s = s ∧ (T i).H = H ∧ Tr P n l i log T ∧ K (T (i + l.length)).s (T (i + l.length)).H
  | [], i, log, s, H, h => by
    simp only [vdr] at h
    exact ⟨fun _ => ⟨.any, [], [], s, H⟩, rfl, rfl, ⟨fun j o inc h => by simp at h, fun j o inc h => by simp at h, fun j o inc h => by simp at h⟩, h⟩
  | (o, inc) :: r, i, log, s, H, h => by
    -- the tail's, and this one ahead of it
    have key : ∀ (v : VV) (rd wr : List Nat) (H' : Heap), DStep P n i o ⟨v, rd, wr, s, H⟩ H' → okInc log inc rd wr → vdr P n r (i + 1) (addLog i rd wr log) K (s.put o.dst v) H' →
        ∃ T : Nat → Rec, (T i).s = s ∧ (T i).H = H ∧ Tr P n ((o, inc) :: r) i log T ∧ K (T (i + (r.length + 1))).s (T (i + (r.length + 1))).H := by
      intro v rd wr H' hd hi ht
      obtain ⟨T, h1, h2, h3, h4⟩ := vdr_tr r (i + 1) _ _ _ ht
      let U : Nat → Rec := fun m => if m = i then ⟨v, rd, wr, s, H⟩ else T m
      have u0 : U i = ⟨v, rd, wr, s, H⟩ := if_pos rfl
      have u1 : ∀ m, i < m → U m = T m := fun m hm => if_neg (by omega)
      refine ⟨U, by rw [u0], by rw [u0], ⟨?_, ?_, ?_⟩, ?_⟩
      · intro j o' inc' hj
        cases j with
        | zero =>
          simp at hj; obtain ⟨rfl, rfl⟩ := hj
          rw [Nat.add_zero, u0, u1 (i + 1) (by omega), h2]
          exact ⟨hd, h1⟩
        | succ j =>
          have := h3.step j o' inc' (by simpa using hj)
          rw [u1 (i + (j + 1)) (by omega), u1 (i + (j + 1) + 1) (by omega)]
          rwa [show i + 1 + j = i + (j + 1) by omega] at this
      · intro j o' inc' hj m rd' wr' hm hmi
        cases j with
        | zero =>
          simp at hj; obtain ⟨rfl, rfl⟩ := hj
          rw [Nat.add_zero, u0]
          exact okInc_mem hi m rd' wr' hm hmi
        | succ j =>
          rw [u1 (i + (j + 1)) (by omega)]
          have := h3.log j o' inc' (by simpa using hj) m rd' wr' (addLog_mem.1 _ hm) hmi
          rwa [show i + 1 + j = i + (j + 1) by omega] at this
      · intro j o' inc' hj m h5 h6 hmi
        cases j with
        | zero => omega
        | succ j =>
          rw [u1 (i + (j + 1)) (by omega)]
          by_cases hm : m = i
          · subst hm
            rw [u0]
            rcases (addLog_mem (i := m) (rd := rd) (wr := wr) (l := log)).2 with hl | ⟨rfl, rfl⟩
            · have := h3.log j o' inc' (by simpa using hj) m rd wr hl hmi
              rwa [show m + 1 + j = m + (j + 1) by omega] at this
            · exact Disj.nil
          · rw [u1 m (by omega)]
            have := h3.inc j o' inc' (by simpa using hj) m (by omega) (by omega) hmi
            rwa [show i + 1 + j = i + (j + 1) by omega] at this
      · rw [u1 _ (by omega)]
        rwa [show i + 1 + r.length = i + (r.length + 1) by omega] at h4
    simp only [vdr] at h
    simp only [List.length_cons]
    split at h
    · rename_i hg
      unfold vdr1 at h
      split at h
      · rename_i f args ho
        obtain ⟨ks, v, H', hc, hi, ht⟩ := h
        exact key v ks ks H' (.call hg f args ho hc rfl) hi ht
      · rename_i f args ho
        split at h
        · rename_i g caps he
          obtain ⟨ks, v, H', hc, hi, ht⟩ := h
          exact key v ks ks H' (.callv hg f args ho g caps he hc rfl) hi ht
        · exact h.elim
      · rename_i op hn1 hn2
        split at h
        · rename_i v H' hv
          have hic : isCall o.op = false := by
            cases he : o.op with
            | call f a => exact (hn1 f a he).elim
            | callv f a => exact (hn2 f a he).elim
            | _ => rfl
          exact key v _ _ H' (.op hg hic hv rfl rfl) h.1 h.2
        · exact h.elim
    · rename_i hg
      have hl : addLog i [] [] log = log := rfl
      refine key (.sc undef) [] [] H (.off hg rfl rfl rfl rfl) ?_ (by rw [hl]; exact h)
      clear h key hl
      induction log with
      | nil => simp [okInc]
      | cons e l ih => obtain ⟨a, b, c⟩ := e; exact ⟨fun _ => Disj.nil', ih⟩
    · exact h.elim

/-! ### The heap behind some of them -/
def hpS (T : Nat → Rec) (S : Nat → Bool) : Nat → Heap
  | 0 => (T 0).H
  | m + 1 => fun k => if S m = true ∧ k ∈ (T m).wr then (T (m + 1)).H k else hpS T S m k
theorem hpS_congr {T : Nat → Rec} {S S' : Nat → Bool} {k : Nat} : ∀ (m : Nat), (∀ j, j < m → k ∈ (T j).wr → S j = S' j) → hpS T S m k = hpS T S' m k
  | 0, _ => rfl
  | m + 1, h => by
    simp only [hpS]
    rw [hpS_congr m (fun j hj => h j (by omega))]
    by_cases hk : k ∈ (T m).wr
    · rw [h m (by omega) hk]
    · simp [hk]
theorem hpS_text {T : Nat → Rec} {k : Nat} {N : Nat} (hf : ∀ i, i < N → k ∉ (T i).wr → (T (i + 1)).H k = (T i).H k) : ∀ (m i : Nat), i ≤ m → m ≤ N → hpS T (fun j => decide (j < i)) m k = (T i).H k
  | 0, i, h, _ => by
    have : i = 0 := by omega
    subst this; rfl
  | m + 1, i, h, hN => by
    simp only [hpS]
    by_cases hi : i = m + 1
    · subst hi
      by_cases hk : k ∈ (T m).wr
      · rw [if_pos ⟨by simp, hk⟩]
      · rw [if_neg (fun x => hk x.2)]
        rw [hpS_congr (S' := fun j => decide (j < m)) m (fun j hj _ => by simp; omega), hpS_text hf m m (by omega) (by omega), hf m (by omega) hk]
    · rw [if_neg (fun x => by simp at x; omega)]
      exact hpS_text hf m i (by omega) (by omega)
end Go.VM

/- VMP: a region that draws: the proof. -/
namespace Go.VM
open Go.RowKit

/-! ### What is looked up once -/
def edges (o : Oper) : List Nat := (o.after.toList.filter (Region.binds .any)).map (·.on)
def cloRow (M : List Nat) (e : List Nat) : Nat := e.foldl (fun b k => b ||| (2 ^ k ||| M.getD k 0)) 0
def clos : List Nat → List (List Nat) → List Nat
  | acc, [] => acc
  | acc, e :: r => clos (acc ++ [cloRow acc e]) r
def okPair (vs : List VOper) (M : List Nat) (i j : Nat) : Bool :=
  match vs[i]?, vs[j]? with
  | some a, some b => match a.dst with
    | some d => b.dst != some d && (!(looksV b).contains d || (M.getD j 0).testBit i || (M.getD i 0).testBit j)
    | none => true
  | _, _ => true
def okDraw (es : List (List Nat)) (vs : List VOper) (M : List Nat) : Bool :=
  (List.range vs.length).all fun i => (es.getD i []).all (fun j => decide (j < i)) && M.getD i 0 == cloRow M (es.getD i []) &&
    (List.range vs.length).all fun j => j == i || okPair vs M i j
def incs (vs : List VOper) (M : List Nat) (i : Nat) : List Nat :=
  match vs[i]? with
  | some a => if heapy a.op then (List.range i).filter fun j => (match vs[j]? with | some b => heapy b.op | none => false) && !(M.getD i 0).testBit j else []
  | none => []
def withInc (vs : List VOper) (M : List Nat) : Nat → List VOper → List (VOper × List Nat)
  | _, [] => []
  | i, v :: r => (v, incs vs M i) :: withInc vs M (i + 1) r
def compDraw (P : Program) (m : Nat) (ops : Array Oper) : Option (List (VOper × List Nat)) :=
  match compOps P m ops ops.toList with
  | some vs => let es := ops.toList.map edges
    let M := clos [] es
    if P.follows .mixedOrders && okDraw es vs M then some (withInc vs M 0 vs) else none
  | none => none

theorem withInc_get {vs : List VOper} {M : List Nat} : ∀ (l : List VOper) (i j : Nat), (withInc vs M i l)[j]? = (l[j]?).map fun v => (v, incs vs M (i + j))
  | [], i, j => by simp [withInc]
  | v :: l, i, 0 => by simp [withInc]
  | v :: l, i, j + 1 => by
    simp only [withInc, List.getElem?_cons_succ]
    rw [withInc_get l (i + 1) j, show i + 1 + j = i + (j + 1) by omega]
theorem withInc_length {vs : List VOper} {M : List Nat} : ∀ (l : List VOper) (i : Nat), (withInc vs M i l).length = l.length
  | [], _ => rfl
  | _ :: l, i => by simp [withInc, withInc_length l]
theorem compOps_get {P : Program} {m : Nat} {ops : Array Oper} : ∀ (os : List Oper) (vs : List VOper), compOps P m ops os = some vs → vs.length = os.length ∧ ∀ (i : Nat) (o : Oper), os[i]? = some o → ∃ v, vs[i]? = some v ∧ compOper P m ops o = some v
  | [], vs, h => by
    simp only [compOps] at h; injection h with h; subst h
    exact ⟨rfl, fun i o h => by simp at h⟩
  | o :: os, vs, h => by
    simp only [compOps] at h
    split at h
    · rename_i v l hv hl
      injection h with h; subst h
      obtain ⟨h1, h2⟩ := compOps_get os l hl
      refine ⟨by simp [h1], fun i p hi => ?_⟩
      cases i with
      | zero => simp at hi; subst hi; exact ⟨v, rfl, hv⟩
      | succ i => exact h2 i p (by simpa using hi)
    · simp at h
theorem cloRow_bit {M : List Nat} {j : Nat} : ∀ (e : List Nat) (b : Nat), (e.foldl (fun b k => b ||| (2 ^ k ||| M.getD k 0)) b).testBit j = true → b.testBit j = true ∨ ∃ k ∈ e, j = k ∨ (M.getD k 0).testBit j = true
  | [], b, h => .inl h
  | k :: e, b, h => by
    simp only [List.foldl_cons] at h
    rcases cloRow_bit e _ h with h | ⟨q, hq, h⟩
    · rw [Nat.testBit_or, Nat.testBit_or, Bool.or_eq_true, Bool.or_eq_true] at h
      rcases h with h | h | h
      · exact .inl h
      · rw [Nat.testBit_two_pow] at h
        exact .inr ⟨k, by simp, .inl (of_decide_eq_true h).symm⟩
      · exact .inr ⟨k, by simp, .inr h⟩
    · exact .inr ⟨q, by simp [hq], h⟩

/-- What the table is good for. -/
structure Tab (es : List (List Nat)) (vs : List VOper) (M : List Nat) : Prop where
  back : ∀ i < vs.length, ∀ j ∈ es.getD i [], j < i
  row : ∀ i < vs.length, M.getD i 0 = cloRow M (es.getD i [])
  pair : ∀ i < vs.length, ∀ j < vs.length, j ≠ i → okPair vs M i j = true
theorem Tab.of {es : List (List Nat)} {vs : List VOper} {M : List Nat} (h : okDraw es vs M = true) : Tab es vs M := by
  unfold okDraw at h
  have h := fun i hi => List.all_eq_true.1 h i (List.mem_range.2 hi)
  simp only [Bool.and_eq_true, List.all_eq_true, beq_iff_eq, decide_eq_true_eq, List.mem_range, Bool.or_eq_true] at h
  exact ⟨fun i hi => (h i hi).1.1, fun i hi => (h i hi).1.2, fun i hi j hj hne => ((h i hi).2 j hj).resolve_left hne⟩
theorem Tab.lt {es : List (List Nat)} {vs : List VOper} {M : List Nat} (h : Tab es vs M) : ∀ (i : Nat), i < vs.length → ∀ j, (M.getD i 0).testBit j = true → j < i := by
  intro i
  induction i using Nat.strongRecOn with
  | ind i ih =>
    intro hi j hj
    rw [h.row i hi] at hj
    rcases cloRow_bit _ _ hj with hj | ⟨k, hk, hj⟩
    · simp at hj
    · have hki := h.back i hi k hk
      rcases hj with rfl | hj
      · exact hki
      · exact Nat.lt_trans (ih k hki (by omega) j hj) hki
theorem Tab.closed {es : List (List Nat)} {vs : List VOper} {M : List Nat} (h : Tab es vs M) {S : Nat → Bool} (hS : ∀ i, i < vs.length → S i = true → ∀ j ∈ es.getD i [], S j = true) :
    ∀ (i : Nat), i < vs.length → (∀ j ∈ es.getD i [], S j = true) → ∀ j, (M.getD i 0).testBit j = true → S j = true := by
  intro i
  induction i using Nat.strongRecOn with
  | ind i ih =>
    intro hi he j hj
    rw [h.row i hi] at hj
    rcases cloRow_bit _ _ hj with hj | ⟨k, hk, hj⟩
    · simp at hj
    · have hki := h.back i hi k hk
      rcases hj with rfl | hj
      · exact he _ hk
      · exact ih k hki (by omega) (hS k (by omega) (he k hk)) j hj

/-! ### What holds while it runs -/
def SlS (vs : List VOper) (T : Nat → Rec) (s0 : Slots) (S : Nat → Bool) (s : Slots) : Prop :=
  ∀ d, (∀ i v, S i = true → vs[i]? = some v → v.dst = some d → s d = (T i).v) ∧ ((∀ i v, S i = true → vs[i]? = some v → v.dst ≠ some d) → s d = s0 d)
structure DInv (X : Fn) (n : Nat) (vs : List VOper) (T : Nat → Rec) (s0 : Slots) (S : Nat → Bool) (C : Cx) (s : Slots) (H : Heap) (a : Act) : Prop where
  here : At X C s H (n + vs.length) a
  nm : ∀ j, C.N j → j < n ∨ ∃ i, S i = true ∧ j = n + i
  sl : SlS vs T s0 S s
  hp : ∀ k, H k = hpS T S vs.length k

def addS (S : Nat → Bool) (i : Nat) : Nat → Bool := fun m => S m || m == i

section
variable {X : Fn} {n : Nat} {es : List (List Nat)} {vs : List VOper} {M : List Nat} {T : Nat → Rec} {s0 : Slots}

theorem SlS.add (hT : Tab es vs M) {S : Nat → Bool} {s : Slots} (h : SlS vs T s0 S s) {i : Nat} {v : VOper} (hv : vs[i]? = some v) (hi : S i = false) : SlS vs T s0 (addS S i) (s.put v.dst (T i).v) := by
  have hil : i < vs.length := (List.getElem?_eq_some_iff.1 hv).1
  intro d
  have uniq : ∀ (j : Nat) (w : VOper), vs[j]? = some w → j ≠ i → v.dst = some d → w.dst ≠ some d := by
    intro j w hw hne hd
    have hjl : j < vs.length := (List.getElem?_eq_some_iff.1 hw).1
    have := hT.pair i hil j hjl hne
    simp only [okPair, hv, hw, hd, Bool.and_eq_true, bne_iff_ne] at this
    exact this.1
  by_cases hd : v.dst = some d
  · have e : s.put v.dst (T i).v d = (T i).v := by rw [hd]; simp [Slots.put]
    refine ⟨fun j w hj hw hwd => ?_, fun hno => ?_⟩
    · rw [e]
      by_cases hji : j = i
      · subst hji; rfl
      · exact absurd hwd (uniq j w hw hji hd)
    · exact absurd hd (hno i v (by simp [addS]) hv)
  · have e : s.put v.dst (T i).v d = s d := by
      cases hvd : v.dst with
      | none => rfl
      | some d' => simp only [Slots.put]; rw [if_neg]; intro x; subst x; exact hd hvd
    rw [e]
    refine ⟨fun j w hj hw hwd => ?_, fun hno => ?_⟩
    · have hj' : S j = true := by
        simp only [addS, Bool.or_eq_true, beq_iff_eq] at hj
        rcases hj with hj | rfl
        · exact hj
        · rw [hv] at hw; injection hw with hw; subst hw; exact absurd hwd hd
      exact (h d).1 j w hj' hw hwd
    · exact (h d).2 fun j w hj hw => hno j w (by simp [addS, hj]) hw
theorem SlS.text (hT : Tab es vs M) (hst : ∀ i v, vs[i]? = some v → (T (i + 1)).s = (T i).s.put v.dst (T i).v) (h0 : (T 0).s = s0) : ∀ (i : Nat), i ≤ vs.length → SlS vs T s0 (fun j => decide (j < i)) (T i).s
  | 0, _ => by
    rw [h0]
    exact fun d => ⟨fun i v h => by simp at h, fun _ => rfl⟩
  | i + 1, hi => by
    have hv : vs[i]? = some vs[i] := List.getElem?_eq_getElem (by omega)
    rw [hst i _ hv]
    have := (SlS.text hT hst h0 i (by omega)).add hT hv (by simp)
    have e : addS (fun j => decide (j < i)) i = fun j => decide (j < i + 1) := by
      funext j
      rw [Bool.eq_iff_iff]
      simp only [addS, Bool.or_eq_true, decide_eq_true_eq, beq_iff_eq]
      omega
    rwa [e] at this
/-- A ready operation sees the slots it saw. -/
theorem SlS.looks (hT : Tab es vs M) {S : Nat → Bool} {s s' : Slots} (hcl : ∀ i, i < vs.length → S i = true → ∀ j ∈ es.getD i [], S j = true) {i : Nat} {v : VOper} (hv : vs[i]? = some v) (hi : S i = false)
    (hr : ∀ j ∈ es.getD i [], S j = true) (h : SlS vs T s0 S s) (h' : SlS vs T s0 (fun j => decide (j < i)) s') : ∀ d ∈ looksV v, s d = s' d := by
  have hil : i < vs.length := (List.getElem?_eq_some_iff.1 hv).1
  intro d hd
  by_cases hex : ∃ (j : Nat) (w : VOper), vs[j]? = some w ∧ w.dst = some d
  · obtain ⟨j, w, hw, hwd⟩ := hex
    have hjl : j < vs.length := (List.getElem?_eq_some_iff.1 hw).1
    have uniq : ∀ (q : Nat) (u : VOper), vs[q]? = some u → q ≠ j → u.dst ≠ some d := by
      intro q u hu hne
      have := hT.pair j hjl q (List.getElem?_eq_some_iff.1 hu).1 hne
      simp only [okPair, hw, hu, hwd, Bool.and_eq_true, bne_iff_ne] at this
      exact this.1
    -- it is there in both, or in neither
    have both : S j = true ∧ j < i ∨ S j = false ∧ i ≤ j := by
      by_cases hji : j = i
      · subst hji; exact .inr ⟨hi, Nat.le_refl _⟩
      · have := hT.pair j hjl i hil (Ne.symm hji)
        simp only [okPair, hw, hv, hwd, Bool.and_eq_true, bne_iff_ne, Bool.or_eq_true, Bool.not_eq_true'] at this
        rcases this.2 with (hc | hb) | hb
        · rw [List.contains_eq_mem] at hc; simp [hd] at hc
        · exact .inl ⟨hT.closed hcl i hil hr j hb, hT.lt i hil j hb⟩
        · right
          refine ⟨?_, Nat.le_of_lt (hT.lt j hjl i hb)⟩
          cases hSj : S j with
          | false => rfl
          | true =>
            have := hT.closed hcl j hjl (hcl j hjl hSj) i hb
            rw [hi] at this; exact absurd this (by simp)
    rcases both with ⟨h1, h2⟩ | ⟨h1, h2⟩
    · rw [(h d).1 j w h1 hw hwd, (h' d).1 j w (by simpa using h2) hw hwd]
    · have e1 := (h d).2 fun q u hq hu => by
        by_cases hqj : q = j
        · subst hqj; rw [h1] at hq; simp at hq
        · exact uniq q u hu hqj
      have e2 := (h' d).2 fun q u hq hu => by
        by_cases hqj : q = j
        · subst hqj; have := of_decide_eq_true hq; omega
        · exact uniq q u hu hqj
      rw [e1, e2]
  · have hno : ∀ (j : Nat) (w : VOper), vs[j]? = some w → w.dst ≠ some d := fun j w hw hwd => hex ⟨j, w, hw, hwd⟩
    rw [(h d).2 fun q u _ hu => hno q u hu, (h' d).2 fun q u _ hu => hno q u hu]

/-- Two operations that touch the same object stand in the edges' order. -/
structure Fit (es : List (List Nat)) (vs : List VOper) (M : List Nat) (T : Nat → Rec) : Prop where
  frame : ∀ i k, i < vs.length → k ∉ (T i).wr → (T (i + 1)).H k = (T i).H k
  cmp : ∀ i j k, i < vs.length → j < vs.length → i ≠ j → k ∈ (T j).wr → k ∈ (T i).rd ∨ k ∈ (T i).wr → (M.getD j 0).testBit i = true ∨ (M.getD i 0).testBit j = true

theorem Fit.heap (hT : Tab es vs M) (hF : Fit es vs M T) {S : Nat → Bool} (hcl : ∀ i, i < vs.length → S i = true → ∀ j ∈ es.getD i [], S j = true) {i : Nat} (hil : i < vs.length) (hi : S i = false)
    (hr : ∀ j ∈ es.getD i [], S j = true) {k : Nat} (hk : k ∈ (T i).rd ∨ k ∈ (T i).wr) : ∀ j, j < vs.length → k ∈ (T j).wr → S j = decide (j < i) := by
  intro j hj hkj
  by_cases hji : j = i
  · subst hji; rw [hi]; simp
  · rcases hF.cmp i j k hil hj (Ne.symm hji) hkj hk with hb | hb
    · have h1 := hT.lt j hj i hb
      rw [show decide (j < i) = false by simp; omega]
      cases hSj : S j with
      | false => rfl
      | true =>
        have := hT.closed hcl j hj (hcl j hj hSj) i hb
        rw [hi] at this; exact this.symm
    · have h1 := hT.lt i hil j hb
      rw [show decide (j < i) = true by simpa using h1]
      exact hT.closed hcl i hil hr j hb

theorem DInv.step (hT : Tab es vs M) (hF : Fit es vs M T) {ops : Array Oper} (hst : ∀ i v, vs[i]? = some v → DStep X.P n i v (T i) (T (i + 1)).H) (htx : ∀ i, i ≤ vs.length → SlS vs T s0 (fun j => decide (j < i)) (T i).s)
    {S : Nat → Bool} {C : Cx} {s : Slots} {H : Heap} {a : Act} (h : DInv X n vs T s0 S C s H a) (hn : X.n ≤ n) (hcl : ∀ i, i < vs.length → S i = true → ∀ j ∈ es.getD i [], S j = true)
    {i : Nat} {v : VOper} (hv : vs[i]? = some v) (hi : S i = false) (hr : ∀ j ∈ es.getD i [], S j = true) {o : Oper} (ho : ops[i]? = some o) (hc : compOper X.P X.m ops o = some v)
    {K : Act → World → Prop} {Q : Exit → Act → World → Prop} (hK : ∀ C' s' H' a', DInv X n vs T s0 (addS S i) C' s' H' a' → K a' C'.w) : wpOp X.P ops Q i K a C.w := by
  have hil : i < vs.length := (List.getElem?_eq_some_iff.1 hv).1
  obtain ⟨hop, hd, hdst⟩ := compOper_ok hc
  have hlook := SlS.looks hT hcl hv hi hr h.sl (htx i (by omega))
  have hgd : gdV s v.gd = gdV (T i).s v.gd := by
    cases hg : v.gd with
    | none => rfl
    | some p => obtain ⟨d, b⟩ := p; simp only [gdV]; rw [hlook d (by simp [looksV, hg])]
  have hopd : ∀ x ∈ opds v.op, s.ev x = (T i).s.ev x := ev_congr fun t ht => hlook t (by
    unfold looksV; split
    · exact List.mem_cons_of_mem _ ht
    · exact ht)
  have hcmp := fun {k : Nat} (hk : k ∈ (T i).rd ∨ k ∈ (T i).wr) => Fit.heap hT hF hcl hil hi hr hk
  have hheap : ∀ k, k ∈ (T i).rd ∨ k ∈ (T i).wr → H k = (T i).H k := by
    intro k hk
    rw [h.hp k, hpS_congr vs.length (hcmp hk)]
    exact hpS_text (fun j hj => hF.frame j k hj) vs.length i (by omega) (Nat.le_refl _)
  -- the heap behind it
  have hp' : ∀ H' : Heap, (∀ k, k ∈ (T i).wr → H' k = (T (i + 1)).H k) → (∀ k, k ∉ (T i).wr → H' k = H k) → ∀ k, H' k = hpS T (addS S i) vs.length k := by
    intro H' h1 h2 k
    by_cases hk : k ∈ (T i).wr
    · rw [h1 k hk]
      have e : hpS T (addS S i) vs.length k = hpS T (fun j => decide (j < i + 1)) vs.length k := hpS_congr _ fun j hj hkj => by
        unfold addS
        rw [hcmp (.inr hk) j hj hkj]
        by_cases h1 : j = i
        · subst h1; simp
        · rw [show (j == i) = false by simpa using h1, Bool.or_false]
          by_cases h2 : j < i
          · simp [h2]; omega
          · simp [h2]; omega
      rw [e]
      exact (hpS_text (fun j hj => hF.frame j k hj) vs.length (i + 1) (by omega) (Nat.le_refl _)).symm
    · rw [h2 k hk, h.hp k]
      refine hpS_congr _ fun j hj hkj => ?_
      unfold addS
      by_cases h1 : j = i
      · subst h1; exact absurd hkj hk
      · rw [show (j == i) = false by simpa using h1, Bool.or_false]
  have sl' := h.sl.add hT hv hi
  have nm' : ∀ j, (j < n ∨ ∃ q, S q = true ∧ j = n + q) → j < n ∨ ∃ q, addS S i q = true ∧ j = n + q := fun j hj => hj.imp id fun ⟨q, h1, h2⟩ => ⟨q, by simp [addS, h1], h2⟩
  unfold wpOp
  rw [ho]
  simp only
  -- a call
  have call : ∀ (f : FuncId) (args : List VV) (us : List Value), RepL C args us → CallD X.P f args (T i).H (n + i) (T i).rd (T i).v (T (i + 1)).H → (T i).wr = (T i).rd →
      (∀ w, (∃ fn, X.P.funcs[f]? = some fn ∧ fn.body.isSome ∧ fn.name ≠ "runtime.NumGoroutine") → (execOp a.eval o).run X.P w = .ok (.enter f us.toArray) w) → o.wp X.P a C.w K Q := by
    rintro f args us hrep ⟨hfr, hcall⟩ hw hrun
    rcases hcall with hcall | ⟨hm1, hm2, hm3, hm4, hm5, hcall⟩
    · obtain ⟨F, hsat, hSp⟩ := hcall H (n + vs.length) (fun j hj => hheap j (.inl hj))
      unfold Oper.wp
      rw [hrun C.w hsat.fn, Oper.upon_enter]
      refine (hsat.calls args H _ _ hSp C us h.here.stp.hok h.here.stp.bd h.here.stp.nN hrep).mono ?_
      rintro e w' ⟨r, H', n', C', u, ⟨rfl, rfl, hH'⟩, rfl, rfl, hru, hstp⟩
      refine hK C' _ H' _ ⟨⟨h.here.stp.trans hstp, ?_⟩, fun j hj => ?_, sl', hp' H' (fun k hk => ?_) (fun k hk => ?_)⟩
      · rw [hdst]; exact h.here.st.put hstp.le hd hru
      · rcases hstp.nO j hj with hN | hN
        · exact nm' j (h.nm j hN)
        · have := hstp.nN j hj; omega
      · rw [hH' k, if_pos (hw ▸ hk)]
      · rw [hH' k, if_neg (hw ▸ hk)]
    · have hS := h.here.stp
      have hmN : n + i < n + vs.length := by omega
      have hkN : ∀ j ∈ (T i).rd, j < n + vs.length := fun j hj => by
        by_cases e : j = n + i
        · omega
        · have h1 := hm3 j hj e
          rw [← hheap j (.inl hj)] at h1
          obtain ⟨cs, hcs⟩ := Option.ne_none_iff_exists'.1 h1
          exact hS.nN j (hS.hok.nm j cs hcs)
      have hfresh : ¬ C.N (n + i) := by
        intro hN
        rcases h.nm _ hN with h1 | ⟨q, h1, h2⟩
        · omega
        · have : q = i := by omega
          subst this; rw [hi] at h1; simp at h1
      obtain ⟨F, hsat, hSp⟩ := hcall H (n + vs.length) (fun j hj => hheap j (.inl hj)) hmN hkN
      unfold Oper.wp
      rw [hrun C.w hsat.fn, Oper.upon_enter]
      refine (hsat.calls args H _ _ hSp C us hS.hok hS.bd hS.nN hrep).mono ?_
      rintro e w' ⟨r, H', n', C', u, ⟨rfl, rfl, hH'⟩, rfl, rfl, hru, hstp⟩
      -- the new object gets the name that the text gives it
      generalize hM : n + vs.length = M at *
      let C1 : Cx := covC C' (mv (n + i) M) H' (fun _ => False) M
      let HT : Heap := fun j => if j ∈ (T i).rd then (T (i + 1)).H j else H j
      have hmv : ∀ k, k ≠ n + i → mv (n + i) M k = k := fun k hk => if_neg hk
      have hmv' : mv (n + i) M (n + i) = M := if_pos rfl
      have hF1 : ∀ b, C1.F b ↔ C'.F b := fun b => ⟨fun x => x.1, fun x => ⟨x, fun ⟨_, hd, _⟩ => hd⟩⟩
      have hLe : Le C C1 := by
        refine ⟨fun k hk => ?_, fun k hk => ?_, fun b v h1 h2 => ?_, hstp.le.room⟩
        · have : k ≠ n + i := fun e => hfresh (e ▸ hk)
          exact ⟨by rw [hmv k this]; exact hstp.le.N k hk, hS.nN k hk⟩
        · have : k ≠ n + i := fun e => hfresh (e ▸ hk)
          show C'.ρ (mv (n + i) M k) = _
          rw [hmv k this]; exact hstp.le.ρ k hk
        · have := hstp.le.cell b v h1 h2
          exact ⟨this.1, fun x => this.2 x.1⟩
      have hcl' : Le C'.cl C1.cl := le_cov' C' _ _ _ _
      have hund : ∀ x : VV, x.nms (fun k => (T i).rd.contains k) = true → x.under M = true := fun x hx => nms_under (fun k hk => hkN k (by simpa using hk)) x hx
      have hundL : ∀ xs : List VV, VV.nmsL (fun k => (T i).rd.contains k) xs = true → VV.underL M xs = true := fun x hx => nmsL_under (fun k hk => hkN k (by simpa using hk)) x hx
      have hru1 : Rep C1 (T i).v u := (conv_ren (σ := mv (n + i) M) (H := H') (T i).v (hund _ hm4)).ok hstp.hok hru
      have hol : ∀ k, C1.ol k = C'.ol (mv (n + i) M k) := fun k => rfl
      have hlive : ∀ k, HT k ≠ none → H' (mv (n + i) M k) ≠ none ∧ k < M := by
        intro k hk
        have hk' : (if k ∈ (T i).rd then (T (i + 1)).H k else H k) ≠ none := hk
        by_cases hkr : k ∈ (T i).rd
        · rw [if_pos hkr] at hk'
          refine ⟨?_, hkN k hkr⟩
          by_cases e : k = n + i
          · rw [e, hmv', hH' M, if_pos rfl]
            rw [e] at hk'
            simpa using hk'
          · rw [hmv k e, hH' k, if_neg (by have := hkN k hkr; omega), if_neg e, if_pos hkr]
            simpa using hk'
        · rw [if_neg hkr] at hk'
          obtain ⟨cs, hcs⟩ := Option.ne_none_iff_exists'.1 hk'
          have hkM := hS.nN k (hS.hok.nm k cs hcs)
          have e : k ≠ n + i := fun e => hkr (e ▸ hm1)
          refine ⟨?_, hkM⟩
          rw [hmv k e, hH' k, if_neg (by omega), if_neg e, if_neg hkr]
          exact hk'
      have hinj : ∀ k k', k < M → k' < M → mv (n + i) M k = mv (n + i) M k' → k = k' := by
        intro k k' hk hk' e
        unfold mv at e
        split at e <;> split at e <;> omega
      have hok1 : HOk C1 HT := by
        refine ⟨fun k cs hk => ?_, fun k hk b hb => ?_, fun k cs hk => ?_, fun k hk => ?_, fun k k' hk hk' hne b hb hb' => ?_⟩
        · obtain ⟨h1, h2⟩ := hlive k (by rw [hk]; simp)
          obtain ⟨es, hes⟩ := Option.ne_none_iff_exists'.1 h1
          exact ⟨hstp.hok.nm _ es hes, h2⟩
        · rw [hol] at hb
          exact (hF1 b).2 (hstp.hok.own _ (hlive k hk).1 b hb)
        · have hk' : (if k ∈ (T i).rd then (T (i + 1)).H k else H k) = some cs := hk
          by_cases hkr : k ∈ (T i).rd
          · rw [if_pos hkr] at hk'
            have hval : H' (mv (n + i) M k) = some (VV.renL (mv (n + i) M) cs) := by
              by_cases e : k = n + i
              · rw [e, hmv', hH' M, if_pos rfl, ← e, hk']; rfl
              · rw [hmv k e, hH' k, if_neg (by have := hkN k hkr; omega), if_neg e, if_pos hkr, hk']; rfl
            obtain ⟨ws, T', fr, g1, g2, g3, g4, g5, g6⟩ := hstp.hok.obj _ _ hval
            obtain ⟨c1, c2⟩ := conv_renL (σ := mv (n + i) M) (H := H') cs (hundL cs (hm5 k cs hkr hk'))
            refine ⟨ws, T', fr, g1, g2, by rw [← c1]; exact g3, ?_, by rw [← c1]; exact g5, conv_DsL (τ := mv (n + i) M) (H := H') (D := fun _ => False) (n' := M) hcl' rfl c1 (fun j x y hx hy => ⟨c2 j x y hx hy, fun hdr => ?_⟩) g6⟩
            · rw [← c1]
              exact g4.of_cells c1 fun j x y v hx hy hr => (c2 j x y hx hy).ok hstp.hok hr
            · rw [renL_map, List.getElem?_map, hy] at hx
              injection hx with hx; subst hx
              rw [ren_dry] at hdr
              cases y <;> simp [VV.dry] at hdr <;> rfl
          · rw [if_neg hkr] at hk'
            have e : k ≠ n + i := fun e => hkr (e ▸ hm1)
            have hkM := hS.nN k (hS.hok.nm k cs hk')
            have hval : H' k = some cs := by rw [hH' k, if_neg (by omega), if_neg e, if_neg hkr, hk']
            obtain ⟨ws, T', fr, g1, g2, g3, g4, g5, g6⟩ := hstp.hok.obj k cs hval
            obtain ⟨ws0, _, _, _, _, _, k4, _⟩ := hS.hok.obj k cs hk'
            have e1 : C1.ρ k = C'.ρ k := by show C'.ρ (mv (n + i) M k) = _; rw [hmv k e]
            have e2 : C1.φ k = C'.φ k := by show C'.φ (mv (n + i) M k) = _; rw [hmv k e]
            rw [e1, e2]
            refine ⟨ws, T', fr, g1, g2, g3, k4.two hcl' (fun q hA hB => ?_) cs g4, g5, DsL.mono' hcl' cs (fun _ _ => rfl) g6⟩
            have : q ≠ n + i := fun e => hfresh (e ▸ hA)
            exact ⟨⟨by rw [hmv q this]; exact hB, hS.nN q hA⟩, by show C'.ρ (mv (n + i) M q) = _; rw [hmv q this]⟩
        · rw [hol]; exact hstp.hok.nodup _ (hlive k hk).1
        · rw [hol] at hb hb'
          exact hstp.hok.sep _ _ (hlive k hk).1 (hlive k' hk').1 (fun e => hne (hinj k k' (hlive k hk).2 (hlive k' hk').2 e)) b hb hb'
      have hstp1 : StpM X.C C1 X.H HT X.n M := by
        refine ⟨hS.le.trans hLe, fr_trans hS.fr hstp.fr hS.ow, hok1, fun b hb => hstp.bd b hb.1, hS.nn, fun j hj => hj.2, fun j hj => ?_, fun b hb hF => ?_, fun b hb => ?_, ?_⟩
        · by_cases e : j = n + i
          · exact .inr (by omega)
          · have hj1 : C'.N j := by have := hj.1; rwa [hmv j e] at this
            rcases hstp.nO j hj1 with hN | hN
            · exact hS.nO j hN
            · have := hj.2; omega
        · rcases hS.mF b hb hF with h1 | h1
          · rcases hstp.mF b (Nat.lt_of_lt_of_le hb hS.fr.size) h1 with h2 | h2
            · exact .inl ((hF1 b).2 h2)
            · rcases hS.ow b h2 with h3 | h3
              · exact .inr h3
              · omega
          · exact .inr h1
        · rcases hstp.nF b hb.1 with h1 | h1
          · exact hS.nF b h1
          · exact .inr (Nat.le_trans hS.fr.size h1)
        · rintro b ⟨k, hk, hb⟩
          rw [hol] at hb
          rcases hstp.ow b ⟨_, (hlive k hk).1, hb⟩ with h1 | h1
          · exact hS.ow b h1
          · exact .inr (Nat.le_trans hS.fr.size h1)
      subst hM
      refine hK C1 _ HT _ ⟨⟨hstp1, ?_⟩, fun j hj => ?_, sl', hp' HT (fun k hk => ?_) (fun k hk => ?_)⟩
      · rw [hdst]; exact h.here.st.put hLe hd hru1
      · by_cases e : j = n + i
        · exact .inr ⟨i, by simp [addS], e⟩
        · have hj1 : C'.N j := by have := hj.1; rwa [hmv j e] at this
          rcases hstp.nO j hj1 with hN | hN
          · exact nm' j (h.nm j hN)
          · have := hj.2; omega
      · exact if_pos (hw ▸ hk)
      · exact if_neg (hw ▸ hk)
  have hSe := h.here.st.ev
  rcases hst i v hv with ⟨hg, hval, hH, hrd, hwr⟩ | ⟨hg, f, args, hvo, hcd, hwr⟩ | ⟨hg, f, args, hvo, g, caps, he, hcd, hwr⟩ | ⟨hg, hic, hvop, hrd, hwr⟩
  · rw [if_neg (by rw [wanted_ok hc h.here.st (hgd.trans hg)]; simp)]
    refine hK C (s.put v.dst (T i).v) H _ ⟨⟨h.here.stp, ?_⟩, fun j hj => nm' j (h.nm j hj), sl', hp' H (fun k hk => by rw [hwr] at hk; simp at hk) (fun _ _ => rfl)⟩
    rw [hdst, hval]
    exact h.here.st.put (Le.refl C) hd (by simp only [Rep])
  · rw [if_pos (wanted_ok hc h.here.st (hgd.trans hg))]
    left
    rw [hvo] at hop hopd
    have ea : args.map (T i).s.ev = args.map s.ev := List.map_congr_left fun x hx => (hopd x hx).symm
    refine call f _ (args.map a.eval) (RepL.map hSe args) (ea ▸ hcd) hwr (fun w hf => ?_)
    obtain ⟨dst, op, ty, pos, after, guard⟩ := o
    obtain ⟨as, ts, rfl, rfl⟩ := comp_call hop
    have := callFunc_run (args := (as.toList.map a.eval).toArray) (w := w) hf
    have e1 : as.map a.eval = (as.toList.map a.eval).toArray := by apply Array.ext'; simp
    simp [execOp, resolve, Act.eval, Deferred.ofValue, invoke, e1, this]
  · rw [if_pos (wanted_ok hc h.here.st (hgd.trans hg))]
    left
    rw [hvo] at hop hopd
    have ef : s.ev f = .fn g caps := (hopd f (by simp [opds])).trans he
    have ea : args.map (T i).s.ev = args.map s.ev := List.map_congr_left fun x hx => (hopd x (by simp [opds, hx])).symm
    obtain ⟨dst, op, ty, pos, after, guard⟩ := o
    obtain ⟨as, ts, rfl, rfl⟩ := comp_callv hop
    have hrf := hSe f
    rw [ef] at hrf; simp only [Rep] at hrf
    obtain ⟨us, hef, hru⟩ := hrf
    refine call g _ (as.toList.map a.eval ++ us) ((RepL.map hSe as.toList).append hru) (ea ▸ hcd) hwr (fun w hf => ?_)
    have := callFunc_run (args := (as.toList.map a.eval ++ us).toArray) (w := w) hf
    have e1 : as.map a.eval ++ us.toArray = (as.toList.map a.eval ++ us).toArray := by apply Array.ext'; simp
    simp [execOp, resolve, hef, Deferred.ofValue, invoke, e1, this]
  · rw [if_pos (wanted_ok hc h.here.st (hgd.trans hg))]
    left
    rw [vop_congr (fun x hx => (hopd x hx).symm)] at hvop
    have hr2 : (T i).rd = rds s.ev v.op ∧ (T i).wr = wrs (n + i) s.ev v.op := by
      have key : ∀ (op : VOp), (∀ x ∈ opds op, s.ev x = (T i).s.ev x) → rds (T i).s.ev op = rds s.ev op ∧ wrs (n + i) (T i).s.ev op = wrs (n + i) s.ev op := by
        intro op hx
        cases op <;> simp only [opds, List.mem_cons, List.not_mem_nil, or_false, forall_eq_or_imp, forall_eq] at hx <;> simp only [rds, wrs, hx, and_self]
      rw [hrd, hwr]
      exact key v.op hopd
    obtain ⟨H', hvop', hHw⟩ := vop_local (H2 := H) hvop (fun j hj => hheap j (by rw [hr2.1, hr2.2]; exact hj))
    have hfr := vop_frame hvop'
    have hfresh : ¬ C.N (n + i) := by
      intro hN
      rcases h.nm _ hN with h1 | ⟨q, h1, h2⟩
      · omega
      · have : q = i := by omega
        subst this; rw [hi] at h1; simp at h1
    obtain ⟨C', u, hrun, hrep, hstp⟩ := vop_ok hSe h.here.stp.hok h.here.stp.bd hfresh hop hvop'
    have hstp' : StpM X.C C' X.H H' X.n (n + vs.length) := by
      have hS := h.here.stp
      refine ⟨hS.le.trans hstp.le, fr_trans hS.fr hstp.fr hS.ow, hstp.hok, hstp.bd, hS.nn, fun j hj => ?_, fun j hj => ?_, fun b hb hF => (hS.mF b hb hF).imp (hstp.mF b) id,
        fun b hb => (hstp.nF b hb).elim (hS.nF b) (fun g => .inr (Nat.le_trans hS.fr.size g)),
        fun b hb => (hstp.ow b hb).elim (hS.ow b) (fun g => .inr (Nat.le_trans hS.fr.size g))⟩
      · rcases hstp.nN j hj with hN | rfl
        · exact hS.nN j hN
        · omega
      · rcases hstp.nN j hj with hN | rfl
        · exact hS.nO j hN
        · exact .inr (by omega)
    have hA' : DInv X n vs T s0 (addS S i) C' (s.put v.dst (T i).v) H' (a.put o.dst u) := by
      refine ⟨⟨hstp', ?_⟩, fun j hj => ?_, sl', hp' H' (fun k hk => hHw k (hr2.2 ▸ hk)) (fun k hk => hfr k (hr2.2 ▸ hk))⟩
      · rw [hdst]; exact h.here.st.put hstp.le hd hrep
      · rcases hstp.nN j hj with hN | rfl
        · exact nm' j (h.nm j hN)
        · exact .inr ⟨i, by simp [addS], rfl⟩
    unfold Oper.wp
    rcases hrun with hrun | ⟨hrun, hu⟩
    · rw [hrun, Oper.upon_value]
      exact hK C' _ H' _ hA'
    · rw [hrun, Oper.upon_skip, ← hu]
      exact hK C' _ H' _ hA'
end
end Go.VM
