/- M: the documents, in plain Lean, and how they lie in cells. -/
import Derived.Test.YtdmmhainianadaaProg
import Derived.Test.YtdmmhainianadaaV0
import Derived.Test.YtdmmhainianadaaV1
set_option linter.unusedSimpArgs false
set_option linter.unusedVariables false
set_option linter.unnecessarySimpa false
namespace Go.Lim
open Go.VM

structure Sign where
  byte : Int
  inn : Int
  out : Int
deriving DecidableEq
abbrev Text := List Sign
structure Cell where
  row : Int
  col : Int
  down : Int
  right : Int
  text : Text
deriving DecidableEq
structure Table where
  rows : Int
  cols : Int
  cells : List Cell
deriving DecidableEq
structure Block where
  kind : Int
  level : Int
  text : Text
  table : Table
deriving DecidableEq
abbrev Doc := List Block
structure Spot where
  block : Int
  cell : Int
  pos : Int
deriving DecidableEq

def Sign.enc (x : Sign) : List VV := [.sc (.int .u8 x.byte), .sc (.int .i64 x.inn), .sc (.int .i64 x.out)]
def encT (l : Text) : VV := .sl 3 (l.map Sign.enc)
def Cell.enc (x : Cell) : List VV := [.sc (.int .i64 x.row), .sc (.int .i64 x.col), .sc (.int .i64 x.down), .sc (.int .i64 x.right), encT x.text]
def encC (l : List Cell) : VV := .sl 5 (l.map Cell.enc)
def Table.enc (x : Table) : List VV := [.sc (.int .i64 x.rows), .sc (.int .i64 x.cols), encC x.cells]
def Block.enc (x : Block) : List VV := [.sc (.int .i64 x.kind), .sc (.int .i64 x.level), encT x.text, .sc (.int .i64 x.table.rows), .sc (.int .i64 x.table.cols), encC x.table.cells]
def encB (l : Doc) : VV := .sl 6 (l.map Block.enc)
def Spot.enc (x : Spot) : List VV := [.sc (.int .i64 x.block), .sc (.int .i64 x.cell), .sc (.int .i64 x.pos)]

theorem Sign.encLen (x : Sign) : x.enc.length = 3 := rfl
theorem Sign.encTake (x : Sign) : x.enc.take 3 = x.enc := rfl
theorem Cell.encLen (x : Cell) : x.enc.length = 5 := rfl
theorem Cell.encTake (x : Cell) : x.enc.take 5 = x.enc := rfl
theorem Table.encLen (x : Table) : x.enc.length = 3 := rfl
theorem Table.encTake (x : Table) : x.enc.take 3 = x.enc := rfl
theorem Block.encLen (x : Block) : x.enc.length = 6 := rfl
theorem Block.encTake (x : Block) : x.enc.take 6 = x.enc := rfl
theorem Spot.encLen (x : Spot) : x.enc.length = 3 := rfl
theorem Spot.encTake (x : Spot) : x.enc.take 3 = x.enc := rfl
theorem Sign.encClo (x : Sign) : VV.cloL x.enc = true := rfl
theorem Cell.encClo (x : Cell) : VV.cloL x.enc = true := rfl
theorem Table.encClo (x : Table) : VV.cloL x.enc = true := rfl
theorem Block.encClo (x : Block) : VV.cloL x.enc = true := rfl
theorem Spot.encClo (x : Spot) : VV.cloL x.enc = true := rfl

theorem getD_map {α β : Type} {f : α → β} {l : List α} {i : Nat} {d : β} (h : i < l.length) : (l.map f).getD i d = f l[i] := by
  simp [List.getD_eq_getElem?_getD, h]
theorem wrap_id {i : Int} (h0 : -9223372036854775808 ≤ i) (h1 : i < 9223372036854775808) : IntKind.i64.wrap i = i := by
  show (if (true && decide (i % (2 ^ 64 : Int) ≥ (2 ^ 63 : Int))) = true then i % (2 ^ 64 : Int) - (2 ^ 64 : Int) else i % (2 ^ 64 : Int)) = i
  simp only [Bool.true_and, decide_eq_true_eq]
  split <;> omega
theorem lt_dec {i n : Nat} (h : i < n) : decide ((i : Int) < (n : Int)) = true := by simpa using h
theorem ge_dec {i n : Nat} (h : n ≤ i) : decide ((i : Int) < (n : Int)) = false := by simpa using h
theorem dry_map {α : Type} {enc : α → List VV} (h : ∀ x, (enc x).all VV.dry = true) (l : List α) : ((l.map enc).flatten).all VV.dry = true := by
  rw [List.all_eq_true]
  intro y hy
  obtain ⟨r, hr, hy⟩ := List.mem_flatten.1 hy
  obtain ⟨x, _, rfl⟩ := List.mem_map.1 hr
  exact List.all_eq_true.1 (h x) y hy
theorem Sign.encDry (x : Sign) : x.enc.all VV.dry = true := rfl
theorem Cell.encDry (x : Cell) : x.enc.all VV.dry = true := rfl
theorem Block.encDry (x : Block) : x.enc.all VV.dry = true := rfl
theorem dry_signs (l : List Sign) : ((l.map Sign.enc).flatten).all VV.dry = true := dry_map Sign.encDry l
theorem dry_cells (l : List Cell) : ((l.map Cell.enc).flatten).all VV.dry = true := dry_map Cell.encDry l
theorem dry_blocks (l : List Block) : ((l.map Block.enc).flatten).all VV.dry = true := dry_map Block.encDry l
attribute [go_sem] Sign.encDry Cell.encDry Block.encDry dry_signs dry_cells dry_blocks
end Go.Lim

/- N: what the functions say, in plain Lean. -/
namespace Go.Lim
def within (n low high : Int) : Bool := decide (n ≥ low) && decide (n ≤ high)
def byteOk (b : Int) : Bool := decide (b ≥ 97) && decide (b ≤ 122) || decide (b ≥ 48) && decide (b ≤ 57) || b == 32
def Sign.ok (x : Sign) : Bool := byteOk x.byte && within x.inn 0 3 && within x.out 0 3 && (x.out == 0 || x.inn != x.out)
theorem Sign.ok_def (x : Sign) : x.ok = (byteOk x.byte && within x.inn 0 3 && within x.out 0 3 && (x.out == 0 || !(x.inn == x.out))) := rfl
theorem Sign.ok_alt (x : Sign) : x.ok = (byteOk x.byte && within x.inn 0 3 && within x.out 0 3 && !(!(x.inn == 0) && x.inn == x.out)) := by
  have : (x.out == 0 || x.inn != x.out) = !(!(x.inn == 0) && x.inn == x.out) := by
    rw [Bool.eq_iff_iff]
    simp
    omega
  rw [Sign.ok, this]
def textOk (l : Text) : Bool := decide (l.length ≤ 24) && l.all Sign.ok
def noTable (t : Table) : Bool := t.rows == 0 && t.cols == 0 && t.cells.length == 0

theorem noTable_def (t : Table) : noTable t = (t.rows == 0 && t.cols == 0 && (t.cells.length : Int) == 0) := by
  have : (t.cells.length == 0) = ((t.cells.length : Int) == 0) := by rw [Bool.eq_iff_iff]; simp
  rw [noTable, this]
theorem all_take_succ {α : Type} {p : α → Bool} {l : List α} {i : Nat} (h : i < l.length) (ha : (l.take i).all p = true) (hp : p l[i] = true) : (l.take (i + 1)).all p = true := by
  rw [List.take_succ_eq_append_getElem h, List.all_append, ha]; simp [hp]
theorem all_false {α : Type} {p : α → Bool} {l : List α} {i : Nat} (h : i < l.length) (hp : p l[i] = false) : l.all p = false := by
  rw [List.all_eq_false]; exact ⟨l[i], List.getElem_mem h, by simp [hp]⟩
theorem all_of_take {α : Type} {p : α → Bool} {l : List α} {i : Nat} (h : l.length ≤ i) (ha : (l.take i).all p = true) : l.all p = true := by
  rwa [List.take_of_length_le h] at ha
end Go.Lim
namespace Go.Lim
def wr (n : Int) : Int := IntKind.i64.wrap n
def has (c : Cell) (row col : Int) : Bool := decide (row ≥ c.row) && decide (row < IntKind.i64.wrap (c.row + c.down)) && decide (col ≥ c.col) && decide (col < IntKind.i64.wrap (c.col + c.right))
def cmpI (a b : Int) : Int := if decide (a < b) = true then -1 else if decide (a > b) = true then 1 else 0
def orI (a b : Int) : Int := if (a == 0) = true then b else a
def orL (l : List Int) : Int := (l.find? fun a => !(a == 0)).getD 0
theorem orL_at {l : List Int} {i : Nat} (hi : i < l.length) (h : ∀ (j : Nat) (x : Int), j < i → l[j]? = some x → (x == 0) = true) (hp : (l[i] == 0) = false) : orL l = l[i] := by
  have : l.find? (fun a => !(a == 0)) = some l[i] := by
    rw [List.find?_eq_some_iff_getElem]
    refine ⟨by simp [hp], i, hi, rfl, fun j hj => ?_⟩
    simp only [Bool.not_not]
    exact h j _ hj (List.getElem?_eq_getElem (by omega))
  simp [orL, this]
theorem orL_none {l : List Int} (h : ∀ (j : Nat) (x : Int), l[j]? = some x → (x == 0) = true) : orL l = 0 := by
  have : l.find? (fun a => !(a == 0)) = none := by
    rw [List.find?_eq_none]
    intro x hx
    obtain ⟨i, hi, rfl⟩ := List.getElem_of_mem hx
    simp only [Bool.not_eq_true', Bool.not_eq_false, h i _ (List.getElem?_eq_getElem hi)]
  simp [orL, this]
theorem orL_two (a b : Int) : orL [a, b] = orI a b := by
  unfold orL orI
  by_cases h : a = 0
  · subst h
    by_cases hb : b = 0
    · subst hb; rfl
    · simp [List.find?_cons, hb]
  · simp [List.find?_cons, h]
theorem upto_succ {α : Type} {q : α → Prop} {l : List α} {i : Nat} (hi : i < l.length) (h : ∀ (j : Nat) (x : α), j < i → l[j]? = some x → q x) (hp : q l[i]) : ∀ (j : Nat) (x : α), j < i + 1 → l[j]? = some x → q x := by
  intro j x hj hx
  by_cases e : j = i
  · subst e; rw [List.getElem?_eq_getElem hi] at hx; injection hx with hx; subst hx; exact hp
  · exact h j x (by omega) hx
theorem upto_all {α : Type} {q : α → Prop} {l : List α} {i : Nat} (hi : l.length ≤ i) (h : ∀ (j : Nat) (x : α), j < i → l[j]? = some x → q x) : ∀ (j : Nat) (x : α), l[j]? = some x → q x :=
  fun j x hx => h j x (Nat.lt_of_lt_of_le (List.getElem?_eq_some_iff.1 hx).1 hi) hx
def cellOrder (a b : Cell) : Int := orI (cmpI a.row b.row) (cmpI a.col b.col)
def idxOf {α : Type} (p : α → Bool) (l : List α) : Int := if l.any p then (l.findIdx p : Int) else -1
theorem idxOf_none {α : Type} {p : α → Bool} {l : List α} (h : ∀ (i : Nat) (x : α), l[i]? = some x → p x = false) : idxOf p l = -1 := by
  have : l.any p = false := by
    rw [List.any_eq_false]
    intro x hx
    obtain ⟨i, hi, rfl⟩ := List.getElem_of_mem hx
    simp [h i _ (List.getElem?_eq_getElem hi)]
  simp [idxOf, this]
theorem idxOf_at {α : Type} {p : α → Bool} {l : List α} {i : Nat} (hi : i < l.length) (h : ∀ (j : Nat) (x : α), j < i → l[j]? = some x → p x = false) (hp : p l[i] = true) : idxOf p l = i := by
  have h1 : l.any p = true := List.any_eq_true.2 ⟨l[i], List.getElem_mem hi, hp⟩
  have h2 : l.findIdx p = i := by
    rw [List.findIdx_eq hi]
    refine ⟨hp, fun j hj => ?_⟩
    exact h j _ hj (List.getElem?_eq_getElem (by omega))
  simp [idxOf, h1, h2]
end Go.Lim
namespace Go.Lim
def cellW (t : Table) (c : Cell) : Bool :=
  within c.row 0 (IntKind.i64.wrap (t.rows - 1)) && within c.col 0 (IntKind.i64.wrap (t.cols - 1)) && within c.down 1 (IntKind.i64.wrap (t.rows - c.row)) && within c.right 1 (IntKind.i64.wrap (t.cols - c.col)) && textOk c.text
def behindB (p c : Cell) : Bool := decide (p.row > c.row) || p.row == c.row && decide (p.col ≥ c.col)
def noCell : Cell := ⟨0, 0, 0, 0, []⟩
def okAt (t : Table) (i : Nat) : Bool := cellW t (t.cells.getD i noCell) && (i == 0 || !(behindB (t.cells.getD (i - 1) noCell) (t.cells.getD i noCell)))
def form (t : Table) : Bool := within t.rows 1 5 && within t.cols 1 5 && decide (t.cells.length ≤ 25) && (List.range t.cells.length).all (okAt t)
theorem getD_eq {α : Type} {l : List α} {i : Nat} {d : α} (h : i < l.length) : l.getD i d = l[i] := by simp [List.getD_eq_getElem?_getD, h]
theorem range_all_false {f : Nat → Bool} {n i : Nat} (h : i < n) (hf : f i = false) : (List.range n).all f = false := by
  rw [List.all_eq_false]; exact ⟨i, List.mem_range.2 h, by simp [hf]⟩
theorem range_all_true {f : Nat → Bool} {n : Nat} (h : ∀ j, j < n → f j = true) : (List.range n).all f = true := by
  rw [List.all_eq_true]; exact fun i hi => h i (List.mem_range.1 hi)
theorem lt_succ_of {q : Nat → Prop} {i : Nat} (h : ∀ j, j < i → q j) (hi : q i) : ∀ j, j < i + 1 → q j := by
  intro j hj
  by_cases e : j = i
  · exact e ▸ hi
  · exact h j (by omega)
end Go.Lim
namespace Go.Lim
def cnt (l : List Cell) (row col : Int) : Nat := (l.filter fun c => has c row col).length
def sqOk (t : Table) (r c : Nat) : Bool := cnt t.cells r c == 1
def rowOk (t : Table) (r : Nat) : Bool := (List.range t.cols.toNat).all (sqOk t r)
def tableOk (t : Table) : Bool := form t && (List.range t.rows.toNat).all (rowOk t)
theorem within_nat {n : Int} (h : within n 1 5 = true) : n = (n.toNat : Int) ∧ 1 ≤ n.toNat ∧ n.toNat ≤ 5 := by
  simp only [within, Bool.and_eq_true, decide_eq_true_eq] at h
  omega
theorem cnt_succ {l : List Cell} {i : Nat} (h : i < l.length) (row col : Int) : cnt (l.take (i + 1)) row col = cnt (l.take i) row col + (if has l[i] row col = true then 1 else 0) := by
  unfold cnt
  rw [List.take_succ_eq_append_getElem h, List.filter_append, List.length_append]
  congr 1
  by_cases hp : has l[i] row col = true
  · simp [hp]
  · simp [hp]
theorem cnt_le (l : List Cell) (row col : Int) : cnt l row col ≤ l.length := List.length_filter_le _ _
end Go.Lim
namespace Go.Lim
theorem cellOrder_ge (p c : Cell) : decide (cellOrder p c ≥ 0) = behindB p c := by
  unfold cellOrder orI cmpI behindB
  rw [Bool.eq_iff_iff]
  simp only [decide_eq_true_eq, Bool.or_eq_true, Bool.and_eq_true, beq_iff_eq]
  (repeat' split) <;> omega
def area (l : List Cell) : Int := (l.map fun c => c.down * c.right).sum
def seenSq (t : Table) (r c : Nat) : Bool := !(decide (idxOf (fun x => has x r c) t.cells < 0))
def seenRow (t : Table) (r : Nat) : Bool := (List.range t.cols.toNat).all (seenSq t r)
def tableOkI (t : Table) : Bool := within t.rows 1 5 && within t.cols 1 5 && (List.range t.cells.length).all (okAt t) && (List.range t.rows.toNat).all (seenRow t) && area t.cells == t.rows * t.cols
theorem area_succ {l : List Cell} {i : Nat} (h : i < l.length) : area (l.take (i + 1)) = area (l.take i) + l[i].down * l[i].right := by
  unfold area
  rw [List.take_succ_eq_append_getElem h, List.map_append, List.sum_append]
  simp
theorem cellW_bounds {t : Table} {c : Cell} (hR : within t.rows 1 5 = true) (hC : within t.cols 1 5 = true) (h : cellW t c = true) : 0 ≤ c.row ∧ c.row < t.rows ∧ 0 ≤ c.col ∧ c.col < t.cols ∧ 1 ≤ c.down ∧ c.row + c.down ≤ t.rows ∧ 1 ≤ c.right ∧ c.col + c.right ≤ t.cols := by
  simp only [within, Bool.and_eq_true, decide_eq_true_eq] at hR hC
  simp only [cellW, within, Bool.and_eq_true, decide_eq_true_eq] at h
  obtain ⟨⟨⟨⟨⟨h1, h2⟩, h3, h4⟩, h5, h6⟩, h7, h8⟩, _⟩ := h
  rw [wrap_id (by omega) (by omega)] at h2 h4
  rw [wrap_id (by omega) (by omega)] at h6 h8
  omega
theorem mul_bound {a b : Int} (h1 : 1 ≤ a) (h2 : a ≤ 5) (h3 : 1 ≤ b) (h4 : b ≤ 5) : 1 ≤ a * b ∧ a * b ≤ 25 := by
  have e : a = 1 ∨ a = 2 ∨ a = 3 ∨ a = 4 ∨ a = 5 := by omega
  rcases e with rfl | rfl | rfl | rfl | rfl <;> omega
end Go.Lim
namespace Go.Lim
def Cell.sm (c : Cell) : Prop := c.text.length < 1099511627776
def Table.sm (t : Table) : Prop := t.cells.length < 1099511627776 ∧ ∀ c ∈ t.cells, c.sm
def Block.sm (b : Block) : Prop := b.text.length < 1099511627776 ∧ b.table.sm
def docSm (d : Doc) : Prop := d.length < 1099511627776 ∧ ∀ b ∈ d, b.sm
def blockOk (tok : Table → Bool) (b : Block) : Bool :=
  if (b.kind == 1) = true then b.level == 0 && textOk b.text && noTable b.table
  else if (b.kind == 2) = true then within b.level 0 3 && textOk b.text && noTable b.table
  else if (b.kind == 3) = true then b.level == 0 && (b.text.length : Int) == 0 && tok b.table
  else false
def noBlock : Block := ⟨0, 0, [], ⟨0, 0, []⟩⟩
def aheadAt (d : Doc) (i : Nat) : Int := if (i == 0) = true then -1 else if ((d.getD (i - 1) noBlock).kind == 2) = true then (d.getD (i - 1) noBlock).level else -1
def docAt (d : Doc) (i : Nat) : Bool := blockOk tableOk (d.getD i noBlock) && !((d.getD i noBlock).kind == 2 && decide ((d.getD i noBlock).level > IntKind.i64.wrap (aheadAt d i + 1)))
def docOk (d : Doc) : Bool := decide (d.length ≤ 8) && (List.range d.length).all (docAt d)
def mostAt (d : Doc) (i : Nat) : Int := if (i == 0) = true then 0 else if ((d.getD (i - 1) noBlock).kind == 2) = true then IntKind.i64.wrap ((d.getD (i - 1) noBlock).level + 1) else 0
def docAtI (d : Doc) (i : Nat) : Bool := blockOk tableOkI (d.getD i noBlock) && !(decide ((d.getD i noBlock).level > mostAt d i))
def docOkI (d : Doc) : Bool := (List.range d.length).all (docAtI d) && decide (d.length ≤ 8)
end Go.Lim
namespace Go.Lim
def cellIn (b : Block) (cell : Int) : Bool := if (b.kind == 3) = true then within cell 0 (IntKind.i64.wrap ((b.table.cells.length : Int) - 1)) else cell == 0
def textAtB (b : Block) (cell : Int) : Text := if (b.kind == 3) = true then (b.table.cells.getD cell.toNat noCell).text else b.text
def blkAt (d : Doc) (p : Spot) : Block := d.getD p.block.toNat noBlock
def placeOk (dok : Doc → Bool) (d : Doc) (p : Spot) : Bool := dok d && within p.block 0 (IntKind.i64.wrap ((d.length : Int) - 1)) && cellIn (blkAt d p) p.cell && within p.pos 0 ((textAtB (blkAt d p) p.cell).length : Int)
theorem wrap_len {n : Nat} (h : n < 4611686018427387904) : IntKind.i64.wrap ((n : Int) - 1) = (n : Int) - 1 := wrap_id (by omega) (by omega)
theorem within_idx {a : Int} {n : Nat} (hn : n < 4611686018427387904) (h : within a 0 (IntKind.i64.wrap ((n : Int) - 1)) = true) : ∃ i : Nat, a = i ∧ i < n := by
  rw [wrap_len hn] at h
  simp only [within, Bool.and_eq_true, decide_eq_true_eq] at h
  exact ⟨a.toNat, by omega, by omega⟩
end Go.Lim
namespace Go.Lim
/-- A string of these bytes. -/
def strV (l : List Int) : Go.VM.VV := .sc (.string (Go.VM.strOf l))
theorem nums8_map : ∀ (a : List Int), Go.VM.nums8 (a.map fun b => Go.VM.VV.sc (.int .u8 b)) = some a
  | [] => rfl
  | x :: a => by simp only [List.map_cons, Go.VM.nums8, nums8_map a, Option.map_some]
theorem cloL_append : ∀ (xs ys : List Go.VM.VV), Go.VM.VV.cloL (xs ++ ys) = (Go.VM.VV.cloL xs && Go.VM.VV.cloL ys)
  | [], ys => by simp [Go.VM.VV.cloL]
  | x :: xs, ys => by simp only [List.cons_append, Go.VM.VV.cloL, cloL_append xs ys, Bool.and_assoc]
theorem clo_bytes : ∀ (a : List Int), Go.VM.VV.cloL (a.map fun b => Go.VM.VV.sc (.int .u8 b)) = true
  | [] => rfl
  | x :: a => by simp only [List.map_cons, Go.VM.VV.cloL, Go.VM.VV.clo, clo_bytes a, Bool.and_self]
theorem flat_len : ∀ (l : Text), (l.map Sign.enc).flatten.length = l.length * 3
  | [] => rfl
  | x :: l => by simp only [List.map_cons, List.flatten_cons, List.length_append, flat_len l, List.length_cons, Sign.encLen]; omega
theorem flat_clo : ∀ (l : Text), Go.VM.VV.cloL (l.map Sign.enc).flatten = true
  | [] => rfl
  | x :: l => by rw [List.map_cons, List.flatten_cons, cloL_append, flat_clo l, Sign.encClo]; rfl
theorem enc_lens (l : Text) : ∀ r ∈ l.map Sign.enc, r.length = 3 := by
  intro r hr
  obtain ⟨x, _, rfl⟩ := List.mem_map.1 hr
  rfl
def bytesBy (f : Sign → Bool) (l : Text) : List Int := (l.filter f).map Sign.byte
def wasB (x : Sign) : Bool := x.inn == 0
def nowB (x : Sign) : Bool := x.out == 0
def textBy (f : Sign → Bool) (l : Text) : List Int := if textOk l = true then bytesBy f l else []
theorem bytesBy_succ {f : Sign → Bool} {l : Text} {i : Nat} (h : i < l.length) : bytesBy f (l.take (i + 1)) = bytesBy f (l.take i) ++ (if f l[i] = true then [l[i].byte] else []) := by
  unfold bytesBy
  rw [List.take_succ_eq_append_getElem h, List.filter_append, List.map_append]
  congr 1
  by_cases hp : f l[i] = true
  · simp [hp]
  · simp [hp]
end Go.Lim
namespace Go.Lim
theorem strOf_size (l : List Int) : (Go.VM.strOf l).size = l.length := by
  have key : ∀ (l : List Int) (b : ByteArray), (l.foldl (fun r n => r.push (UInt8.ofNat n.toNat)) b).size = b.size + l.length := by
    intro l
    induction l with
    | nil => intro b; rfl
    | cons x l ih => intro b; rw [List.foldl_cons, ih, ByteArray.size_push, List.length_cons]; omega
  have := key l ByteArray.empty
  simpa [Go.VM.strOf] using this
def spotBy (f : Sign → Bool) (ok : Doc → Bool) (d : Doc) (p : Spot) : Spot := if placeOk ok d p = true then ⟨p.block, p.cell, ((textBy f ((textAtB (blkAt d p) p.cell).take p.pos.toNat)).length : Int)⟩ else ⟨0, 0, 0⟩
end Go.Lim
namespace Go.Lim
open Go.VM in
/-- The cells of a list that is filled up to i. -/
def filled {α : Type} (enc : α → List VV) (zs : List VV) (l : List α) (i : Nat) : List VV := ((l.take i).map enc).flatten ++ (List.replicate (l.length - i) zs).flatten
open Go.VM in
theorem flatten_len {α : Type} {enc : α → List VV} {z : Nat} (he : ∀ x, (enc x).length = z) : ∀ (l : List α), (l.map enc).flatten.length = l.length * z
  | [] => by simp
  | x :: l => by rw [List.map_cons, List.flatten_cons, List.length_append, he, flatten_len he l, List.length_cons, Nat.add_mul]; omega
open Go.VM in
theorem filled_zero {α : Type} {enc : α → List VV} {zs : List VV} {l : List α} : filled enc zs l 0 = (List.replicate l.length zs).flatten := by simp [filled]
open Go.VM in
theorem filled_all {α : Type} {enc : α → List VV} {zs : List VV} {l : List α} {i : Nat} (h : l.length ≤ i) : filled enc zs l i = (l.map enc).flatten := by
  simp [filled, List.take_of_length_le h, Nat.sub_eq_zero_of_le h]
open Go.VM in
theorem filled_store {α : Type} {enc : α → List VV} {zs : List VV} {z : Nat} (hz : zs.length = z) (he : ∀ x, (enc x).length = z) {l : List α} {i : Nat} (h : i < l.length) :
    (filled enc zs l i).take (i * z) ++ (enc l[i] ++ (filled enc zs l i).drop (i * z + z)) = filled enc zs l (i + 1) := by
  have hA : ((l.take i).map enc).flatten.length = i * z := by rw [flatten_len he, List.length_take, Nat.min_eq_left (by omega)]
  have hr : List.replicate (l.length - i) zs = zs :: List.replicate (l.length - (i + 1)) zs := by
    rw [show l.length - i = (l.length - (i + 1)) + 1 by omega, List.replicate_succ]
  unfold filled
  rw [List.take_append_of_le_length (by omega), List.take_of_length_le (by omega), hr, List.flatten_cons, List.drop_append, hA, List.drop_of_length_le (by omega),
    show i * z + z - i * z = z by omega, List.nil_append, List.drop_append, hz, List.drop_of_length_le (by omega), Nat.sub_self, List.drop_zero, List.nil_append,
    List.take_succ_eq_append_getElem h, List.map_append, List.flatten_append]
  simp
open Go.VM in
theorem filled_len {α : Type} {enc : α → List VV} {zs : List VV} {z : Nat} (hz : zs.length = z) (he : ∀ x, (enc x).length = z) {l : List α} {i : Nat} (h : i ≤ l.length) : (filled enc zs l i).length = l.length * z := by
  have h1 := flatten_len he (l.take i)
  have h2 : (List.replicate (l.length - i) zs).flatten.length = (l.length - i) * z := by simp [hz]
  unfold filled
  rw [List.length_append, h1, h2, List.length_take, Nat.min_eq_left h, ← Nat.add_mul]
  congr 1; omega
end Go.Lim

/- F1: signs and texts. -/
namespace Go.Proofs.Ytdmmhainianadaa
open Go.VM Go.Lim Go.Proofs.Try
attribute [local irreducible] vwp vops vstep vdr vdr1 CallP PPost SWv gdO gdD cdO optV optW optD thenV blockV behind callO callW callvO roundV
set_option linter.unusedSimpArgs false
set_option linter.unusedVariables false
/- loop.example/limner/spec.l6In -/
def vc93 : VCode :=
(.seq (.reg [⟨(some 6), (.mov (.const (.bool false))), none⟩])
(.seq (.reg [⟨(some 7), (.mov (.tmp 0)), none⟩, ⟨(some 8), (.mov (.tmp 1)), none⟩, ⟨(some 9), (.bin .geq .no (.tmp 7) (.tmp 8)), none⟩, ⟨(some 10), (.mov (.tmp 9)), none⟩, ⟨(some 11), (.mov (.tmp 0)), (some (10, true))⟩, ⟨(some 12), (.mov (.tmp 2)), (some (10, true))⟩, ⟨(some 13), (.bin .leq .no (.tmp 11) (.tmp 12)), (some (10, true))⟩, ⟨(some 14), (.pick (.tmp 10) (.tmp 13) (.const (.bool false))), none⟩, ⟨(some 6), (.mov (.tmp 14)), none⟩])
.ret))
theorem k93 : compFn prog 93 = some (15, vc93, [.t 6]) := by kernel_rfl
theorem c93 (a b c : Int) : PureC prog 93 [.sc (.int .i64 a), .sc (.int .i64 b), .sc (.int .i64 c)] (.sc (.bool (within a b c))) := by
  refine pureC_of k93 (by first | rfl | simp [VV.cloL, VV.clo, *]) (by first | rfl | simp [VV.cloL, VV.clo, *]) (by simp) ?_
  intro X hP hm hH hn hX
  refine vwp_ok _ ?_
  unfold vc93
  repeat' (first
    | simp only [go_sem, reduceCtorEq, reduceIte, Nat.reduceAdd, Nat.reduceEqDiff, Nat.reduceLeDiff, Nat.reduceMul, *]
    | refine gdO_bool' _ (fun _ => ?_) (fun _ => ?_)
    | refine gdO_bool _ (fun _ => ?_) (fun _ => ?_)
    | refine gdD_bool' _ (fun _ => ?_) (fun _ => ?_)
    | refine gdD_bool _ (fun _ => ?_) (fun _ => ?_)
    | refine cdO_bool' _ (fun _ => ?_) (fun _ => ?_)
    | refine cdO_bool _ (fun _ => ?_) (fun _ => ?_)
    | refine ⟨by decide, ?_⟩
    | refine ppost_t (by simp) rfl ?_)
  all_goals simp only [within, *, Bool.true_and, Bool.false_and]
/- loop.example/limner/impl.within -/
def vc113 : VCode :=
(.seq (.reg [⟨(some 6), (.mov (.const (.bool false))), none⟩])
(.seq (.reg [⟨(some 7), (.mov (.tmp 0)), none⟩, ⟨(some 8), (.mov (.tmp 1)), none⟩, ⟨(some 9), (.bin .geq .no (.tmp 7) (.tmp 8)), none⟩, ⟨(some 10), (.mov (.tmp 9)), none⟩, ⟨(some 11), (.mov (.tmp 0)), (some (10, true))⟩, ⟨(some 12), (.mov (.tmp 2)), (some (10, true))⟩, ⟨(some 13), (.bin .leq .no (.tmp 11) (.tmp 12)), (some (10, true))⟩, ⟨(some 14), (.pick (.tmp 10) (.tmp 13) (.const (.bool false))), none⟩, ⟨(some 6), (.mov (.tmp 14)), none⟩])
.ret))
theorem k113 : compFn prog 113 = some (15, vc113, [.t 6]) := by kernel_rfl
theorem c113 (a b c : Int) : PureC prog 113 [.sc (.int .i64 a), .sc (.int .i64 b), .sc (.int .i64 c)] (.sc (.bool (within a b c))) := by
  refine pureC_of k113 (by first | rfl | simp [VV.cloL, VV.clo, *]) (by first | rfl | simp [VV.cloL, VV.clo, *]) (by simp) ?_
  intro X hP hm hH hn hX
  refine vwp_ok _ ?_
  unfold vc113
  repeat' (first
    | simp only [go_sem, reduceCtorEq, reduceIte, Nat.reduceAdd, Nat.reduceEqDiff, Nat.reduceLeDiff, Nat.reduceMul, *]
    | refine gdO_bool' _ (fun _ => ?_) (fun _ => ?_)
    | refine gdO_bool _ (fun _ => ?_) (fun _ => ?_)
    | refine gdD_bool' _ (fun _ => ?_) (fun _ => ?_)
    | refine gdD_bool _ (fun _ => ?_) (fun _ => ?_)
    | refine cdO_bool' _ (fun _ => ?_) (fun _ => ?_)
    | refine cdO_bool _ (fun _ => ?_) (fun _ => ?_)
    | refine ⟨by decide, ?_⟩
    | refine ppost_t (by simp) rfl ?_)
  all_goals simp only [within, *, Bool.true_and, Bool.false_and]
/- loop.example/limner/impl.byteOk -/
def vc149 : VCode :=
(.seq (.reg [⟨(some 2), (.mov (.const (.bool false))), none⟩])
(.seq (.reg [⟨(some 3), (.mov (.tmp 0)), none⟩, ⟨(some 4), (.bin .geq .no (.tmp 3) (.const (.int .u8 97))), none⟩, ⟨(some 5), (.mov (.tmp 4)), none⟩, ⟨(some 6), (.mov (.tmp 0)), (some (5, true))⟩, ⟨(some 7), (.bin .leq .no (.tmp 6) (.const (.int .u8 122))), (some (5, true))⟩, ⟨(some 8), (.pick (.tmp 5) (.tmp 7) (.const (.bool false))), none⟩, ⟨(some 9), (.mov (.tmp 8)), none⟩, ⟨(some 10), (.mov (.tmp 0)), (some (9, false))⟩, ⟨(some 11), (.bin .geq .no (.tmp 10) (.const (.int .u8 48))), (some (9, false))⟩, ⟨(some 12), (.mov (.tmp 11)), (some (9, false))⟩, ⟨(some 13), (.mov (.tmp 0)), (some (12, true))⟩, ⟨(some 14), (.bin .leq .no (.tmp 13) (.const (.int .u8 57))), (some (12, true))⟩, ⟨(some 15), (.pick (.tmp 12) (.tmp 14) (.const (.bool false))), (some (9, false))⟩, ⟨(some 16), (.pick (.tmp 9) (.const (.bool true)) (.tmp 15)), none⟩, ⟨(some 17), (.mov (.tmp 16)), none⟩, ⟨(some 18), (.mov (.tmp 0)), (some (17, false))⟩, ⟨(some 19), (.bin .eql .no (.tmp 18) (.const (.int .u8 32))), (some (17, false))⟩, ⟨(some 20), (.pick (.tmp 17) (.const (.bool true)) (.tmp 19)), none⟩, ⟨(some 2), (.mov (.tmp 20)), none⟩])
.ret))
theorem k149 : compFn prog 149 = some (21, vc149, [.t 2]) := by kernel_rfl
theorem c149 (a : Int) : PureC prog 149 [.sc (.int .u8 a)] (.sc (.bool (byteOk a))) := by
  refine pureC_of k149 (by first | rfl | simp [VV.cloL, VV.clo, *]) (by first | rfl | simp [VV.cloL, VV.clo, *]) (by simp) ?_
  intro X hP hm hH hn hX
  refine vwp_ok _ ?_
  unfold vc149
  repeat' (first
    | simp only [go_sem, reduceCtorEq, reduceIte, Nat.reduceAdd, Nat.reduceEqDiff, Nat.reduceLeDiff, Nat.reduceMul, *]
    | refine gdO_bool' _ (fun _ => ?_) (fun _ => ?_)
    | refine gdO_bool _ (fun _ => ?_) (fun _ => ?_)
    | refine gdD_bool' _ (fun _ => ?_) (fun _ => ?_)
    | refine gdD_bool _ (fun _ => ?_) (fun _ => ?_)
    | refine cdO_bool' _ (fun _ => ?_) (fun _ => ?_)
    | refine cdO_bool _ (fun _ => ?_) (fun _ => ?_)
    | refine ⟨by decide, ?_⟩
    | refine ppost_t (by simp) rfl ?_)
  all_goals simp only [byteOk, *, Bool.true_and, Bool.false_and, Bool.true_or, Bool.false_or, Bool.or_true, Bool.or_false]
/- loop.example/limner/spec.l1Sign -/
def vc164 : VCode :=
(.seq (.reg [⟨(some 1), (.box (.tmp 0)), none⟩, ⟨(some 2), (.mov (.const (.bool false))), none⟩])
(.seq (.reg [⟨(some 4), (.fad 0 (.tmp 1)), none⟩, ⟨(some 5), (.load false 1 (.tmp 4)), none⟩, ⟨(some 6), (.bin .geq .no (.tmp 5) (.const (.int .u8 97))), none⟩, ⟨(some 7), (.mov (.tmp 6)), none⟩, ⟨(some 8), (.fad 0 (.tmp 1)), (some (7, true))⟩, ⟨(some 9), (.load false 1 (.tmp 8)), (some (7, true))⟩, ⟨(some 10), (.bin .leq .no (.tmp 9) (.const (.int .u8 122))), (some (7, true))⟩, ⟨(some 11), (.pick (.tmp 7) (.tmp 10) (.const (.bool false))), none⟩, ⟨(some 12), (.mov (.tmp 11)), none⟩, ⟨(some 13), (.fad 0 (.tmp 1)), (some (12, false))⟩, ⟨(some 14), (.load false 1 (.tmp 13)), (some (12, false))⟩, ⟨(some 15), (.bin .eql .no (.tmp 14) (.const (.int .u8 32))), (some (12, false))⟩, ⟨(some 16), (.pick (.tmp 12) (.const (.bool true)) (.tmp 15)), none⟩, ⟨(some 17), (.mov (.tmp 16)), none⟩, ⟨(some 18), (.fad 0 (.tmp 1)), (some (17, false))⟩, ⟨(some 19), (.load false 1 (.tmp 18)), (some (17, false))⟩, ⟨(some 20), (.bin .geq .no (.tmp 19) (.const (.int .u8 48))), (some (17, false))⟩, ⟨(some 21), (.mov (.tmp 20)), (some (17, false))⟩, ⟨(some 22), (.fad 0 (.tmp 1)), (some (21, true))⟩, ⟨(some 23), (.load false 1 (.tmp 22)), (some (21, true))⟩, ⟨(some 24), (.bin .leq .no (.tmp 23) (.const (.int .u8 57))), (some (21, true))⟩, ⟨(some 25), (.pick (.tmp 21) (.tmp 24) (.const (.bool false))), (some (17, false))⟩, ⟨(some 26), (.pick (.tmp 17) (.const (.bool true)) (.tmp 25)), none⟩, ⟨(some 3), (.mov (.tmp 26)), none⟩])
(.seq (.reg [⟨(some 27), (.mov (.tmp 3)), none⟩, ⟨(some 28), (.mov (.tmp 27)), none⟩, ⟨(some 29), (.fad 1 (.tmp 1)), (some (28, true))⟩, ⟨(some 30), (.load false 1 (.tmp 29)), (some (28, true))⟩, ⟨(some 31), (.call 93 [(.tmp 30), (.const (.int .i64 0)), (.const (.int .i64 3))]), (some (28, true))⟩, ⟨(some 32), (.pick (.tmp 28) (.tmp 31) (.const (.bool false))), none⟩, ⟨(some 33), (.mov (.tmp 32)), none⟩, ⟨(some 34), (.fad 2 (.tmp 1)), (some (33, true))⟩, ⟨(some 35), (.load false 1 (.tmp 34)), (some (33, true))⟩, ⟨(some 36), (.call 93 [(.tmp 35), (.const (.int .i64 0)), (.const (.int .i64 3))]), (some (33, true))⟩, ⟨(some 37), (.pick (.tmp 33) (.tmp 36) (.const (.bool false))), none⟩, ⟨(some 38), (.mov (.tmp 37)), none⟩, ⟨(some 39), (.fad 2 (.tmp 1)), (some (38, true))⟩, ⟨(some 40), (.load false 1 (.tmp 39)), (some (38, true))⟩, ⟨(some 41), (.bin .eql .no (.tmp 40) (.const (.int .i64 0))), (some (38, true))⟩, ⟨(some 42), (.mov (.tmp 41)), (some (38, true))⟩, ⟨(some 43), (.fad 1 (.tmp 1)), (some (42, false))⟩, ⟨(some 44), (.load false 1 (.tmp 43)), (some (42, false))⟩, ⟨(some 45), (.fad 2 (.tmp 1)), (some (42, false))⟩, ⟨(some 46), (.load false 1 (.tmp 45)), (some (42, false))⟩, ⟨(some 47), (.bin .neq .no (.tmp 44) (.tmp 46)), (some (42, false))⟩, ⟨(some 48), (.pick (.tmp 42) (.const (.bool true)) (.tmp 47)), (some (38, true))⟩, ⟨(some 49), (.pick (.tmp 38) (.tmp 48) (.const (.bool false))), none⟩, ⟨(some 2), (.mov (.tmp 49)), none⟩])
.ret)))
theorem k164 : compFn prog 164 = some (50, vc164, [.t 2]) := by kernel_rfl
theorem c164 (x : Sign) : PureC prog 164 [.agg x.enc] (.sc (.bool x.ok)) := by
  unfold Sign.enc
  refine pureC_of k164 (by first | rfl | simp [VV.cloL, VV.clo, *]) (by first | rfl | simp [VV.cloL, VV.clo, *]) (by simp) ?_
  intro X hP hm hH hn hX
  refine vwp_ok _ ?_
  unfold vc164
  repeat' (first
    | simp only [go_sem, reduceCtorEq, reduceIte, Nat.reduceAdd, Nat.reduceEqDiff, Nat.reduceLeDiff, Nat.reduceMul, *]
    | refine gdO_bool' _ (fun _ => ?_) (fun _ => ?_)
    | refine gdO_bool _ (fun _ => ?_) (fun _ => ?_)
    | refine gdD_bool' _ (fun _ => ?_) (fun _ => ?_)
    | refine gdD_bool _ (fun _ => ?_) (fun _ => ?_)
    | refine cdO_bool' _ (fun _ => ?_) (fun _ => ?_)
    | refine cdO_bool _ (fun _ => ?_) (fun _ => ?_)
    | refine callO.pure (by first | exact c93 _ _ _) ?_
    | refine callW.pure (by first | exact c93 _ _ _) ?_
    | refine ⟨by decide, ?_⟩
    | refine ppost_t (by simp) rfl ?_)
  all_goals simp only [Sign.ok_def, byteOk, *, Bool.not_true, Bool.not_false, Bool.true_and, Bool.false_and, Bool.true_or, Bool.false_or, Bool.or_true, Bool.or_false, Bool.and_true, Bool.and_false]
/- loop.example/limner/spec.TextOk -/
def vc130 : VCode :=
(.seq (.reg [⟨(some 2), (.mov (.const (.bool false))), none⟩])
(.seq (.seq (.reg [⟨(some 4), (.mov (.tmp 0)), none⟩, ⟨(some 5), (.len false (.tmp 4)), none⟩, ⟨(some 6), (.bin .gtr .no (.tmp 5) (.const (.int .i64 24))), none⟩])
(.cond (.tmp 6) (.seq (.reg [⟨(some 2), (.mov (.const (.bool false))), none⟩])
 .ret)
 .skip))
(.seq (.seq (.reg [⟨(some 3), (.mov (.const (.int .i64 0))), none⟩])
(.block 0 (.loop (.seq (.seq (.reg [⟨(some 7), (.mov (.tmp 3)), none⟩, ⟨(some 8), (.mov (.tmp 0)), none⟩, ⟨(some 9), (.len false (.tmp 8)), none⟩, ⟨(some 10), (.bin .lss .no (.tmp 7) (.tmp 9)), none⟩])
  (.cond (.tmp 10) .skip
   (.exit 0)))
  (.seq (.block 1 (.seq (.reg [⟨(some 13), (.mov (.tmp 0)), none⟩, ⟨(some 14), (.mov (.tmp 3)), none⟩, ⟨(some 15), (.iad 3 (.tmp 13) (.tmp 14)), none⟩, ⟨(some 16), (.load true 3 (.tmp 15)), none⟩, ⟨(some 17), (.call 164 [(.tmp 16)]), none⟩, ⟨(some 18), (.un .not (.tmp 17)), none⟩])
   (.cond (.tmp 18) (.seq (.reg [⟨(some 2), (.mov (.const (.bool false))), none⟩])
    .ret)
    .skip)))
  (.reg [⟨(some 11), (.mov (.tmp 3)), none⟩, ⟨(some 12), (.bin .add .no (.tmp 11) (.const (.int .i64 1))), none⟩, ⟨(some 3), (.mov (.tmp 12)), none⟩]))))))
(.seq (.reg [⟨(some 2), (.mov (.const (.bool true))), none⟩])
.ret))))
theorem k130 : compFn prog 130 = some (19, vc130, [.t 2]) := by kernel_rfl
theorem c130 (l : Text) : PureC prog 130 [encT l] (.sc (.bool (textOk l))) := by
  unfold encT
  refine pureC_of k130 (by first | rfl | simp [VV.cloL, VV.clo, *]) (by first | rfl | simp [VV.cloL, VV.clo, *]) (by simp) ?_
  intro X hP hm hH hn hX
  refine vwp_ok _ ?_
  unfold vc130
  rcases Nat.lt_or_ge 24 l.length with hl | hl
  · have h1 : decide ((l.length : Int) > 24) = true := by simp; omega
    have h2 : textOk l = false := by simp [textOk]; omega
    repeat' (first
      | simp only [go_sem, reduceCtorEq, reduceIte, Nat.reduceAdd, Nat.reduceEqDiff, Nat.reduceLeDiff, Nat.reduceMul, *]
      | refine gdO_bool' _ (fun _ => ?_) (fun _ => ?_)
      | refine gdO_bool _ (fun _ => ?_) (fun _ => ?_)
      | refine gdD_bool' _ (fun _ => ?_) (fun _ => ?_)
      | refine gdD_bool _ (fun _ => ?_) (fun _ => ?_)
      | refine cdO_bool' _ (fun _ => ?_) (fun _ => ?_)
      | refine cdO_bool _ (fun _ => ?_) (fun _ => ?_)
      | refine ⟨by decide, ?_⟩
      | refine ppost_t (by simp) rfl ?_)
  · have h1 : decide ((l.length : Int) > 24) = false := by simp; omega
    repeat' (first
      | simp only [go_sem, reduceCtorEq, reduceIte, Nat.reduceAdd, Nat.reduceEqDiff, Nat.reduceLeDiff, Nat.reduceMul, *]
      | refine gdO_bool' _ (fun _ => ?_) (fun _ => ?_)
      | refine gdO_bool _ (fun _ => ?_) (fun _ => ?_)
      | refine gdD_bool' _ (fun _ => ?_) (fun _ => ?_)
      | refine gdD_bool _ (fun _ => ?_) (fun _ => ?_)
      | refine cdO_bool' _ (fun _ => ?_) (fun _ => ?_)
      | refine cdO_bool _ (fun _ => ?_) (fun _ => ?_)
      | refine ⟨by decide, ?_⟩
      | refine ppost_t (by simp) rfl ?_)
    refine loopV hX (fun μ s H n => ∃ i : Nat, i ≤ l.length ∧ (l.take i).all Sign.ok = true ∧ μ = l.length - i ∧ s = slotsOf [(0, .sl 3 (l.map Sign.enc)), (3, .sc (.int .i64 i))] ∧ H = H0 ∧ n = 0) ?_
      ⟨l.length + 1, roundV_of hH hn [] [(0, _), (3, _)] [] _ ⟨0, by simp, by simp, rfl, rfl, rfl, rfl⟩ (by simp) (by simp) (by simp [hm]) ?_ HConv.nil⟩
    rotate_left
    · repeat' (first | exact List.forall_mem_nil _ | refine List.forall_mem_cons.2 ⟨?_, ?_⟩ | exact .toPt (by simp only [go_sem, reduceCtorEq, reduceIte, Nat.reduceAdd, Nat.reduceEqDiff, Nat.reduceLeDiff, Nat.reduceMul, *] <;> rfl) (by simp [tau]) (by simp) | exact .toRf (by simp only [go_sem, reduceCtorEq, reduceIte, Nat.reduceAdd, Nat.reduceEqDiff, Nat.reduceLeDiff, Nat.reduceMul, *] <;> rfl) (by simp [tau]) (by simp) | exact .same (by simp only [go_sem, reduceCtorEq, reduceIte, Nat.reduceAdd, Nat.reduceEqDiff, Nat.reduceLeDiff, Nat.reduceMul, *] <;> rfl) (by first | rfl | simp [VV.cloL, VV.clo, *]))
    rintro μ s H n ⟨i, hi, hall, rfl, rfl, rfl, rfl⟩
    rcases Nat.lt_or_ge i l.length with hlt | hge
    · have g1 := lt_dec hlt
      have g2 : (0 : Int) ≤ (i : Int) := by omega
      have g3 : (i : Int) < (l.length : Int) := by omega
      have g4 : (l.map Sign.enc).getD i [] = (l[i]).enc := getD_map hlt
      have g5 : IntKind.i64.wrap ((i : Int) + 1) = ((i + 1 : Nat) : Int) := by rw [wrap_id] <;> omega
      repeat' (first
        | simp only [go_sem, reduceCtorEq, reduceIte, Nat.reduceAdd, Nat.reduceEqDiff, Nat.reduceLeDiff, Nat.reduceMul, Sign.encLen, Sign.encTake, *]
        | refine gdO_bool' _ (fun _ => ?_) (fun _ => ?_)
        | refine gdO_bool _ (fun _ => ?_) (fun _ => ?_)
        | refine gdD_bool' _ (fun _ => ?_) (fun _ => ?_)
        | refine gdD_bool _ (fun _ => ?_) (fun _ => ?_)
        | refine cdO_bool' _ (fun _ => ?_) (fun _ => ?_)
        | refine cdO_bool _ (fun _ => ?_) (fun _ => ?_)
        | refine callO.pure (by first | exact c164 _) ?_
        | refine callW.pure (by first | exact c164 _) ?_
        | refine ⟨by decide, ?_⟩
        | refine ppost_t (by simp) rfl ?_)
      · rename_i h
        refine roundV_of hH hn [] [(0, _), (3, _)] [] _ ⟨i + 1, hlt, all_take_succ hlt hall h, rfl, rfl, rfl, rfl⟩ (by omega) (by simp) (by simp [hm]) ?_ HConv.nil
        repeat' (first | exact List.forall_mem_nil _ | refine List.forall_mem_cons.2 ⟨?_, ?_⟩ | exact .toPt (by simp only [go_sem, reduceCtorEq, reduceIte, Nat.reduceAdd, Nat.reduceEqDiff, Nat.reduceLeDiff, Nat.reduceMul, *] <;> rfl) (by simp [tau]) (by simp) | exact .toRf (by simp only [go_sem, reduceCtorEq, reduceIte, Nat.reduceAdd, Nat.reduceEqDiff, Nat.reduceLeDiff, Nat.reduceMul, *] <;> rfl) (by simp [tau]) (by simp) | exact .same (by simp only [go_sem, reduceCtorEq, reduceIte, Nat.reduceAdd, Nat.reduceEqDiff, Nat.reduceLeDiff, Nat.reduceMul, *] <;> rfl) (by first | rfl | simp [VV.cloL, VV.clo, *]))
      · rename_i h
        simp only [textOk, all_false hlt h, Bool.and_false]
    · have g1 := ge_dec hge
      repeat' (first
        | simp only [go_sem, reduceCtorEq, reduceIte, Nat.reduceAdd, Nat.reduceEqDiff, Nat.reduceLeDiff, Nat.reduceMul, *]
        | refine gdO_bool' _ (fun _ => ?_) (fun _ => ?_)
        | refine gdO_bool _ (fun _ => ?_) (fun _ => ?_)
        | refine gdD_bool' _ (fun _ => ?_) (fun _ => ?_)
        | refine gdD_bool _ (fun _ => ?_) (fun _ => ?_)
        | refine cdO_bool' _ (fun _ => ?_) (fun _ => ?_)
        | refine cdO_bool _ (fun _ => ?_) (fun _ => ?_)
        | refine ⟨by decide, ?_⟩
        | refine ppost_t (by simp) rfl ?_)
      simp only [textOk, all_of_take hge hall, Bool.and_true, hl, decide_true]
end Go.Proofs.Ytdmmhainianadaa

/- F2: texts in form, as the program says it. -/
namespace Go.Proofs.Ytdmmhainianadaa
open Go.VM Go.Lim Go.Proofs.Try
attribute [local irreducible] vwp vops vstep vdr vdr1 CallP PPost SWv gdO gdD cdO optV optW optD thenV blockV behind callO callW callvO roundV
set_option linter.unusedSimpArgs false
set_option linter.unusedVariables false
/- loop.example/limner/impl.TextOk -/
def vc121 : VCode :=
(.seq (.reg [⟨(some 2), (.mov (.const (.bool false))), none⟩])
(.seq (.seq (.reg [⟨(some 5), (.mov (.tmp 0)), none⟩, ⟨(some 6), (.len false (.tmp 5)), none⟩, ⟨(some 7), (.mov (.const (.int .i64 0))), none⟩])
(.block 0 (.loop (.seq (.reg [⟨(some 8), (.bin .lss .no (.tmp 7) (.tmp 6)), none⟩])
  (.seq (.cond (.tmp 8) .skip
   (.exit 0))
  (.seq (.block 1 (.seq (.reg [⟨(some 9), (.iad 3 (.tmp 5) (.tmp 7)), none⟩, ⟨(some 10), (.load true 3 (.tmp 9)), none⟩, ⟨(some 4), (.new [(.int .u8 0), (.int .i64 0), (.int .i64 0)]), none⟩, ⟨none, (.store 3 (.tmp 4) (.tmp 10)), none⟩])
   (.seq (.reg [⟨(some 11), (.fad 0 (.tmp 4)), none⟩, ⟨(some 12), (.load false 1 (.tmp 11)), none⟩, ⟨(some 13), (.call 149 [(.tmp 12)]), none⟩, ⟨(some 14), (.un .not (.tmp 13)), none⟩, ⟨(some 15), (.mov (.tmp 14)), none⟩, ⟨(some 16), (.fad 1 (.tmp 4)), (some (15, false))⟩, ⟨(some 17), (.load false 1 (.tmp 16)), (some (15, false))⟩, ⟨(some 18), (.call 113 [(.tmp 17), (.const (.int .i64 0)), (.const (.int .i64 3))]), (some (15, false))⟩, ⟨(some 19), (.un .not (.tmp 18)), (some (15, false))⟩, ⟨(some 20), (.pick (.tmp 15) (.const (.bool true)) (.tmp 19)), none⟩, ⟨(some 21), (.mov (.tmp 20)), none⟩, ⟨(some 22), (.fad 2 (.tmp 4)), (some (21, false))⟩, ⟨(some 23), (.load false 1 (.tmp 22)), (some (21, false))⟩, ⟨(some 24), (.call 113 [(.tmp 23), (.const (.int .i64 0)), (.const (.int .i64 3))]), (some (21, false))⟩, ⟨(some 25), (.un .not (.tmp 24)), (some (21, false))⟩, ⟨(some 26), (.pick (.tmp 21) (.const (.bool true)) (.tmp 25)), none⟩, ⟨(some 27), (.mov (.tmp 26)), none⟩, ⟨(some 28), (.fad 1 (.tmp 4)), (some (27, false))⟩, ⟨(some 29), (.load false 1 (.tmp 28)), (some (27, false))⟩, ⟨(some 30), (.bin .neq .no (.tmp 29) (.const (.int .i64 0))), (some (27, false))⟩, ⟨(some 31), (.mov (.tmp 30)), (some (27, false))⟩, ⟨(some 32), (.fad 1 (.tmp 4)), (some (31, true))⟩, ⟨(some 33), (.load false 1 (.tmp 32)), (some (31, true))⟩, ⟨(some 34), (.fad 2 (.tmp 4)), (some (31, true))⟩, ⟨(some 35), (.load false 1 (.tmp 34)), (some (31, true))⟩, ⟨(some 36), (.bin .eql .no (.tmp 33) (.tmp 35)), (some (31, true))⟩, ⟨(some 37), (.pick (.tmp 31) (.tmp 36) (.const (.bool false))), (some (27, false))⟩, ⟨(some 38), (.pick (.tmp 27) (.const (.bool true)) (.tmp 37)), none⟩])
   (.cond (.tmp 38) (.seq (.reg [⟨(some 2), (.mov (.const (.bool false))), none⟩])
    .ret)
    .skip))))
  (.reg [⟨(some 39), (.bin .add .no (.tmp 7) (.const (.int .i64 1))), none⟩, ⟨(some 7), (.mov (.tmp 39)), none⟩])))))))
(.seq (.reg [⟨(some 40), (.mov (.tmp 0)), none⟩, ⟨(some 41), (.len false (.tmp 40)), none⟩, ⟨(some 42), (.bin .leq .no (.tmp 41) (.const (.int .i64 24))), none⟩, ⟨(some 2), (.mov (.tmp 42)), none⟩])
.ret)))
theorem k121 : compFn prog 121 = some (43, vc121, [.t 2]) := by kernel_rfl
theorem c121 (l : Text) (hs : l.length < 4611686018427387904) : PureC prog 121 [encT l] (.sc (.bool (textOk l))) := by
  unfold encT
  refine pureC_of k121 (by first | rfl | simp [VV.cloL, VV.clo, *]) (by first | rfl | simp [VV.cloL, VV.clo, *]) (by simp) ?_
  intro X hP hm hH hn hX
  refine vwp_ok _ ?_
  unfold vc121
  repeat' (first
    | simp only [go_sem, reduceCtorEq, reduceIte, Nat.reduceAdd, Nat.reduceEqDiff, Nat.reduceLeDiff, Nat.reduceMul, *]
    | refine gdO_bool' _ (fun _ => ?_) (fun _ => ?_)
    | refine gdO_bool _ (fun _ => ?_) (fun _ => ?_)
    | refine gdD_bool' _ (fun _ => ?_) (fun _ => ?_)
    | refine gdD_bool _ (fun _ => ?_) (fun _ => ?_)
    | refine cdO_bool' _ (fun _ => ?_) (fun _ => ?_)
    | refine cdO_bool _ (fun _ => ?_) (fun _ => ?_)
    | refine ⟨by decide, ?_⟩
    | refine ppost_t (by simp) rfl ?_)
  refine loopV hX (fun μ s H n => ∃ i : Nat, i ≤ l.length ∧ (l.take i).all Sign.ok = true ∧ μ = l.length - i ∧ s = slotsOf [(0, .sl 3 (l.map Sign.enc)), (5, .sl 3 (l.map Sign.enc)), (6, .sc (.int .i64 l.length)), (7, .sc (.int .i64 i))] ∧ H = H0 ∧ n = 0) ?_
    ⟨l.length + 1, roundV_of hH hn [] [(0, _), (5, _), (6, _), (7, _)] [] _ ⟨0, by simp, by simp, rfl, rfl, rfl, rfl⟩ (by simp) (by simp) (by simp [hm]) ?_ HConv.nil⟩
  rotate_left
  · repeat' (first | exact List.forall_mem_nil _ | refine List.forall_mem_cons.2 ⟨?_, ?_⟩ | exact .toPt (by simp only [go_sem, reduceCtorEq, reduceIte, Nat.reduceAdd, Nat.reduceEqDiff, Nat.reduceLeDiff, Nat.reduceMul, *] <;> rfl) (by simp [tau]) (by simp) | exact .toRf (by simp only [go_sem, reduceCtorEq, reduceIte, Nat.reduceAdd, Nat.reduceEqDiff, Nat.reduceLeDiff, Nat.reduceMul, *] <;> rfl) (by simp [tau]) (by simp) | exact .same (by simp only [go_sem, reduceCtorEq, reduceIte, Nat.reduceAdd, Nat.reduceEqDiff, Nat.reduceLeDiff, Nat.reduceMul, *] <;> rfl) (by first | rfl | simp [VV.cloL, VV.clo, *]))
  rintro μ s H n ⟨i, hi, hall, rfl, rfl, rfl, rfl⟩
  rcases Nat.lt_or_ge i l.length with hlt | hge
  · have g1 := lt_dec hlt
    have g2 : (0 : Int) ≤ (i : Int) := by omega
    have g3 : (i : Int) < (l.length : Int) := by omega
    have g4 : (l.map Sign.enc).getD i [] = (l[i]).enc := getD_map hlt
    have g5 : IntKind.i64.wrap ((i : Int) + 1) = ((i + 1 : Nat) : Int) := by rw [wrap_id] <;> omega
    have g6 : (l[i]).enc = [.sc (.int .u8 (l[i]).byte), .sc (.int .i64 (l[i]).inn), .sc (.int .i64 (l[i]).out)] := rfl
    have bad : (l[i]).ok = false → textOk l = false := fun h => by simp only [textOk, all_false hlt h, Bool.and_false]
    have good : (l[i]).ok = true → (l.take (i + 1)).all Sign.ok = true := fun h => all_take_succ hlt hall h
    generalize l[i] = x at *
    repeat' (first
      | simp only [go_sem, reduceCtorEq, reduceIte, Nat.reduceAdd, Nat.reduceEqDiff, Nat.reduceLeDiff, Nat.reduceMul, *]
      | refine gdO_bool' _ (fun _ => ?_) (fun _ => ?_)
      | refine gdO_bool _ (fun _ => ?_) (fun _ => ?_)
      | refine gdD_bool' _ (fun _ => ?_) (fun _ => ?_)
      | refine gdD_bool _ (fun _ => ?_) (fun _ => ?_)
      | refine cdO_bool' _ (fun _ => ?_) (fun _ => ?_)
      | refine cdO_bool _ (fun _ => ?_) (fun _ => ?_)
      | refine callO.pure (by first | exact c149 _ | exact c113 _ _ _) ?_
      | refine callW.pure (by first | exact c149 _ | exact c113 _ _ _) ?_
      | refine ⟨by decide, ?_⟩
      | refine ppost_t (by simp) rfl ?_)
    all_goals first
      | (rw [bad (by simp only [Sign.ok_alt, *, Bool.true_and, Bool.false_and, Bool.and_true, Bool.and_false, Bool.not_true, Bool.not_false])]; done)
      | (refine roundV_of hH hn [] [(0, _), (5, _), (6, _), (7, _)] [] _ ⟨i + 1, hlt, good (by simp only [Sign.ok_alt, *, Bool.true_and, Bool.false_and, Bool.and_true, Bool.and_false, Bool.not_true, Bool.not_false]), rfl, rfl, rfl, rfl⟩ (by omega) (by simp) (by simp [hm]) ?_ HConv.nil
         repeat' (first | exact List.forall_mem_nil _ | refine List.forall_mem_cons.2 ⟨?_, ?_⟩ | exact .toPt (by simp only [go_sem, reduceCtorEq, reduceIte, Nat.reduceAdd, Nat.reduceEqDiff, Nat.reduceLeDiff, Nat.reduceMul, *] <;> rfl) (by simp [tau]) (by simp) | exact .toRf (by simp only [go_sem, reduceCtorEq, reduceIte, Nat.reduceAdd, Nat.reduceEqDiff, Nat.reduceLeDiff, Nat.reduceMul, *] <;> rfl) (by simp [tau]) (by simp) | exact .same (by simp only [go_sem, reduceCtorEq, reduceIte, Nat.reduceAdd, Nat.reduceEqDiff, Nat.reduceLeDiff, Nat.reduceMul, *] <;> rfl) (by first | rfl | simp [VV.cloL, VV.clo, *]))
         done)
  · have g1 := ge_dec hge
    repeat' (first
      | simp only [go_sem, reduceCtorEq, reduceIte, Nat.reduceAdd, Nat.reduceEqDiff, Nat.reduceLeDiff, Nat.reduceMul, *]
      | refine gdO_bool' _ (fun _ => ?_) (fun _ => ?_)
      | refine gdO_bool _ (fun _ => ?_) (fun _ => ?_)
      | refine gdD_bool' _ (fun _ => ?_) (fun _ => ?_)
      | refine gdD_bool _ (fun _ => ?_) (fun _ => ?_)
      | refine cdO_bool' _ (fun _ => ?_) (fun _ => ?_)
      | refine cdO_bool _ (fun _ => ?_) (fun _ => ?_)
      | refine ⟨by decide, ?_⟩
      | refine ppost_t (by simp) rfl ?_)
    simp only [textOk, all_of_take hge hall, Bool.and_true]
    congr 2
    rw [Bool.eq_iff_iff]
    simp
    omega
end Go.Proofs.Ytdmmhainianadaa

/- F3: small functions about cells and tables. -/
namespace Go.Proofs.Ytdmmhainianadaa
open Go.VM Go.Lim Go.Proofs.Try
attribute [local irreducible] vwp vops vstep vdr vdr1 CallP PPost SWv gdO gdD cdO optV optW optD thenV blockV behind callO callW callvO roundV
set_option linter.unusedSimpArgs false
set_option linter.unusedVariables false
/- loop.example/limner/spec.l3None -/
def vc143 : VCode :=
(.seq (.reg [⟨(some 1), (.box (.tmp 0)), none⟩, ⟨(some 2), (.mov (.const (.bool false))), none⟩])
(.seq (.reg [⟨(some 3), (.fad 0 (.tmp 1)), none⟩, ⟨(some 4), (.load false 1 (.tmp 3)), none⟩, ⟨(some 5), (.bin .eql .no (.tmp 4) (.const (.int .i64 0))), none⟩, ⟨(some 6), (.mov (.tmp 5)), none⟩, ⟨(some 7), (.fad 1 (.tmp 1)), (some (6, true))⟩, ⟨(some 8), (.load false 1 (.tmp 7)), (some (6, true))⟩, ⟨(some 9), (.bin .eql .no (.tmp 8) (.const (.int .i64 0))), (some (6, true))⟩, ⟨(some 10), (.pick (.tmp 6) (.tmp 9) (.const (.bool false))), none⟩, ⟨(some 11), (.mov (.tmp 10)), none⟩, ⟨(some 12), (.fad 2 (.tmp 1)), (some (11, true))⟩, ⟨(some 13), (.load false 1 (.tmp 12)), (some (11, true))⟩, ⟨(some 14), (.len false (.tmp 13)), (some (11, true))⟩, ⟨(some 15), (.bin .eql .no (.tmp 14) (.const (.int .i64 0))), (some (11, true))⟩, ⟨(some 16), (.pick (.tmp 11) (.tmp 15) (.const (.bool false))), none⟩, ⟨(some 2), (.mov (.tmp 16)), none⟩])
.ret))
theorem k143 : compFn prog 143 = some (17, vc143, [.t 2]) := by kernel_rfl
/- loop.example/limner/impl.noTable -/
def vc145 : VCode :=
(.seq (.reg [⟨(some 1), (.box (.tmp 0)), none⟩, ⟨(some 2), (.mov (.const (.bool false))), none⟩])
(.seq (.reg [⟨(some 3), (.fad 0 (.tmp 1)), none⟩, ⟨(some 4), (.load false 1 (.tmp 3)), none⟩, ⟨(some 5), (.bin .eql .no (.tmp 4) (.const (.int .i64 0))), none⟩, ⟨(some 6), (.mov (.tmp 5)), none⟩, ⟨(some 7), (.fad 1 (.tmp 1)), (some (6, true))⟩, ⟨(some 8), (.load false 1 (.tmp 7)), (some (6, true))⟩, ⟨(some 9), (.bin .eql .no (.tmp 8) (.const (.int .i64 0))), (some (6, true))⟩, ⟨(some 10), (.pick (.tmp 6) (.tmp 9) (.const (.bool false))), none⟩, ⟨(some 11), (.mov (.tmp 10)), none⟩, ⟨(some 12), (.fad 2 (.tmp 1)), (some (11, true))⟩, ⟨(some 13), (.load false 1 (.tmp 12)), (some (11, true))⟩, ⟨(some 14), (.len false (.tmp 13)), (some (11, true))⟩, ⟨(some 15), (.bin .eql .no (.tmp 14) (.const (.int .i64 0))), (some (11, true))⟩, ⟨(some 16), (.pick (.tmp 11) (.tmp 15) (.const (.bool false))), none⟩, ⟨(some 2), (.mov (.tmp 16)), none⟩])
.ret))
theorem k145 : compFn prog 145 = some (17, vc145, [.t 2]) := by kernel_rfl
/- loop.example/limner/spec.l2In -/
def vc176 : VCode :=
(.seq (.reg [⟨(some 3), (.box (.tmp 0)), none⟩, ⟨(some 6), (.mov (.const (.bool false))), none⟩])
(.seq (.reg [⟨(some 7), (.mov (.tmp 1)), none⟩, ⟨(some 8), (.fad 0 (.tmp 3)), none⟩, ⟨(some 9), (.load false 1 (.tmp 8)), none⟩, ⟨(some 10), (.bin .geq .no (.tmp 7) (.tmp 9)), none⟩, ⟨(some 11), (.mov (.tmp 10)), none⟩, ⟨(some 12), (.mov (.tmp 1)), (some (11, true))⟩, ⟨(some 13), (.fad 0 (.tmp 3)), (some (11, true))⟩, ⟨(some 14), (.load false 1 (.tmp 13)), (some (11, true))⟩, ⟨(some 15), (.fad 2 (.tmp 3)), (some (11, true))⟩, ⟨(some 16), (.load false 1 (.tmp 15)), (some (11, true))⟩, ⟨(some 17), (.bin .add .no (.tmp 14) (.tmp 16)), (some (11, true))⟩, ⟨(some 18), (.bin .lss .no (.tmp 12) (.tmp 17)), (some (11, true))⟩, ⟨(some 19), (.pick (.tmp 11) (.tmp 18) (.const (.bool false))), none⟩, ⟨(some 20), (.mov (.tmp 19)), none⟩, ⟨(some 21), (.mov (.tmp 2)), (some (20, true))⟩, ⟨(some 22), (.fad 1 (.tmp 3)), (some (20, true))⟩, ⟨(some 23), (.load false 1 (.tmp 22)), (some (20, true))⟩, ⟨(some 24), (.bin .geq .no (.tmp 21) (.tmp 23)), (some (20, true))⟩, ⟨(some 25), (.pick (.tmp 20) (.tmp 24) (.const (.bool false))), none⟩, ⟨(some 26), (.mov (.tmp 25)), none⟩, ⟨(some 27), (.mov (.tmp 2)), (some (26, true))⟩, ⟨(some 28), (.fad 1 (.tmp 3)), (some (26, true))⟩, ⟨(some 29), (.load false 1 (.tmp 28)), (some (26, true))⟩, ⟨(some 30), (.fad 3 (.tmp 3)), (some (26, true))⟩, ⟨(some 31), (.load false 1 (.tmp 30)), (some (26, true))⟩, ⟨(some 32), (.bin .add .no (.tmp 29) (.tmp 31)), (some (26, true))⟩, ⟨(some 33), (.bin .lss .no (.tmp 27) (.tmp 32)), (some (26, true))⟩, ⟨(some 34), (.pick (.tmp 26) (.tmp 33) (.const (.bool false))), none⟩, ⟨(some 6), (.mov (.tmp 34)), none⟩])
.ret))
theorem k176 : compFn prog 176 = some (35, vc176, [.t 6]) := by kernel_rfl
/- (loop.example/limner/impl.Cell).has -/
def vc200 : VCode :=
(.seq (.reg [⟨(some 3), (.box (.tmp 0)), none⟩, ⟨(some 6), (.mov (.const (.bool false))), none⟩])
(.seq (.reg [⟨(some 7), (.mov (.tmp 1)), none⟩, ⟨(some 8), (.fad 0 (.tmp 3)), none⟩, ⟨(some 9), (.load false 1 (.tmp 8)), none⟩, ⟨(some 10), (.bin .geq .no (.tmp 7) (.tmp 9)), none⟩, ⟨(some 11), (.mov (.tmp 10)), none⟩, ⟨(some 12), (.mov (.tmp 1)), (some (11, true))⟩, ⟨(some 13), (.fad 0 (.tmp 3)), (some (11, true))⟩, ⟨(some 14), (.load false 1 (.tmp 13)), (some (11, true))⟩, ⟨(some 15), (.fad 2 (.tmp 3)), (some (11, true))⟩, ⟨(some 16), (.load false 1 (.tmp 15)), (some (11, true))⟩, ⟨(some 17), (.bin .add .no (.tmp 14) (.tmp 16)), (some (11, true))⟩, ⟨(some 18), (.bin .lss .no (.tmp 12) (.tmp 17)), (some (11, true))⟩, ⟨(some 19), (.pick (.tmp 11) (.tmp 18) (.const (.bool false))), none⟩, ⟨(some 20), (.mov (.tmp 19)), none⟩, ⟨(some 21), (.mov (.tmp 2)), (some (20, true))⟩, ⟨(some 22), (.fad 1 (.tmp 3)), (some (20, true))⟩, ⟨(some 23), (.load false 1 (.tmp 22)), (some (20, true))⟩, ⟨(some 24), (.bin .geq .no (.tmp 21) (.tmp 23)), (some (20, true))⟩, ⟨(some 25), (.pick (.tmp 20) (.tmp 24) (.const (.bool false))), none⟩, ⟨(some 26), (.mov (.tmp 25)), none⟩, ⟨(some 27), (.mov (.tmp 2)), (some (26, true))⟩, ⟨(some 28), (.fad 1 (.tmp 3)), (some (26, true))⟩, ⟨(some 29), (.load false 1 (.tmp 28)), (some (26, true))⟩, ⟨(some 30), (.fad 3 (.tmp 3)), (some (26, true))⟩, ⟨(some 31), (.load false 1 (.tmp 30)), (some (26, true))⟩, ⟨(some 32), (.bin .add .no (.tmp 29) (.tmp 31)), (some (26, true))⟩, ⟨(some 33), (.bin .lss .no (.tmp 27) (.tmp 32)), (some (26, true))⟩, ⟨(some 34), (.pick (.tmp 26) (.tmp 33) (.const (.bool false))), none⟩, ⟨(some 6), (.mov (.tmp 34)), none⟩])
.ret))
theorem k200 : compFn prog 200 = some (35, vc200, [.t 6]) := by kernel_rfl
/- cmp.isNaN[int] -/
def vc209 : VCode :=
(.seq (.reg [⟨(some 2), (.mov (.const (.bool false))), none⟩])
(.seq (.reg [⟨(some 3), (.mov (.tmp 0)), none⟩, ⟨(some 4), (.mov (.tmp 0)), none⟩, ⟨(some 5), (.bin .neq .no (.tmp 3) (.tmp 4)), none⟩, ⟨(some 2), (.mov (.tmp 5)), none⟩])
.ret))
theorem k209 : compFn prog 209 = some (6, vc209, [.t 2]) := by kernel_rfl
/- cmp.Compare[int] -/
def vc197 : VCode :=
(.seq (.reg [⟨(some 4), (.mov (.const (.int .i64 0))), none⟩])
(.seq (.reg [⟨(some 7), (.mov (.tmp 0)), none⟩, ⟨(some 8), (.call 209 [(.tmp 7)]), none⟩, ⟨(some 5), (.mov (.tmp 8)), none⟩])
(.seq (.reg [⟨(some 9), (.mov (.tmp 1)), none⟩, ⟨(some 10), (.call 209 [(.tmp 9)]), none⟩, ⟨(some 6), (.mov (.tmp 10)), none⟩])
(.seq (.seq (.reg [⟨(some 11), (.mov (.tmp 5)), none⟩])
(.cond (.tmp 11) (.seq (.seq (.reg [⟨(some 12), (.mov (.tmp 6)), none⟩])
 (.cond (.tmp 12) (.seq (.reg [⟨(some 4), (.mov (.const (.int .i64 0))), none⟩])
  .ret)
  .skip))
 (.seq (.reg [⟨(some 4), (.mov (.const (.int .i64 (-1)))), none⟩])
 .ret))
 .skip))
(.seq (.seq (.reg [⟨(some 13), (.mov (.tmp 6)), none⟩])
(.cond (.tmp 13) (.seq (.reg [⟨(some 4), (.mov (.const (.int .i64 1))), none⟩])
 .ret)
 .skip))
(.seq (.seq (.reg [⟨(some 14), (.mov (.tmp 0)), none⟩, ⟨(some 15), (.mov (.tmp 1)), none⟩, ⟨(some 16), (.bin .lss .no (.tmp 14) (.tmp 15)), none⟩])
(.cond (.tmp 16) (.seq (.reg [⟨(some 4), (.mov (.const (.int .i64 (-1)))), none⟩])
 .ret)
 .skip))
(.seq (.seq (.reg [⟨(some 17), (.mov (.tmp 0)), none⟩, ⟨(some 18), (.mov (.tmp 1)), none⟩, ⟨(some 19), (.bin .gtr .no (.tmp 17) (.tmp 18)), none⟩])
(.cond (.tmp 19) (.seq (.reg [⟨(some 4), (.mov (.const (.int .i64 1))), none⟩])
 .ret)
 .skip))
(.seq (.reg [⟨(some 4), (.mov (.const (.int .i64 0))), none⟩])
.ret))))))))
theorem k197 : compFn prog 197 = some (20, vc197, [.t 4]) := by kernel_rfl
/- cmp.Or[int] -/
def vc196 : VCode :=
(.seq (.reg [⟨(some 2), (.mov (.const (.int .i64 0))), none⟩])
(.seq (.reg [⟨(some 3), (.mov (.const (.int .i64 0))), none⟩])
(.seq (.seq (.reg [⟨(some 6), (.mov (.tmp 0)), none⟩, ⟨(some 7), (.len false (.tmp 6)), none⟩, ⟨(some 8), (.mov (.const (.int .i64 0))), none⟩])
(.block 0 (.loop (.seq (.reg [⟨(some 9), (.bin .lss .no (.tmp 8) (.tmp 7)), none⟩])
  (.seq (.cond (.tmp 9) .skip
   (.exit 0))
  (.seq (.block 1 (.seq (.reg [⟨(some 10), (.iad 1 (.tmp 6) (.tmp 8)), none⟩, ⟨(some 11), (.load false 1 (.tmp 10)), none⟩, ⟨(some 5), (.mov (.tmp 11)), none⟩])
   (.seq (.reg [⟨(some 12), (.mov (.tmp 5)), none⟩, ⟨(some 13), (.mov (.tmp 3)), none⟩, ⟨(some 14), (.bin .neq .no (.tmp 12) (.tmp 13)), none⟩])
   (.cond (.tmp 14) (.seq (.reg [⟨(some 15), (.mov (.tmp 5)), none⟩, ⟨(some 2), (.mov (.tmp 15)), none⟩])
    .ret)
    .skip))))
  (.reg [⟨(some 16), (.bin .add .no (.tmp 8) (.const (.int .i64 1))), none⟩, ⟨(some 8), (.mov (.tmp 16)), none⟩])))))))
(.seq (.reg [⟨(some 17), (.mov (.tmp 3)), none⟩, ⟨(some 2), (.mov (.tmp 17)), none⟩])
.ret))))
theorem k196 : compFn prog 196 = some (18, vc196, [.t 2]) := by kernel_rfl
/- loop.example/limner/impl.cellOrder -/
def vc177 : VCode :=
(.seq (.reg [⟨(some 2), (.box (.tmp 0)), none⟩, ⟨(some 3), (.box (.tmp 1)), none⟩, ⟨(some 4), (.mov (.const (.int .i64 0))), none⟩])
(.seq (.drw [(⟨(some 5), (.fad 0 (.tmp 2)), none⟩, []), (⟨(some 6), (.load false 1 (.tmp 5)), none⟩, []), (⟨(some 7), (.fad 0 (.tmp 3)), none⟩, []), (⟨(some 8), (.load false 1 (.tmp 7)), none⟩, [1]), (⟨(some 9), (.call 197 [(.tmp 6), (.tmp 8)]), none⟩, []), (⟨(some 10), (.fad 1 (.tmp 2)), none⟩, []), (⟨(some 11), (.load false 1 (.tmp 10)), none⟩, [1, 3, 4]), (⟨(some 12), (.fad 1 (.tmp 3)), none⟩, []), (⟨(some 13), (.load false 1 (.tmp 12)), none⟩, [1, 3, 4, 6]), (⟨(some 14), (.call 197 [(.tmp 11), (.tmp 13)]), none⟩, []), (⟨(some 15), (.bslice 1 2 [(.int .i64 0)] [(0, 1, (.tmp 9)), (1, 1, (.tmp 14))]), none⟩, []), (⟨(some 16), (.call 196 [(.tmp 15)]), none⟩, []), (⟨(some 4), (.mov (.tmp 16)), none⟩, [])])
.ret))
theorem k177 : compFn prog 177 = some (17, vc177, [.t 4]) := by kernel_rfl
/- (loop.example/limner/impl.Table).at$1 -/
def vc199 : VCode :=
(.seq (.reg [⟨(some 3), (.box (.tmp 0)), none⟩, ⟨(some 4), (.mov (.const (.bool false))), none⟩])
(.seq (.reg [⟨(some 5), (.load true 5 (.tmp 3)), none⟩, ⟨(some 6), (.load false 1 (.tmp 1)), none⟩, ⟨(some 7), (.load false 1 (.tmp 2)), none⟩, ⟨(some 8), (.call 200 [(.tmp 5), (.tmp 6), (.tmp 7)]), none⟩, ⟨(some 4), (.mov (.tmp 8)), none⟩])
.ret))
theorem k199 : compFn prog 199 = some (9, vc199, [.t 4]) := by kernel_rfl
/- slices.IndexFunc[[]loop.example/limner/impl.Cell,loop.example/limner/impl.Cell] -/
def vc198 : VCode :=
(.seq (.reg [⟨(some 4), (.mov (.const (.int .i64 0))), none⟩])
(.seq (.seq (.reg [⟨(some 6), (.mov (.tmp 0)), none⟩, ⟨(some 7), (.len false (.tmp 6)), none⟩, ⟨(some 8), (.mov (.const (.int .i64 0))), none⟩])
(.block 0 (.loop (.seq (.reg [⟨(some 9), (.bin .lss .no (.tmp 8) (.tmp 7)), none⟩])
  (.seq (.cond (.tmp 9) .skip
   (.exit 0))
  (.seq (.block 1 (.seq (.reg [⟨(some 10), (.mov (.tmp 8)), none⟩, ⟨(some 5), (.mov (.tmp 10)), none⟩])
   (.seq (.reg [⟨(some 11), (.mov (.tmp 1)), none⟩, ⟨(some 12), (.mov (.tmp 0)), none⟩, ⟨(some 13), (.mov (.tmp 5)), none⟩, ⟨(some 14), (.iad 5 (.tmp 12) (.tmp 13)), none⟩, ⟨(some 15), (.load true 5 (.tmp 14)), none⟩, ⟨(some 16), (.callv (.tmp 11) [(.tmp 15)]), none⟩])
   (.cond (.tmp 16) (.seq (.reg [⟨(some 17), (.mov (.tmp 5)), none⟩, ⟨(some 4), (.mov (.tmp 17)), none⟩])
    .ret)
    .skip))))
  (.reg [⟨(some 18), (.bin .add .no (.tmp 8) (.const (.int .i64 1))), none⟩, ⟨(some 8), (.mov (.tmp 18)), none⟩])))))))
(.seq (.reg [⟨(some 4), (.mov (.const (.int .i64 (-1)))), none⟩])
.ret)))
theorem k198 : compFn prog 198 = some (19, vc198, [.t 4]) := by kernel_rfl
/- (loop.example/limner/impl.Table).at -/
def vc178 : VCode :=
(.seq (.reg [⟨(some 3), (.box (.tmp 0)), none⟩, ⟨(some 4), (.box (.tmp 1)), none⟩, ⟨(some 5), (.box (.tmp 2)), none⟩, ⟨(some 6), (.mov (.const (.int .i64 0))), none⟩])
(.seq (.reg [⟨(some 7), (.fad 2 (.tmp 3)), none⟩, ⟨(some 8), (.load false 1 (.tmp 7)), none⟩, ⟨(some 9), (.mkf 199 [(.tmp 4), (.tmp 5)]), none⟩, ⟨(some 10), (.call 198 [(.tmp 8), (.tmp 9)]), none⟩, ⟨(some 6), (.mov (.tmp 10)), none⟩])
.ret))
theorem k178 : compFn prog 178 = some (11, vc178, [.t 6]) := by kernel_rfl
theorem c143 (t : Table) : PureC prog 143 [.agg t.enc] (.sc (.bool (noTable t))) := by
  unfold Table.enc encC
  refine pureC_of k143 (by first | rfl | simp [VV.cloL, VV.clo, *]) (by first | rfl | simp [VV.cloL, VV.clo, *]) (by simp) ?_
  intro X hP hm hH hn hX
  refine vwp_ok _ ?_
  unfold vc143
  repeat' (first
    | simp only [go_sem, reduceCtorEq, reduceIte, Nat.reduceAdd, Nat.reduceEqDiff, Nat.reduceLeDiff, Nat.reduceMul, *]
    | refine gdO_bool' _ (fun _ => ?_) (fun _ => ?_)
    | refine gdO_bool _ (fun _ => ?_) (fun _ => ?_)
    | refine gdD_bool' _ (fun _ => ?_) (fun _ => ?_)
    | refine gdD_bool _ (fun _ => ?_) (fun _ => ?_)
    | refine cdO_bool' _ (fun _ => ?_) (fun _ => ?_)
    | refine cdO_bool _ (fun _ => ?_) (fun _ => ?_)
    | refine ⟨by decide, ?_⟩
    | refine ppost_t (by simp) rfl ?_)
  all_goals simp only [noTable_def, *, Bool.true_and, Bool.false_and, Bool.and_true, Bool.and_false]
theorem c145 (t : Table) : PureC prog 145 [.agg t.enc] (.sc (.bool (noTable t))) := by
  unfold Table.enc encC
  refine pureC_of k145 (by first | rfl | simp [VV.cloL, VV.clo, *]) (by first | rfl | simp [VV.cloL, VV.clo, *]) (by simp) ?_
  intro X hP hm hH hn hX
  refine vwp_ok _ ?_
  unfold vc145
  repeat' (first
    | simp only [go_sem, reduceCtorEq, reduceIte, Nat.reduceAdd, Nat.reduceEqDiff, Nat.reduceLeDiff, Nat.reduceMul, *]
    | refine gdO_bool' _ (fun _ => ?_) (fun _ => ?_)
    | refine gdO_bool _ (fun _ => ?_) (fun _ => ?_)
    | refine gdD_bool' _ (fun _ => ?_) (fun _ => ?_)
    | refine gdD_bool _ (fun _ => ?_) (fun _ => ?_)
    | refine cdO_bool' _ (fun _ => ?_) (fun _ => ?_)
    | refine cdO_bool _ (fun _ => ?_) (fun _ => ?_)
    | refine ⟨by decide, ?_⟩
    | refine ppost_t (by simp) rfl ?_)
  all_goals simp only [noTable_def, *, Bool.true_and, Bool.false_and, Bool.and_true, Bool.and_false]
theorem c176 (c : Cell) (row col : Int) : PureC prog 176 [.agg c.enc, .sc (.int .i64 row), .sc (.int .i64 col)] (.sc (.bool (has c row col))) := by
  unfold Cell.enc encT
  refine pureC_of k176 (by first | rfl | simp [VV.cloL, VV.clo, *]) (by first | rfl | simp [VV.cloL, VV.clo, *]) (by simp) ?_
  intro X hP hm hH hn hX
  refine vwp_ok _ ?_
  unfold vc176
  repeat' (first
    | simp only [go_sem, reduceCtorEq, reduceIte, Nat.reduceAdd, Nat.reduceEqDiff, Nat.reduceLeDiff, Nat.reduceMul, *]
    | refine gdO_bool' _ (fun _ => ?_) (fun _ => ?_)
    | refine gdO_bool _ (fun _ => ?_) (fun _ => ?_)
    | refine gdD_bool' _ (fun _ => ?_) (fun _ => ?_)
    | refine gdD_bool _ (fun _ => ?_) (fun _ => ?_)
    | refine cdO_bool' _ (fun _ => ?_) (fun _ => ?_)
    | refine cdO_bool _ (fun _ => ?_) (fun _ => ?_)
    | refine ⟨by decide, ?_⟩
    | refine ppost_t (by simp) rfl ?_)
  all_goals simp only [has, *, Bool.true_and, Bool.false_and, Bool.and_true, Bool.and_false]
theorem c200 (c : Cell) (row col : Int) : PureC prog 200 [.agg c.enc, .sc (.int .i64 row), .sc (.int .i64 col)] (.sc (.bool (has c row col))) := by
  unfold Cell.enc encT
  refine pureC_of k200 (by first | rfl | simp [VV.cloL, VV.clo, *]) (by first | rfl | simp [VV.cloL, VV.clo, *]) (by simp) ?_
  intro X hP hm hH hn hX
  refine vwp_ok _ ?_
  unfold vc200
  repeat' (first
    | simp only [go_sem, reduceCtorEq, reduceIte, Nat.reduceAdd, Nat.reduceEqDiff, Nat.reduceLeDiff, Nat.reduceMul, *]
    | refine gdO_bool' _ (fun _ => ?_) (fun _ => ?_)
    | refine gdO_bool _ (fun _ => ?_) (fun _ => ?_)
    | refine gdD_bool' _ (fun _ => ?_) (fun _ => ?_)
    | refine gdD_bool _ (fun _ => ?_) (fun _ => ?_)
    | refine cdO_bool' _ (fun _ => ?_) (fun _ => ?_)
    | refine cdO_bool _ (fun _ => ?_) (fun _ => ?_)
    | refine ⟨by decide, ?_⟩
    | refine ppost_t (by simp) rfl ?_)
  all_goals simp only [has, *, Bool.true_and, Bool.false_and, Bool.and_true, Bool.and_false]
theorem c209 (a : Int) : PureC prog 209 [.sc (.int .i64 a)] (.sc (.bool false)) := by
  refine pureC_of k209 (by first | rfl | simp [VV.cloL, VV.clo, *]) (by first | rfl | simp [VV.cloL, VV.clo, *]) (by simp) ?_
  intro X hP hm hH hn hX
  refine vwp_ok _ ?_
  unfold vc209
  repeat' (first
    | simp only [go_sem, reduceCtorEq, reduceIte, Nat.reduceAdd, Nat.reduceEqDiff, Nat.reduceLeDiff, Nat.reduceMul, beq_self_eq_true, *]
    | refine gdO_bool' _ (fun _ => ?_) (fun _ => ?_)
    | refine gdO_bool _ (fun _ => ?_) (fun _ => ?_)
    | refine gdD_bool' _ (fun _ => ?_) (fun _ => ?_)
    | refine gdD_bool _ (fun _ => ?_) (fun _ => ?_)
    | refine cdO_bool' _ (fun _ => ?_) (fun _ => ?_)
    | refine cdO_bool _ (fun _ => ?_) (fun _ => ?_)
    | refine ⟨by decide, ?_⟩
    | refine ppost_t (by simp) rfl ?_)
theorem c197 (a b : Int) : PureC prog 197 [.sc (.int .i64 a), .sc (.int .i64 b)] (.sc (.int .i64 (cmpI a b))) := by
  refine pureC_of k197 (by first | rfl | simp [VV.cloL, VV.clo, *]) (by first | rfl | simp [VV.cloL, VV.clo, *]) (by simp) ?_
  intro X hP hm hH hn hX
  refine vwp_ok _ ?_
  unfold vc197
  repeat' (first
    | simp only [go_sem, reduceCtorEq, reduceIte, Nat.reduceAdd, Nat.reduceEqDiff, Nat.reduceLeDiff, Nat.reduceMul, *]
    | refine gdO_bool' _ (fun _ => ?_) (fun _ => ?_)
    | refine gdO_bool _ (fun _ => ?_) (fun _ => ?_)
    | refine gdD_bool' _ (fun _ => ?_) (fun _ => ?_)
    | refine gdD_bool _ (fun _ => ?_) (fun _ => ?_)
    | refine cdO_bool' _ (fun _ => ?_) (fun _ => ?_)
    | refine cdO_bool _ (fun _ => ?_) (fun _ => ?_)
    | refine callO.pure (by first | exact c209 _) ?_
    | refine callW.pure (by first | exact c209 _) ?_
    | refine ⟨by decide, ?_⟩
    | refine ppost_t (by simp) rfl ?_)
  all_goals simp only [cmpI, *, Bool.false_eq_true, if_true, if_false]
theorem c196' (l : List Int) (hs : l.length < 4611686018427387904) : PureC prog 196 [.sl 1 (l.map fun a => [.sc (.int .i64 a)])] (.sc (.int .i64 (orL l))) := by
  refine pureC_of k196 (by first | rfl | simp [VV.cloL, VV.clo, *]) (by first | rfl | simp [VV.cloL, VV.clo, *]) (by simp) ?_
  intro X hP hm hH hn hX
  refine vwp_ok _ ?_
  unfold vc196
  repeat' (first
    | simp only [go_sem, reduceCtorEq, reduceIte, Nat.reduceAdd, Nat.reduceEqDiff, Nat.reduceLeDiff, Nat.reduceMul, *]
    | refine gdO_bool' _ (fun _ => ?_) (fun _ => ?_)
    | refine gdO_bool _ (fun _ => ?_) (fun _ => ?_)
    | refine gdD_bool' _ (fun _ => ?_) (fun _ => ?_)
    | refine gdD_bool _ (fun _ => ?_) (fun _ => ?_)
    | refine cdO_bool' _ (fun _ => ?_) (fun _ => ?_)
    | refine cdO_bool _ (fun _ => ?_) (fun _ => ?_)
    | refine ⟨by decide, ?_⟩
    | refine ppost_t (by simp) rfl ?_)
  refine loopV hX (fun μ s H n => ∃ i : Nat, i ≤ l.length ∧ (∀ (j : Nat) (x : Int), j < i → l[j]? = some x → (x == 0) = true) ∧ μ = l.length - i ∧ s = slotsOf [(3, .sc (.int .i64 0)), (6, .sl 1 (l.map fun a => [.sc (.int .i64 a)])), (7, .sc (.int .i64 l.length)), (8, .sc (.int .i64 i))] ∧ H = H0 ∧ n = 0) ?_
    ⟨l.length + 1, roundV_of hH hn [] [(3, _), (6, _), (7, _), (8, _)] [] _ ⟨0, by simp, by simp, rfl, rfl, rfl, rfl⟩ (by simp) (by simp) (by simp [hm]) ?_ HConv.nil⟩
  rotate_left
  · repeat' (first | exact List.forall_mem_nil _ | refine List.forall_mem_cons.2 ⟨?_, ?_⟩ | exact .toPt (by simp only [go_sem, reduceCtorEq, reduceIte, Nat.reduceAdd, Nat.reduceEqDiff, Nat.reduceLeDiff, Nat.reduceMul, *] <;> rfl) (by simp [tau]) (by simp) | exact .toRf (by simp only [go_sem, reduceCtorEq, reduceIte, Nat.reduceAdd, Nat.reduceEqDiff, Nat.reduceLeDiff, Nat.reduceMul, *] <;> rfl) (by simp [tau]) (by simp) | exact .same (by simp only [go_sem, reduceCtorEq, reduceIte, Nat.reduceAdd, Nat.reduceEqDiff, Nat.reduceLeDiff, Nat.reduceMul, *] <;> rfl) (by first | rfl | simp [VV.cloL, VV.clo, *]))
  rintro μ s H n ⟨i, hi, hz, rfl, rfl, rfl, rfl⟩
  rcases Nat.lt_or_ge i l.length with hlt | hge
  · have g1 := lt_dec hlt
    have g2 : (0 : Int) ≤ (i : Int) := by omega
    have g3 : (i : Int) < (l.length : Int) := by omega
    have g4 : (l.map fun a => [VV.sc (.int .i64 a)]).getD i [] = [.sc (.int .i64 l[i])] := getD_map hlt
    have g5 : IntKind.i64.wrap ((i : Int) + 1) = ((i + 1 : Nat) : Int) := by rw [wrap_id] <;> omega
    repeat' (first
      | simp only [go_sem, reduceCtorEq, reduceIte, Nat.reduceAdd, Nat.reduceEqDiff, Nat.reduceLeDiff, Nat.reduceMul, *]
      | refine gdO_bool' _ (fun _ => ?_) (fun _ => ?_)
      | refine gdO_bool _ (fun _ => ?_) (fun _ => ?_)
      | refine gdD_bool' _ (fun _ => ?_) (fun _ => ?_)
      | refine gdD_bool _ (fun _ => ?_) (fun _ => ?_)
      | refine cdO_bool' _ (fun _ => ?_) (fun _ => ?_)
      | refine cdO_bool _ (fun _ => ?_) (fun _ => ?_)
      | refine ⟨by decide, ?_⟩
      | refine ppost_t (by simp) rfl ?_)
    · rename_i h
      refine roundV_of hH hn [] [(3, _), (6, _), (7, _), (8, _)] [] _ ⟨i + 1, hlt, upto_succ hlt hz h, rfl, rfl, rfl, rfl⟩ (by omega) (by simp) (by simp [hm]) ?_ HConv.nil
      repeat' (first | exact List.forall_mem_nil _ | refine List.forall_mem_cons.2 ⟨?_, ?_⟩ | exact .toPt (by simp only [go_sem, reduceCtorEq, reduceIte, Nat.reduceAdd, Nat.reduceEqDiff, Nat.reduceLeDiff, Nat.reduceMul, *] <;> rfl) (by simp [tau]) (by simp) | exact .toRf (by simp only [go_sem, reduceCtorEq, reduceIte, Nat.reduceAdd, Nat.reduceEqDiff, Nat.reduceLeDiff, Nat.reduceMul, *] <;> rfl) (by simp [tau]) (by simp) | exact .same (by simp only [go_sem, reduceCtorEq, reduceIte, Nat.reduceAdd, Nat.reduceEqDiff, Nat.reduceLeDiff, Nat.reduceMul, *] <;> rfl) (by first | rfl | simp [VV.cloL, VV.clo, *]))
    · rename_i h
      rw [orL_at hlt hz h]
  · have g1 := ge_dec hge
    repeat' (first
      | simp only [go_sem, reduceCtorEq, reduceIte, Nat.reduceAdd, Nat.reduceEqDiff, Nat.reduceLeDiff, Nat.reduceMul, *]
      | refine gdO_bool' _ (fun _ => ?_) (fun _ => ?_)
      | refine gdO_bool _ (fun _ => ?_) (fun _ => ?_)
      | refine gdD_bool' _ (fun _ => ?_) (fun _ => ?_)
      | refine gdD_bool _ (fun _ => ?_) (fun _ => ?_)
      | refine cdO_bool' _ (fun _ => ?_) (fun _ => ?_)
      | refine cdO_bool _ (fun _ => ?_) (fun _ => ?_)
      | refine ⟨by decide, ?_⟩
      | refine ppost_t (by simp) rfl ?_)
    rw [orL_none (upto_all hge hz)]
theorem c196 (a b : Int) : PureC prog 196 [.sl 1 [[.sc (.int .i64 a)], [.sc (.int .i64 b)]]] (.sc (.int .i64 (orI a b))) := by
  rw [← orL_two]; exact c196' [a, b] (by simp)
theorem c177 (a b : Cell) : PureC prog 177 [.agg a.enc, .agg b.enc] (.sc (.int .i64 (cellOrder a b))) := by
  unfold Cell.enc encT
  refine pureC_of k177 (by first | rfl | simp [VV.cloL, VV.clo, *]) (by first | rfl | simp [VV.cloL, VV.clo, *]) (by simp) ?_
  intro X hP hm hH hn hX
  refine vwp_ok _ ?_
  unfold vc177
  repeat' (first
    | simp only [go_sem, reduceCtorEq, reduceIte, Nat.reduceAdd, Nat.reduceEqDiff, Nat.reduceLeDiff, Nat.reduceMul, *]
    | refine gdO_bool' _ (fun _ => ?_) (fun _ => ?_)
    | refine gdO_bool _ (fun _ => ?_) (fun _ => ?_)
    | refine gdD_bool' _ (fun _ => ?_) (fun _ => ?_)
    | refine gdD_bool _ (fun _ => ?_) (fun _ => ?_)
    | refine cdO_bool' _ (fun _ => ?_) (fun _ => ?_)
    | refine cdO_bool _ (fun _ => ?_) (fun _ => ?_)
    | refine callO.pure (by first | exact c197 _ _) ?_
    | refine callW.pure (by first | exact c197 _ _) ?_
    | refine ⟨by decide, ?_⟩
    | refine ppost_t (by simp) rfl ?_)
  refine callW.borrow [13] (c196 _ _) ⟨.frf (by simp) (by simp only [go_sem, reduceCtorEq, reduceIte, Nat.reduceAdd, Nat.reduceEqDiff, Nat.reduceLeDiff, Nat.reduceMul] <;> rfl) rfl rfl (by simp) rfl, trivial⟩ (by simp [okInc]) ?_
  repeat' (first
    | simp only [go_sem, reduceCtorEq, reduceIte, Nat.reduceAdd, Nat.reduceEqDiff, Nat.reduceLeDiff, Nat.reduceMul, *]
    | refine gdO_bool' _ (fun _ => ?_) (fun _ => ?_)
    | refine gdO_bool _ (fun _ => ?_) (fun _ => ?_)
    | refine gdD_bool' _ (fun _ => ?_) (fun _ => ?_)
    | refine gdD_bool _ (fun _ => ?_) (fun _ => ?_)
    | refine cdO_bool' _ (fun _ => ?_) (fun _ => ?_)
    | refine cdO_bool _ (fun _ => ?_) (fun _ => ?_)
    | refine ⟨by decide, ?_⟩
    | refine ppost_t (by simp) rfl ?_)
  rfl
end Go.Proofs.Ytdmmhainianadaa

/- F4: where a table has a square. -/
namespace Go.Proofs.Ytdmmhainianadaa
open Go.VM Go.Lim Go.Proofs.Try
attribute [local irreducible] vwp vops vstep vdr vdr1 CallP PPost SWv gdO gdD cdO optV optW optD thenV blockV behind callO callW callvO roundV
set_option linter.unusedSimpArgs false
set_option linter.unusedVariables false
theorem c199 (c : Cell) (row col : Int) : PureC prog 199 [.agg c.enc, .pd [.sc (.int .i64 row)], .pd [.sc (.int .i64 col)]] (.sc (.bool (has c row col))) := by
  unfold Cell.enc encT
  refine pureC_of k199 (by first | rfl | simp [VV.cloL, VV.clo, *]) (by first | rfl | simp [VV.cloL, VV.clo, *]) (by simp) ?_
  intro X hP hm hH hn hX
  refine vwp_ok _ ?_
  unfold vc199
  repeat' (first
    | simp only [go_sem, reduceCtorEq, reduceIte, Nat.reduceAdd, Nat.reduceEqDiff, Nat.reduceLeDiff, Nat.reduceMul, *]
    | refine gdO_bool' _ (fun _ => ?_) (fun _ => ?_)
    | refine gdO_bool _ (fun _ => ?_) (fun _ => ?_)
    | refine gdD_bool' _ (fun _ => ?_) (fun _ => ?_)
    | refine gdD_bool _ (fun _ => ?_) (fun _ => ?_)
    | refine cdO_bool' _ (fun _ => ?_) (fun _ => ?_)
    | refine cdO_bool _ (fun _ => ?_) (fun _ => ?_)
    | refine callO.pure (by first | exact c200 _ _ _) ?_
    | refine callW.pure (by first | exact c200 _ _ _) ?_
    | refine ⟨by decide, ?_⟩
    | refine ppost_t (by simp) rfl ?_)
theorem c198 (l : List Cell) (g : FuncId) (caps : List VV) (p : Cell → Bool) (hs : l.length < 4611686018427387904) (hcl : VV.cloL caps = true) (hg : ∀ c, PureC prog g (.agg c.enc :: caps) (.sc (.bool (p c)))) :
    PureC prog 198 [encC l, .fn g caps] (.sc (.int .i64 (idxOf p l))) := by
  unfold encC
  refine pureC_of k198 (by first | rfl | simp [VV.cloL, VV.clo, *]) (by first | rfl | simp [VV.cloL, VV.clo, *]) (by simp) ?_
  intro X hP hm hH hn hX
  refine vwp_ok _ ?_
  unfold vc198
  repeat' (first
    | simp only [go_sem, reduceCtorEq, reduceIte, Nat.reduceAdd, Nat.reduceEqDiff, Nat.reduceLeDiff, Nat.reduceMul, *]
    | refine gdO_bool' _ (fun _ => ?_) (fun _ => ?_)
    | refine gdO_bool _ (fun _ => ?_) (fun _ => ?_)
    | refine gdD_bool' _ (fun _ => ?_) (fun _ => ?_)
    | refine gdD_bool _ (fun _ => ?_) (fun _ => ?_)
    | refine cdO_bool' _ (fun _ => ?_) (fun _ => ?_)
    | refine cdO_bool _ (fun _ => ?_) (fun _ => ?_)
    | refine ⟨by decide, ?_⟩
    | refine ppost_t (by simp) rfl ?_)
  refine loopV hX (fun μ s H n => ∃ i : Nat, i ≤ l.length ∧ (∀ (j : Nat) (x : Cell), j < i → l[j]? = some x → p x = false) ∧ μ = l.length - i ∧ s = slotsOf [(0, .sl 5 (l.map Cell.enc)), (1, .fn g caps), (6, .sl 5 (l.map Cell.enc)), (7, .sc (.int .i64 l.length)), (8, .sc (.int .i64 i))] ∧ H = H0 ∧ n = 0) ?_
    ⟨l.length + 1, roundV_of hH hn [] [(0, _), (1, _), (6, _), (7, _), (8, _)] [] _ ⟨0, by simp, by simp, rfl, rfl, rfl, rfl⟩ (by simp) (by simp) (by simp [hm]) ?_ HConv.nil⟩
  rotate_left
  · repeat' (first | exact List.forall_mem_nil _ | refine List.forall_mem_cons.2 ⟨?_, ?_⟩ | exact .toPt (by simp only [go_sem, reduceCtorEq, reduceIte, Nat.reduceAdd, Nat.reduceEqDiff, Nat.reduceLeDiff, Nat.reduceMul, *] <;> rfl) (by simp [tau]) (by simp) | exact .toRf (by simp only [go_sem, reduceCtorEq, reduceIte, Nat.reduceAdd, Nat.reduceEqDiff, Nat.reduceLeDiff, Nat.reduceMul, *] <;> rfl) (by simp [tau]) (by simp) | exact .same (by simp only [go_sem, reduceCtorEq, reduceIte, Nat.reduceAdd, Nat.reduceEqDiff, Nat.reduceLeDiff, Nat.reduceMul, *] <;> rfl) (by first | rfl | simp [VV.cloL, VV.clo, *]))
  rintro μ s H n ⟨i, hi, hz, rfl, rfl, rfl, rfl⟩
  rcases Nat.lt_or_ge i l.length with hlt | hge
  · have g1 := lt_dec hlt
    have g2 : (0 : Int) ≤ (i : Int) := by omega
    have g3 : (i : Int) < (l.length : Int) := by omega
    have g4 : (l.map Cell.enc).getD i [] = (l[i]).enc := getD_map hlt
    have g5 : IntKind.i64.wrap ((i : Int) + 1) = ((i + 1 : Nat) : Int) := by rw [wrap_id] <;> omega
    repeat' (first
      | simp only [go_sem, reduceCtorEq, reduceIte, Nat.reduceAdd, Nat.reduceEqDiff, Nat.reduceLeDiff, Nat.reduceMul, Cell.encLen, Cell.encTake, *]
      | refine gdO_bool' _ (fun _ => ?_) (fun _ => ?_)
      | refine gdO_bool _ (fun _ => ?_) (fun _ => ?_)
      | refine gdD_bool' _ (fun _ => ?_) (fun _ => ?_)
      | refine gdD_bool _ (fun _ => ?_) (fun _ => ?_)
      | refine cdO_bool' _ (fun _ => ?_) (fun _ => ?_)
      | refine cdO_bool _ (fun _ => ?_) (fun _ => ?_)
      | refine callO.pure (by first | exact hg _) ?_
      | refine callW.pure (by first | exact hg _) ?_
      | refine ⟨by decide, ?_⟩
      | refine ppost_t (by simp) rfl ?_)
    · rename_i h
      rw [idxOf_at hlt hz h]
    · rename_i h
      refine roundV_of hH hn [] [(0, _), (1, _), (6, _), (7, _), (8, _)] [] _ ⟨i + 1, hlt, upto_succ hlt hz h, rfl, rfl, rfl, rfl⟩ (by omega) (by simp) (by simp [hm]) ?_ HConv.nil
      repeat' (first | exact List.forall_mem_nil _ | refine List.forall_mem_cons.2 ⟨?_, ?_⟩ | exact .toPt (by simp only [go_sem, reduceCtorEq, reduceIte, Nat.reduceAdd, Nat.reduceEqDiff, Nat.reduceLeDiff, Nat.reduceMul, *] <;> rfl) (by simp [tau]) (by simp) | exact .toRf (by simp only [go_sem, reduceCtorEq, reduceIte, Nat.reduceAdd, Nat.reduceEqDiff, Nat.reduceLeDiff, Nat.reduceMul, *] <;> rfl) (by simp [tau]) (by simp) | exact .same (by simp only [go_sem, reduceCtorEq, reduceIte, Nat.reduceAdd, Nat.reduceEqDiff, Nat.reduceLeDiff, Nat.reduceMul, *] <;> rfl) (by first | rfl | simp [VV.cloL, VV.clo, *]))
  · have g1 := ge_dec hge
    repeat' (first
      | simp only [go_sem, reduceCtorEq, reduceIte, Nat.reduceAdd, Nat.reduceEqDiff, Nat.reduceLeDiff, Nat.reduceMul, *]
      | refine gdO_bool' _ (fun _ => ?_) (fun _ => ?_)
      | refine gdO_bool _ (fun _ => ?_) (fun _ => ?_)
      | refine gdD_bool' _ (fun _ => ?_) (fun _ => ?_)
      | refine gdD_bool _ (fun _ => ?_) (fun _ => ?_)
      | refine cdO_bool' _ (fun _ => ?_) (fun _ => ?_)
      | refine cdO_bool _ (fun _ => ?_) (fun _ => ?_)
      | refine ⟨by decide, ?_⟩
      | refine ppost_t (by simp) rfl ?_)
    rw [idxOf_none (upto_all hge hz)]
theorem c178 (t : Table) (row col : Int) (hs : t.cells.length < 4611686018427387904) : PureC prog 178 [.agg t.enc, .sc (.int .i64 row), .sc (.int .i64 col)] (.sc (.int .i64 (idxOf (fun c => has c row col) t.cells))) := by
  unfold Table.enc encC
  refine pureC_of k178 (by first | rfl | simp [VV.cloL, VV.clo, *]) (by first | rfl | simp [VV.cloL, VV.clo, *]) (by simp) ?_
  intro X hP hm hH hn hX
  refine vwp_ok _ ?_
  unfold vc178
  repeat' (first
    | simp only [go_sem, reduceCtorEq, reduceIte, Nat.reduceAdd, Nat.reduceEqDiff, Nat.reduceLeDiff, Nat.reduceMul, *]
    | refine gdO_bool' _ (fun _ => ?_) (fun _ => ?_)
    | refine gdO_bool _ (fun _ => ?_) (fun _ => ?_)
    | refine gdD_bool' _ (fun _ => ?_) (fun _ => ?_)
    | refine gdD_bool _ (fun _ => ?_) (fun _ => ?_)
    | refine cdO_bool' _ (fun _ => ?_) (fun _ => ?_)
    | refine cdO_bool _ (fun _ => ?_) (fun _ => ?_)
    | refine ⟨by decide, ?_⟩
    | refine ppost_t (by simp) rfl ?_)
  refine callO.borrow (D := fun k => k = 1 ∨ k = 2) (c198 t.cells 199 [.pd [.sc (.int .i64 row)], .pd [.sc (.int .i64 col)]] _ hs rfl (fun c => c199 c row col))
    ⟨.clo rfl, ConvL.fn ⟨.fpt (.inl rfl) (by simp only [go_sem, reduceCtorEq, reduceIte, Nat.reduceAdd, Nat.reduceEqDiff, Nat.reduceLeDiff, Nat.reduceMul] <;> rfl) rfl rfl, .fpt (.inr rfl) (by simp only [go_sem, reduceCtorEq, reduceIte, Nat.reduceAdd, Nat.reduceEqDiff, Nat.reduceLeDiff, Nat.reduceMul] <;> rfl) rfl rfl, trivial⟩, trivial⟩ ?_
  repeat' (first
    | simp only [go_sem, reduceCtorEq, reduceIte, Nat.reduceAdd, Nat.reduceEqDiff, Nat.reduceLeDiff, Nat.reduceMul, *]
    | refine gdO_bool' _ (fun _ => ?_) (fun _ => ?_)
    | refine gdO_bool _ (fun _ => ?_) (fun _ => ?_)
    | refine gdD_bool' _ (fun _ => ?_) (fun _ => ?_)
    | refine gdD_bool _ (fun _ => ?_) (fun _ => ?_)
    | refine cdO_bool' _ (fun _ => ?_) (fun _ => ?_)
    | refine cdO_bool _ (fun _ => ?_) (fun _ => ?_)
    | refine ⟨by decide, ?_⟩
    | refine ppost_t (by simp) rfl ?_)
end Go.Proofs.Ytdmmhainianadaa

/- F5: whether cells are in form. -/
namespace Go.Proofs.Ytdmmhainianadaa
open Go.VM Go.Lim Go.Proofs.Try
attribute [local irreducible] vwp vops vstep vdr vdr1 CallP PPost SWv gdO gdD cdO optV optW optD thenV blockV behind callO callW callvO roundV
set_option linter.unusedSimpArgs false
set_option linter.unusedVariables false
/- loop.example/limner/spec.l2Form -/
def vc175 : VCode :=
(.seq (.reg [⟨(some 1), (.box (.tmp 0)), none⟩, ⟨(some 2), (.mov (.const (.bool false))), none⟩])
(.seq (.seq (.reg [⟨(some 5), (.fad 0 (.tmp 1)), none⟩, ⟨(some 6), (.load false 1 (.tmp 5)), none⟩, ⟨(some 7), (.call 93 [(.tmp 6), (.const (.int .i64 1)), (.const (.int .i64 5))]), none⟩, ⟨(some 8), (.un .not (.tmp 7)), none⟩, ⟨(some 9), (.mov (.tmp 8)), none⟩, ⟨(some 10), (.fad 1 (.tmp 1)), (some (9, false))⟩, ⟨(some 11), (.load false 1 (.tmp 10)), (some (9, false))⟩, ⟨(some 12), (.call 93 [(.tmp 11), (.const (.int .i64 1)), (.const (.int .i64 5))]), (some (9, false))⟩, ⟨(some 13), (.un .not (.tmp 12)), (some (9, false))⟩, ⟨(some 14), (.pick (.tmp 9) (.const (.bool true)) (.tmp 13)), none⟩, ⟨(some 15), (.mov (.tmp 14)), none⟩, ⟨(some 16), (.fad 2 (.tmp 1)), (some (15, false))⟩, ⟨(some 17), (.load false 1 (.tmp 16)), (some (15, false))⟩, ⟨(some 18), (.len false (.tmp 17)), (some (15, false))⟩, ⟨(some 19), (.bin .gtr .no (.tmp 18) (.const (.int .i64 25))), (some (15, false))⟩, ⟨(some 20), (.pick (.tmp 15) (.const (.bool true)) (.tmp 19)), none⟩])
(.cond (.tmp 20) (.seq (.reg [⟨(some 2), (.mov (.const (.bool false))), none⟩])
 .ret)
 .skip))
(.seq (.seq (.reg [⟨(some 3), (.mov (.const (.int .i64 0))), none⟩])
(.block 0 (.loop (.seq (.seq (.reg [⟨(some 21), (.mov (.tmp 3)), none⟩, ⟨(some 22), (.fad 2 (.tmp 1)), none⟩, ⟨(some 23), (.load false 1 (.tmp 22)), none⟩, ⟨(some 24), (.len false (.tmp 23)), none⟩, ⟨(some 25), (.bin .lss .no (.tmp 21) (.tmp 24)), none⟩])
  (.cond (.tmp 25) .skip
   (.exit 0)))
  (.seq (.block 1 (.seq (.reg [⟨(some 28), (.fad 2 (.tmp 1)), none⟩, ⟨(some 29), (.load false 1 (.tmp 28)), none⟩, ⟨(some 30), (.mov (.tmp 3)), none⟩, ⟨(some 31), (.iad 5 (.tmp 29) (.tmp 30)), none⟩, ⟨(some 32), (.load true 5 (.tmp 31)), none⟩, ⟨(some 4), (.new [(.int .i64 0), (.int .i64 0), (.int .i64 0), (.int .i64 0), (.slice none 0 0)]), none⟩, ⟨none, (.store 5 (.tmp 4) (.tmp 32)), none⟩])
   (.seq (.seq (.reg [⟨(some 33), (.fad 0 (.tmp 4)), none⟩, ⟨(some 34), (.load false 1 (.tmp 33)), none⟩, ⟨(some 35), (.fad 0 (.tmp 1)), none⟩, ⟨(some 36), (.load false 1 (.tmp 35)), none⟩, ⟨(some 37), (.bin .sub .no (.tmp 36) (.const (.int .i64 1))), none⟩, ⟨(some 38), (.call 93 [(.tmp 34), (.const (.int .i64 0)), (.tmp 37)]), none⟩, ⟨(some 39), (.un .not (.tmp 38)), none⟩, ⟨(some 40), (.mov (.tmp 39)), none⟩, ⟨(some 41), (.fad 1 (.tmp 4)), (some (40, false))⟩, ⟨(some 42), (.load false 1 (.tmp 41)), (some (40, false))⟩, ⟨(some 43), (.fad 1 (.tmp 1)), (some (40, false))⟩, ⟨(some 44), (.load false 1 (.tmp 43)), (some (40, false))⟩, ⟨(some 45), (.bin .sub .no (.tmp 44) (.const (.int .i64 1))), (some (40, false))⟩, ⟨(some 46), (.call 93 [(.tmp 42), (.const (.int .i64 0)), (.tmp 45)]), (some (40, false))⟩, ⟨(some 47), (.un .not (.tmp 46)), (some (40, false))⟩, ⟨(some 48), (.pick (.tmp 40) (.const (.bool true)) (.tmp 47)), none⟩, ⟨(some 49), (.mov (.tmp 48)), none⟩, ⟨(some 50), (.fad 2 (.tmp 4)), (some (49, false))⟩, ⟨(some 51), (.load false 1 (.tmp 50)), (some (49, false))⟩, ⟨(some 52), (.fad 0 (.tmp 1)), (some (49, false))⟩, ⟨(some 53), (.load false 1 (.tmp 52)), (some (49, false))⟩, ⟨(some 54), (.fad 0 (.tmp 4)), (some (49, false))⟩, ⟨(some 55), (.load false 1 (.tmp 54)), (some (49, false))⟩, ⟨(some 56), (.bin .sub .no (.tmp 53) (.tmp 55)), (some (49, false))⟩, ⟨(some 57), (.call 93 [(.tmp 51), (.const (.int .i64 1)), (.tmp 56)]), (some (49, false))⟩, ⟨(some 58), (.un .not (.tmp 57)), (some (49, false))⟩, ⟨(some 59), (.pick (.tmp 49) (.const (.bool true)) (.tmp 58)), none⟩, ⟨(some 60), (.mov (.tmp 59)), none⟩, ⟨(some 61), (.fad 3 (.tmp 4)), (some (60, false))⟩, ⟨(some 62), (.load false 1 (.tmp 61)), (some (60, false))⟩, ⟨(some 63), (.fad 1 (.tmp 1)), (some (60, false))⟩, ⟨(some 64), (.load false 1 (.tmp 63)), (some (60, false))⟩, ⟨(some 65), (.fad 1 (.tmp 4)), (some (60, false))⟩, ⟨(some 66), (.load false 1 (.tmp 65)), (some (60, false))⟩, ⟨(some 67), (.bin .sub .no (.tmp 64) (.tmp 66)), (some (60, false))⟩, ⟨(some 68), (.call 93 [(.tmp 62), (.const (.int .i64 1)), (.tmp 67)]), (some (60, false))⟩, ⟨(some 69), (.un .not (.tmp 68)), (some (60, false))⟩, ⟨(some 70), (.pick (.tmp 60) (.const (.bool true)) (.tmp 69)), none⟩, ⟨(some 71), (.mov (.tmp 70)), none⟩, ⟨(some 72), (.fad 4 (.tmp 4)), (some (71, false))⟩, ⟨(some 73), (.load false 1 (.tmp 72)), (some (71, false))⟩, ⟨(some 74), (.call 130 [(.tmp 73)]), (some (71, false))⟩, ⟨(some 75), (.un .not (.tmp 74)), (some (71, false))⟩, ⟨(some 76), (.pick (.tmp 71) (.const (.bool true)) (.tmp 75)), none⟩])
   (.cond (.tmp 76) (.seq (.reg [⟨(some 2), (.mov (.const (.bool false))), none⟩])
    .ret)
    .skip))
   (.seq (.drw [(⟨(some 77), (.mov (.tmp 3)), none⟩, []), (⟨(some 78), (.bin .gtr .no (.tmp 77) (.const (.int .i64 0))), none⟩, []), (⟨(some 79), (.mov (.tmp 78)), none⟩, []), (⟨(some 80), (.fad 2 (.tmp 1)), (some (79, true))⟩, []), (⟨(some 81), (.load false 1 (.tmp 80)), (some (79, true))⟩, []), (⟨(some 82), (.mov (.tmp 3)), (some (79, true))⟩, []), (⟨(some 83), (.bin .sub .no (.tmp 82) (.const (.int .i64 1))), (some (79, true))⟩, []), (⟨(some 84), (.iad 5 (.tmp 81) (.tmp 83)), (some (79, true))⟩, []), (⟨(some 85), (.fad 0 (.tmp 84)), (some (79, true))⟩, []), (⟨(some 86), (.load false 1 (.tmp 85)), (some (79, true))⟩, []), (⟨(some 87), (.fad 0 (.tmp 4)), (some (79, true))⟩, []), (⟨(some 88), (.load false 1 (.tmp 87)), (some (79, true))⟩, [4, 9]), (⟨(some 89), (.bin .gtr .no (.tmp 86) (.tmp 88)), (some (79, true))⟩, []), (⟨(some 90), (.mov (.tmp 89)), (some (79, true))⟩, []), (⟨(some 91), (.fad 2 (.tmp 1)), (some (90, false))⟩, []), (⟨(some 92), (.load false 1 (.tmp 91)), (some (90, false))⟩, []), (⟨(some 93), (.mov (.tmp 3)), (some (90, false))⟩, []), (⟨(some 94), (.bin .sub .no (.tmp 93) (.const (.int .i64 1))), (some (90, false))⟩, []), (⟨(some 95), (.iad 5 (.tmp 92) (.tmp 94)), (some (90, false))⟩, []), (⟨(some 96), (.fad 0 (.tmp 95)), (some (90, false))⟩, []), (⟨(some 97), (.load false 1 (.tmp 96)), (some (90, false))⟩, []), (⟨(some 98), (.fad 0 (.tmp 4)), (some (90, false))⟩, []), (⟨(some 99), (.load false 1 (.tmp 98)), (some (90, false))⟩, [15, 20]), (⟨(some 100), (.bin .eql .no (.tmp 97) (.tmp 99)), (some (90, false))⟩, []), (⟨(some 101), (.mov (.tmp 100)), (some (90, false))⟩, []), (⟨(some 102), (.fad 2 (.tmp 1)), (some (101, true))⟩, []), (⟨(some 103), (.load false 1 (.tmp 102)), (some (101, true))⟩, []), (⟨(some 104), (.mov (.tmp 3)), (some (101, true))⟩, []), (⟨(some 105), (.bin .sub .no (.tmp 104) (.const (.int .i64 1))), (some (101, true))⟩, []), (⟨(some 106), (.iad 5 (.tmp 103) (.tmp 105)), (some (101, true))⟩, []), (⟨(some 107), (.fad 1 (.tmp 106)), (some (101, true))⟩, []), (⟨(some 108), (.load false 1 (.tmp 107)), (some (101, true))⟩, []), (⟨(some 109), (.fad 1 (.tmp 4)), (some (101, true))⟩, []), (⟨(some 110), (.load false 1 (.tmp 109)), (some (101, true))⟩, [26, 31]), (⟨(some 111), (.bin .geq .no (.tmp 108) (.tmp 110)), (some (101, true))⟩, []), (⟨(some 112), (.pick (.tmp 101) (.tmp 111) (.const (.bool false))), (some (90, false))⟩, []), (⟨(some 113), (.pick (.tmp 90) (.const (.bool true)) (.tmp 112)), (some (79, true))⟩, []), (⟨(some 114), (.pick (.tmp 79) (.tmp 113) (.const (.bool false))), none⟩, [])])
   (.cond (.tmp 114) (.seq (.reg [⟨(some 2), (.mov (.const (.bool false))), none⟩])
    .ret)
    .skip)))))
  (.reg [⟨(some 26), (.mov (.tmp 3)), none⟩, ⟨(some 27), (.bin .add .no (.tmp 26) (.const (.int .i64 1))), none⟩, ⟨(some 3), (.mov (.tmp 27)), none⟩]))))))
(.seq (.reg [⟨(some 2), (.mov (.const (.bool true))), none⟩])
.ret))))
theorem k175 : compFn prog 175 = some (115, vc175, [.t 2]) := by kernel_rfl
theorem c175 (t : Table) : PureC prog 175 [.agg t.enc] (.sc (.bool (form t))) := by
  unfold Table.enc encC
  refine pureC_of k175 (by first | rfl | simp [VV.cloL, VV.clo, *]) (by first | rfl | simp [VV.cloL, VV.clo, *]) (by simp) ?_
  intro X hP hm hH hn hX
  refine vwp_ok _ ?_
  unfold vc175
  rcases Nat.lt_or_ge 25 t.cells.length with hl | hl
  · have h1 : decide ((t.cells.length : Int) > 25) = true := by simp; omega
    have h2 : decide (t.cells.length ≤ 25) = false := by simp; omega
    repeat' (first
      | simp only [go_sem, reduceCtorEq, reduceIte, Nat.reduceAdd, Nat.reduceEqDiff, Nat.reduceLeDiff, Nat.reduceMul, *]
      | refine gdO_bool' _ (fun _ => ?_) (fun _ => ?_)
      | refine gdO_bool _ (fun _ => ?_) (fun _ => ?_)
      | refine gdD_bool' _ (fun _ => ?_) (fun _ => ?_)
      | refine gdD_bool _ (fun _ => ?_) (fun _ => ?_)
      | refine cdO_bool' _ (fun _ => ?_) (fun _ => ?_)
      | refine cdO_bool _ (fun _ => ?_) (fun _ => ?_)
      | refine callO.pure (by first | exact c93 _ _ _) ?_
      | refine callW.pure (by first | exact c93 _ _ _) ?_
      | refine ⟨by decide, ?_⟩
      | refine ppost_t (by simp) rfl ?_)
    all_goals simp only [form, *, Bool.and_false, Bool.false_and, Bool.true_and, Bool.and_true]
  have h1 : decide ((t.cells.length : Int) > 25) = false := by simp; omega
  have h2 : decide (t.cells.length ≤ 25) = true := by simp; omega
  repeat' (first
    | simp only [go_sem, reduceCtorEq, reduceIte, Nat.reduceAdd, Nat.reduceEqDiff, Nat.reduceLeDiff, Nat.reduceMul, *]
    | refine gdO_bool' _ (fun _ => ?_) (fun _ => ?_)
    | refine gdO_bool _ (fun _ => ?_) (fun _ => ?_)
    | refine gdD_bool' _ (fun _ => ?_) (fun _ => ?_)
    | refine gdD_bool _ (fun _ => ?_) (fun _ => ?_)
    | refine cdO_bool' _ (fun _ => ?_) (fun _ => ?_)
    | refine cdO_bool _ (fun _ => ?_) (fun _ => ?_)
    | refine callO.pure (by first | exact c93 _ _ _) ?_
    | refine callW.pure (by first | exact c93 _ _ _) ?_
    | refine ⟨by decide, ?_⟩
    | refine ppost_t (by simp) rfl ?_)
  all_goals try (simp only [form, *, Bool.and_false, Bool.false_and, Bool.true_and, Bool.and_true]; done)
  rename_i hr hc
  generalize hlst : t.cells = l at *
  refine loopV hX (fun μ s H n => ∃ i : Nat, i ≤ l.length ∧ (∀ j, j < i → okAt t j = true) ∧ μ = l.length - i ∧ s = slotsOf [(1, .pt 0 0), (3, .sc (.int .i64 i))] ∧ H = heapOf [(0, [.sc (.int .i64 t.rows), .sc (.int .i64 t.cols), .sl 5 (l.map Cell.enc)])] ∧ n = 1) ?_
    ⟨l.length + 1, roundV_of hH hn [0] [(1, _), (3, _)] [(0, _)] _ ⟨0, by simp, by simp, rfl, rfl, rfl, rfl⟩ (by simp) (by simp) (by simp [hm]) ?_ ?_⟩
  rotate_left
  · repeat' (first | exact List.forall_mem_nil _ | refine List.forall_mem_cons.2 ⟨?_, ?_⟩ | exact .toPt (by simp only [go_sem, reduceCtorEq, reduceIte, Nat.reduceAdd, Nat.reduceEqDiff, Nat.reduceLeDiff, Nat.reduceMul, *] <;> rfl) (by simp [tau]) (by simp) | exact .toRf (by simp only [go_sem, reduceCtorEq, reduceIte, Nat.reduceAdd, Nat.reduceEqDiff, Nat.reduceLeDiff, Nat.reduceMul, *] <;> rfl) (by simp [tau]) (by simp) | exact .same (by simp only [go_sem, reduceCtorEq, reduceIte, Nat.reduceAdd, Nat.reduceEqDiff, Nat.reduceLeDiff, Nat.reduceMul, *] <;> rfl) (by first | rfl | simp [VV.cloL, VV.clo, *]))
  · repeat' (first | exact HConv.nil | refine HConv.same (by decide) (by first | rfl | (simp only [go_sem, reduceCtorEq, reduceIte, Nat.reduceAdd, Nat.reduceEqDiff, Nat.reduceLeDiff, Nat.reduceMul, *] <;> rfl)) (by first | rfl | simp [VV.cloL, VV.clo, *]) ?_)
  rintro μ s H n ⟨i, hi, hz, rfl, rfl, rfl, rfl⟩
  rcases Nat.lt_or_ge i l.length with hlt | hge
  · have g1 := lt_dec hlt
    have g2 : (0 : Int) ≤ (i : Int) := by omega
    have g3 : (i : Int) < (l.length : Int) := by omega
    have g5 : IntKind.i64.wrap ((i : Int) + 1) = ((i + 1 : Nat) : Int) := by rw [wrap_id] <;> omega
    have g4 : (l.map Cell.enc).getD i [] = (l[i]).enc := getD_map hlt
    have bad : okAt t i = false → form t = false := fun h => by simp only [form, hlst, range_all_false hlt h, Bool.and_false]
    have good : okAt t i = true → ∀ j, j < i + 1 → okAt t j = true := lt_succ_of hz
    have e1 : t.cells.getD i noCell = l[i] := by rw [hlst]; exact getD_eq hlt
    rcases Nat.eq_zero_or_pos i with h0 | hpos
    · have g6 : decide ((i : Int) > 0) = false := by simp; omega
      have e2 : okAt t i = cellW t l[i] := by simp only [okAt, e1]; simp [h0]
      rw [e2] at bad good
      generalize l[i] = c at *
      have ec : c.enc = [.sc (.int .i64 c.row), .sc (.int .i64 c.col), .sc (.int .i64 c.down), .sc (.int .i64 c.right), .sl 3 (c.text.map Sign.enc)] := rfl
      clear e1 e2 h0
      repeat' (first
        | simp only [go_sem, reduceCtorEq, reduceIte, Nat.reduceAdd, Nat.reduceEqDiff, Nat.reduceLeDiff, Nat.reduceMul, *]
        | refine gdO_bool' _ (fun _ => ?_) (fun _ => ?_)
        | refine gdO_bool _ (fun _ => ?_) (fun _ => ?_)
        | refine gdD_bool' _ (fun _ => ?_) (fun _ => ?_)
        | refine gdD_bool _ (fun _ => ?_) (fun _ => ?_)
        | refine cdO_bool' _ (fun _ => ?_) (fun _ => ?_)
        | refine cdO_bool _ (fun _ => ?_) (fun _ => ?_)
        | refine callO.pure (by first | exact c93 _ _ _ | exact c130 _) ?_
        | refine callW.pure (by first | exact c93 _ _ _ | exact c130 _) ?_
        | refine ⟨by decide, ?_⟩
        | refine ppost_t (by simp) rfl ?_)
      all_goals first
        | (rw [bad (by simp only [cellW, behindB, *, Bool.true_and, Bool.false_and, Bool.and_true, Bool.and_false, Bool.true_or, Bool.false_or, Bool.or_true, Bool.or_false, Bool.not_true, Bool.not_false])]; done)
        | (refine roundV_of hH hn [0] [(1, _), (3, _)] [(0, _)] _ ⟨i + 1, hlt, good (by simp only [cellW, behindB, *, Bool.true_and, Bool.false_and, Bool.and_true, Bool.and_false, Bool.true_or, Bool.false_or, Bool.or_true, Bool.or_false, Bool.not_true, Bool.not_false]), rfl, rfl, rfl, rfl⟩ (by omega) (by simp) (by simp [hm]) ?_ ?_
           · repeat' (first | exact List.forall_mem_nil _ | refine List.forall_mem_cons.2 ⟨?_, ?_⟩ | exact .toPt (by simp only [go_sem, reduceCtorEq, reduceIte, Nat.reduceAdd, Nat.reduceEqDiff, Nat.reduceLeDiff, Nat.reduceMul, *] <;> rfl) (by simp [tau]) (by simp) | exact .toRf (by simp only [go_sem, reduceCtorEq, reduceIte, Nat.reduceAdd, Nat.reduceEqDiff, Nat.reduceLeDiff, Nat.reduceMul, *] <;> rfl) (by simp [tau]) (by simp) | exact .same (by simp only [go_sem, reduceCtorEq, reduceIte, Nat.reduceAdd, Nat.reduceEqDiff, Nat.reduceLeDiff, Nat.reduceMul, *] <;> rfl) (by first | rfl | simp [VV.cloL, VV.clo, *]))
           · repeat' (first | exact HConv.nil | refine HConv.same (by decide) (by first | rfl | (simp only [go_sem, reduceCtorEq, reduceIte, Nat.reduceAdd, Nat.reduceEqDiff, Nat.reduceLeDiff, Nat.reduceMul, *] <;> rfl)) (by first | rfl | simp [VV.cloL, VV.clo, *]) ?_)
           done)
    · have g6 : decide ((i : Int) > 0) = true := by simp; omega
      have hlt' : i - 1 < l.length := by omega
      have g7 : IntKind.i64.wrap ((i : Int) - 1) = ((i - 1 : Nat) : Int) := by rw [wrap_id] <;> omega
      have g8 : (0 : Int) ≤ ((i - 1 : Nat) : Int) := by omega
      have g9 : ((i - 1 : Nat) : Int) < (l.length : Int) := by omega
      have g10 : (l.map Cell.enc).getD (i - 1) [] = (l[i - 1]).enc := getD_map hlt'
      have e3 : t.cells.getD (i - 1) noCell = l[i - 1] := by rw [hlst]; exact getD_eq hlt'
      have hne : (i == 0) = false := by simp; omega
      have e2 : okAt t i = (cellW t l[i] && !(behindB l[i - 1] l[i])) := by simp only [okAt, e1, e3, hne, Bool.false_or]
      rw [e2] at bad good
      generalize l[i] = c at *
      generalize l[i - 1] = p at *
      have ec : c.enc = [.sc (.int .i64 c.row), .sc (.int .i64 c.col), .sc (.int .i64 c.down), .sc (.int .i64 c.right), .sl 3 (c.text.map Sign.enc)] := rfl
      have ep : p.enc = [.sc (.int .i64 p.row), .sc (.int .i64 p.col), .sc (.int .i64 p.down), .sc (.int .i64 p.right), .sl 3 (p.text.map Sign.enc)] := rfl
      clear e1 e2 e3 hne
      repeat' (first
        | simp only [go_sem, reduceCtorEq, reduceIte, Nat.reduceAdd, Nat.reduceEqDiff, Nat.reduceLeDiff, Nat.reduceMul, *]
        | refine gdO_bool' _ (fun _ => ?_) (fun _ => ?_)
        | refine gdO_bool _ (fun _ => ?_) (fun _ => ?_)
        | refine gdD_bool' _ (fun _ => ?_) (fun _ => ?_)
        | refine gdD_bool _ (fun _ => ?_) (fun _ => ?_)
        | refine cdO_bool' _ (fun _ => ?_) (fun _ => ?_)
        | refine cdO_bool _ (fun _ => ?_) (fun _ => ?_)
        | refine callO.pure (by first | exact c93 _ _ _ | exact c130 _) ?_
        | refine callW.pure (by first | exact c93 _ _ _ | exact c130 _) ?_
        | refine ⟨by decide, ?_⟩
        | refine ppost_t (by simp) rfl ?_)
      all_goals first
        | (rw [bad (by simp only [cellW, behindB, *, Bool.true_and, Bool.false_and, Bool.and_true, Bool.and_false, Bool.true_or, Bool.false_or, Bool.or_true, Bool.or_false, Bool.not_true, Bool.not_false])]; done)
        | (refine roundV_of hH hn [0] [(1, _), (3, _)] [(0, _)] _ ⟨i + 1, hlt, good (by simp only [cellW, behindB, *, Bool.true_and, Bool.false_and, Bool.and_true, Bool.and_false, Bool.true_or, Bool.false_or, Bool.or_true, Bool.or_false, Bool.not_true, Bool.not_false]), rfl, rfl, rfl, rfl⟩ (by omega) (by simp) (by simp [hm]) ?_ ?_
           · repeat' (first | exact List.forall_mem_nil _ | refine List.forall_mem_cons.2 ⟨?_, ?_⟩ | exact .toPt (by simp only [go_sem, reduceCtorEq, reduceIte, Nat.reduceAdd, Nat.reduceEqDiff, Nat.reduceLeDiff, Nat.reduceMul, *] <;> rfl) (by simp [tau]) (by simp) | exact .toRf (by simp only [go_sem, reduceCtorEq, reduceIte, Nat.reduceAdd, Nat.reduceEqDiff, Nat.reduceLeDiff, Nat.reduceMul, *] <;> rfl) (by simp [tau]) (by simp) | exact .same (by simp only [go_sem, reduceCtorEq, reduceIte, Nat.reduceAdd, Nat.reduceEqDiff, Nat.reduceLeDiff, Nat.reduceMul, *] <;> rfl) (by first | rfl | simp [VV.cloL, VV.clo, *]))
           · repeat' (first | exact HConv.nil | refine HConv.same (by decide) (by first | rfl | (simp only [go_sem, reduceCtorEq, reduceIte, Nat.reduceAdd, Nat.reduceEqDiff, Nat.reduceLeDiff, Nat.reduceMul, *] <;> rfl)) (by first | rfl | simp [VV.cloL, VV.clo, *]) ?_)
           done)
  · have g1 := ge_dec hge
    repeat' (first
      | simp only [go_sem, reduceCtorEq, reduceIte, Nat.reduceAdd, Nat.reduceEqDiff, Nat.reduceLeDiff, Nat.reduceMul, *]
      | refine gdO_bool' _ (fun _ => ?_) (fun _ => ?_)
      | refine gdO_bool _ (fun _ => ?_) (fun _ => ?_)
      | refine gdD_bool' _ (fun _ => ?_) (fun _ => ?_)
      | refine gdD_bool _ (fun _ => ?_) (fun _ => ?_)
      | refine cdO_bool' _ (fun _ => ?_) (fun _ => ?_)
      | refine cdO_bool _ (fun _ => ?_) (fun _ => ?_)
      | refine ⟨by decide, ?_⟩
      | refine ppost_t (by simp) rfl ?_)
    have e : (List.range l.length).all (okAt t) = true := range_all_true fun j hj => hz j (by omega)
    simp only [form, hr, hc, hlst, h2, e, Bool.and_self]
end Go.Proofs.Ytdmmhainianadaa

/- F6: whether a table is in form, as the reference says it. -/
namespace Go.Proofs.Ytdmmhainianadaa
open Go.VM Go.Lim Go.Proofs.Try
attribute [local irreducible] vwp vops vstep vdr vdr1 CallP PPost SWv gdO gdD cdO optV optW optD thenV blockV behind callO callW callvO roundV
set_option linter.unusedSimpArgs false
set_option linter.unusedVariables false
/- loop.example/limner/spec.TableOk -/
def vc144 : VCode :=
(.seq (.reg [⟨(some 1), (.box (.tmp 0)), none⟩, ⟨(some 2), (.mov (.const (.bool false))), none⟩])
(.seq (.seq (.reg [⟨(some 7), (.load true 3 (.tmp 1)), none⟩, ⟨(some 8), (.call 175 [(.tmp 7)]), none⟩, ⟨(some 9), (.un .not (.tmp 8)), none⟩])
(.cond (.tmp 9) (.seq (.reg [⟨(some 2), (.mov (.const (.bool false))), none⟩])
 .ret)
 .skip))
(.seq (.seq (.reg [⟨(some 3), (.mov (.const (.int .i64 0))), none⟩])
(.block 0 (.loop (.seq (.seq (.reg [⟨(some 10), (.mov (.tmp 3)), none⟩, ⟨(some 11), (.fad 0 (.tmp 1)), none⟩, ⟨(some 12), (.load false 1 (.tmp 11)), none⟩, ⟨(some 13), (.bin .lss .no (.tmp 10) (.tmp 12)), none⟩])
  (.cond (.tmp 13) .skip
   (.exit 0)))
  (.seq (.block 1 (.seq (.reg [⟨(some 4), (.mov (.const (.int .i64 0))), none⟩])
   (.block 2 (.loop (.seq (.seq (.reg [⟨(some 16), (.mov (.tmp 4)), none⟩, ⟨(some 17), (.fad 1 (.tmp 1)), none⟩, ⟨(some 18), (.load false 1 (.tmp 17)), none⟩, ⟨(some 19), (.bin .lss .no (.tmp 16) (.tmp 18)), none⟩])
     (.cond (.tmp 19) .skip
      (.exit 2)))
     (.seq (.block 3 (.seq (.reg [⟨(some 5), (.mov (.const (.int .i64 0))), none⟩])
      (.seq (.seq (.reg [⟨(some 6), (.mov (.const (.int .i64 0))), none⟩])
      (.block 4 (.loop (.seq (.seq (.reg [⟨(some 22), (.mov (.tmp 6)), none⟩, ⟨(some 23), (.fad 2 (.tmp 1)), none⟩, ⟨(some 24), (.load false 1 (.tmp 23)), none⟩, ⟨(some 25), (.len false (.tmp 24)), none⟩, ⟨(some 26), (.bin .lss .no (.tmp 22) (.tmp 25)), none⟩])
        (.cond (.tmp 26) .skip
         (.exit 4)))
        (.seq (.block 5 (.seq (.reg [⟨(some 29), (.fad 2 (.tmp 1)), none⟩, ⟨(some 30), (.load false 1 (.tmp 29)), none⟩, ⟨(some 31), (.mov (.tmp 6)), none⟩, ⟨(some 32), (.iad 5 (.tmp 30) (.tmp 31)), none⟩, ⟨(some 33), (.load true 5 (.tmp 32)), none⟩, ⟨(some 34), (.mov (.tmp 3)), none⟩, ⟨(some 35), (.mov (.tmp 4)), none⟩, ⟨(some 36), (.call 176 [(.tmp 33), (.tmp 34), (.tmp 35)]), none⟩])
         (.cond (.tmp 36) (.reg [⟨(some 37), (.mov (.tmp 5)), none⟩, ⟨(some 38), (.bin .add .no (.tmp 37) (.const (.int .i64 1))), none⟩, ⟨(some 5), (.mov (.tmp 38)), none⟩])
          .skip)))
        (.reg [⟨(some 27), (.mov (.tmp 6)), none⟩, ⟨(some 28), (.bin .add .no (.tmp 27) (.const (.int .i64 1))), none⟩, ⟨(some 6), (.mov (.tmp 28)), none⟩]))))))
      (.seq (.reg [⟨(some 39), (.mov (.tmp 5)), none⟩, ⟨(some 40), (.bin .neq .no (.tmp 39) (.const (.int .i64 1))), none⟩])
      (.cond (.tmp 40) (.seq (.reg [⟨(some 2), (.mov (.const (.bool false))), none⟩])
       .ret)
       .skip)))))
     (.reg [⟨(some 20), (.mov (.tmp 4)), none⟩, ⟨(some 21), (.bin .add .no (.tmp 20) (.const (.int .i64 1))), none⟩, ⟨(some 4), (.mov (.tmp 21)), none⟩])))))))
  (.reg [⟨(some 14), (.mov (.tmp 3)), none⟩, ⟨(some 15), (.bin .add .no (.tmp 14) (.const (.int .i64 1))), none⟩, ⟨(some 3), (.mov (.tmp 15)), none⟩]))))))
(.seq (.reg [⟨(some 2), (.mov (.const (.bool true))), none⟩])
.ret))))
theorem k144 : compFn prog 144 = some (41, vc144, [.t 2]) := by kernel_rfl
theorem c144 (t : Table) : PureC prog 144 [.agg t.enc] (.sc (.bool (tableOk t))) := by
  cases hf : form t with
  | false =>
    unfold Table.enc encC
    refine pureC_of k144 (by first | rfl | simp [VV.cloL, VV.clo, *]) (by first | rfl | simp [VV.cloL, VV.clo, *]) (by simp) ?_
    intro X hP hm hH hn hX
    refine vwp_ok _ ?_
    unfold vc144
    repeat' (first
      | simp only [go_sem, reduceCtorEq, reduceIte, Nat.reduceAdd, Nat.reduceEqDiff, Nat.reduceLeDiff, Nat.reduceMul, *]
      | refine gdO_bool' _ (fun _ => ?_) (fun _ => ?_)
      | refine gdO_bool _ (fun _ => ?_) (fun _ => ?_)
      | refine gdD_bool' _ (fun _ => ?_) (fun _ => ?_)
      | refine gdD_bool _ (fun _ => ?_) (fun _ => ?_)
      | refine cdO_bool' _ (fun _ => ?_) (fun _ => ?_)
      | refine cdO_bool _ (fun _ => ?_) (fun _ => ?_)
      | refine callO.pure (by first | exact c175 t) ?_
      | refine callW.pure (by first | exact c175 t) ?_
      | refine ⟨by decide, ?_⟩
      | refine ppost_t (by simp) rfl ?_)
    simp only [tableOk, hf, Bool.false_and]
  | true =>
    have hform := hf
    simp only [form, Bool.and_eq_true, decide_eq_true_eq] at hform
    obtain ⟨⟨⟨hR, hC⟩, hlen⟩, _⟩ := hform
    obtain ⟨eR, hR1, hR5⟩ := within_nat hR
    obtain ⟨eC, hC1, hC5⟩ := within_nat hC
    have hk : PureC prog 175 [.agg [.sc (.int .i64 t.rows), .sc (.int .i64 t.cols), .sl 5 (t.cells.map Cell.enc)]] (.sc (.bool true)) := hf ▸ c175 t
    have hrow1 : ∀ r, (∀ j, j < t.cols.toNat → sqOk t r j = true) → rowOk t r = true := fun _ h => range_all_true h
    have hrow0 : ∀ r k, k < t.cols.toNat → sqOk t r k = false → rowOk t r = false := fun _ k h1 h2 => range_all_false h1 h2
    have htab1 : (∀ j, j < t.rows.toNat → rowOk t j = true) → tableOk t = true := fun h => by rw [tableOk, hf, range_all_true h]; rfl
    have htab0 : ∀ r, r < t.rows.toNat → rowOk t r = false → tableOk t = false := fun r h1 h2 => by rw [tableOk, range_all_false h1 h2, Bool.and_false]
    have hsq1 : ∀ r c : Nat, ((cnt t.cells r c : Int) == 1) = true → sqOk t r c = true := fun r c h => by rw [← h, sqOk, Bool.eq_iff_iff]; simp; omega
    have hsq0 : ∀ r c : Nat, ((cnt t.cells r c : Int) == 1) = false → sqOk t r c = false := fun r c h => by rw [← h, sqOk, Bool.eq_iff_iff]; simp; omega
    unfold Table.enc encC
    generalize t.rows.toNat = R at *
    generalize t.cols.toNat = C at *
    rw [eR, eC] at hk ⊢
    clear hR hC hf eR eC
    generalize tableOk t = res at *
    generalize rowOk t = rok at *
    generalize sqOk t = sok at *
    generalize t.cells = l at *
    refine pureC_of k144 (by first | rfl | simp [VV.cloL, VV.clo, *]) (by first | rfl | simp [VV.cloL, VV.clo, *]) (by simp) ?_
    intro X hP hm hH hn hX
    refine vwp_ok _ ?_
    unfold vc144
    repeat' (first
      | simp only [go_sem, reduceCtorEq, reduceIte, Nat.reduceAdd, Nat.reduceEqDiff, Nat.reduceLeDiff, Nat.reduceMul, *]
      | refine gdO_bool' _ (fun _ => ?_) (fun _ => ?_)
      | refine gdO_bool _ (fun _ => ?_) (fun _ => ?_)
      | refine gdD_bool' _ (fun _ => ?_) (fun _ => ?_)
      | refine gdD_bool _ (fun _ => ?_) (fun _ => ?_)
      | refine cdO_bool' _ (fun _ => ?_) (fun _ => ?_)
      | refine cdO_bool _ (fun _ => ?_) (fun _ => ?_)
      | refine callO.pure (by first | exact hk) ?_
      | refine callW.pure (by first | exact hk) ?_
      | refine ⟨by decide, ?_⟩
      | refine ppost_t (by simp) rfl ?_)
    refine loopV hX (fun μ s H n => ∃ i : Nat, i ≤ R ∧ (∀ j, j < i → rok j = true) ∧ μ = R - i ∧ s = slotsOf [(1, .pt 0 0), (3, .sc (.int .i64 i))] ∧ H = heapOf [(0, [.sc (.int .i64 R), .sc (.int .i64 C), .sl 5 (l.map Cell.enc)])] ∧ n = 1) ?_
      ⟨R + 1, roundV_of hH hn [0] [(1, _), (3, _)] [(0, _)] _ ⟨0, by simp, by simp, rfl, rfl, rfl, rfl⟩ (by simp) (by simp) (by simp [hm]) ?_ ?_⟩
    rotate_left
    · repeat' (first | exact List.forall_mem_nil _ | refine List.forall_mem_cons.2 ⟨?_, ?_⟩ | exact .toPt (by simp only [go_sem, reduceCtorEq, reduceIte, Nat.reduceAdd, Nat.reduceEqDiff, Nat.reduceLeDiff, Nat.reduceMul, *] <;> rfl) (by simp [tau]) (by simp) | exact .toRf (by simp only [go_sem, reduceCtorEq, reduceIte, Nat.reduceAdd, Nat.reduceEqDiff, Nat.reduceLeDiff, Nat.reduceMul, *] <;> rfl) (by simp [tau]) (by simp) | exact .same (by simp only [go_sem, reduceCtorEq, reduceIte, Nat.reduceAdd, Nat.reduceEqDiff, Nat.reduceLeDiff, Nat.reduceMul, *] <;> rfl) (by first | rfl | simp [VV.cloL, VV.clo, *]))
    · repeat' (first | exact HConv.nil | refine HConv.same (by decide) (by first | rfl | (simp only [go_sem, reduceCtorEq, reduceIte, Nat.reduceAdd, Nat.reduceEqDiff, Nat.reduceLeDiff, Nat.reduceMul, *] <;> rfl)) (by first | rfl | simp [VV.cloL, VV.clo, *]) ?_)
    rintro μ s H n ⟨i, hi, hz, rfl, rfl, rfl, rfl⟩
    rcases Nat.lt_or_ge i R with hlt | hge
    · have g1 := lt_dec hlt
      have g5 : IntKind.i64.wrap ((i : Int) + 1) = ((i + 1 : Nat) : Int) := by rw [wrap_id] <;> omega
      repeat' (first
        | simp only [go_sem, reduceCtorEq, reduceIte, Nat.reduceAdd, Nat.reduceEqDiff, Nat.reduceLeDiff, Nat.reduceMul, *]
        | refine gdO_bool' _ (fun _ => ?_) (fun _ => ?_)
        | refine gdO_bool _ (fun _ => ?_) (fun _ => ?_)
        | refine gdD_bool' _ (fun _ => ?_) (fun _ => ?_)
        | refine gdD_bool _ (fun _ => ?_) (fun _ => ?_)
        | refine cdO_bool' _ (fun _ => ?_) (fun _ => ?_)
        | refine cdO_bool _ (fun _ => ?_) (fun _ => ?_)
        | refine ⟨by decide, ?_⟩
        | refine ppost_t (by simp) rfl ?_)
      refine loopV hX (fun μ s H n => ∃ k : Nat, k ≤ C ∧ (∀ j, j < k → sok i j = true) ∧ μ = C - k ∧ s = slotsOf [(1, .pt 0 0), (3, .sc (.int .i64 i)), (4, .sc (.int .i64 k))] ∧ H = heapOf [(0, [.sc (.int .i64 R), .sc (.int .i64 C), .sl 5 (l.map Cell.enc)])] ∧ n = 1) ?_
        ⟨C + 1, roundV_of hH hn [0] [(1, _), (3, _), (4, _)] [(0, _)] _ ⟨0, by simp, by simp, rfl, rfl, rfl, rfl⟩ (by simp) (by simp) (by simp [hm]) ?_ ?_⟩
      rotate_left
      · repeat' (first | exact List.forall_mem_nil _ | refine List.forall_mem_cons.2 ⟨?_, ?_⟩ | exact .toPt (by simp only [go_sem, reduceCtorEq, reduceIte, Nat.reduceAdd, Nat.reduceEqDiff, Nat.reduceLeDiff, Nat.reduceMul, *] <;> rfl) (by simp [tau]) (by simp) | exact .toRf (by simp only [go_sem, reduceCtorEq, reduceIte, Nat.reduceAdd, Nat.reduceEqDiff, Nat.reduceLeDiff, Nat.reduceMul, *] <;> rfl) (by simp [tau]) (by simp) | exact .same (by simp only [go_sem, reduceCtorEq, reduceIte, Nat.reduceAdd, Nat.reduceEqDiff, Nat.reduceLeDiff, Nat.reduceMul, *] <;> rfl) (by first | rfl | simp [VV.cloL, VV.clo, *]))
      · repeat' (first | exact HConv.nil | refine HConv.same (by decide) (by first | rfl | (simp only [go_sem, reduceCtorEq, reduceIte, Nat.reduceAdd, Nat.reduceEqDiff, Nat.reduceLeDiff, Nat.reduceMul, *] <;> rfl)) (by first | rfl | simp [VV.cloL, VV.clo, *]) ?_)
      rintro μ s H n ⟨k, hk', hz', rfl, rfl, rfl, rfl⟩
      rcases Nat.lt_or_ge k C with hlt' | hge'
      · have g1' := lt_dec hlt'
        have g5' : IntKind.i64.wrap ((k : Int) + 1) = ((k + 1 : Nat) : Int) := by rw [wrap_id] <;> omega
        repeat' (first
          | simp only [go_sem, reduceCtorEq, reduceIte, Nat.reduceAdd, Nat.reduceEqDiff, Nat.reduceLeDiff, Nat.reduceMul, *]
          | refine gdO_bool' _ (fun _ => ?_) (fun _ => ?_)
          | refine gdO_bool _ (fun _ => ?_) (fun _ => ?_)
          | refine gdD_bool' _ (fun _ => ?_) (fun _ => ?_)
          | refine gdD_bool _ (fun _ => ?_) (fun _ => ?_)
          | refine cdO_bool' _ (fun _ => ?_) (fun _ => ?_)
          | refine cdO_bool _ (fun _ => ?_) (fun _ => ?_)
          | refine ⟨by decide, ?_⟩
          | refine ppost_t (by simp) rfl ?_)
        refine loopV hX (fun μ s H n => ∃ q : Nat, q ≤ l.length ∧ μ = l.length - q ∧ s = slotsOf [(1, .pt 0 0), (3, .sc (.int .i64 i)), (4, .sc (.int .i64 k)), (5, .sc (.int .i64 (cnt (l.take q) i k))), (6, .sc (.int .i64 q))] ∧ H = heapOf [(0, [.sc (.int .i64 R), .sc (.int .i64 C), .sl 5 (l.map Cell.enc)])] ∧ n = 1) ?_
          ⟨l.length + 1, roundV_of hH hn [0] [(1, _), (3, _), (4, _), (5, _), (6, _)] [(0, _)] _ ⟨0, by simp, rfl, rfl, rfl, rfl⟩ (by simp) (by simp) (by simp [hm]) ?_ ?_⟩
        rotate_left
        · repeat' (first | exact List.forall_mem_nil _ | refine List.forall_mem_cons.2 ⟨?_, ?_⟩ | exact .toPt (by simp only [go_sem, reduceCtorEq, reduceIte, Nat.reduceAdd, Nat.reduceEqDiff, Nat.reduceLeDiff, Nat.reduceMul, *] <;> rfl) (by simp [tau]) (by simp) | exact .toRf (by simp only [go_sem, reduceCtorEq, reduceIte, Nat.reduceAdd, Nat.reduceEqDiff, Nat.reduceLeDiff, Nat.reduceMul, *] <;> rfl) (by simp [tau]) (by simp) | exact .same (by simp only [go_sem, reduceCtorEq, reduceIte, Nat.reduceAdd, Nat.reduceEqDiff, Nat.reduceLeDiff, Nat.reduceMul, *] <;> rfl) (by first | rfl | simp [VV.cloL, VV.clo, *]))
        · repeat' (first | exact HConv.nil | refine HConv.same (by decide) (by first | rfl | (simp only [go_sem, reduceCtorEq, reduceIte, Nat.reduceAdd, Nat.reduceEqDiff, Nat.reduceLeDiff, Nat.reduceMul, *] <;> rfl)) (by first | rfl | simp [VV.cloL, VV.clo, *]) ?_)
        rintro μ s H n ⟨q, hq, rfl, rfl, rfl, rfl⟩
        rcases Nat.lt_or_ge q l.length with hlq | hgq
        · have k1 := lt_dec hlq
          have k2 : (0 : Int) ≤ (q : Int) := by omega
          have k3 : (q : Int) < (l.length : Int) := by omega
          have k4 : (l.map Cell.enc).getD q [] = (l[q]).enc := getD_map hlq
          have k5 : IntKind.i64.wrap ((q : Int) + 1) = ((q + 1 : Nat) : Int) := by rw [wrap_id] <;> omega
          have k6 := cnt_succ hlq (i : Int) (k : Int)
          have k7 := cnt_le (l.take q) (i : Int) (k : Int)
          rw [List.length_take] at k7
          have k8 : IntKind.i64.wrap ((cnt (l.take q) i k : Int) + 1) = ((cnt (l.take q) i k + 1 : Nat) : Int) := by rw [wrap_id] <;> omega
          generalize l[q] = c at *
          repeat' (first
            | simp only [go_sem, reduceCtorEq, reduceIte, Nat.reduceAdd, Nat.reduceEqDiff, Nat.reduceLeDiff, Nat.reduceMul, Cell.encLen, Cell.encTake, *]
            | refine gdO_bool' _ (fun _ => ?_) (fun _ => ?_)
            | refine gdO_bool _ (fun _ => ?_) (fun _ => ?_)
            | refine gdD_bool' _ (fun _ => ?_) (fun _ => ?_)
            | refine gdD_bool _ (fun _ => ?_) (fun _ => ?_)
            | refine cdO_bool' _ (fun _ => ?_) (fun _ => ?_)
            | refine cdO_bool _ (fun _ => ?_) (fun _ => ?_)
            | refine callO.pure (by first | exact c176 _ _ _) ?_
            | refine callW.pure (by first | exact c176 _ _ _) ?_
            | refine ⟨by decide, ?_⟩
            | refine ppost_t (by simp) rfl ?_)
          · rename_i h
            rw [h, if_pos rfl] at k6
            refine roundV_of hH hn [0] [(1, _), (3, _), (4, _), (5, _), (6, _)] [(0, _)] _ ⟨q + 1, hlq, rfl, rfl, rfl, rfl⟩ (by omega) (by simp) (by simp [hm]) ?_ ?_
            · repeat' (first | exact List.forall_mem_nil _ | refine List.forall_mem_cons.2 ⟨?_, ?_⟩ | exact .toPt (by simp only [go_sem, reduceCtorEq, reduceIte, Nat.reduceAdd, Nat.reduceEqDiff, Nat.reduceLeDiff, Nat.reduceMul, *] <;> rfl) (by simp [tau]) (by simp) | exact .toRf (by simp only [go_sem, reduceCtorEq, reduceIte, Nat.reduceAdd, Nat.reduceEqDiff, Nat.reduceLeDiff, Nat.reduceMul, *] <;> rfl) (by simp [tau]) (by simp) | exact .same (by simp only [go_sem, reduceCtorEq, reduceIte, Nat.reduceAdd, Nat.reduceEqDiff, Nat.reduceLeDiff, Nat.reduceMul, *] <;> rfl) (by first | rfl | simp [VV.cloL, VV.clo, *]))
            · repeat' (first | exact HConv.nil | refine HConv.same (by decide) (by first | rfl | (simp only [go_sem, reduceCtorEq, reduceIte, Nat.reduceAdd, Nat.reduceEqDiff, Nat.reduceLeDiff, Nat.reduceMul, *] <;> rfl)) (by first | rfl | simp [VV.cloL, VV.clo, *]) ?_)
          · rename_i h
            rw [h, if_neg (by simp), Nat.add_zero] at k6
            refine roundV_of hH hn [0] [(1, _), (3, _), (4, _), (5, _), (6, _)] [(0, _)] _ ⟨q + 1, hlq, rfl, rfl, rfl, rfl⟩ (by omega) (by simp) (by simp [hm]) ?_ ?_
            · repeat' (first | exact List.forall_mem_nil _ | refine List.forall_mem_cons.2 ⟨?_, ?_⟩ | exact .toPt (by simp only [go_sem, reduceCtorEq, reduceIte, Nat.reduceAdd, Nat.reduceEqDiff, Nat.reduceLeDiff, Nat.reduceMul, *] <;> rfl) (by simp [tau]) (by simp) | exact .toRf (by simp only [go_sem, reduceCtorEq, reduceIte, Nat.reduceAdd, Nat.reduceEqDiff, Nat.reduceLeDiff, Nat.reduceMul, *] <;> rfl) (by simp [tau]) (by simp) | exact .same (by simp only [go_sem, reduceCtorEq, reduceIte, Nat.reduceAdd, Nat.reduceEqDiff, Nat.reduceLeDiff, Nat.reduceMul, *] <;> rfl) (by first | rfl | simp [VV.cloL, VV.clo, *]))
            · repeat' (first | exact HConv.nil | refine HConv.same (by decide) (by first | rfl | (simp only [go_sem, reduceCtorEq, reduceIte, Nat.reduceAdd, Nat.reduceEqDiff, Nat.reduceLeDiff, Nat.reduceMul, *] <;> rfl)) (by first | rfl | simp [VV.cloL, VV.clo, *]) ?_)
        · have k1 := ge_dec hgq
          have k2 : cnt (l.take q) i k = cnt l i k := by rw [List.take_of_length_le hgq]
          repeat' (first
            | simp only [go_sem, reduceCtorEq, reduceIte, Nat.reduceAdd, Nat.reduceEqDiff, Nat.reduceLeDiff, Nat.reduceMul, *]
            | refine gdO_bool' _ (fun _ => ?_) (fun _ => ?_)
            | refine gdO_bool _ (fun _ => ?_) (fun _ => ?_)
            | refine gdD_bool' _ (fun _ => ?_) (fun _ => ?_)
            | refine gdD_bool _ (fun _ => ?_) (fun _ => ?_)
            | refine cdO_bool' _ (fun _ => ?_) (fun _ => ?_)
            | refine cdO_bool _ (fun _ => ?_) (fun _ => ?_)
            | refine ⟨by decide, ?_⟩
            | refine ppost_t (by simp) rfl ?_)
          · rename_i h
            refine roundV_of hH hn [0] [(1, _), (3, _), (4, _)] [(0, _)] _ ⟨k + 1, hlt', lt_succ_of hz' (hsq1 i k h), rfl, rfl, rfl, rfl⟩ (by omega) (by simp) (by simp [hm]) ?_ ?_
            · repeat' (first | exact List.forall_mem_nil _ | refine List.forall_mem_cons.2 ⟨?_, ?_⟩ | exact .toPt (by simp only [go_sem, reduceCtorEq, reduceIte, Nat.reduceAdd, Nat.reduceEqDiff, Nat.reduceLeDiff, Nat.reduceMul, *] <;> rfl) (by simp [tau]) (by simp) | exact .toRf (by simp only [go_sem, reduceCtorEq, reduceIte, Nat.reduceAdd, Nat.reduceEqDiff, Nat.reduceLeDiff, Nat.reduceMul, *] <;> rfl) (by simp [tau]) (by simp) | exact .same (by simp only [go_sem, reduceCtorEq, reduceIte, Nat.reduceAdd, Nat.reduceEqDiff, Nat.reduceLeDiff, Nat.reduceMul, *] <;> rfl) (by first | rfl | simp [VV.cloL, VV.clo, *]))
            · repeat' (first | exact HConv.nil | refine HConv.same (by decide) (by first | rfl | (simp only [go_sem, reduceCtorEq, reduceIte, Nat.reduceAdd, Nat.reduceEqDiff, Nat.reduceLeDiff, Nat.reduceMul, *] <;> rfl)) (by first | rfl | simp [VV.cloL, VV.clo, *]) ?_)
          · rename_i h
            rw [htab0 i hlt (hrow0 i k hlt' (hsq0 i k h))]
      · have g1' := ge_dec hge'
        repeat' (first
          | simp only [go_sem, reduceCtorEq, reduceIte, Nat.reduceAdd, Nat.reduceEqDiff, Nat.reduceLeDiff, Nat.reduceMul, *]
          | refine gdO_bool' _ (fun _ => ?_) (fun _ => ?_)
          | refine gdO_bool _ (fun _ => ?_) (fun _ => ?_)
          | refine gdD_bool' _ (fun _ => ?_) (fun _ => ?_)
          | refine gdD_bool _ (fun _ => ?_) (fun _ => ?_)
          | refine cdO_bool' _ (fun _ => ?_) (fun _ => ?_)
          | refine cdO_bool _ (fun _ => ?_) (fun _ => ?_)
          | refine ⟨by decide, ?_⟩
          | refine ppost_t (by simp) rfl ?_)
        refine roundV_of hH hn [0] [(1, _), (3, _)] [(0, _)] _ ⟨i + 1, hlt, lt_succ_of hz (hrow1 i fun j hj => hz' j (by omega)), rfl, rfl, rfl, rfl⟩ (by omega) (by simp) (by simp [hm]) ?_ ?_
        · repeat' (first | exact List.forall_mem_nil _ | refine List.forall_mem_cons.2 ⟨?_, ?_⟩ | exact .toPt (by simp only [go_sem, reduceCtorEq, reduceIte, Nat.reduceAdd, Nat.reduceEqDiff, Nat.reduceLeDiff, Nat.reduceMul, *] <;> rfl) (by simp [tau]) (by simp) | exact .toRf (by simp only [go_sem, reduceCtorEq, reduceIte, Nat.reduceAdd, Nat.reduceEqDiff, Nat.reduceLeDiff, Nat.reduceMul, *] <;> rfl) (by simp [tau]) (by simp) | exact .same (by simp only [go_sem, reduceCtorEq, reduceIte, Nat.reduceAdd, Nat.reduceEqDiff, Nat.reduceLeDiff, Nat.reduceMul, *] <;> rfl) (by first | rfl | simp [VV.cloL, VV.clo, *]))
        · repeat' (first | exact HConv.nil | refine HConv.same (by decide) (by first | rfl | (simp only [go_sem, reduceCtorEq, reduceIte, Nat.reduceAdd, Nat.reduceEqDiff, Nat.reduceLeDiff, Nat.reduceMul, *] <;> rfl)) (by first | rfl | simp [VV.cloL, VV.clo, *]) ?_)
    · have g1 := ge_dec hge
      repeat' (first
        | simp only [go_sem, reduceCtorEq, reduceIte, Nat.reduceAdd, Nat.reduceEqDiff, Nat.reduceLeDiff, Nat.reduceMul, *]
        | refine gdO_bool' _ (fun _ => ?_) (fun _ => ?_)
        | refine gdO_bool _ (fun _ => ?_) (fun _ => ?_)
        | refine gdD_bool' _ (fun _ => ?_) (fun _ => ?_)
        | refine gdD_bool _ (fun _ => ?_) (fun _ => ?_)
        | refine cdO_bool' _ (fun _ => ?_) (fun _ => ?_)
        | refine cdO_bool _ (fun _ => ?_) (fun _ => ?_)
        | refine ⟨by decide, ?_⟩
        | refine ppost_t (by simp) rfl ?_)
      rw [htab1 fun j hj => hz j (by omega)]
end Go.Proofs.Ytdmmhainianadaa

/- F7: whether a table is in form, as the program says it. -/
namespace Go.Proofs.Ytdmmhainianadaa
open Go.VM Go.Lim Go.Proofs.Try
attribute [local irreducible] vwp vops vstep vdr vdr1 CallP PPost SWv gdO gdD cdO optV optW optD thenV blockV behind callO callW callvO roundV
set_option linter.unusedSimpArgs false
set_option linter.unusedVariables false
/- loop.example/limner/impl.TableOk -/
def vc146 : VCode :=
(.seq (.reg [⟨(some 1), (.box (.tmp 0)), none⟩, ⟨(some 2), (.mov (.const (.bool false))), none⟩])
(.seq (.seq (.reg [⟨(some 8), (.fad 0 (.tmp 1)), none⟩, ⟨(some 9), (.load false 1 (.tmp 8)), none⟩, ⟨(some 10), (.call 113 [(.tmp 9), (.const (.int .i64 1)), (.const (.int .i64 5))]), none⟩, ⟨(some 11), (.un .not (.tmp 10)), none⟩, ⟨(some 12), (.mov (.tmp 11)), none⟩, ⟨(some 13), (.fad 1 (.tmp 1)), (some (12, false))⟩, ⟨(some 14), (.load false 1 (.tmp 13)), (some (12, false))⟩, ⟨(some 15), (.call 113 [(.tmp 14), (.const (.int .i64 1)), (.const (.int .i64 5))]), (some (12, false))⟩, ⟨(some 16), (.un .not (.tmp 15)), (some (12, false))⟩, ⟨(some 17), (.pick (.tmp 12) (.const (.bool true)) (.tmp 16)), none⟩])
(.cond (.tmp 17) (.seq (.reg [⟨(some 2), (.mov (.const (.bool false))), none⟩])
 .ret)
 .skip))
(.seq (.reg [⟨(some 3), (.mov (.const (.int .i64 0))), none⟩])
(.seq (.seq (.reg [⟨(some 18), (.fad 2 (.tmp 1)), none⟩, ⟨(some 19), (.load false 1 (.tmp 18)), none⟩, ⟨(some 20), (.len false (.tmp 19)), none⟩, ⟨(some 21), (.mov (.const (.int .i64 0))), none⟩])
(.block 0 (.loop (.seq (.reg [⟨(some 22), (.bin .lss .no (.tmp 21) (.tmp 20)), none⟩])
  (.seq (.cond (.tmp 22) .skip
   (.exit 0))
  (.seq (.block 1 (.seq (.reg [⟨(some 23), (.mov (.tmp 21)), none⟩, ⟨(some 24), (.iad 5 (.tmp 19) (.tmp 21)), none⟩, ⟨(some 25), (.load true 5 (.tmp 24)), none⟩, ⟨(some 5), (.new [(.int .i64 0), (.int .i64 0), (.int .i64 0), (.int .i64 0), (.slice none 0 0)]), none⟩, ⟨(some 4), (.mov (.tmp 23)), none⟩, ⟨none, (.store 5 (.tmp 5) (.tmp 25)), none⟩])
   (.seq (.seq (.reg [⟨(some 26), (.fad 0 (.tmp 5)), none⟩, ⟨(some 27), (.load false 1 (.tmp 26)), none⟩, ⟨(some 28), (.fad 0 (.tmp 1)), none⟩, ⟨(some 29), (.load false 1 (.tmp 28)), none⟩, ⟨(some 30), (.bin .sub .no (.tmp 29) (.const (.int .i64 1))), none⟩, ⟨(some 31), (.call 113 [(.tmp 27), (.const (.int .i64 0)), (.tmp 30)]), none⟩, ⟨(some 32), (.un .not (.tmp 31)), none⟩, ⟨(some 33), (.mov (.tmp 32)), none⟩, ⟨(some 34), (.fad 1 (.tmp 5)), (some (33, false))⟩, ⟨(some 35), (.load false 1 (.tmp 34)), (some (33, false))⟩, ⟨(some 36), (.fad 1 (.tmp 1)), (some (33, false))⟩, ⟨(some 37), (.load false 1 (.tmp 36)), (some (33, false))⟩, ⟨(some 38), (.bin .sub .no (.tmp 37) (.const (.int .i64 1))), (some (33, false))⟩, ⟨(some 39), (.call 113 [(.tmp 35), (.const (.int .i64 0)), (.tmp 38)]), (some (33, false))⟩, ⟨(some 40), (.un .not (.tmp 39)), (some (33, false))⟩, ⟨(some 41), (.pick (.tmp 33) (.const (.bool true)) (.tmp 40)), none⟩, ⟨(some 42), (.mov (.tmp 41)), none⟩, ⟨(some 43), (.fad 2 (.tmp 5)), (some (42, false))⟩, ⟨(some 44), (.load false 1 (.tmp 43)), (some (42, false))⟩, ⟨(some 45), (.fad 0 (.tmp 1)), (some (42, false))⟩, ⟨(some 46), (.load false 1 (.tmp 45)), (some (42, false))⟩, ⟨(some 47), (.fad 0 (.tmp 5)), (some (42, false))⟩, ⟨(some 48), (.load false 1 (.tmp 47)), (some (42, false))⟩, ⟨(some 49), (.bin .sub .no (.tmp 46) (.tmp 48)), (some (42, false))⟩, ⟨(some 50), (.call 113 [(.tmp 44), (.const (.int .i64 1)), (.tmp 49)]), (some (42, false))⟩, ⟨(some 51), (.un .not (.tmp 50)), (some (42, false))⟩, ⟨(some 52), (.pick (.tmp 42) (.const (.bool true)) (.tmp 51)), none⟩, ⟨(some 53), (.mov (.tmp 52)), none⟩, ⟨(some 54), (.fad 3 (.tmp 5)), (some (53, false))⟩, ⟨(some 55), (.load false 1 (.tmp 54)), (some (53, false))⟩, ⟨(some 56), (.fad 1 (.tmp 1)), (some (53, false))⟩, ⟨(some 57), (.load false 1 (.tmp 56)), (some (53, false))⟩, ⟨(some 58), (.fad 1 (.tmp 5)), (some (53, false))⟩, ⟨(some 59), (.load false 1 (.tmp 58)), (some (53, false))⟩, ⟨(some 60), (.bin .sub .no (.tmp 57) (.tmp 59)), (some (53, false))⟩, ⟨(some 61), (.call 113 [(.tmp 55), (.const (.int .i64 1)), (.tmp 60)]), (some (53, false))⟩, ⟨(some 62), (.un .not (.tmp 61)), (some (53, false))⟩, ⟨(some 63), (.pick (.tmp 53) (.const (.bool true)) (.tmp 62)), none⟩, ⟨(some 64), (.mov (.tmp 63)), none⟩, ⟨(some 65), (.fad 4 (.tmp 5)), (some (64, false))⟩, ⟨(some 66), (.load false 1 (.tmp 65)), (some (64, false))⟩, ⟨(some 67), (.call 121 [(.tmp 66)]), (some (64, false))⟩, ⟨(some 68), (.un .not (.tmp 67)), (some (64, false))⟩, ⟨(some 69), (.pick (.tmp 64) (.const (.bool true)) (.tmp 68)), none⟩])
   (.cond (.tmp 69) (.seq (.reg [⟨(some 2), (.mov (.const (.bool false))), none⟩])
    .ret)
    .skip))
   (.seq (.seq (.drw [(⟨(some 70), (.mov (.tmp 4)), none⟩, []), (⟨(some 71), (.bin .gtr .no (.tmp 70) (.const (.int .i64 0))), none⟩, []), (⟨(some 72), (.mov (.tmp 71)), none⟩, []), (⟨(some 73), (.fad 2 (.tmp 1)), (some (72, true))⟩, []), (⟨(some 74), (.load false 1 (.tmp 73)), (some (72, true))⟩, []), (⟨(some 75), (.mov (.tmp 4)), (some (72, true))⟩, []), (⟨(some 76), (.bin .sub .no (.tmp 75) (.const (.int .i64 1))), (some (72, true))⟩, []), (⟨(some 77), (.iad 5 (.tmp 74) (.tmp 76)), (some (72, true))⟩, []), (⟨(some 78), (.load true 5 (.tmp 77)), (some (72, true))⟩, []), (⟨(some 79), (.load true 5 (.tmp 5)), (some (72, true))⟩, [4, 8]), (⟨(some 80), (.call 177 [(.tmp 78), (.tmp 79)]), (some (72, true))⟩, []), (⟨(some 81), (.bin .geq .no (.tmp 80) (.const (.int .i64 0))), (some (72, true))⟩, []), (⟨(some 82), (.pick (.tmp 72) (.tmp 81) (.const (.bool false))), none⟩, [])])
   (.cond (.tmp 82) (.seq (.reg [⟨(some 2), (.mov (.const (.bool false))), none⟩])
    .ret)
    .skip))
   (.reg [⟨(some 83), (.mov (.tmp 3)), none⟩, ⟨(some 84), (.fad 2 (.tmp 5)), none⟩, ⟨(some 85), (.load false 1 (.tmp 84)), none⟩, ⟨(some 86), (.fad 3 (.tmp 5)), none⟩, ⟨(some 87), (.load false 1 (.tmp 86)), none⟩, ⟨(some 88), (.bin .mul .no (.tmp 85) (.tmp 87)), none⟩, ⟨(some 89), (.bin .add .no (.tmp 83) (.tmp 88)), none⟩, ⟨(some 3), (.mov (.tmp 89)), none⟩])))))
  (.reg [⟨(some 90), (.bin .add .no (.tmp 21) (.const (.int .i64 1))), none⟩, ⟨(some 21), (.mov (.tmp 90)), none⟩])))))))
(.seq (.seq (.reg [⟨(some 91), (.fad 0 (.tmp 1)), none⟩, ⟨(some 92), (.load false 1 (.tmp 91)), none⟩, ⟨(some 93), (.mov (.const (.int .i64 0))), none⟩])
(.block 2 (.loop (.seq (.reg [⟨(some 94), (.bin .lss .no (.tmp 93) (.tmp 92)), none⟩])
  (.seq (.cond (.tmp 94) .skip
   (.exit 2))
  (.seq (.block 3 (.seq (.reg [⟨(some 95), (.mov (.tmp 93)), none⟩, ⟨(some 6), (.mov (.tmp 95)), none⟩])
   (.seq (.reg [⟨(some 96), (.fad 1 (.tmp 1)), none⟩, ⟨(some 97), (.load false 1 (.tmp 96)), none⟩, ⟨(some 98), (.mov (.const (.int .i64 0))), none⟩])
   (.block 4 (.loop (.seq (.reg [⟨(some 99), (.bin .lss .no (.tmp 98) (.tmp 97)), none⟩])
     (.seq (.cond (.tmp 99) .skip
      (.exit 4))
     (.seq (.block 5 (.seq (.reg [⟨(some 100), (.mov (.tmp 98)), none⟩, ⟨(some 7), (.mov (.tmp 100)), none⟩])
      (.seq (.reg [⟨(some 101), (.load true 3 (.tmp 1)), none⟩, ⟨(some 102), (.mov (.tmp 6)), none⟩, ⟨(some 103), (.mov (.tmp 7)), none⟩, ⟨(some 104), (.call 178 [(.tmp 101), (.tmp 102), (.tmp 103)]), none⟩, ⟨(some 105), (.bin .lss .no (.tmp 104) (.const (.int .i64 0))), none⟩])
      (.cond (.tmp 105) (.seq (.reg [⟨(some 2), (.mov (.const (.bool false))), none⟩])
       .ret)
       .skip))))
     (.reg [⟨(some 106), (.bin .add .no (.tmp 98) (.const (.int .i64 1))), none⟩, ⟨(some 98), (.mov (.tmp 106)), none⟩])))))))))
  (.reg [⟨(some 107), (.bin .add .no (.tmp 93) (.const (.int .i64 1))), none⟩, ⟨(some 93), (.mov (.tmp 107)), none⟩])))))))
(.seq (.reg [⟨(some 108), (.mov (.tmp 3)), none⟩, ⟨(some 109), (.fad 0 (.tmp 1)), none⟩, ⟨(some 110), (.load false 1 (.tmp 109)), none⟩, ⟨(some 111), (.fad 1 (.tmp 1)), none⟩, ⟨(some 112), (.load false 1 (.tmp 111)), none⟩, ⟨(some 113), (.bin .mul .no (.tmp 110) (.tmp 112)), none⟩, ⟨(some 114), (.bin .eql .no (.tmp 108) (.tmp 113)), none⟩, ⟨(some 2), (.mov (.tmp 114)), none⟩])
.ret))))))
theorem k146 : compFn prog 146 = some (115, vc146, [.t 2]) := by kernel_rfl
theorem c146 (t : Table) (hs : t.cells.length < 1125899906842624) (ht : ∀ c ∈ t.cells, c.text.length < 4611686018427387904) : PureC prog 146 [.agg t.enc] (.sc (.bool (tableOkI t))) := by
  cases hR : within t.rows 1 5 with
  | false =>
    unfold Table.enc encC
    refine pureC_of k146 (by first | rfl | simp [VV.cloL, VV.clo, *]) (by first | rfl | simp [VV.cloL, VV.clo, *]) (by simp) ?_
    intro X hP hm hH hn hX
    refine vwp_ok _ ?_
    unfold vc146
    repeat' (first
      | simp only [go_sem, reduceCtorEq, reduceIte, Nat.reduceAdd, Nat.reduceEqDiff, Nat.reduceLeDiff, Nat.reduceMul, *]
      | refine gdO_bool' _ (fun _ => ?_) (fun _ => ?_)
      | refine gdO_bool _ (fun _ => ?_) (fun _ => ?_)
      | refine gdD_bool' _ (fun _ => ?_) (fun _ => ?_)
      | refine gdD_bool _ (fun _ => ?_) (fun _ => ?_)
      | refine cdO_bool' _ (fun _ => ?_) (fun _ => ?_)
      | refine cdO_bool _ (fun _ => ?_) (fun _ => ?_)
      | refine callO.pure (by first | exact c113 _ _ _) ?_
      | refine callW.pure (by first | exact c113 _ _ _) ?_
      | refine ⟨by decide, ?_⟩
      | refine ppost_t (by simp) rfl ?_)
    simp only [tableOkI, hR, Bool.false_and]
  | true =>
  cases hC : within t.cols 1 5 with
  | false =>
    unfold Table.enc encC
    refine pureC_of k146 (by first | rfl | simp [VV.cloL, VV.clo, *]) (by first | rfl | simp [VV.cloL, VV.clo, *]) (by simp) ?_
    intro X hP hm hH hn hX
    refine vwp_ok _ ?_
    unfold vc146
    repeat' (first
      | simp only [go_sem, reduceCtorEq, reduceIte, Nat.reduceAdd, Nat.reduceEqDiff, Nat.reduceLeDiff, Nat.reduceMul, *]
      | refine gdO_bool' _ (fun _ => ?_) (fun _ => ?_)
      | refine gdO_bool _ (fun _ => ?_) (fun _ => ?_)
      | refine gdD_bool' _ (fun _ => ?_) (fun _ => ?_)
      | refine gdD_bool _ (fun _ => ?_) (fun _ => ?_)
      | refine cdO_bool' _ (fun _ => ?_) (fun _ => ?_)
      | refine cdO_bool _ (fun _ => ?_) (fun _ => ?_)
      | refine callO.pure (by first | exact c113 _ _ _) ?_
      | refine callW.pure (by first | exact c113 _ _ _) ?_
      | refine ⟨by decide, ?_⟩
      | refine ppost_t (by simp) rfl ?_)
    simp only [tableOkI, hR, hC, Bool.false_and, Bool.true_and]
  | true =>
    obtain ⟨eR, hR1, hR5⟩ := within_nat hR
    obtain ⟨eC, hC1, hC5⟩ := within_nat hC
    have hk : ∀ row col, PureC prog 178 [.agg [.sc (.int .i64 t.rows), .sc (.int .i64 t.cols), .sl 5 (t.cells.map Cell.enc)], .sc (.int .i64 row), .sc (.int .i64 col)] (.sc (.int .i64 (idxOf (fun c => has c row col) t.cells))) := fun row col => c178 t row col (by omega)
    have bad1 : ∀ i, i < t.cells.length → okAt t i = false → tableOkI t = false := fun i h1 h2 => by simp only [tableOkI, range_all_false h1 h2, Bool.and_false, Bool.false_and]
    have bad2 : ∀ r k : Nat, r < t.rows.toNat → k < t.cols.toNat → decide (idxOf (fun x => has x r k) t.cells < 0) = true → tableOkI t = false := fun r k h1 h2 h3 => by
      have h4 : seenSq t r k = false := by rw [seenSq, h3]; rfl
      have h5 : seenRow t r = false := range_all_false h2 h4
      simp only [tableOkI, range_all_false h1 h5, Bool.and_false, Bool.false_and]
    have fin : (∀ i, i < t.cells.length → okAt t i = true) → (∀ r : Nat, r < t.rows.toNat → ∀ k : Nat, k < t.cols.toNat → decide (idxOf (fun x => has x r k) t.cells < 0) = false) → tableOkI t = (area t.cells == t.rows * t.cols) := fun h1 h2 => by
      have h5 : (List.range t.rows.toNat).all (seenRow t) = true := range_all_true fun r hr => range_all_true fun k hk => by rw [seenSq, h2 r hr k hk]; rfl
      simp only [tableOkI, hR, hC, range_all_true h1, h5, Bool.true_and]
    have hb : ∀ c, cellW t c = true → 1 ≤ c.down * c.right ∧ c.down * c.right ≤ 25 := fun c h => by
      have := cellW_bounds hR hC h
      exact mul_bound (by omega) (by omega) (by omega) (by omega)
    generalize t.rows.toNat = R at *
    generalize t.cols.toNat = C at *
    have hR' : within (R : Int) 1 5 = true := eR ▸ hR
    have hC' : within (C : Int) 1 5 = true := eC ▸ hC
    unfold Table.enc encC
    refine pureC_of k146 (by first | rfl | simp [VV.cloL, VV.clo, *]) (by first | rfl | simp [VV.cloL, VV.clo, *]) (by simp) ?_
    intro X hP hm hH hn hX
    refine vwp_ok _ ?_
    unfold vc146
    repeat' (first
      | simp only [go_sem, reduceCtorEq, reduceIte, Nat.reduceAdd, Nat.reduceEqDiff, Nat.reduceLeDiff, Nat.reduceMul, *]
      | refine gdO_bool' _ (fun _ => ?_) (fun _ => ?_)
      | refine gdO_bool _ (fun _ => ?_) (fun _ => ?_)
      | refine gdD_bool' _ (fun _ => ?_) (fun _ => ?_)
      | refine gdD_bool _ (fun _ => ?_) (fun _ => ?_)
      | refine cdO_bool' _ (fun _ => ?_) (fun _ => ?_)
      | refine cdO_bool _ (fun _ => ?_) (fun _ => ?_)
      | refine callO.pure (by first | exact c113 _ _ _) ?_
      | refine callW.pure (by first | exact c113 _ _ _) ?_
      | refine ⟨by decide, ?_⟩
      | refine ppost_t (by simp) rfl ?_)
    generalize hl : t.cells = l at *
    refine loopV hX (fun μ s H n => ∃ i : Nat, i ≤ l.length ∧ (∀ j, j < i → okAt t j = true) ∧ (0 ≤ area (l.take i) ∧ area (l.take i) ≤ 25 * i) ∧ μ = l.length - i ∧ s = slotsOf [(1, .pt 0 0), (3, .sc (.int .i64 (area (l.take i)))), (19, .sl 5 (l.map Cell.enc)), (20, .sc (.int .i64 l.length)), (21, .sc (.int .i64 i))] ∧ H = heapOf [(0, [.sc (.int .i64 t.rows), .sc (.int .i64 t.cols), .sl 5 (l.map Cell.enc)])] ∧ n = 1) ?_
      ⟨l.length + 1, roundV_of hH hn [0] [(1, _), (3, _), (19, _), (20, _), (21, _)] [(0, _)] _ ⟨0, by simp, by simp, by simp [area], rfl, rfl, rfl, rfl⟩ (by simp) (by simp) (by simp [hm]) ?_ ?_⟩
    rotate_left
    · repeat' (first | exact List.forall_mem_nil _ | refine List.forall_mem_cons.2 ⟨?_, ?_⟩ | exact .toPt (by simp only [go_sem, reduceCtorEq, reduceIte, Nat.reduceAdd, Nat.reduceEqDiff, Nat.reduceLeDiff, Nat.reduceMul, *] <;> rfl) (by simp [tau]) (by simp) | exact .toRf (by simp only [go_sem, reduceCtorEq, reduceIte, Nat.reduceAdd, Nat.reduceEqDiff, Nat.reduceLeDiff, Nat.reduceMul, *] <;> rfl) (by simp [tau]) (by simp) | exact .same (by simp only [go_sem, reduceCtorEq, reduceIte, Nat.reduceAdd, Nat.reduceEqDiff, Nat.reduceLeDiff, Nat.reduceMul, *] <;> rfl) (by first | rfl | simp [VV.cloL, VV.clo, *]))
    · repeat' (first | exact HConv.nil | refine HConv.same (by decide) (by first | rfl | (simp only [go_sem, reduceCtorEq, reduceIte, Nat.reduceAdd, Nat.reduceEqDiff, Nat.reduceLeDiff, Nat.reduceMul, *] <;> rfl)) (by first | rfl | simp [VV.cloL, VV.clo, *]) ?_)
    rintro μ s H n ⟨i, hi, hz, ⟨ha0, ha1⟩, rfl, rfl, rfl, rfl⟩
    rcases Nat.lt_or_ge i l.length with hlt | hge
    · have g1 := lt_dec hlt
      have g2 : (0 : Int) ≤ (i : Int) := by omega
      have g3 : (i : Int) < (l.length : Int) := by omega
      have g5 : IntKind.i64.wrap ((i : Int) + 1) = ((i + 1 : Nat) : Int) := by rw [wrap_id] <;> omega
      have g4 : (l.map Cell.enc).getD i [] = (l[i]).enc := getD_map hlt
      have bad := bad1 i hlt
      have good : okAt t i = true → ∀ j, j < i + 1 → okAt t j = true := lt_succ_of hz
      have e1 : t.cells.getD i noCell = l[i] := by rw [hl]; exact getD_eq hlt
      have htx := ht l[i] (List.getElem_mem hlt)
      have har := area_succ hlt
      rcases Nat.eq_zero_or_pos i with h0 | hpos
      · have g6 : decide ((i : Int) > 0) = false := by simp; omega
        have e2 : okAt t i = cellW t l[i] := by simp only [okAt, e1]; simp [h0]
        rw [e2] at bad good
        generalize l[i] = c at *
        have ec : c.enc = [.sc (.int .i64 c.row), .sc (.int .i64 c.col), .sc (.int .i64 c.down), .sc (.int .i64 c.right), .sl 3 (c.text.map Sign.enc)] := rfl
        clear e1 e2 h0 fin bad2 hk
        repeat' (first
          | simp only [go_sem, reduceCtorEq, reduceIte, Nat.reduceAdd, Nat.reduceEqDiff, Nat.reduceLeDiff, Nat.reduceMul, *]
          | refine gdO_bool' _ (fun _ => ?_) (fun _ => ?_)
          | refine gdO_bool _ (fun _ => ?_) (fun _ => ?_)
          | refine gdD_bool' _ (fun _ => ?_) (fun _ => ?_)
          | refine gdD_bool _ (fun _ => ?_) (fun _ => ?_)
          | refine cdO_bool' _ (fun _ => ?_) (fun _ => ?_)
          | refine cdO_bool _ (fun _ => ?_) (fun _ => ?_)
          | refine callO.pure (by first | exact c113 _ _ _ | exact c121 _ htx) ?_
          | refine callW.pure (by first | exact c113 _ _ _ | exact c121 _ htx) ?_
          | refine ⟨by decide, ?_⟩
          | refine ppost_t (by simp) rfl ?_)
        all_goals first
          | (rw [bad (by simp only [cellW, *, Bool.true_and, Bool.false_and, Bool.and_true, Bool.and_false, Bool.true_or, Bool.false_or, Bool.or_true, Bool.or_false, Bool.not_true, Bool.not_false])]; done)
          | (have hok : cellW t c = true := by simp only [cellW, *, Bool.true_and, Bool.false_and, Bool.and_true, Bool.and_false, Bool.true_or, Bool.false_or, Bool.or_true, Bool.or_false, Bool.not_true, Bool.not_false]
             have hcw : cellW t c = true := by simp only [cellW, *, Bool.true_and, Bool.false_and, Bool.and_true, Bool.and_false, Bool.true_or, Bool.false_or, Bool.or_true, Bool.or_false, Bool.not_true, Bool.not_false]
             have hbb := hb c hcw
             have w1 : IntKind.i64.wrap (c.down * c.right) = c.down * c.right := wrap_id (by omega) (by omega)
             have w2 : IntKind.i64.wrap (area (l.take i) + c.down * c.right) = area (l.take (i + 1)) := by rw [har]; exact wrap_id (by omega) (by omega)
             refine roundV_of hH hn [0] [(1, _), (3, _), (19, _), (20, _), (21, _)] [(0, _)] _ ⟨i + 1, hlt, good hok, ⟨by rw [har]; omega, by rw [har]; omega⟩, rfl, rfl, rfl, rfl⟩ (by omega) (by simp) (by simp [hm]) ?_ ?_
             · repeat' (first | exact List.forall_mem_nil _ | refine List.forall_mem_cons.2 ⟨?_, ?_⟩ | exact .toPt (by simp only [go_sem, reduceCtorEq, reduceIte, Nat.reduceAdd, Nat.reduceEqDiff, Nat.reduceLeDiff, Nat.reduceMul, *] <;> rfl) (by simp [tau]) (by simp) | exact .toRf (by simp only [go_sem, reduceCtorEq, reduceIte, Nat.reduceAdd, Nat.reduceEqDiff, Nat.reduceLeDiff, Nat.reduceMul, *] <;> rfl) (by simp [tau]) (by simp) | exact .same (by simp only [go_sem, reduceCtorEq, reduceIte, Nat.reduceAdd, Nat.reduceEqDiff, Nat.reduceLeDiff, Nat.reduceMul, *] <;> rfl) (by first | rfl | simp [VV.cloL, VV.clo, *]))
             · repeat' (first | exact HConv.nil | refine HConv.same (by decide) (by first | rfl | (simp only [go_sem, reduceCtorEq, reduceIte, Nat.reduceAdd, Nat.reduceEqDiff, Nat.reduceLeDiff, Nat.reduceMul, *] <;> rfl)) (by first | rfl | simp [VV.cloL, VV.clo, *]) ?_)
             done)
      · have g6 : decide ((i : Int) > 0) = true := by simp; omega
        have hlt' : i - 1 < l.length := by omega
        have g7 : IntKind.i64.wrap ((i : Int) - 1) = ((i - 1 : Nat) : Int) := by rw [wrap_id] <;> omega
        have g8 : (0 : Int) ≤ ((i - 1 : Nat) : Int) := by omega
        have g9 : ((i - 1 : Nat) : Int) < (l.length : Int) := by omega
        have g10 : (l.map Cell.enc).getD (i - 1) [] = (l[i - 1]).enc := getD_map hlt'
        have e3 : t.cells.getD (i - 1) noCell = l[i - 1] := by rw [hl]; exact getD_eq hlt'
        have hne : (i == 0) = false := by simp; omega
        have e2 : okAt t i = (cellW t l[i] && !(behindB l[i - 1] l[i])) := by simp only [okAt, e1, e3, hne, Bool.false_or]
        rw [e2] at bad good
        generalize l[i] = c at *
        generalize l[i - 1] = p at *
        have ec : c.enc = [.sc (.int .i64 c.row), .sc (.int .i64 c.col), .sc (.int .i64 c.down), .sc (.int .i64 c.right), .sl 3 (c.text.map Sign.enc)] := rfl
        have ep : p.enc = [.sc (.int .i64 p.row), .sc (.int .i64 p.col), .sc (.int .i64 p.down), .sc (.int .i64 p.right), .sl 3 (p.text.map Sign.enc)] := rfl
        clear e1 e2 e3 hne fin bad2 hk
        repeat' (first
          | simp only [go_sem, reduceCtorEq, reduceIte, Nat.reduceAdd, Nat.reduceEqDiff, Nat.reduceLeDiff, Nat.reduceMul, cellOrder_ge, *]
          | refine gdO_bool' _ (fun _ => ?_) (fun _ => ?_)
          | refine gdO_bool _ (fun _ => ?_) (fun _ => ?_)
          | refine gdD_bool' _ (fun _ => ?_) (fun _ => ?_)
          | refine gdD_bool _ (fun _ => ?_) (fun _ => ?_)
          | refine cdO_bool' _ (fun _ => ?_) (fun _ => ?_)
          | refine cdO_bool _ (fun _ => ?_) (fun _ => ?_)
          | refine callO.pure (by first | exact c113 _ _ _ | exact c121 _ htx | exact c177 p c) ?_
          | refine callW.pure (by first | exact c113 _ _ _ | exact c121 _ htx | exact c177 p c) ?_
          | refine ⟨by decide, ?_⟩
          | refine ppost_t (by simp) rfl ?_)
        all_goals first
          | (rw [bad (by simp only [cellW, *, Bool.true_and, Bool.false_and, Bool.and_true, Bool.and_false, Bool.true_or, Bool.false_or, Bool.or_true, Bool.or_false, Bool.not_true, Bool.not_false])]; done)
          | (have hok : (cellW t c && !(behindB p c)) = true := by simp only [cellW, *, Bool.true_and, Bool.false_and, Bool.and_true, Bool.and_false, Bool.true_or, Bool.false_or, Bool.or_true, Bool.or_false, Bool.not_true, Bool.not_false]
             have hcw : cellW t c = true := by simp only [cellW, *, Bool.true_and, Bool.false_and, Bool.and_true, Bool.and_false, Bool.true_or, Bool.false_or, Bool.or_true, Bool.or_false, Bool.not_true, Bool.not_false]
             have hbb := hb c hcw
             have w1 : IntKind.i64.wrap (c.down * c.right) = c.down * c.right := wrap_id (by omega) (by omega)
             have w2 : IntKind.i64.wrap (area (l.take i) + c.down * c.right) = area (l.take (i + 1)) := by rw [har]; exact wrap_id (by omega) (by omega)
             refine roundV_of hH hn [0] [(1, _), (3, _), (19, _), (20, _), (21, _)] [(0, _)] _ ⟨i + 1, hlt, good hok, ⟨by rw [har]; omega, by rw [har]; omega⟩, rfl, rfl, rfl, rfl⟩ (by omega) (by simp) (by simp [hm]) ?_ ?_
             · repeat' (first | exact List.forall_mem_nil _ | refine List.forall_mem_cons.2 ⟨?_, ?_⟩ | exact .toPt (by simp only [go_sem, reduceCtorEq, reduceIte, Nat.reduceAdd, Nat.reduceEqDiff, Nat.reduceLeDiff, Nat.reduceMul, *] <;> rfl) (by simp [tau]) (by simp) | exact .toRf (by simp only [go_sem, reduceCtorEq, reduceIte, Nat.reduceAdd, Nat.reduceEqDiff, Nat.reduceLeDiff, Nat.reduceMul, *] <;> rfl) (by simp [tau]) (by simp) | exact .same (by simp only [go_sem, reduceCtorEq, reduceIte, Nat.reduceAdd, Nat.reduceEqDiff, Nat.reduceLeDiff, Nat.reduceMul, *] <;> rfl) (by first | rfl | simp [VV.cloL, VV.clo, *]))
             · repeat' (first | exact HConv.nil | refine HConv.same (by decide) (by first | rfl | (simp only [go_sem, reduceCtorEq, reduceIte, Nat.reduceAdd, Nat.reduceEqDiff, Nat.reduceLeDiff, Nat.reduceMul, *] <;> rfl)) (by first | rfl | simp [VV.cloL, VV.clo, *]) ?_)
             done)
    · have g1 := ge_dec hge
      have hall : ∀ j, j < l.length → okAt t j = true := fun j hj => hz j (by omega)
      have hl' : l.take i = l := List.take_of_length_le hge
      rw [hl'] at *
      simp only [eR, eC] at hk
      have w3 : IntKind.i64.wrap ((R : Int) * (C : Int)) = (R : Int) * C := by
        have := mul_bound (a := R) (b := C) (by omega) (by omega) (by omega) (by omega)
        exact wrap_id (by omega) (by omega)
      clear hz
      repeat' (first
        | simp only [go_sem, reduceCtorEq, reduceIte, Nat.reduceAdd, Nat.reduceEqDiff, Nat.reduceLeDiff, Nat.reduceMul, *]
        | refine gdO_bool' _ (fun _ => ?_) (fun _ => ?_)
        | refine gdO_bool _ (fun _ => ?_) (fun _ => ?_)
        | refine gdD_bool' _ (fun _ => ?_) (fun _ => ?_)
        | refine gdD_bool _ (fun _ => ?_) (fun _ => ?_)
        | refine cdO_bool' _ (fun _ => ?_) (fun _ => ?_)
        | refine cdO_bool _ (fun _ => ?_) (fun _ => ?_)
        | refine ⟨by decide, ?_⟩
        | refine ppost_t (by simp) rfl ?_)
      refine loopV hX (fun μ s H n => ∃ r : Nat, r ≤ R ∧ (∀ j : Nat, j < r → ∀ k : Nat, k < C → decide (idxOf (fun x => has x j k) l < 0) = false) ∧ μ = R - r ∧ s = slotsOf [(1, .pt 0 0), (3, .sc (.int .i64 (area l))), (92, .sc (.int .i64 R)), (93, .sc (.int .i64 r))] ∧ H = heapOf [(0, [.sc (.int .i64 R), .sc (.int .i64 C), .sl 5 (l.map Cell.enc)])] ∧ n = 1) ?_
        ⟨R + 1, roundV_of hH hn [0] [(1, _), (3, _), (92, _), (93, _)] [(0, _)] _ ⟨0, by simp, by simp, rfl, rfl, rfl, rfl⟩ (by simp) (by simp) (by simp [hm]) ?_ ?_⟩
      rotate_left
      · repeat' (first | exact List.forall_mem_nil _ | refine List.forall_mem_cons.2 ⟨?_, ?_⟩ | exact .toPt (by simp only [go_sem, reduceCtorEq, reduceIte, Nat.reduceAdd, Nat.reduceEqDiff, Nat.reduceLeDiff, Nat.reduceMul, *] <;> rfl) (by simp [tau]) (by simp) | exact .toRf (by simp only [go_sem, reduceCtorEq, reduceIte, Nat.reduceAdd, Nat.reduceEqDiff, Nat.reduceLeDiff, Nat.reduceMul, *] <;> rfl) (by simp [tau]) (by simp) | exact .same (by simp only [go_sem, reduceCtorEq, reduceIte, Nat.reduceAdd, Nat.reduceEqDiff, Nat.reduceLeDiff, Nat.reduceMul, *] <;> rfl) (by first | rfl | simp [VV.cloL, VV.clo, *]))
      · repeat' (first | exact HConv.nil | refine HConv.same (by decide) (by first | rfl | (simp only [go_sem, reduceCtorEq, reduceIte, Nat.reduceAdd, Nat.reduceEqDiff, Nat.reduceLeDiff, Nat.reduceMul, *] <;> rfl)) (by first | rfl | simp [VV.cloL, VV.clo, *]) ?_)
      rintro μ s H n ⟨r, hr, hzr, rfl, rfl, rfl, rfl⟩
      rcases Nat.lt_or_ge r R with hlr | hgr
      · have k1 := lt_dec hlr
        have k5 : IntKind.i64.wrap ((r : Int) + 1) = ((r + 1 : Nat) : Int) := by rw [wrap_id] <;> omega
        repeat' (first
          | simp only [go_sem, reduceCtorEq, reduceIte, Nat.reduceAdd, Nat.reduceEqDiff, Nat.reduceLeDiff, Nat.reduceMul, *]
          | refine gdO_bool' _ (fun _ => ?_) (fun _ => ?_)
          | refine gdO_bool _ (fun _ => ?_) (fun _ => ?_)
          | refine gdD_bool' _ (fun _ => ?_) (fun _ => ?_)
          | refine gdD_bool _ (fun _ => ?_) (fun _ => ?_)
          | refine cdO_bool' _ (fun _ => ?_) (fun _ => ?_)
          | refine cdO_bool _ (fun _ => ?_) (fun _ => ?_)
          | refine ⟨by decide, ?_⟩
          | refine ppost_t (by simp) rfl ?_)
        refine loopV hX (fun μ s H n => ∃ q : Nat, q ≤ C ∧ (∀ k : Nat, k < q → decide (idxOf (fun x => has x r k) l < 0) = false) ∧ μ = C - q ∧ s = slotsOf [(1, .pt 0 0), (3, .sc (.int .i64 (area l))), (6, .sc (.int .i64 r)), (92, .sc (.int .i64 R)), (93, .sc (.int .i64 r)), (97, .sc (.int .i64 C)), (98, .sc (.int .i64 q))] ∧ H = heapOf [(0, [.sc (.int .i64 R), .sc (.int .i64 C), .sl 5 (l.map Cell.enc)])] ∧ n = 1) ?_
          ⟨C + 1, roundV_of hH hn [0] [(1, _), (3, _), (6, _), (92, _), (93, _), (97, _), (98, _)] [(0, _)] _ ⟨0, by simp, by simp, rfl, rfl, rfl, rfl⟩ (by simp) (by simp) (by simp [hm]) ?_ ?_⟩
        rotate_left
        · repeat' (first | exact List.forall_mem_nil _ | refine List.forall_mem_cons.2 ⟨?_, ?_⟩ | exact .toPt (by simp only [go_sem, reduceCtorEq, reduceIte, Nat.reduceAdd, Nat.reduceEqDiff, Nat.reduceLeDiff, Nat.reduceMul, *] <;> rfl) (by simp [tau]) (by simp) | exact .toRf (by simp only [go_sem, reduceCtorEq, reduceIte, Nat.reduceAdd, Nat.reduceEqDiff, Nat.reduceLeDiff, Nat.reduceMul, *] <;> rfl) (by simp [tau]) (by simp) | exact .same (by simp only [go_sem, reduceCtorEq, reduceIte, Nat.reduceAdd, Nat.reduceEqDiff, Nat.reduceLeDiff, Nat.reduceMul, *] <;> rfl) (by first | rfl | simp [VV.cloL, VV.clo, *]))
        · repeat' (first | exact HConv.nil | refine HConv.same (by decide) (by first | rfl | (simp only [go_sem, reduceCtorEq, reduceIte, Nat.reduceAdd, Nat.reduceEqDiff, Nat.reduceLeDiff, Nat.reduceMul, *] <;> rfl)) (by first | rfl | simp [VV.cloL, VV.clo, *]) ?_)
        rintro μ s H n ⟨q, hq, hzq, rfl, rfl, rfl, rfl⟩
        rcases Nat.lt_or_ge q C with hlq | hgq
        · have m1 := lt_dec hlq
          have m5 : IntKind.i64.wrap ((q : Int) + 1) = ((q + 1 : Nat) : Int) := by rw [wrap_id] <;> omega
          repeat' (first
            | simp only [go_sem, reduceCtorEq, reduceIte, Nat.reduceAdd, Nat.reduceEqDiff, Nat.reduceLeDiff, Nat.reduceMul, *]
            | refine gdO_bool' _ (fun _ => ?_) (fun _ => ?_)
            | refine gdO_bool _ (fun _ => ?_) (fun _ => ?_)
            | refine gdD_bool' _ (fun _ => ?_) (fun _ => ?_)
            | refine gdD_bool _ (fun _ => ?_) (fun _ => ?_)
            | refine cdO_bool' _ (fun _ => ?_) (fun _ => ?_)
            | refine cdO_bool _ (fun _ => ?_) (fun _ => ?_)
            | refine callO.pure (by first | exact hk _ _) ?_
            | refine callW.pure (by first | exact hk _ _) ?_
            | refine ⟨by decide, ?_⟩
            | refine ppost_t (by simp) rfl ?_)
          · rename_i h
            rw [bad2 r q hlr hlq h]
          · rename_i h
            refine roundV_of hH hn [0] [(1, _), (3, _), (6, _), (92, _), (93, _), (97, _), (98, _)] [(0, _)] _ ⟨q + 1, hlq, lt_succ_of (q := fun k : Nat => decide (idxOf (fun x => has x r k) l < 0) = false) hzq h, rfl, rfl, rfl, rfl⟩ (by omega) (by simp) (by simp [hm]) ?_ ?_
            · repeat' (first | exact List.forall_mem_nil _ | refine List.forall_mem_cons.2 ⟨?_, ?_⟩ | exact .toPt (by simp only [go_sem, reduceCtorEq, reduceIte, Nat.reduceAdd, Nat.reduceEqDiff, Nat.reduceLeDiff, Nat.reduceMul, *] <;> rfl) (by simp [tau]) (by simp) | exact .toRf (by simp only [go_sem, reduceCtorEq, reduceIte, Nat.reduceAdd, Nat.reduceEqDiff, Nat.reduceLeDiff, Nat.reduceMul, *] <;> rfl) (by simp [tau]) (by simp) | exact .same (by simp only [go_sem, reduceCtorEq, reduceIte, Nat.reduceAdd, Nat.reduceEqDiff, Nat.reduceLeDiff, Nat.reduceMul, *] <;> rfl) (by first | rfl | simp [VV.cloL, VV.clo, *]))
            · repeat' (first | exact HConv.nil | refine HConv.same (by decide) (by first | rfl | (simp only [go_sem, reduceCtorEq, reduceIte, Nat.reduceAdd, Nat.reduceEqDiff, Nat.reduceLeDiff, Nat.reduceMul, *] <;> rfl)) (by first | rfl | simp [VV.cloL, VV.clo, *]) ?_)
        · have m1 := ge_dec hgq
          repeat' (first
            | simp only [go_sem, reduceCtorEq, reduceIte, Nat.reduceAdd, Nat.reduceEqDiff, Nat.reduceLeDiff, Nat.reduceMul, *]
            | refine gdO_bool' _ (fun _ => ?_) (fun _ => ?_)
            | refine gdO_bool _ (fun _ => ?_) (fun _ => ?_)
            | refine gdD_bool' _ (fun _ => ?_) (fun _ => ?_)
            | refine gdD_bool _ (fun _ => ?_) (fun _ => ?_)
            | refine cdO_bool' _ (fun _ => ?_) (fun _ => ?_)
            | refine cdO_bool _ (fun _ => ?_) (fun _ => ?_)
            | refine ⟨by decide, ?_⟩
            | refine ppost_t (by simp) rfl ?_)
          refine roundV_of hH hn [0] [(1, _), (3, _), (92, _), (93, _)] [(0, _)] _ ⟨r + 1, hlr, lt_succ_of (q := fun j : Nat => ∀ k : Nat, k < C → decide (idxOf (fun x => has x j k) l < 0) = false) hzr (fun k hk => hzq k (by omega)), rfl, rfl, rfl, rfl⟩ (by omega) (by simp) (by simp [hm]) ?_ ?_
          · repeat' (first | exact List.forall_mem_nil _ | refine List.forall_mem_cons.2 ⟨?_, ?_⟩ | exact .toPt (by simp only [go_sem, reduceCtorEq, reduceIte, Nat.reduceAdd, Nat.reduceEqDiff, Nat.reduceLeDiff, Nat.reduceMul, *] <;> rfl) (by simp [tau]) (by simp) | exact .toRf (by simp only [go_sem, reduceCtorEq, reduceIte, Nat.reduceAdd, Nat.reduceEqDiff, Nat.reduceLeDiff, Nat.reduceMul, *] <;> rfl) (by simp [tau]) (by simp) | exact .same (by simp only [go_sem, reduceCtorEq, reduceIte, Nat.reduceAdd, Nat.reduceEqDiff, Nat.reduceLeDiff, Nat.reduceMul, *] <;> rfl) (by first | rfl | simp [VV.cloL, VV.clo, *]))
          · repeat' (first | exact HConv.nil | refine HConv.same (by decide) (by first | rfl | (simp only [go_sem, reduceCtorEq, reduceIte, Nat.reduceAdd, Nat.reduceEqDiff, Nat.reduceLeDiff, Nat.reduceMul, *] <;> rfl)) (by first | rfl | simp [VV.cloL, VV.clo, *]) ?_)
      · have k1 := ge_dec hgr
        have hfin := fin hall fun r' hr' => hzr r' (by omega)
        clear fin bad2 hall hzr
        repeat' (first
          | simp only [go_sem, reduceCtorEq, reduceIte, Nat.reduceAdd, Nat.reduceEqDiff, Nat.reduceLeDiff, Nat.reduceMul, *]
          | refine gdO_bool' _ (fun _ => ?_) (fun _ => ?_)
          | refine gdO_bool _ (fun _ => ?_) (fun _ => ?_)
          | refine gdD_bool' _ (fun _ => ?_) (fun _ => ?_)
          | refine gdD_bool _ (fun _ => ?_) (fun _ => ?_)
          | refine cdO_bool' _ (fun _ => ?_) (fun _ => ?_)
          | refine cdO_bool _ (fun _ => ?_) (fun _ => ?_)
          | refine ⟨by decide, ?_⟩
          | refine ppost_t (by simp) rfl ?_)
end Go.Proofs.Ytdmmhainianadaa

/- F8: blocks and documents in form. -/
namespace Go.Proofs.Ytdmmhainianadaa
open Go.VM Go.Lim Go.Proofs.Try
attribute [local irreducible] vwp vops vstep vdr vdr1 CallP PPost SWv gdO gdD cdO optV optW optD thenV blockV behind callO callW callvO roundV
set_option linter.unusedSimpArgs false
set_option linter.unusedVariables false
/- loop.example/limner/spec.l3Block -/
def vc117 : VCode :=
(.seq (.reg [⟨(some 1), (.box (.tmp 0)), none⟩, ⟨(some 2), (.mov (.const (.bool false))), none⟩])
(.seq (.seq (.reg [⟨(some 3), (.fad 0 (.tmp 1)), none⟩, ⟨(some 4), (.load false 1 (.tmp 3)), none⟩])
(.block 0 (.seq (.reg [⟨(some 6), (.bin .eql .no (.tmp 4) (.const (.int .i64 1))), none⟩, ⟨(some 5), (.mov (.tmp 6)), none⟩])
 (.cond (.tmp 5) (.seq (.reg [⟨(some 7), (.fad 1 (.tmp 1)), none⟩, ⟨(some 8), (.load false 1 (.tmp 7)), none⟩, ⟨(some 9), (.bin .eql .no (.tmp 8) (.const (.int .i64 0))), none⟩, ⟨(some 10), (.mov (.tmp 9)), none⟩, ⟨(some 11), (.fad 2 (.tmp 1)), (some (10, true))⟩, ⟨(some 12), (.load false 1 (.tmp 11)), (some (10, true))⟩, ⟨(some 13), (.call 130 [(.tmp 12)]), (some (10, true))⟩, ⟨(some 14), (.pick (.tmp 10) (.tmp 13) (.const (.bool false))), none⟩, ⟨(some 15), (.mov (.tmp 14)), none⟩, ⟨(some 16), (.fad 3 (.tmp 1)), (some (15, true))⟩, ⟨(some 17), (.load true 3 (.tmp 16)), (some (15, true))⟩, ⟨(some 18), (.call 143 [(.tmp 17)]), (some (15, true))⟩, ⟨(some 19), (.pick (.tmp 15) (.tmp 18) (.const (.bool false))), none⟩, ⟨(some 2), (.mov (.tmp 19)), none⟩])
  .ret)
  (.seq (.reg [⟨(some 21), (.bin .eql .no (.tmp 4) (.const (.int .i64 2))), none⟩, ⟨(some 20), (.mov (.tmp 21)), none⟩])
  (.cond (.tmp 20) (.seq (.reg [⟨(some 22), (.fad 1 (.tmp 1)), none⟩, ⟨(some 23), (.load false 1 (.tmp 22)), none⟩, ⟨(some 24), (.call 93 [(.tmp 23), (.const (.int .i64 0)), (.const (.int .i64 3))]), none⟩, ⟨(some 25), (.mov (.tmp 24)), none⟩, ⟨(some 26), (.fad 2 (.tmp 1)), (some (25, true))⟩, ⟨(some 27), (.load false 1 (.tmp 26)), (some (25, true))⟩, ⟨(some 28), (.call 130 [(.tmp 27)]), (some (25, true))⟩, ⟨(some 29), (.pick (.tmp 25) (.tmp 28) (.const (.bool false))), none⟩, ⟨(some 30), (.mov (.tmp 29)), none⟩, ⟨(some 31), (.fad 3 (.tmp 1)), (some (30, true))⟩, ⟨(some 32), (.load true 3 (.tmp 31)), (some (30, true))⟩, ⟨(some 33), (.call 143 [(.tmp 32)]), (some (30, true))⟩, ⟨(some 34), (.pick (.tmp 30) (.tmp 33) (.const (.bool false))), none⟩, ⟨(some 2), (.mov (.tmp 34)), none⟩])
   .ret)
   (.seq (.reg [⟨(some 36), (.bin .eql .no (.tmp 4) (.const (.int .i64 3))), none⟩, ⟨(some 35), (.mov (.tmp 36)), none⟩])
   (.cond (.tmp 35) (.seq (.reg [⟨(some 37), (.fad 1 (.tmp 1)), none⟩, ⟨(some 38), (.load false 1 (.tmp 37)), none⟩, ⟨(some 39), (.bin .eql .no (.tmp 38) (.const (.int .i64 0))), none⟩, ⟨(some 40), (.mov (.tmp 39)), none⟩, ⟨(some 41), (.fad 2 (.tmp 1)), (some (40, true))⟩, ⟨(some 42), (.load false 1 (.tmp 41)), (some (40, true))⟩, ⟨(some 43), (.len false (.tmp 42)), (some (40, true))⟩, ⟨(some 44), (.bin .eql .no (.tmp 43) (.const (.int .i64 0))), (some (40, true))⟩, ⟨(some 45), (.pick (.tmp 40) (.tmp 44) (.const (.bool false))), none⟩, ⟨(some 46), (.mov (.tmp 45)), none⟩, ⟨(some 47), (.fad 3 (.tmp 1)), (some (46, true))⟩, ⟨(some 48), (.load true 3 (.tmp 47)), (some (46, true))⟩, ⟨(some 49), (.call 144 [(.tmp 48)]), (some (46, true))⟩, ⟨(some 50), (.pick (.tmp 46) (.tmp 49) (.const (.bool false))), none⟩, ⟨(some 2), (.mov (.tmp 50)), none⟩])
    .ret)
    .skip))))))))
(.seq (.reg [⟨(some 2), (.mov (.const (.bool false))), none⟩])
.ret)))
theorem k117 : compFn prog 117 = some (51, vc117, [.t 2]) := by kernel_rfl
/- loop.example/limner/impl.blockOk -/
def vc119 : VCode :=
(.seq (.reg [⟨(some 1), (.box (.tmp 0)), none⟩, ⟨(some 2), (.mov (.const (.bool false))), none⟩])
(.seq (.seq (.reg [⟨(some 3), (.fad 0 (.tmp 1)), none⟩, ⟨(some 4), (.load false 1 (.tmp 3)), none⟩])
(.block 0 (.seq (.reg [⟨(some 6), (.bin .eql .no (.tmp 4) (.const (.int .i64 1))), none⟩, ⟨(some 5), (.mov (.tmp 6)), none⟩])
 (.cond (.tmp 5) (.seq (.reg [⟨(some 7), (.fad 1 (.tmp 1)), none⟩, ⟨(some 8), (.load false 1 (.tmp 7)), none⟩, ⟨(some 9), (.bin .eql .no (.tmp 8) (.const (.int .i64 0))), none⟩, ⟨(some 10), (.mov (.tmp 9)), none⟩, ⟨(some 11), (.fad 2 (.tmp 1)), (some (10, true))⟩, ⟨(some 12), (.load false 1 (.tmp 11)), (some (10, true))⟩, ⟨(some 13), (.call 121 [(.tmp 12)]), (some (10, true))⟩, ⟨(some 14), (.pick (.tmp 10) (.tmp 13) (.const (.bool false))), none⟩, ⟨(some 15), (.mov (.tmp 14)), none⟩, ⟨(some 16), (.fad 3 (.tmp 1)), (some (15, true))⟩, ⟨(some 17), (.load true 3 (.tmp 16)), (some (15, true))⟩, ⟨(some 18), (.call 145 [(.tmp 17)]), (some (15, true))⟩, ⟨(some 19), (.pick (.tmp 15) (.tmp 18) (.const (.bool false))), none⟩, ⟨(some 2), (.mov (.tmp 19)), none⟩])
  .ret)
  (.seq (.reg [⟨(some 21), (.bin .eql .no (.tmp 4) (.const (.int .i64 2))), none⟩, ⟨(some 20), (.mov (.tmp 21)), none⟩])
  (.cond (.tmp 20) (.seq (.reg [⟨(some 22), (.fad 1 (.tmp 1)), none⟩, ⟨(some 23), (.load false 1 (.tmp 22)), none⟩, ⟨(some 24), (.call 113 [(.tmp 23), (.const (.int .i64 0)), (.const (.int .i64 3))]), none⟩, ⟨(some 25), (.mov (.tmp 24)), none⟩, ⟨(some 26), (.fad 2 (.tmp 1)), (some (25, true))⟩, ⟨(some 27), (.load false 1 (.tmp 26)), (some (25, true))⟩, ⟨(some 28), (.call 121 [(.tmp 27)]), (some (25, true))⟩, ⟨(some 29), (.pick (.tmp 25) (.tmp 28) (.const (.bool false))), none⟩, ⟨(some 30), (.mov (.tmp 29)), none⟩, ⟨(some 31), (.fad 3 (.tmp 1)), (some (30, true))⟩, ⟨(some 32), (.load true 3 (.tmp 31)), (some (30, true))⟩, ⟨(some 33), (.call 145 [(.tmp 32)]), (some (30, true))⟩, ⟨(some 34), (.pick (.tmp 30) (.tmp 33) (.const (.bool false))), none⟩, ⟨(some 2), (.mov (.tmp 34)), none⟩])
   .ret)
   (.seq (.reg [⟨(some 36), (.bin .eql .no (.tmp 4) (.const (.int .i64 3))), none⟩, ⟨(some 35), (.mov (.tmp 36)), none⟩])
   (.cond (.tmp 35) (.seq (.reg [⟨(some 37), (.fad 1 (.tmp 1)), none⟩, ⟨(some 38), (.load false 1 (.tmp 37)), none⟩, ⟨(some 39), (.bin .eql .no (.tmp 38) (.const (.int .i64 0))), none⟩, ⟨(some 40), (.mov (.tmp 39)), none⟩, ⟨(some 41), (.fad 2 (.tmp 1)), (some (40, true))⟩, ⟨(some 42), (.load false 1 (.tmp 41)), (some (40, true))⟩, ⟨(some 43), (.len false (.tmp 42)), (some (40, true))⟩, ⟨(some 44), (.bin .eql .no (.tmp 43) (.const (.int .i64 0))), (some (40, true))⟩, ⟨(some 45), (.pick (.tmp 40) (.tmp 44) (.const (.bool false))), none⟩, ⟨(some 46), (.mov (.tmp 45)), none⟩, ⟨(some 47), (.fad 3 (.tmp 1)), (some (46, true))⟩, ⟨(some 48), (.load true 3 (.tmp 47)), (some (46, true))⟩, ⟨(some 49), (.call 146 [(.tmp 48)]), (some (46, true))⟩, ⟨(some 50), (.pick (.tmp 46) (.tmp 49) (.const (.bool false))), none⟩, ⟨(some 2), (.mov (.tmp 50)), none⟩])
    .ret)
    .skip))))))))
(.seq (.reg [⟨(some 2), (.mov (.const (.bool false))), none⟩])
.ret)))
theorem k119 : compFn prog 119 = some (51, vc119, [.t 2]) := by kernel_rfl
/- loop.example/limner/spec.l3Ahead -/
def vc118 : VCode :=
(.seq (.reg [⟨(some 2), (.box (.tmp 0)), none⟩, ⟨(some 4), (.mov (.const (.int .i64 0))), none⟩])
(.seq (.seq (.reg [⟨(some 5), (.mov (.tmp 1)), none⟩, ⟨(some 6), (.bin .lss .no (.tmp 5) (.const (.int .i64 1))), none⟩, ⟨(some 7), (.mov (.tmp 6)), none⟩, ⟨(some 8), (.fad 0 (.tmp 2)), (some (7, false))⟩, ⟨(some 9), (.load false 1 (.tmp 8)), (some (7, false))⟩, ⟨(some 10), (.mov (.tmp 1)), (some (7, false))⟩, ⟨(some 11), (.bin .sub .no (.tmp 10) (.const (.int .i64 1))), (some (7, false))⟩, ⟨(some 12), (.iad 6 (.tmp 9) (.tmp 11)), (some (7, false))⟩, ⟨(some 13), (.fad 0 (.tmp 12)), (some (7, false))⟩, ⟨(some 14), (.load false 1 (.tmp 13)), (some (7, false))⟩, ⟨(some 15), (.bin .neq .no (.tmp 14) (.const (.int .i64 2))), (some (7, false))⟩, ⟨(some 16), (.pick (.tmp 7) (.const (.bool true)) (.tmp 15)), none⟩])
(.cond (.tmp 16) (.seq (.reg [⟨(some 4), (.mov (.const (.int .i64 (-1)))), none⟩])
 .ret)
 .skip))
(.seq (.reg [⟨(some 17), (.fad 0 (.tmp 2)), none⟩, ⟨(some 18), (.load false 1 (.tmp 17)), none⟩, ⟨(some 19), (.mov (.tmp 1)), none⟩, ⟨(some 20), (.bin .sub .no (.tmp 19) (.const (.int .i64 1))), none⟩, ⟨(some 21), (.iad 6 (.tmp 18) (.tmp 20)), none⟩, ⟨(some 22), (.fad 1 (.tmp 21)), none⟩, ⟨(some 23), (.load false 1 (.tmp 22)), none⟩, ⟨(some 4), (.mov (.tmp 23)), none⟩])
.ret)))
theorem k118 : compFn prog 118 = some (24, vc118, [.t 4]) := by kernel_rfl
/- loop.example/limner/spec.DocOk -/
def vc71 : VCode :=
(.seq (.reg [⟨(some 1), (.box (.tmp 0)), none⟩, ⟨(some 2), (.mov (.const (.bool false))), none⟩])
(.seq (.seq (.reg [⟨(some 4), (.fad 0 (.tmp 1)), none⟩, ⟨(some 5), (.load false 1 (.tmp 4)), none⟩, ⟨(some 6), (.len false (.tmp 5)), none⟩, ⟨(some 7), (.bin .gtr .no (.tmp 6) (.const (.int .i64 8))), none⟩])
(.cond (.tmp 7) (.seq (.reg [⟨(some 2), (.mov (.const (.bool false))), none⟩])
 .ret)
 .skip))
(.seq (.seq (.reg [⟨(some 3), (.mov (.const (.int .i64 0))), none⟩])
(.block 0 (.loop (.seq (.seq (.reg [⟨(some 8), (.mov (.tmp 3)), none⟩, ⟨(some 9), (.fad 0 (.tmp 1)), none⟩, ⟨(some 10), (.load false 1 (.tmp 9)), none⟩, ⟨(some 11), (.len false (.tmp 10)), none⟩, ⟨(some 12), (.bin .lss .no (.tmp 8) (.tmp 11)), none⟩])
  (.cond (.tmp 12) .skip
   (.exit 0)))
  (.seq (.block 1 (.seq (.drw [(⟨(some 15), (.fad 0 (.tmp 1)), none⟩, []), (⟨(some 16), (.load false 1 (.tmp 15)), none⟩, []), (⟨(some 17), (.mov (.tmp 3)), none⟩, []), (⟨(some 18), (.iad 6 (.tmp 16) (.tmp 17)), none⟩, []), (⟨(some 19), (.load true 6 (.tmp 18)), none⟩, []), (⟨(some 20), (.call 117 [(.tmp 19)]), none⟩, []), (⟨(some 21), (.un .not (.tmp 20)), none⟩, []), (⟨(some 22), (.mov (.tmp 21)), none⟩, []), (⟨(some 23), (.fad 0 (.tmp 1)), (some (22, false))⟩, []), (⟨(some 24), (.load false 1 (.tmp 23)), (some (22, false))⟩, []), (⟨(some 25), (.mov (.tmp 3)), (some (22, false))⟩, []), (⟨(some 26), (.iad 6 (.tmp 24) (.tmp 25)), (some (22, false))⟩, []), (⟨(some 27), (.fad 0 (.tmp 26)), (some (22, false))⟩, []), (⟨(some 28), (.load false 1 (.tmp 27)), (some (22, false))⟩, []), (⟨(some 29), (.bin .eql .no (.tmp 28) (.const (.int .i64 2))), (some (22, false))⟩, []), (⟨(some 30), (.mov (.tmp 29)), (some (22, false))⟩, []), (⟨(some 31), (.fad 0 (.tmp 1)), (some (30, true))⟩, []), (⟨(some 32), (.load false 1 (.tmp 31)), (some (30, true))⟩, []), (⟨(some 33), (.mov (.tmp 3)), (some (30, true))⟩, []), (⟨(some 34), (.iad 6 (.tmp 32) (.tmp 33)), (some (30, true))⟩, []), (⟨(some 35), (.fad 1 (.tmp 34)), (some (30, true))⟩, []), (⟨(some 36), (.load false 1 (.tmp 35)), (some (30, true))⟩, []), (⟨(some 37), (.load true 1 (.tmp 1)), (some (30, true))⟩, [17, 21]), (⟨(some 38), (.mov (.tmp 3)), (some (30, true))⟩, []), (⟨(some 39), (.call 118 [(.tmp 37), (.tmp 38)]), (some (30, true))⟩, [17, 21]), (⟨(some 40), (.bin .add .no (.tmp 39) (.const (.int .i64 1))), (some (30, true))⟩, []), (⟨(some 41), (.bin .gtr .no (.tmp 36) (.tmp 40)), (some (30, true))⟩, []), (⟨(some 42), (.pick (.tmp 30) (.tmp 41) (.const (.bool false))), (some (22, false))⟩, []), (⟨(some 43), (.pick (.tmp 22) (.const (.bool true)) (.tmp 42)), none⟩, [])])
   (.cond (.tmp 43) (.seq (.reg [⟨(some 2), (.mov (.const (.bool false))), none⟩])
    .ret)
    .skip)))
  (.reg [⟨(some 13), (.mov (.tmp 3)), none⟩, ⟨(some 14), (.bin .add .no (.tmp 13) (.const (.int .i64 1))), none⟩, ⟨(some 3), (.mov (.tmp 14)), none⟩]))))))
(.seq (.reg [⟨(some 2), (.mov (.const (.bool true))), none⟩])
.ret))))
theorem k71 : compFn prog 71 = some (44, vc71, [.t 2]) := by kernel_rfl
/- loop.example/limner/impl.DocOk -/
def vc72 : VCode :=
(.seq (.reg [⟨(some 1), (.box (.tmp 0)), none⟩, ⟨(some 2), (.mov (.const (.bool false))), none⟩])
(.seq (.seq (.reg [⟨(some 6), (.fad 0 (.tmp 1)), none⟩, ⟨(some 7), (.load false 1 (.tmp 6)), none⟩, ⟨(some 8), (.len false (.tmp 7)), none⟩, ⟨(some 9), (.mov (.const (.int .i64 0))), none⟩])
(.block 0 (.loop (.seq (.reg [⟨(some 10), (.bin .lss .no (.tmp 9) (.tmp 8)), none⟩])
  (.seq (.cond (.tmp 10) .skip
   (.exit 0))
  (.seq (.block 1 (.seq (.reg [⟨(some 11), (.mov (.tmp 9)), none⟩, ⟨(some 12), (.iad 6 (.tmp 7) (.tmp 9)), none⟩, ⟨(some 13), (.load true 6 (.tmp 12)), none⟩, ⟨(some 4), (.new [(.int .i64 0), (.int .i64 0), (.slice none 0 0), (.int .i64 0), (.int .i64 0), (.slice none 0 0)]), none⟩, ⟨(some 3), (.mov (.tmp 11)), none⟩, ⟨none, (.store 6 (.tmp 4) (.tmp 13)), none⟩])
   (.seq (.seq (.reg [⟨(some 14), (.load true 6 (.tmp 4)), none⟩, ⟨(some 15), (.call 119 [(.tmp 14)]), none⟩, ⟨(some 16), (.un .not (.tmp 15)), none⟩])
   (.cond (.tmp 16) (.seq (.reg [⟨(some 2), (.mov (.const (.bool false))), none⟩])
    .ret)
    .skip))
   (.seq (.reg [⟨(some 5), (.mov (.const (.int .i64 0))), none⟩])
   (.seq (.seq (.reg [⟨(some 17), (.mov (.tmp 3)), none⟩, ⟨(some 18), (.bin .gtr .no (.tmp 17) (.const (.int .i64 0))), none⟩, ⟨(some 19), (.mov (.tmp 18)), none⟩, ⟨(some 20), (.fad 0 (.tmp 1)), (some (19, true))⟩, ⟨(some 21), (.load false 1 (.tmp 20)), (some (19, true))⟩, ⟨(some 22), (.mov (.tmp 3)), (some (19, true))⟩, ⟨(some 23), (.bin .sub .no (.tmp 22) (.const (.int .i64 1))), (some (19, true))⟩, ⟨(some 24), (.iad 6 (.tmp 21) (.tmp 23)), (some (19, true))⟩, ⟨(some 25), (.fad 0 (.tmp 24)), (some (19, true))⟩, ⟨(some 26), (.load false 1 (.tmp 25)), (some (19, true))⟩, ⟨(some 27), (.bin .eql .no (.tmp 26) (.const (.int .i64 2))), (some (19, true))⟩, ⟨(some 28), (.pick (.tmp 19) (.tmp 27) (.const (.bool false))), none⟩])
   (.cond (.tmp 28) (.reg [⟨(some 29), (.fad 0 (.tmp 1)), none⟩, ⟨(some 30), (.load false 1 (.tmp 29)), none⟩, ⟨(some 31), (.mov (.tmp 3)), none⟩, ⟨(some 32), (.bin .sub .no (.tmp 31) (.const (.int .i64 1))), none⟩, ⟨(some 33), (.iad 6 (.tmp 30) (.tmp 32)), none⟩, ⟨(some 34), (.fad 1 (.tmp 33)), none⟩, ⟨(some 35), (.load false 1 (.tmp 34)), none⟩, ⟨(some 36), (.bin .add .no (.tmp 35) (.const (.int .i64 1))), none⟩, ⟨(some 5), (.mov (.tmp 36)), none⟩])
    .skip))
   (.seq (.reg [⟨(some 37), (.fad 1 (.tmp 4)), none⟩, ⟨(some 38), (.load false 1 (.tmp 37)), none⟩, ⟨(some 39), (.mov (.tmp 5)), none⟩, ⟨(some 40), (.bin .gtr .no (.tmp 38) (.tmp 39)), none⟩])
   (.cond (.tmp 40) (.seq (.reg [⟨(some 2), (.mov (.const (.bool false))), none⟩])
    .ret)
    .skip)))))))
  (.reg [⟨(some 41), (.bin .add .no (.tmp 9) (.const (.int .i64 1))), none⟩, ⟨(some 9), (.mov (.tmp 41)), none⟩])))))))
(.seq (.reg [⟨(some 42), (.fad 0 (.tmp 1)), none⟩, ⟨(some 43), (.load false 1 (.tmp 42)), none⟩, ⟨(some 44), (.len false (.tmp 43)), none⟩, ⟨(some 45), (.bin .leq .no (.tmp 44) (.const (.int .i64 8))), none⟩, ⟨(some 2), (.mov (.tmp 45)), none⟩])
.ret)))
theorem k72 : compFn prog 72 = some (46, vc72, [.t 2]) := by kernel_rfl
theorem c117 (b : Block) : PureC prog 117 [.agg b.enc] (.sc (.bool (blockOk tableOk b))) := by
  have h143 := c143 b.table
  have h144 := c144 b.table
  unfold Table.enc encC at h143 h144
  unfold Block.enc encT encC
  refine pureC_of k117 (by first | rfl | simp [VV.cloL, VV.clo, *]) (by first | rfl | simp [VV.cloL, VV.clo, *]) (by simp) ?_
  intro X hP hm hH hn hX
  refine vwp_ok _ ?_
  unfold vc117
  repeat' (first
    | simp only [go_sem, reduceCtorEq, reduceIte, Nat.reduceAdd, Nat.reduceEqDiff, Nat.reduceLeDiff, Nat.reduceMul, *]
    | refine gdO_bool' _ (fun _ => ?_) (fun _ => ?_)
    | refine gdO_bool _ (fun _ => ?_) (fun _ => ?_)
    | refine gdD_bool' _ (fun _ => ?_) (fun _ => ?_)
    | refine gdD_bool _ (fun _ => ?_) (fun _ => ?_)
    | refine cdO_bool' _ (fun _ => ?_) (fun _ => ?_)
    | refine cdO_bool _ (fun _ => ?_) (fun _ => ?_)
    | refine callO.pure (by first | exact c130 _ | exact h143 | exact h144 | exact c93 _ _ _) ?_
    | refine callW.pure (by first | exact c130 _ | exact h143 | exact h144 | exact c93 _ _ _) ?_
    | refine ⟨by decide, ?_⟩
    | refine ppost_t (by simp) rfl ?_)
  all_goals simp only [blockOk, *, Bool.true_and, Bool.false_and, Bool.and_true, Bool.and_false, if_true, if_false, Bool.false_eq_true]
theorem c119 (b : Block) (hs : b.sm) : PureC prog 119 [.agg b.enc] (.sc (.bool (blockOk tableOkI b))) := by
  have h143 := c145 b.table
  have h144 := c146 b.table (by have := hs.2.1; omega) (fun c hc => by have := hs.2.2 c hc; unfold Cell.sm at this; omega)
  have hx := c121 b.text (by have := hs.1; omega)
  unfold Table.enc encC at h143 h144
  unfold encT at hx
  unfold Block.enc encT encC
  refine pureC_of k119 (by first | rfl | simp [VV.cloL, VV.clo, *]) (by first | rfl | simp [VV.cloL, VV.clo, *]) (by simp) ?_
  intro X hP hm hH hn hX
  refine vwp_ok _ ?_
  unfold vc119
  repeat' (first
    | simp only [go_sem, reduceCtorEq, reduceIte, Nat.reduceAdd, Nat.reduceEqDiff, Nat.reduceLeDiff, Nat.reduceMul, *]
    | refine gdO_bool' _ (fun _ => ?_) (fun _ => ?_)
    | refine gdO_bool _ (fun _ => ?_) (fun _ => ?_)
    | refine gdD_bool' _ (fun _ => ?_) (fun _ => ?_)
    | refine gdD_bool _ (fun _ => ?_) (fun _ => ?_)
    | refine cdO_bool' _ (fun _ => ?_) (fun _ => ?_)
    | refine cdO_bool _ (fun _ => ?_) (fun _ => ?_)
    | refine callO.pure (by first | exact hx | exact h143 | exact h144 | exact c113 _ _ _) ?_
    | refine callW.pure (by first | exact hx | exact h143 | exact h144 | exact c113 _ _ _) ?_
    | refine ⟨by decide, ?_⟩
    | refine ppost_t (by simp) rfl ?_)
  all_goals simp only [blockOk, *, Bool.true_and, Bool.false_and, Bool.and_true, Bool.and_false, if_true, if_false, Bool.false_eq_true]
theorem c118 (d : Doc) (i : Nat) (hi : i < d.length) (h8 : d.length ≤ 8) : PureC prog 118 [.agg [encB d], .sc (.int .i64 i)] (.sc (.int .i64 (aheadAt d i))) := by
  unfold encB
  rcases Nat.eq_zero_or_pos i with h0 | hpos
  · have g1 : decide ((i : Int) < 1) = true := by simp; omega
    have e : aheadAt d i = -1 := by simp [aheadAt, h0]
    clear h0
    refine pureC_of k118 (by first | rfl | simp [VV.cloL, VV.clo, *]) (by first | rfl | simp [VV.cloL, VV.clo, *]) (by simp) ?_
    intro X hP hm hH hn hX
    refine vwp_ok _ ?_
    unfold vc118
    repeat' (first
      | simp only [go_sem, reduceCtorEq, reduceIte, Nat.reduceAdd, Nat.reduceEqDiff, Nat.reduceLeDiff, Nat.reduceMul, *]
      | refine gdO_bool' _ (fun _ => ?_) (fun _ => ?_)
      | refine gdO_bool _ (fun _ => ?_) (fun _ => ?_)
      | refine gdD_bool' _ (fun _ => ?_) (fun _ => ?_)
      | refine gdD_bool _ (fun _ => ?_) (fun _ => ?_)
      | refine cdO_bool' _ (fun _ => ?_) (fun _ => ?_)
      | refine cdO_bool _ (fun _ => ?_) (fun _ => ?_)
      | refine ⟨by decide, ?_⟩
      | refine ppost_t (by simp) rfl ?_)
  · have g1 : decide ((i : Int) < 1) = false := by simp; omega
    have hlt' : i - 1 < d.length := by omega
    have g7 : IntKind.i64.wrap ((i : Int) - 1) = ((i - 1 : Nat) : Int) := by rw [wrap_id] <;> omega
    have g8 : (0 : Int) ≤ ((i - 1 : Nat) : Int) := by omega
    have g9 : ((i - 1 : Nat) : Int) < (d.length : Int) := by omega
    have g10 : (d.map Block.enc).getD (i - 1) [] = (d[i - 1]).enc := getD_map hlt'
    have hne : (i == 0) = false := by simp; omega
    have e3 : d.getD (i - 1) noBlock = d[i - 1] := getD_eq hlt'
    have ea : aheadAt d i = if (d[i - 1].kind == 2) = true then d[i - 1].level else -1 := by simp only [aheadAt, hne, e3, Bool.false_eq_true, if_false]
    generalize aheadAt d i = res at *
    generalize d[i - 1] = b at *
    have eb : b.enc = [.sc (.int .i64 b.kind), .sc (.int .i64 b.level), .sl 3 (b.text.map Sign.enc), .sc (.int .i64 b.table.rows), .sc (.int .i64 b.table.cols), .sl 5 (b.table.cells.map Cell.enc)] := rfl
    clear e3 hne
    refine pureC_of k118 (by first | rfl | simp [VV.cloL, VV.clo, *]) (by first | rfl | simp [VV.cloL, VV.clo, *]) (by simp) ?_
    intro X hP hm hH hn hX
    refine vwp_ok _ ?_
    unfold vc118
    repeat' (first
      | simp only [go_sem, reduceCtorEq, reduceIte, Nat.reduceAdd, Nat.reduceEqDiff, Nat.reduceLeDiff, Nat.reduceMul, *]
      | refine gdO_bool' _ (fun _ => ?_) (fun _ => ?_)
      | refine gdO_bool _ (fun _ => ?_) (fun _ => ?_)
      | refine gdD_bool' _ (fun _ => ?_) (fun _ => ?_)
      | refine gdD_bool _ (fun _ => ?_) (fun _ => ?_)
      | refine cdO_bool' _ (fun _ => ?_) (fun _ => ?_)
      | refine cdO_bool _ (fun _ => ?_) (fun _ => ?_)
      | refine ⟨by decide, ?_⟩
      | refine ppost_t (by simp) rfl ?_)
    all_goals (rename_i h; rw [ea, h]; rfl)
theorem c71 (d : Doc) : PureC prog 71 [.agg [encB d]] (.sc (.bool (docOk d))) := by
  rcases Nat.lt_or_ge 8 d.length with hl | hl
  · unfold encB
    have h1 : decide ((d.length : Int) > 8) = true := by simp; omega
    have h2 : docOk d = false := by
      have : decide (d.length ≤ 8) = false := by simp; omega
      rw [docOk, this, Bool.false_and]
    refine pureC_of k71 (by first | rfl | simp [VV.cloL, VV.clo, *]) (by first | rfl | simp [VV.cloL, VV.clo, *]) (by simp) ?_
    intro X hP hm hH hn hX
    refine vwp_ok _ ?_
    unfold vc71
    repeat' (first
      | simp only [go_sem, reduceCtorEq, reduceIte, Nat.reduceAdd, Nat.reduceEqDiff, Nat.reduceLeDiff, Nat.reduceMul, *]
      | refine gdO_bool' _ (fun _ => ?_) (fun _ => ?_)
      | refine gdO_bool _ (fun _ => ?_) (fun _ => ?_)
      | refine gdD_bool' _ (fun _ => ?_) (fun _ => ?_)
      | refine gdD_bool _ (fun _ => ?_) (fun _ => ?_)
      | refine cdO_bool' _ (fun _ => ?_) (fun _ => ?_)
      | refine cdO_bool _ (fun _ => ?_) (fun _ => ?_)
      | refine ⟨by decide, ?_⟩
      | refine ppost_t (by simp) rfl ?_)
  have h1 : decide ((d.length : Int) > 8) = false := by simp; omega
  have hah : ∀ i : Nat, i < d.length → PureC prog 118 [.agg [.sl 6 (d.map Block.enc)], .sc (.int .i64 i)] (.sc (.int .i64 (aheadAt d i))) := fun i hi => c118 d i hi hl
  have bad1 : ∀ i, i < d.length → docAt d i = false → docOk d = false := fun i h1 h2 => by rw [docOk, range_all_false h1 h2, Bool.and_false]
  have fin : (∀ i, i < d.length → docAt d i = true) → docOk d = true := fun h => by rw [docOk, range_all_true h]; simp; omega
  unfold encB
  refine pureC_of k71 (by first | rfl | simp [VV.cloL, VV.clo, *]) (by first | rfl | simp [VV.cloL, VV.clo, *]) (by simp) ?_
  intro X hP hm hH hn hX
  refine vwp_ok _ ?_
  unfold vc71
  repeat' (first
    | simp only [go_sem, reduceCtorEq, reduceIte, Nat.reduceAdd, Nat.reduceEqDiff, Nat.reduceLeDiff, Nat.reduceMul, *]
    | refine gdO_bool' _ (fun _ => ?_) (fun _ => ?_)
    | refine gdO_bool _ (fun _ => ?_) (fun _ => ?_)
    | refine gdD_bool' _ (fun _ => ?_) (fun _ => ?_)
    | refine gdD_bool _ (fun _ => ?_) (fun _ => ?_)
    | refine cdO_bool' _ (fun _ => ?_) (fun _ => ?_)
    | refine cdO_bool _ (fun _ => ?_) (fun _ => ?_)
    | refine ⟨by decide, ?_⟩
    | refine ppost_t (by simp) rfl ?_)
  refine loopV hX (fun μ s H n => ∃ i : Nat, i ≤ d.length ∧ (∀ j, j < i → docAt d j = true) ∧ μ = d.length - i ∧ s = slotsOf [(1, .pt 0 0), (3, .sc (.int .i64 i))] ∧ H = heapOf [(0, [.sl 6 (d.map Block.enc)])] ∧ n = 1) ?_
    ⟨d.length + 1, roundV_of hH hn [0] [(1, _), (3, _)] [(0, _)] _ ⟨0, by simp, by simp, rfl, rfl, rfl, rfl⟩ (by simp) (by simp) (by simp [hm]) ?_ ?_⟩
  rotate_left
  · repeat' (first | exact List.forall_mem_nil _ | refine List.forall_mem_cons.2 ⟨?_, ?_⟩ | exact .toPt (by simp only [go_sem, reduceCtorEq, reduceIte, Nat.reduceAdd, Nat.reduceEqDiff, Nat.reduceLeDiff, Nat.reduceMul, *] <;> rfl) (by simp [tau]) (by simp) | exact .toRf (by simp only [go_sem, reduceCtorEq, reduceIte, Nat.reduceAdd, Nat.reduceEqDiff, Nat.reduceLeDiff, Nat.reduceMul, *] <;> rfl) (by simp [tau]) (by simp) | exact .same (by simp only [go_sem, reduceCtorEq, reduceIte, Nat.reduceAdd, Nat.reduceEqDiff, Nat.reduceLeDiff, Nat.reduceMul, *] <;> rfl) (by first | rfl | simp [VV.cloL, VV.clo, *]))
  · repeat' (first | exact HConv.nil | refine HConv.same (by decide) (by first | rfl | (simp only [go_sem, reduceCtorEq, reduceIte, Nat.reduceAdd, Nat.reduceEqDiff, Nat.reduceLeDiff, Nat.reduceMul, *] <;> rfl)) (by first | rfl | simp [VV.cloL, VV.clo, *]) ?_)
  rintro μ s H n ⟨i, hi, hz, rfl, rfl, rfl, rfl⟩
  rcases Nat.lt_or_ge i d.length with hlt | hge
  · have g1 := lt_dec hlt
    have g2 : (0 : Int) ≤ (i : Int) := by omega
    have g3 : (i : Int) < (d.length : Int) := by omega
    have g5 : IntKind.i64.wrap ((i : Int) + 1) = ((i + 1 : Nat) : Int) := by rw [wrap_id] <;> omega
    have g4 : (d.map Block.enc).getD i [] = (d[i]).enc := getD_map hlt
    have bad := bad1 i hlt
    have good : docAt d i = true → ∀ j, j < i + 1 → docAt d j = true := lt_succ_of hz
    have e1 : d.getD i noBlock = d[i] := getD_eq hlt
    have hahi := hah i hlt
    have e2 : docAt d i = (blockOk tableOk d[i] && !(d[i].kind == 2 && decide (d[i].level > IntKind.i64.wrap (aheadAt d i + 1)))) := by simp only [docAt, e1]
    have hblk := c117 d[i]
    rw [e2] at bad good
    generalize aheadAt d i = ah at *
    generalize d[i] = b at *
    have eb : b.enc = [.sc (.int .i64 b.kind), .sc (.int .i64 b.level), .sl 3 (b.text.map Sign.enc), .sc (.int .i64 b.table.rows), .sc (.int .i64 b.table.cols), .sl 5 (b.table.cells.map Cell.enc)] := rfl
    rw [eb] at hblk
    clear e1 e2 fin bad1 hah
    repeat' (first
      | simp only [go_sem, reduceCtorEq, reduceIte, Nat.reduceAdd, Nat.reduceEqDiff, Nat.reduceLeDiff, Nat.reduceMul, *]
      | refine gdO_bool' _ (fun _ => ?_) (fun _ => ?_)
      | refine gdO_bool _ (fun _ => ?_) (fun _ => ?_)
      | refine gdD_bool' _ (fun _ => ?_) (fun _ => ?_)
      | refine gdD_bool _ (fun _ => ?_) (fun _ => ?_)
      | refine cdO_bool' _ (fun _ => ?_) (fun _ => ?_)
      | refine cdO_bool _ (fun _ => ?_) (fun _ => ?_)
      | refine callO.pure (by first | exact hblk | exact hahi) ?_
      | refine callW.pure (by first | exact hblk | exact hahi) ?_
      | refine ⟨by decide, ?_⟩
      | refine ppost_t (by simp) rfl ?_)
    all_goals first
      | (rw [bad (by simp only [*, Bool.true_and, Bool.false_and, Bool.and_true, Bool.and_false, Bool.true_or, Bool.false_or, Bool.or_true, Bool.or_false, Bool.not_true, Bool.not_false])]; done)
      | (refine roundV_of hH hn [0] [(1, _), (3, _)] [(0, _)] _ ⟨i + 1, hlt, good (by simp only [*, Bool.true_and, Bool.false_and, Bool.and_true, Bool.and_false, Bool.true_or, Bool.false_or, Bool.or_true, Bool.or_false, Bool.not_true, Bool.not_false]), rfl, rfl, rfl, rfl⟩ (by omega) (by simp) (by simp [hm]) ?_ ?_
         · repeat' (first | exact List.forall_mem_nil _ | refine List.forall_mem_cons.2 ⟨?_, ?_⟩ | exact .toPt (by simp only [go_sem, reduceCtorEq, reduceIte, Nat.reduceAdd, Nat.reduceEqDiff, Nat.reduceLeDiff, Nat.reduceMul, *] <;> rfl) (by simp [tau]) (by simp) | exact .toRf (by simp only [go_sem, reduceCtorEq, reduceIte, Nat.reduceAdd, Nat.reduceEqDiff, Nat.reduceLeDiff, Nat.reduceMul, *] <;> rfl) (by simp [tau]) (by simp) | exact .same (by simp only [go_sem, reduceCtorEq, reduceIte, Nat.reduceAdd, Nat.reduceEqDiff, Nat.reduceLeDiff, Nat.reduceMul, *] <;> rfl) (by first | rfl | simp [VV.cloL, VV.clo, *]))
         · repeat' (first | exact HConv.nil | refine HConv.same (by decide) (by first | rfl | (simp only [go_sem, reduceCtorEq, reduceIte, Nat.reduceAdd, Nat.reduceEqDiff, Nat.reduceLeDiff, Nat.reduceMul, *] <;> rfl)) (by first | rfl | simp [VV.cloL, VV.clo, *]) ?_)
         done)
  · have g1 := ge_dec hge
    have hf := fin fun j hj => hz j (by omega)
    clear fin bad1 hah hz
    repeat' (first
      | simp only [go_sem, reduceCtorEq, reduceIte, Nat.reduceAdd, Nat.reduceEqDiff, Nat.reduceLeDiff, Nat.reduceMul, *]
      | refine gdO_bool' _ (fun _ => ?_) (fun _ => ?_)
      | refine gdO_bool _ (fun _ => ?_) (fun _ => ?_)
      | refine gdD_bool' _ (fun _ => ?_) (fun _ => ?_)
      | refine gdD_bool _ (fun _ => ?_) (fun _ => ?_)
      | refine cdO_bool' _ (fun _ => ?_) (fun _ => ?_)
      | refine cdO_bool _ (fun _ => ?_) (fun _ => ?_)
      | refine ⟨by decide, ?_⟩
      | refine ppost_t (by simp) rfl ?_)
theorem c72 (d : Doc) (hs : docSm d) : PureC prog 72 [.agg [encB d]] (.sc (.bool (docOkI d))) := by
  have bad1 : ∀ i, i < d.length → docAtI d i = false → docOkI d = false := fun i h1 h2 => by rw [docOkI, range_all_false h1 h2, Bool.false_and]
  have fin : (∀ i, i < d.length → docAtI d i = true) → docOkI d = decide ((d.length : Int) ≤ 8) := fun h => by
    rw [docOkI, range_all_true h, Bool.true_and, Bool.eq_iff_iff]; simp; omega
  obtain ⟨hs1, hs2⟩ := hs
  unfold encB
  refine pureC_of k72 (by first | rfl | simp [VV.cloL, VV.clo, *]) (by first | rfl | simp [VV.cloL, VV.clo, *]) (by simp) ?_
  intro X hP hm hH hn hX
  refine vwp_ok _ ?_
  unfold vc72
  repeat' (first
    | simp only [go_sem, reduceCtorEq, reduceIte, Nat.reduceAdd, Nat.reduceEqDiff, Nat.reduceLeDiff, Nat.reduceMul, *]
    | refine gdO_bool' _ (fun _ => ?_) (fun _ => ?_)
    | refine gdO_bool _ (fun _ => ?_) (fun _ => ?_)
    | refine gdD_bool' _ (fun _ => ?_) (fun _ => ?_)
    | refine gdD_bool _ (fun _ => ?_) (fun _ => ?_)
    | refine cdO_bool' _ (fun _ => ?_) (fun _ => ?_)
    | refine cdO_bool _ (fun _ => ?_) (fun _ => ?_)
    | refine ⟨by decide, ?_⟩
    | refine ppost_t (by simp) rfl ?_)
  refine loopV hX (fun μ s H n => ∃ i : Nat, i ≤ d.length ∧ (∀ j, j < i → docAtI d j = true) ∧ μ = d.length - i ∧ s = slotsOf [(1, .pt 0 0), (7, .sl 6 (d.map Block.enc)), (8, .sc (.int .i64 d.length)), (9, .sc (.int .i64 i))] ∧ H = heapOf [(0, [.sl 6 (d.map Block.enc)])] ∧ n = 1) ?_
    ⟨d.length + 1, roundV_of hH hn [0] [(1, _), (7, _), (8, _), (9, _)] [(0, _)] _ ⟨0, by simp, by simp, rfl, rfl, rfl, rfl⟩ (by simp) (by simp) (by simp [hm]) ?_ ?_⟩
  rotate_left
  · repeat' (first | exact List.forall_mem_nil _ | refine List.forall_mem_cons.2 ⟨?_, ?_⟩ | exact .toPt (by simp only [go_sem, reduceCtorEq, reduceIte, Nat.reduceAdd, Nat.reduceEqDiff, Nat.reduceLeDiff, Nat.reduceMul, *] <;> rfl) (by simp [tau]) (by simp) | exact .toRf (by simp only [go_sem, reduceCtorEq, reduceIte, Nat.reduceAdd, Nat.reduceEqDiff, Nat.reduceLeDiff, Nat.reduceMul, *] <;> rfl) (by simp [tau]) (by simp) | exact .same (by simp only [go_sem, reduceCtorEq, reduceIte, Nat.reduceAdd, Nat.reduceEqDiff, Nat.reduceLeDiff, Nat.reduceMul, *] <;> rfl) (by first | rfl | simp [VV.cloL, VV.clo, *]))
  · repeat' (first | exact HConv.nil | refine HConv.same (by decide) (by first | rfl | (simp only [go_sem, reduceCtorEq, reduceIte, Nat.reduceAdd, Nat.reduceEqDiff, Nat.reduceLeDiff, Nat.reduceMul, *] <;> rfl)) (by first | rfl | simp [VV.cloL, VV.clo, *]) ?_)
  rintro μ s H n ⟨i, hi, hz, rfl, rfl, rfl, rfl⟩
  rcases Nat.lt_or_ge i d.length with hlt | hge
  · have g1 := lt_dec hlt
    have g2 : (0 : Int) ≤ (i : Int) := by omega
    have g3 : (i : Int) < (d.length : Int) := by omega
    have g5 : IntKind.i64.wrap ((i : Int) + 1) = ((i + 1 : Nat) : Int) := by rw [wrap_id] <;> omega
    have g4 : (d.map Block.enc).getD i [] = (d[i]).enc := getD_map hlt
    have bad := bad1 i hlt
    have good : docAtI d i = true → ∀ j, j < i + 1 → docAtI d j = true := lt_succ_of hz
    have e1 : d.getD i noBlock = d[i] := getD_eq hlt
    have hblk := c119 d[i] (hs2 _ (List.getElem_mem hlt))
    have e2 : docAtI d i = (blockOk tableOkI d[i] && !(decide (d[i].level > mostAt d i))) := by simp only [docAtI, e1]
    rw [e2] at bad good
    rcases Nat.eq_zero_or_pos i with h0 | hpos
    · have g6 : decide ((i : Int) > 0) = false := by simp; omega
      have em : mostAt d i = 0 := by simp [mostAt, h0]
      rw [em] at bad good
      generalize d[i] = b at *
      have eb : b.enc = [.sc (.int .i64 b.kind), .sc (.int .i64 b.level), .sl 3 (b.text.map Sign.enc), .sc (.int .i64 b.table.rows), .sc (.int .i64 b.table.cols), .sl 5 (b.table.cells.map Cell.enc)] := rfl
      rw [eb] at hblk
      clear e1 e2 fin bad1 h0 hs2 em
      repeat' (first
        | simp only [go_sem, reduceCtorEq, reduceIte, Nat.reduceAdd, Nat.reduceEqDiff, Nat.reduceLeDiff, Nat.reduceMul, *]
        | refine gdO_bool' _ (fun _ => ?_) (fun _ => ?_)
        | refine gdO_bool _ (fun _ => ?_) (fun _ => ?_)
        | refine gdD_bool' _ (fun _ => ?_) (fun _ => ?_)
        | refine gdD_bool _ (fun _ => ?_) (fun _ => ?_)
        | refine cdO_bool' _ (fun _ => ?_) (fun _ => ?_)
        | refine cdO_bool _ (fun _ => ?_) (fun _ => ?_)
        | refine callO.pure (by first | exact hblk) ?_
        | refine callW.pure (by first | exact hblk) ?_
        | refine ⟨by decide, ?_⟩
        | refine ppost_t (by simp) rfl ?_)
      all_goals first
        | (rw [bad (by simp only [*, Bool.true_and, Bool.false_and, Bool.and_true, Bool.and_false, Bool.true_or, Bool.false_or, Bool.or_true, Bool.or_false, Bool.not_true, Bool.not_false])]; done)
        | (refine roundV_of hH hn [0] [(1, _), (7, _), (8, _), (9, _)] [(0, _)] _ ⟨i + 1, hlt, good (by simp only [*, Bool.true_and, Bool.false_and, Bool.and_true, Bool.and_false, Bool.true_or, Bool.false_or, Bool.or_true, Bool.or_false, Bool.not_true, Bool.not_false]), rfl, rfl, rfl, rfl⟩ (by omega) (by simp) (by simp [hm]) ?_ ?_
           · repeat' (first | exact List.forall_mem_nil _ | refine List.forall_mem_cons.2 ⟨?_, ?_⟩ | exact .toPt (by simp only [go_sem, reduceCtorEq, reduceIte, Nat.reduceAdd, Nat.reduceEqDiff, Nat.reduceLeDiff, Nat.reduceMul, *] <;> rfl) (by simp [tau]) (by simp) | exact .toRf (by simp only [go_sem, reduceCtorEq, reduceIte, Nat.reduceAdd, Nat.reduceEqDiff, Nat.reduceLeDiff, Nat.reduceMul, *] <;> rfl) (by simp [tau]) (by simp) | exact .same (by simp only [go_sem, reduceCtorEq, reduceIte, Nat.reduceAdd, Nat.reduceEqDiff, Nat.reduceLeDiff, Nat.reduceMul, *] <;> rfl) (by first | rfl | simp [VV.cloL, VV.clo, *]))
           · repeat' (first | exact HConv.nil | refine HConv.same (by decide) (by first | rfl | (simp only [go_sem, reduceCtorEq, reduceIte, Nat.reduceAdd, Nat.reduceEqDiff, Nat.reduceLeDiff, Nat.reduceMul, *] <;> rfl)) (by first | rfl | simp [VV.cloL, VV.clo, *]) ?_)
           done)
    · have g6 : decide ((i : Int) > 0) = true := by simp; omega
      have hlt' : i - 1 < d.length := by omega
      have g7 : IntKind.i64.wrap ((i : Int) - 1) = ((i - 1 : Nat) : Int) := by rw [wrap_id] <;> omega
      have g8 : (0 : Int) ≤ ((i - 1 : Nat) : Int) := by omega
      have g9 : ((i - 1 : Nat) : Int) < (d.length : Int) := by omega
      have g10 : (d.map Block.enc).getD (i - 1) [] = (d[i - 1]).enc := getD_map hlt'
      have hne : (i == 0) = false := by simp; omega
      have e3 : d.getD (i - 1) noBlock = d[i - 1] := getD_eq hlt'
      have em : mostAt d i = if (d[i - 1].kind == 2) = true then IntKind.i64.wrap (d[i - 1].level + 1) else 0 := by simp only [mostAt, hne, e3, Bool.false_eq_true, if_false]
      rw [em] at bad good
      generalize d[i] = b at *
      generalize d[i - 1] = p at *
      have eb : b.enc = [.sc (.int .i64 b.kind), .sc (.int .i64 b.level), .sl 3 (b.text.map Sign.enc), .sc (.int .i64 b.table.rows), .sc (.int .i64 b.table.cols), .sl 5 (b.table.cells.map Cell.enc)] := rfl
      have ep : p.enc = [.sc (.int .i64 p.kind), .sc (.int .i64 p.level), .sl 3 (p.text.map Sign.enc), .sc (.int .i64 p.table.rows), .sc (.int .i64 p.table.cols), .sl 5 (p.table.cells.map Cell.enc)] := rfl
      rw [eb] at hblk
      clear e1 e2 e3 fin bad1 hne hs2 em
      repeat' (first
        | simp only [go_sem, reduceCtorEq, reduceIte, Nat.reduceAdd, Nat.reduceEqDiff, Nat.reduceLeDiff, Nat.reduceMul, *]
        | refine gdO_bool' _ (fun _ => ?_) (fun _ => ?_)
        | refine gdO_bool _ (fun _ => ?_) (fun _ => ?_)
        | refine gdD_bool' _ (fun _ => ?_) (fun _ => ?_)
        | refine gdD_bool _ (fun _ => ?_) (fun _ => ?_)
        | refine cdO_bool' _ (fun _ => ?_) (fun _ => ?_)
        | refine cdO_bool _ (fun _ => ?_) (fun _ => ?_)
        | refine callO.pure (by first | exact hblk) ?_
        | refine callW.pure (by first | exact hblk) ?_
        | refine ⟨by decide, ?_⟩
        | refine ppost_t (by simp) rfl ?_)
      all_goals first
        | (rw [bad (by simp only [*, Bool.true_and, Bool.false_and, Bool.and_true, Bool.and_false, Bool.true_or, Bool.false_or, Bool.or_true, Bool.or_false, Bool.not_true, Bool.not_false, if_true, if_false, Bool.false_eq_true])]; done)
        | (refine roundV_of hH hn [0] [(1, _), (7, _), (8, _), (9, _)] [(0, _)] _ ⟨i + 1, hlt, good (by simp only [*, Bool.true_and, Bool.false_and, Bool.and_true, Bool.and_false, Bool.true_or, Bool.false_or, Bool.or_true, Bool.or_false, Bool.not_true, Bool.not_false, if_true, if_false, Bool.false_eq_true]), rfl, rfl, rfl, rfl⟩ (by omega) (by simp) (by simp [hm]) ?_ ?_
           · repeat' (first | exact List.forall_mem_nil _ | refine List.forall_mem_cons.2 ⟨?_, ?_⟩ | exact .toPt (by simp only [go_sem, reduceCtorEq, reduceIte, Nat.reduceAdd, Nat.reduceEqDiff, Nat.reduceLeDiff, Nat.reduceMul, *] <;> rfl) (by simp [tau]) (by simp) | exact .toRf (by simp only [go_sem, reduceCtorEq, reduceIte, Nat.reduceAdd, Nat.reduceEqDiff, Nat.reduceLeDiff, Nat.reduceMul, *] <;> rfl) (by simp [tau]) (by simp) | exact .same (by simp only [go_sem, reduceCtorEq, reduceIte, Nat.reduceAdd, Nat.reduceEqDiff, Nat.reduceLeDiff, Nat.reduceMul, *] <;> rfl) (by first | rfl | simp [VV.cloL, VV.clo, *]))
           · repeat' (first | exact HConv.nil | refine HConv.same (by decide) (by first | rfl | (simp only [go_sem, reduceCtorEq, reduceIte, Nat.reduceAdd, Nat.reduceEqDiff, Nat.reduceLeDiff, Nat.reduceMul, *] <;> rfl)) (by first | rfl | simp [VV.cloL, VV.clo, *]) ?_)
           done)
  · have g1 := ge_dec hge
    have hf := fin fun j hj => hz j (by omega)
    clear fin bad1 hz
    repeat' (first
      | simp only [go_sem, reduceCtorEq, reduceIte, Nat.reduceAdd, Nat.reduceEqDiff, Nat.reduceLeDiff, Nat.reduceMul, *]
      | refine gdO_bool' _ (fun _ => ?_) (fun _ => ?_)
      | refine gdO_bool _ (fun _ => ?_) (fun _ => ?_)
      | refine gdD_bool' _ (fun _ => ?_) (fun _ => ?_)
      | refine gdD_bool _ (fun _ => ?_) (fun _ => ?_)
      | refine cdO_bool' _ (fun _ => ?_) (fun _ => ?_)
      | refine cdO_bool _ (fun _ => ?_) (fun _ => ?_)
      | refine ⟨by decide, ?_⟩
      | refine ppost_t (by simp) rfl ?_)
end Go.Proofs.Ytdmmhainianadaa

/- F9: places. -/
namespace Go.Proofs.Ytdmmhainianadaa
open Go.VM Go.Lim Go.Proofs.Try
attribute [local irreducible] vwp vops vstep vdr vdr1 CallP PPost SWv gdO gdD cdO optV optW optD thenV blockV behind callO callW callvO roundV
set_option linter.unusedSimpArgs false
set_option linter.unusedVariables false
/- loop.example/limner/spec.l11Cell -/
def vc94 : VCode :=
(.seq (.reg [⟨(some 2), (.box (.tmp 0)), none⟩, ⟨(some 4), (.mov (.const (.bool false))), none⟩])
(.seq (.seq (.reg [⟨(some 5), (.fad 0 (.tmp 2)), none⟩, ⟨(some 6), (.load false 1 (.tmp 5)), none⟩, ⟨(some 7), (.bin .eql .no (.tmp 6) (.const (.int .i64 3))), none⟩])
(.cond (.tmp 7) (.seq (.reg [⟨(some 8), (.mov (.tmp 1)), none⟩, ⟨(some 9), (.fad 3 (.tmp 2)), none⟩, ⟨(some 10), (.fad 2 (.tmp 9)), none⟩, ⟨(some 11), (.load false 1 (.tmp 10)), none⟩, ⟨(some 12), (.len false (.tmp 11)), none⟩, ⟨(some 13), (.bin .sub .no (.tmp 12) (.const (.int .i64 1))), none⟩, ⟨(some 14), (.call 93 [(.tmp 8), (.const (.int .i64 0)), (.tmp 13)]), none⟩, ⟨(some 4), (.mov (.tmp 14)), none⟩])
 .ret)
 .skip))
(.seq (.reg [⟨(some 15), (.mov (.tmp 1)), none⟩, ⟨(some 16), (.bin .eql .no (.tmp 15) (.const (.int .i64 0))), none⟩, ⟨(some 4), (.mov (.tmp 16)), none⟩])
.ret)))
theorem k94 : compFn prog 94 = some (17, vc94, [.t 4]) := by kernel_rfl
/- loop.example/limner/spec.l11Text -/
def vc95 : VCode :=
(.seq (.reg [⟨(some 2), (.box (.tmp 0)), none⟩, ⟨(some 4), (.mov (.const (.slice none 0 0))), none⟩])
(.seq (.seq (.reg [⟨(some 5), (.fad 0 (.tmp 2)), none⟩, ⟨(some 6), (.load false 1 (.tmp 5)), none⟩, ⟨(some 7), (.bin .eql .no (.tmp 6) (.const (.int .i64 3))), none⟩])
(.cond (.tmp 7) (.seq (.reg [⟨(some 8), (.fad 3 (.tmp 2)), none⟩, ⟨(some 9), (.fad 2 (.tmp 8)), none⟩, ⟨(some 10), (.load false 1 (.tmp 9)), none⟩, ⟨(some 11), (.mov (.tmp 1)), none⟩, ⟨(some 12), (.iad 5 (.tmp 10) (.tmp 11)), none⟩, ⟨(some 13), (.fad 4 (.tmp 12)), none⟩, ⟨(some 14), (.load false 1 (.tmp 13)), none⟩, ⟨(some 4), (.mov (.tmp 14)), none⟩])
 .ret)
 .skip))
(.seq (.reg [⟨(some 15), (.fad 2 (.tmp 2)), none⟩, ⟨(some 16), (.load false 1 (.tmp 15)), none⟩, ⟨(some 4), (.mov (.tmp 16)), none⟩])
.ret)))
theorem k95 : compFn prog 95 = some (17, vc95, [.t 4]) := by kernel_rfl
/- loop.example/limner/spec.PlaceOk -/
def vc41 : VCode :=
(.seq (.reg [⟨(some 2), (.box (.tmp 0)), none⟩, ⟨(some 3), (.box (.tmp 1)), none⟩, ⟨(some 4), (.mov (.const (.bool false))), none⟩])
(.seq (.drw [(⟨(some 5), (.load true 1 (.tmp 2)), none⟩, []), (⟨(some 6), (.call 71 [(.tmp 5)]), none⟩, []), (⟨(some 7), (.mov (.tmp 6)), none⟩, []), (⟨(some 8), (.fad 0 (.tmp 3)), (some (7, true))⟩, []), (⟨(some 9), (.load false 1 (.tmp 8)), (some (7, true))⟩, []), (⟨(some 10), (.fad 0 (.tmp 2)), (some (7, true))⟩, []), (⟨(some 11), (.load false 1 (.tmp 10)), (some (7, true))⟩, [4]), (⟨(some 12), (.len false (.tmp 11)), (some (7, true))⟩, []), (⟨(some 13), (.bin .sub .no (.tmp 12) (.const (.int .i64 1))), (some (7, true))⟩, []), (⟨(some 14), (.call 93 [(.tmp 9), (.const (.int .i64 0)), (.tmp 13)]), (some (7, true))⟩, []), (⟨(some 15), (.pick (.tmp 7) (.tmp 14) (.const (.bool false))), none⟩, []), (⟨(some 16), (.mov (.tmp 15)), none⟩, []), (⟨(some 17), (.fad 0 (.tmp 2)), (some (16, true))⟩, []), (⟨(some 18), (.load false 1 (.tmp 17)), (some (16, true))⟩, []), (⟨(some 19), (.fad 0 (.tmp 3)), (some (16, true))⟩, []), (⟨(some 20), (.load false 1 (.tmp 19)), (some (16, true))⟩, [13]), (⟨(some 21), (.iad 6 (.tmp 18) (.tmp 20)), (some (16, true))⟩, []), (⟨(some 22), (.load true 6 (.tmp 21)), (some (16, true))⟩, []), (⟨(some 23), (.fad 1 (.tmp 3)), (some (16, true))⟩, []), (⟨(some 24), (.load false 1 (.tmp 23)), (some (16, true))⟩, [13, 15, 17]), (⟨(some 25), (.call 94 [(.tmp 22), (.tmp 24)]), (some (16, true))⟩, []), (⟨(some 26), (.pick (.tmp 16) (.tmp 25) (.const (.bool false))), none⟩, []), (⟨(some 27), (.mov (.tmp 26)), none⟩, []), (⟨(some 28), (.fad 2 (.tmp 3)), (some (27, true))⟩, []), (⟨(some 29), (.load false 1 (.tmp 28)), (some (27, true))⟩, []), (⟨(some 30), (.fad 0 (.tmp 2)), (some (27, true))⟩, []), (⟨(some 31), (.load false 1 (.tmp 30)), (some (27, true))⟩, [24]), (⟨(some 32), (.fad 0 (.tmp 3)), (some (27, true))⟩, []), (⟨(some 33), (.load false 1 (.tmp 32)), (some (27, true))⟩, [24, 26]), (⟨(some 34), (.iad 6 (.tmp 31) (.tmp 33)), (some (27, true))⟩, []), (⟨(some 35), (.load true 6 (.tmp 34)), (some (27, true))⟩, [24]), (⟨(some 36), (.fad 1 (.tmp 3)), (some (27, true))⟩, []), (⟨(some 37), (.load false 1 (.tmp 36)), (some (27, true))⟩, [24, 26, 28, 30]), (⟨(some 38), (.call 95 [(.tmp 35), (.tmp 37)]), (some (27, true))⟩, [24]), (⟨(some 39), (.len false (.tmp 38)), (some (27, true))⟩, []), (⟨(some 40), (.call 93 [(.tmp 29), (.const (.int .i64 0)), (.tmp 39)]), (some (27, true))⟩, []), (⟨(some 41), (.pick (.tmp 27) (.tmp 40) (.const (.bool false))), none⟩, []), (⟨(some 4), (.mov (.tmp 41)), none⟩, [])])
.ret))
theorem k41 : compFn prog 41 = some (42, vc41, [.t 4]) := by kernel_rfl
theorem c94 (b : Block) (cell : Int) : PureC prog 94 [.agg b.enc, .sc (.int .i64 cell)] (.sc (.bool (cellIn b cell))) := by
  unfold Block.enc encT encC
  refine pureC_of k94 (by first | rfl | simp [VV.cloL, VV.clo, *]) (by first | rfl | simp [VV.cloL, VV.clo, *]) (by simp) ?_
  intro X hP hm hH hn hX
  refine vwp_ok _ ?_
  unfold vc94
  repeat' (first
    | simp only [go_sem, reduceCtorEq, reduceIte, Nat.reduceAdd, Nat.reduceEqDiff, Nat.reduceLeDiff, Nat.reduceMul, *]
    | refine gdO_bool' _ (fun _ => ?_) (fun _ => ?_)
    | refine gdO_bool _ (fun _ => ?_) (fun _ => ?_)
    | refine gdD_bool' _ (fun _ => ?_) (fun _ => ?_)
    | refine gdD_bool _ (fun _ => ?_) (fun _ => ?_)
    | refine cdO_bool' _ (fun _ => ?_) (fun _ => ?_)
    | refine cdO_bool _ (fun _ => ?_) (fun _ => ?_)
    | refine callO.pure (by first | exact c93 _ _ _) ?_
    | refine callW.pure (by first | exact c93 _ _ _) ?_
    | refine ⟨by decide, ?_⟩
    | refine ppost_t (by simp) rfl ?_)
  all_goals simp only [cellIn, *, if_true, if_false, Bool.false_eq_true]
theorem c95 (b : Block) (cell : Int) (hs : (b.kind == 3) = true → 0 ≤ cell ∧ cell < b.table.cells.length) : PureC prog 95 [.agg b.enc, .sc (.int .i64 cell)] (encT (textAtB b cell)) := by
  cases hk : b.kind == 3 with
  | false =>
    have e : textAtB b cell = b.text := by simp only [textAtB, hk, Bool.false_eq_true, if_false]
    rw [e]
    unfold Block.enc encT encC
    clear hs
    refine pureC_of k95 (by first | rfl | simp [VV.cloL, VV.clo, *]) (by first | rfl | simp [VV.cloL, VV.clo, *]) (by simp) ?_
    intro X hP hm hH hn hX
    refine vwp_ok _ ?_
    unfold vc95
    repeat' (first
      | simp only [go_sem, reduceCtorEq, reduceIte, Nat.reduceAdd, Nat.reduceEqDiff, Nat.reduceLeDiff, Nat.reduceMul, *]
      | refine gdO_bool' _ (fun _ => ?_) (fun _ => ?_)
      | refine gdO_bool _ (fun _ => ?_) (fun _ => ?_)
      | refine gdD_bool' _ (fun _ => ?_) (fun _ => ?_)
      | refine gdD_bool _ (fun _ => ?_) (fun _ => ?_)
      | refine cdO_bool' _ (fun _ => ?_) (fun _ => ?_)
      | refine cdO_bool _ (fun _ => ?_) (fun _ => ?_)
      | refine ⟨by decide, ?_⟩
      | refine ppost_t (by simp) rfl ?_)
  | true =>
    obtain ⟨h0, h1⟩ := hs hk
    have hlt : cell.toNat < b.table.cells.length := by omega
    have e : textAtB b cell = (b.table.cells[cell.toNat]).text := by simp only [textAtB, hk, if_true, getD_eq hlt]
    have g4 : (b.table.cells.map Cell.enc).getD cell.toNat [] = (b.table.cells[cell.toNat]).enc := getD_map hlt
    rw [e]
    generalize b.table.cells[cell.toNat] = c at *
    have ec : c.enc = [.sc (.int .i64 c.row), .sc (.int .i64 c.col), .sc (.int .i64 c.down), .sc (.int .i64 c.right), .sl 3 (c.text.map Sign.enc)] := rfl
    unfold Block.enc encT encC
    clear hs e
    refine pureC_of k95 (by first | rfl | simp [VV.cloL, VV.clo, *]) (by first | rfl | simp [VV.cloL, VV.clo, *]) (by simp) ?_
    intro X hP hm hH hn hX
    refine vwp_ok _ ?_
    unfold vc95
    repeat' (first
      | simp only [go_sem, reduceCtorEq, reduceIte, Nat.reduceAdd, Nat.reduceEqDiff, Nat.reduceLeDiff, Nat.reduceMul, *]
      | refine gdO_bool' _ (fun _ => ?_) (fun _ => ?_)
      | refine gdO_bool _ (fun _ => ?_) (fun _ => ?_)
      | refine gdD_bool' _ (fun _ => ?_) (fun _ => ?_)
      | refine gdD_bool _ (fun _ => ?_) (fun _ => ?_)
      | refine cdO_bool' _ (fun _ => ?_) (fun _ => ?_)
      | refine cdO_bool _ (fun _ => ?_) (fun _ => ?_)
      | refine ⟨by decide, ?_⟩
      | refine ppost_t (by simp) rfl ?_)
theorem docOk_len {d : Doc} (h : docOk d = true) : d.length ≤ 8 := by
  simp only [docOk, Bool.and_eq_true, decide_eq_true_eq] at h
  exact h.1
theorem docOk_blk {d : Doc} {i : Nat} (h : docOk d = true) (hi : i < d.length) : blockOk tableOk d[i] = true := by
  simp only [docOk, Bool.and_eq_true, List.all_eq_true, List.mem_range] at h
  have := h.2 i hi
  simp only [docAt, getD_eq hi, Bool.and_eq_true] at this
  exact this.1
theorem blk_cells {b : Block} (h : blockOk tableOk b = true) (hk : (b.kind == 3) = true) : b.table.cells.length ≤ 25 := by
  have e1 : (b.kind == 1) = false := by simp at hk ⊢; omega
  have e2 : (b.kind == 2) = false := by simp at hk ⊢; omega
  simp only [blockOk, e1, e2, hk, Bool.false_eq_true, if_false, if_true, Bool.and_eq_true, tableOk, form, decide_eq_true_eq] at h
  exact h.2.1.1.2
theorem c41 (d : Doc) (p : Spot) : PureC prog 41 [.agg [encB d], .agg p.enc] (.sc (.bool (placeOk docOk d p))) := by
  have h71 := c71 d
  cases h1 : docOk d with
  | false =>
    have e : placeOk docOk d p = false := by simp only [placeOk, h1, Bool.false_and]
    rw [h1] at h71
    unfold encB at h71 ⊢
    unfold Spot.enc
    refine pureC_of k41 (by first | rfl | simp [VV.cloL, VV.clo, *]) (by first | rfl | simp [VV.cloL, VV.clo, *]) (by simp) ?_
    intro X hP hm hH hn hX
    refine vwp_ok _ ?_
    unfold vc41
    repeat' (first
      | simp only [go_sem, reduceCtorEq, reduceIte, Nat.reduceAdd, Nat.reduceEqDiff, Nat.reduceLeDiff, Nat.reduceMul, *]
      | refine gdO_bool' _ (fun _ => ?_) (fun _ => ?_)
      | refine gdO_bool _ (fun _ => ?_) (fun _ => ?_)
      | refine gdD_bool' _ (fun _ => ?_) (fun _ => ?_)
      | refine gdD_bool _ (fun _ => ?_) (fun _ => ?_)
      | refine cdO_bool' _ (fun _ => ?_) (fun _ => ?_)
      | refine cdO_bool _ (fun _ => ?_) (fun _ => ?_)
      | refine callO.pure (by first | exact h71) ?_
      | refine callW.pure (by first | exact h71) ?_
      | refine ⟨by decide, ?_⟩
      | refine ppost_t (by simp) rfl ?_)
  | true =>
    rw [h1] at h71
    have hl := docOk_len h1
    cases h2 : within p.block 0 (IntKind.i64.wrap ((d.length : Int) - 1)) with
    | false =>
      have e : placeOk docOk d p = false := by simp only [placeOk, h2, Bool.false_and, Bool.and_false]
      unfold encB at h71 ⊢
      unfold Spot.enc
      clear h1
      refine pureC_of k41 (by first | rfl | simp [VV.cloL, VV.clo, *]) (by first | rfl | simp [VV.cloL, VV.clo, *]) (by simp) ?_
      intro X hP hm hH hn hX
      refine vwp_ok _ ?_
      unfold vc41
      repeat' (first
        | simp only [go_sem, reduceCtorEq, reduceIte, Nat.reduceAdd, Nat.reduceEqDiff, Nat.reduceLeDiff, Nat.reduceMul, *]
        | refine gdO_bool' _ (fun _ => ?_) (fun _ => ?_)
        | refine gdO_bool _ (fun _ => ?_) (fun _ => ?_)
        | refine gdD_bool' _ (fun _ => ?_) (fun _ => ?_)
        | refine gdD_bool _ (fun _ => ?_) (fun _ => ?_)
        | refine cdO_bool' _ (fun _ => ?_) (fun _ => ?_)
        | refine cdO_bool _ (fun _ => ?_) (fun _ => ?_)
        | refine callO.pure (by first | exact h71 | exact c93 _ _ _) ?_
        | refine callW.pure (by first | exact h71 | exact c93 _ _ _) ?_
        | refine ⟨by decide, ?_⟩
        | refine ppost_t (by simp) rfl ?_)
    | true =>
      obtain ⟨i, hi, hlt⟩ := within_idx (by omega) h2
      have ebk : blkAt d p = d[i] := by rw [blkAt, hi, Int.toNat_natCast, getD_eq hlt]
      have hok := docOk_blk h1 hlt
      have g2 : (0 : Int) ≤ (i : Int) := by omega
      have g3 : (i : Int) < (d.length : Int) := by omega
      have g4 : (d.map Block.enc).getD i [] = (d[i]).enc := getD_map hlt
      have e : placeOk docOk d p = (cellIn d[i] p.cell && within p.pos 0 ((textAtB d[i] p.cell).length : Int)) := by simp only [placeOk, h1, h2, ebk, Bool.true_and]
      rw [e]
      have h94 := c94 d[i] p.cell
      have h95 := c95 d[i] p.cell
      have hcells := blk_cells hok
      rw [hi] at h2
      generalize d[i] = b at *
      have eb : b.enc = [.sc (.int .i64 b.kind), .sc (.int .i64 b.level), .sl 3 (b.text.map Sign.enc), .sc (.int .i64 b.table.rows), .sc (.int .i64 b.table.cols), .sl 5 (b.table.cells.map Cell.enc)] := rfl
      rw [eb] at h94 h95
      cases h3 : cellIn b p.cell with
      | false =>
        rw [h3] at h94
        unfold encB at h71 ⊢
        unfold Spot.enc
        clear h1 e ebk hok h95 hcells
        refine pureC_of k41 (by first | rfl | simp [VV.cloL, VV.clo, *]) (by first | rfl | simp [VV.cloL, VV.clo, *]) (by simp) ?_
        intro X hP hm hH hn hX
        refine vwp_ok _ ?_
        unfold vc41
        repeat' (first
          | simp only [go_sem, reduceCtorEq, reduceIte, Nat.reduceAdd, Nat.reduceEqDiff, Nat.reduceLeDiff, Nat.reduceMul, *]
          | refine gdO_bool' _ (fun _ => ?_) (fun _ => ?_)
          | refine gdO_bool _ (fun _ => ?_) (fun _ => ?_)
          | refine gdD_bool' _ (fun _ => ?_) (fun _ => ?_)
          | refine gdD_bool _ (fun _ => ?_) (fun _ => ?_)
          | refine cdO_bool' _ (fun _ => ?_) (fun _ => ?_)
          | refine cdO_bool _ (fun _ => ?_) (fun _ => ?_)
          | refine callO.pure (by first | exact h71 | exact c93 _ _ _ | exact h94) ?_
          | refine callW.pure (by first | exact h71 | exact c93 _ _ _ | exact h94) ?_
          | refine ⟨by decide, ?_⟩
          | refine ppost_t (by simp) rfl ?_)
      | true =>
        rw [h3] at h94
        have h95' := h95 fun hk => by
          have h3' := h3
          simp only [cellIn, hk, if_true] at h3'
          obtain ⟨j, hj, hjl⟩ := within_idx (by have := hcells hk; omega) h3'
          omega
        clear h95
        unfold encB at h71 ⊢
        unfold Spot.enc
        unfold encT at h95'
        generalize textAtB b p.cell = tx at *
        clear h1 e ebk hok hcells
        refine pureC_of k41 (by first | rfl | simp [VV.cloL, VV.clo, *]) (by first | rfl | simp [VV.cloL, VV.clo, *]) (by simp) ?_
        intro X hP hm hH hn hX
        refine vwp_ok _ ?_
        unfold vc41
        repeat' (first
          | simp only [go_sem, reduceCtorEq, reduceIte, Nat.reduceAdd, Nat.reduceEqDiff, Nat.reduceLeDiff, Nat.reduceMul, *]
          | refine gdO_bool' _ (fun _ => ?_) (fun _ => ?_)
          | refine gdO_bool _ (fun _ => ?_) (fun _ => ?_)
          | refine gdD_bool' _ (fun _ => ?_) (fun _ => ?_)
          | refine gdD_bool _ (fun _ => ?_) (fun _ => ?_)
          | refine cdO_bool' _ (fun _ => ?_) (fun _ => ?_)
          | refine cdO_bool _ (fun _ => ?_) (fun _ => ?_)
          | refine callO.pure (by first | exact h71 | exact c93 _ _ _ | exact h94 | exact h95') ?_
          | refine callW.pure (by first | exact h71 | exact c93 _ _ _ | exact h94 | exact h95') ?_
          | refine ⟨by decide, ?_⟩
          | refine ppost_t (by simp) rfl ?_)
end Go.Proofs.Ytdmmhainianadaa

/- F10: what a text says, as the reference tells it. -/
namespace Go.Proofs.Ytdmmhainianadaa
open Go.VM Go.Lim Go.Proofs.Try
attribute [local irreducible] vwp vops vstep vdr vdr1 CallP PPost SWv gdO gdD cdO optV optW optD thenV blockV behind callO callW callvO roundV
set_option linter.unusedSimpArgs false
set_option linter.unusedVariables false
/- loop.example/limner/spec.TextWas -/
def vc90 : VCode :=
(.seq (.reg [⟨(some 2), (.mov (.const (.string ⟨#[]⟩))), none⟩])
(.seq (.reg [⟨(some 5), (.bslice 1 0 [(.int .u8 0)] []), none⟩, ⟨(some 3), (.mov (.tmp 5)), none⟩])
(.seq (.seq (.reg [⟨(some 4), (.mov (.const (.int .i64 0))), none⟩])
(.block 0 (.loop (.seq (.seq (.reg [⟨(some 6), (.mov (.tmp 4)), none⟩, ⟨(some 7), (.mov (.tmp 0)), none⟩, ⟨(some 8), (.len false (.tmp 7)), none⟩, ⟨(some 9), (.bin .lss .no (.tmp 6) (.tmp 8)), none⟩, ⟨(some 10), (.mov (.tmp 9)), none⟩, ⟨(some 11), (.mov (.tmp 0)), (some (10, true))⟩, ⟨(some 12), (.call 130 [(.tmp 11)]), (some (10, true))⟩, ⟨(some 13), (.pick (.tmp 10) (.tmp 12) (.const (.bool false))), none⟩])
  (.cond (.tmp 13) .skip
   (.exit 0)))
  (.seq (.block 1 (.seq (.reg [⟨(some 16), (.mov (.tmp 0)), none⟩, ⟨(some 17), (.mov (.tmp 4)), none⟩, ⟨(some 18), (.iad 3 (.tmp 16) (.tmp 17)), none⟩, ⟨(some 19), (.fad 1 (.tmp 18)), none⟩, ⟨(some 20), (.load false 1 (.tmp 19)), none⟩, ⟨(some 21), (.bin .eql .no (.tmp 20) (.const (.int .i64 0))), none⟩])
   (.cond (.tmp 21) (.reg [⟨(some 22), (.mov (.tmp 3)), none⟩, ⟨(some 23), (.mov (.tmp 0)), none⟩, ⟨(some 24), (.mov (.tmp 4)), none⟩, ⟨(some 25), (.iad 3 (.tmp 23) (.tmp 24)), none⟩, ⟨(some 26), (.fad 0 (.tmp 25)), none⟩, ⟨(some 27), (.load false 1 (.tmp 26)), none⟩, ⟨(some 28), (.bslice 1 1 [(.int .u8 0)] [(0, 1, (.tmp 27))]), none⟩, ⟨(some 29), (.app 1 1 (.tmp 22) (.tmp 28)), none⟩, ⟨(some 3), (.mov (.tmp 29)), none⟩])
    .skip)))
  (.reg [⟨(some 14), (.mov (.tmp 4)), none⟩, ⟨(some 15), (.bin .add .no (.tmp 14) (.const (.int .i64 1))), none⟩, ⟨(some 4), (.mov (.tmp 15)), none⟩]))))))
(.seq (.reg [⟨(some 30), (.mov (.tmp 3)), none⟩, ⟨(some 31), (.cstr (.tmp 30)), none⟩, ⟨(some 2), (.mov (.tmp 31)), none⟩])
.ret))))
theorem k90 : compFn prog 90 = some (32, vc90, [.t 2]) := by kernel_rfl
/- loop.example/limner/spec.TextNow -/
def vc85 : VCode :=
(.seq (.reg [⟨(some 2), (.mov (.const (.string ⟨#[]⟩))), none⟩])
(.seq (.reg [⟨(some 5), (.bslice 1 0 [(.int .u8 0)] []), none⟩, ⟨(some 3), (.mov (.tmp 5)), none⟩])
(.seq (.seq (.reg [⟨(some 4), (.mov (.const (.int .i64 0))), none⟩])
(.block 0 (.loop (.seq (.seq (.reg [⟨(some 6), (.mov (.tmp 4)), none⟩, ⟨(some 7), (.mov (.tmp 0)), none⟩, ⟨(some 8), (.len false (.tmp 7)), none⟩, ⟨(some 9), (.bin .lss .no (.tmp 6) (.tmp 8)), none⟩, ⟨(some 10), (.mov (.tmp 9)), none⟩, ⟨(some 11), (.mov (.tmp 0)), (some (10, true))⟩, ⟨(some 12), (.call 130 [(.tmp 11)]), (some (10, true))⟩, ⟨(some 13), (.pick (.tmp 10) (.tmp 12) (.const (.bool false))), none⟩])
  (.cond (.tmp 13) .skip
   (.exit 0)))
  (.seq (.block 1 (.seq (.reg [⟨(some 16), (.mov (.tmp 0)), none⟩, ⟨(some 17), (.mov (.tmp 4)), none⟩, ⟨(some 18), (.iad 3 (.tmp 16) (.tmp 17)), none⟩, ⟨(some 19), (.fad 2 (.tmp 18)), none⟩, ⟨(some 20), (.load false 1 (.tmp 19)), none⟩, ⟨(some 21), (.bin .eql .no (.tmp 20) (.const (.int .i64 0))), none⟩])
   (.cond (.tmp 21) (.reg [⟨(some 22), (.mov (.tmp 3)), none⟩, ⟨(some 23), (.mov (.tmp 0)), none⟩, ⟨(some 24), (.mov (.tmp 4)), none⟩, ⟨(some 25), (.iad 3 (.tmp 23) (.tmp 24)), none⟩, ⟨(some 26), (.fad 0 (.tmp 25)), none⟩, ⟨(some 27), (.load false 1 (.tmp 26)), none⟩, ⟨(some 28), (.bslice 1 1 [(.int .u8 0)] [(0, 1, (.tmp 27))]), none⟩, ⟨(some 29), (.app 1 1 (.tmp 22) (.tmp 28)), none⟩, ⟨(some 3), (.mov (.tmp 29)), none⟩])
    .skip)))
  (.reg [⟨(some 14), (.mov (.tmp 4)), none⟩, ⟨(some 15), (.bin .add .no (.tmp 14) (.const (.int .i64 1))), none⟩, ⟨(some 4), (.mov (.tmp 15)), none⟩]))))))
(.seq (.reg [⟨(some 30), (.mov (.tmp 3)), none⟩, ⟨(some 31), (.cstr (.tmp 30)), none⟩, ⟨(some 2), (.mov (.tmp 31)), none⟩])
.ret))))
theorem k85 : compFn prog 85 = some (32, vc85, [.t 2]) := by kernel_rfl
theorem c90 (l : Text) : PureC prog 90 [encT l] (strV (textBy wasB l)) := by
  have hx := c130 l
  have hca : ∀ xs ys, VV.cloL (xs ++ ys) = (VV.cloL xs && VV.cloL ys) := cloL_append
  have hcb : ∀ a : List Int, VV.cloL (a.map fun b => VV.sc (.int .u8 b)) = true := clo_bytes
  unfold encT strV at *
  cases hok : textOk l with
  | false =>
    rw [hok] at hx
    have e : textBy wasB l = [] := by simp [textBy, hok]
    rw [e]
    refine pureC_of k90 (by first | rfl | simp [VV.cloL, VV.clo, *]) (by first | rfl | simp [VV.cloL, VV.clo, *]) (by simp) ?_
    intro X hP hm hH hn hX
    refine vwp_ok _ ?_
    unfold vc90
    repeat' (first
      | simp only [go_sem, reduceCtorEq, reduceIte, Nat.reduceAdd, Nat.reduceEqDiff, Nat.reduceLeDiff, Nat.reduceMul, *]
      | refine gdO_bool' _ (fun _ => ?_) (fun _ => ?_)
      | refine gdO_bool _ (fun _ => ?_) (fun _ => ?_)
      | refine gdD_bool' _ (fun _ => ?_) (fun _ => ?_)
      | refine gdD_bool _ (fun _ => ?_) (fun _ => ?_)
      | refine cdO_bool' _ (fun _ => ?_) (fun _ => ?_)
      | refine cdO_bool _ (fun _ => ?_) (fun _ => ?_)
      | refine ⟨by decide, ?_⟩
      | refine ppost_t (by simp) rfl ?_)
    refine loopV hX (fun μ s H n => μ = 0 ∧ s = slotsOf [(0, .sl 3 (l.map Sign.enc)), (3, .rf 0 0 0 1), (4, .sc (.int .i64 0))] ∧ H = heapOf [(0, [])] ∧ n = 1) ?_
      ⟨1, roundV_of hH hn [1] [(0, _), (3, _), (4, _)] [(0, _)] 0 ⟨rfl, rfl, rfl, rfl⟩ (by simp) (by simp) (by simp [hm]) ?_ ?_⟩
    rotate_left
    · repeat' (first | exact List.forall_mem_nil _ | refine List.forall_mem_cons.2 ⟨?_, ?_⟩ | exact .toPt (by simp only [go_sem, reduceCtorEq, reduceIte, Nat.reduceAdd, Nat.reduceEqDiff, Nat.reduceLeDiff, Nat.reduceMul, *] <;> rfl) (by simp [tau]) (by simp) | exact .toRf (by simp only [go_sem, reduceCtorEq, reduceIte, Nat.reduceAdd, Nat.reduceEqDiff, Nat.reduceLeDiff, Nat.reduceMul, *] <;> rfl) (by simp [tau]) (by simp) | exact .same (by simp only [go_sem, reduceCtorEq, reduceIte, Nat.reduceAdd, Nat.reduceEqDiff, Nat.reduceLeDiff, Nat.reduceMul, *] <;> rfl) (by first | rfl | simp [VV.cloL, VV.clo, *]))
    · repeat' (first | exact HConv.nil | refine HConv.same (by decide) (by first | rfl | (simp only [go_sem, reduceCtorEq, reduceIte, Nat.reduceAdd, Nat.reduceEqDiff, Nat.reduceLeDiff, Nat.reduceMul, *] <;> rfl)) (by first | rfl | simp [VV.cloL, VV.clo, *]) ?_)
    rintro μ s H n ⟨rfl, rfl, rfl, rfl⟩
    have hs0 : strOf [] = ByteArray.empty := rfl
    cases hd : decide ((0 : Int) < (l.length : Int)) with
    | false =>
      repeat' (first
        | simp only [go_sem, reduceCtorEq, reduceIte, Nat.reduceAdd, Nat.reduceEqDiff, Nat.reduceLeDiff, Nat.reduceMul, *]
        | refine gdO_bool' _ (fun _ => ?_) (fun _ => ?_)
        | refine gdO_bool _ (fun _ => ?_) (fun _ => ?_)
        | refine gdD_bool' _ (fun _ => ?_) (fun _ => ?_)
        | refine gdD_bool _ (fun _ => ?_) (fun _ => ?_)
        | refine cdO_bool' _ (fun _ => ?_) (fun _ => ?_)
        | refine cdO_bool _ (fun _ => ?_) (fun _ => ?_)
        | refine callO.pure (by first | exact hx) ?_
        | refine callW.pure (by first | exact hx) ?_
        | refine ⟨by decide, ?_⟩
        | refine ppost_t (by simp) rfl ?_)
    | true =>
      repeat' (first
        | simp only [go_sem, reduceCtorEq, reduceIte, Nat.reduceAdd, Nat.reduceEqDiff, Nat.reduceLeDiff, Nat.reduceMul, *]
        | refine gdO_bool' _ (fun _ => ?_) (fun _ => ?_)
        | refine gdO_bool _ (fun _ => ?_) (fun _ => ?_)
        | refine gdD_bool' _ (fun _ => ?_) (fun _ => ?_)
        | refine gdD_bool _ (fun _ => ?_) (fun _ => ?_)
        | refine cdO_bool' _ (fun _ => ?_) (fun _ => ?_)
        | refine cdO_bool _ (fun _ => ?_) (fun _ => ?_)
        | refine callO.pure (by first | exact hx) ?_
        | refine callW.pure (by first | exact hx) ?_
        | refine ⟨by decide, ?_⟩
        | refine ppost_t (by simp) rfl ?_)
  | true =>
    rw [hok] at hx
    have e : textBy wasB l = bytesBy wasB l := by simp [textBy, hok]
    have hlen : l.length ≤ 24 := by simp only [textOk, Bool.and_eq_true, decide_eq_true_eq] at hok; exact hok.1
    rw [e]
    clear e
    refine pureC_of k90 (by first | rfl | simp [VV.cloL, VV.clo, *]) (by first | rfl | simp [VV.cloL, VV.clo, *]) (by simp) ?_
    intro X hP hm hH hn hX
    refine vwp_ok _ ?_
    unfold vc90
    repeat' (first
      | simp only [go_sem, reduceCtorEq, reduceIte, Nat.reduceAdd, Nat.reduceEqDiff, Nat.reduceLeDiff, Nat.reduceMul, *]
      | refine gdO_bool' _ (fun _ => ?_) (fun _ => ?_)
      | refine gdO_bool _ (fun _ => ?_) (fun _ => ?_)
      | refine gdD_bool' _ (fun _ => ?_) (fun _ => ?_)
      | refine gdD_bool _ (fun _ => ?_) (fun _ => ?_)
      | refine cdO_bool' _ (fun _ => ?_) (fun _ => ?_)
      | refine cdO_bool _ (fun _ => ?_) (fun _ => ?_)
      | refine ⟨by decide, ?_⟩
      | refine ppost_t (by simp) rfl ?_)
    refine loopV hX (fun μ s H n => ∃ (i : Nat) (a : List Int), i ≤ l.length ∧ bytesBy wasB (l.take i) = a ∧ a.length ≤ i ∧ μ = l.length - i ∧ s = slotsOf [(0, .sl 3 (l.map Sign.enc)), (3, .rf 0 0 a.length 1), (4, .sc (.int .i64 i))] ∧ H = heapOf [(0, a.map fun b => .sc (.int .u8 b))] ∧ n = 1) ?_
      ⟨l.length + 1, roundV_of hH hn [1] [(0, _), (3, _), (4, _)] [(0, _)] _ ⟨0, [], by simp, by simp [bytesBy], by simp, rfl, rfl, rfl, rfl⟩ (by simp) (by simp) (by simp [hm]) ?_ ?_⟩
    rotate_left
    · repeat' (first | exact List.forall_mem_nil _ | refine List.forall_mem_cons.2 ⟨?_, ?_⟩ | exact .toPt (by simp only [go_sem, reduceCtorEq, reduceIte, Nat.reduceAdd, Nat.reduceEqDiff, Nat.reduceLeDiff, Nat.reduceMul, *] <;> rfl) (by simp [tau]) (by simp) | exact .toRf (by simp only [go_sem, reduceCtorEq, reduceIte, Nat.reduceAdd, Nat.reduceEqDiff, Nat.reduceLeDiff, Nat.reduceMul, *] <;> rfl) (by simp [tau]) (by simp) | exact .same (by simp only [go_sem, reduceCtorEq, reduceIte, Nat.reduceAdd, Nat.reduceEqDiff, Nat.reduceLeDiff, Nat.reduceMul, *] <;> rfl) (by first | rfl | simp [VV.cloL, VV.clo, *]))
    · repeat' (first | exact HConv.nil | refine HConv.same (by decide) (by first | rfl | (simp only [go_sem, reduceCtorEq, reduceIte, Nat.reduceAdd, Nat.reduceEqDiff, Nat.reduceLeDiff, Nat.reduceMul, *] <;> rfl)) (by first | rfl | simp [VV.cloL, VV.clo, *]) ?_)
    rintro μ s H n ⟨i, a, hi, ha, hal, rfl, rfl, rfl, rfl⟩
    rcases Nat.lt_or_ge i l.length with hlt | hge
    · have g1 := lt_dec hlt
      have g2 : (0 : Int) ≤ (i : Int) := by omega
      have g3 : (i : Int) < (l.length : Int) := by omega
      have g4 : (l.map Sign.enc).getD i [] = (l[i]).enc := getD_map hlt
      have g5 : IntKind.i64.wrap ((i : Int) + 1) = ((i + 1 : Nat) : Int) := by rw [wrap_id] <;> omega
      have hsucc := bytesBy_succ (f := wasB) hlt
      rw [ha] at hsucc
      have a1 : a.length + 1 ≤ lim := by unfold lim; omega
      have a2 : a.length ≤ 9223372036854775806 := by omega
      have a3 : List.take a.length (a.map fun b => VV.sc (.int .u8 b)) = a.map fun b => VV.sc (.int .u8 b) := List.take_of_length_le (by simp)
      generalize l[i] = x at *
      have ex : x.enc = [.sc (.int .u8 x.byte), .sc (.int .i64 x.inn), .sc (.int .i64 x.out)] := rfl
      repeat' (first
        | simp only [go_sem, reduceCtorEq, reduceIte, Nat.reduceAdd, Nat.reduceEqDiff, Nat.reduceLeDiff, Nat.reduceMul, *]
        | refine gdO_bool' _ (fun _ => ?_) (fun _ => ?_)
        | refine gdO_bool _ (fun _ => ?_) (fun _ => ?_)
        | refine gdD_bool' _ (fun _ => ?_) (fun _ => ?_)
        | refine gdD_bool _ (fun _ => ?_) (fun _ => ?_)
        | refine cdO_bool' _ (fun _ => ?_) (fun _ => ?_)
        | refine cdO_bool _ (fun _ => ?_) (fun _ => ?_)
        | refine callO.pure (by first | exact hx) ?_
        | refine callW.pure (by first | exact hx) ?_
        | refine ⟨by decide, ?_⟩
        | refine ppost_t (by simp) rfl ?_)
      · rename_i h
        have hw : wasB x = true := h
        rw [hw, if_pos rfl] at hsucc
        refine roundV_of hH hn [21] [(0, _), (3, _), (4, _)] [(0, _)] _ ⟨i + 1, a ++ [x.byte], hlt, hsucc, by simp; omega, rfl, rfl, rfl, rfl⟩ (by omega) (by simp) (by simp [hm]) ?_ ?_
        · rw [List.length_append, List.length_cons, List.length_nil]
          repeat' (first | exact List.forall_mem_nil _ | refine List.forall_mem_cons.2 ⟨?_, ?_⟩ | exact .toPt (by simp only [go_sem, reduceCtorEq, reduceIte, Nat.reduceAdd, Nat.reduceEqDiff, Nat.reduceLeDiff, Nat.reduceMul, *] <;> rfl) (by simp [tau]) (by simp) | exact .toRf (by simp only [go_sem, reduceCtorEq, reduceIte, Nat.reduceAdd, Nat.reduceEqDiff, Nat.reduceLeDiff, Nat.reduceMul, *] <;> rfl) (by simp [tau]) (by simp) | exact .same (by simp only [go_sem, reduceCtorEq, reduceIte, Nat.reduceAdd, Nat.reduceEqDiff, Nat.reduceLeDiff, Nat.reduceMul, *] <;> rfl) (by first | rfl | simp [VV.cloL, VV.clo, *]))
        · repeat' (first | exact HConv.nil | refine HConv.same (by decide) (by first | rfl | (simp only [go_sem, reduceCtorEq, reduceIte, Nat.reduceAdd, Nat.reduceEqDiff, Nat.reduceLeDiff, Nat.reduceMul, *] <;> rfl)) (by first | rfl | simp [VV.cloL, VV.clo, *]) ?_)
      · rename_i h
        have hw : wasB x = false := h
        rw [hw, if_neg (by simp), List.append_nil] at hsucc
        refine roundV_of hH hn [0] [(0, _), (3, _), (4, _)] [(0, _)] _ ⟨i + 1, a, hlt, hsucc, by omega, rfl, rfl, rfl, rfl⟩ (by omega) (by simp) (by simp [hm]) ?_ ?_
        · repeat' (first | exact List.forall_mem_nil _ | refine List.forall_mem_cons.2 ⟨?_, ?_⟩ | exact .toPt (by simp only [go_sem, reduceCtorEq, reduceIte, Nat.reduceAdd, Nat.reduceEqDiff, Nat.reduceLeDiff, Nat.reduceMul, *] <;> rfl) (by simp [tau]) (by simp) | exact .toRf (by simp only [go_sem, reduceCtorEq, reduceIte, Nat.reduceAdd, Nat.reduceEqDiff, Nat.reduceLeDiff, Nat.reduceMul, *] <;> rfl) (by simp [tau]) (by simp) | exact .same (by simp only [go_sem, reduceCtorEq, reduceIte, Nat.reduceAdd, Nat.reduceEqDiff, Nat.reduceLeDiff, Nat.reduceMul, *] <;> rfl) (by first | rfl | simp [VV.cloL, VV.clo, *]))
        · repeat' (first | exact HConv.nil | refine HConv.same (by decide) (by first | rfl | (simp only [go_sem, reduceCtorEq, reduceIte, Nat.reduceAdd, Nat.reduceEqDiff, Nat.reduceLeDiff, Nat.reduceMul, *] <;> rfl)) (by first | rfl | simp [VV.cloL, VV.clo, *]) ?_)
    · have g1 := ge_dec hge
      have a3 : List.take a.length (a.map fun b => VV.sc (.int .u8 b)) = a.map fun b => VV.sc (.int .u8 b) := List.take_of_length_le (by simp)
      have a4 := nums8_map a
      have a5 : bytesBy wasB l = a := by rw [← ha, List.take_of_length_le hge]
      repeat' (first
        | simp only [go_sem, reduceCtorEq, reduceIte, Nat.reduceAdd, Nat.reduceEqDiff, Nat.reduceLeDiff, Nat.reduceMul, *]
        | refine gdO_bool' _ (fun _ => ?_) (fun _ => ?_)
        | refine gdO_bool _ (fun _ => ?_) (fun _ => ?_)
        | refine gdD_bool' _ (fun _ => ?_) (fun _ => ?_)
        | refine gdD_bool _ (fun _ => ?_) (fun _ => ?_)
        | refine cdO_bool' _ (fun _ => ?_) (fun _ => ?_)
        | refine cdO_bool _ (fun _ => ?_) (fun _ => ?_)
        | refine ⟨by decide, ?_⟩
        | refine ppost_t (by simp) rfl ?_)
theorem c85 (l : Text) : PureC prog 85 [encT l] (strV (textBy nowB l)) := by
  have hx := c130 l
  have hca : ∀ xs ys, VV.cloL (xs ++ ys) = (VV.cloL xs && VV.cloL ys) := cloL_append
  have hcb : ∀ a : List Int, VV.cloL (a.map fun b => VV.sc (.int .u8 b)) = true := clo_bytes
  unfold encT strV at *
  cases hok : textOk l with
  | false =>
    rw [hok] at hx
    have e : textBy nowB l = [] := by simp [textBy, hok]
    rw [e]
    refine pureC_of k85 (by first | rfl | simp [VV.cloL, VV.clo, *]) (by first | rfl | simp [VV.cloL, VV.clo, *]) (by simp) ?_
    intro X hP hm hH hn hX
    refine vwp_ok _ ?_
    unfold vc85
    repeat' (first
      | simp only [go_sem, reduceCtorEq, reduceIte, Nat.reduceAdd, Nat.reduceEqDiff, Nat.reduceLeDiff, Nat.reduceMul, *]
      | refine gdO_bool' _ (fun _ => ?_) (fun _ => ?_)
      | refine gdO_bool _ (fun _ => ?_) (fun _ => ?_)
      | refine gdD_bool' _ (fun _ => ?_) (fun _ => ?_)
      | refine gdD_bool _ (fun _ => ?_) (fun _ => ?_)
      | refine cdO_bool' _ (fun _ => ?_) (fun _ => ?_)
      | refine cdO_bool _ (fun _ => ?_) (fun _ => ?_)
      | refine ⟨by decide, ?_⟩
      | refine ppost_t (by simp) rfl ?_)
    refine loopV hX (fun μ s H n => μ = 0 ∧ s = slotsOf [(0, .sl 3 (l.map Sign.enc)), (3, .rf 0 0 0 1), (4, .sc (.int .i64 0))] ∧ H = heapOf [(0, [])] ∧ n = 1) ?_
      ⟨1, roundV_of hH hn [1] [(0, _), (3, _), (4, _)] [(0, _)] 0 ⟨rfl, rfl, rfl, rfl⟩ (by simp) (by simp) (by simp [hm]) ?_ ?_⟩
    rotate_left
    · repeat' (first | exact List.forall_mem_nil _ | refine List.forall_mem_cons.2 ⟨?_, ?_⟩ | exact .toPt (by simp only [go_sem, reduceCtorEq, reduceIte, Nat.reduceAdd, Nat.reduceEqDiff, Nat.reduceLeDiff, Nat.reduceMul, *] <;> rfl) (by simp [tau]) (by simp) | exact .toRf (by simp only [go_sem, reduceCtorEq, reduceIte, Nat.reduceAdd, Nat.reduceEqDiff, Nat.reduceLeDiff, Nat.reduceMul, *] <;> rfl) (by simp [tau]) (by simp) | exact .same (by simp only [go_sem, reduceCtorEq, reduceIte, Nat.reduceAdd, Nat.reduceEqDiff, Nat.reduceLeDiff, Nat.reduceMul, *] <;> rfl) (by first | rfl | simp [VV.cloL, VV.clo, *]))
    · repeat' (first | exact HConv.nil | refine HConv.same (by decide) (by first | rfl | (simp only [go_sem, reduceCtorEq, reduceIte, Nat.reduceAdd, Nat.reduceEqDiff, Nat.reduceLeDiff, Nat.reduceMul, *] <;> rfl)) (by first | rfl | simp [VV.cloL, VV.clo, *]) ?_)
    rintro μ s H n ⟨rfl, rfl, rfl, rfl⟩
    have hs0 : strOf [] = ByteArray.empty := rfl
    cases hd : decide ((0 : Int) < (l.length : Int)) with
    | false =>
      repeat' (first
        | simp only [go_sem, reduceCtorEq, reduceIte, Nat.reduceAdd, Nat.reduceEqDiff, Nat.reduceLeDiff, Nat.reduceMul, *]
        | refine gdO_bool' _ (fun _ => ?_) (fun _ => ?_)
        | refine gdO_bool _ (fun _ => ?_) (fun _ => ?_)
        | refine gdD_bool' _ (fun _ => ?_) (fun _ => ?_)
        | refine gdD_bool _ (fun _ => ?_) (fun _ => ?_)
        | refine cdO_bool' _ (fun _ => ?_) (fun _ => ?_)
        | refine cdO_bool _ (fun _ => ?_) (fun _ => ?_)
        | refine callO.pure (by first | exact hx) ?_
        | refine callW.pure (by first | exact hx) ?_
        | refine ⟨by decide, ?_⟩
        | refine ppost_t (by simp) rfl ?_)
    | true =>
      repeat' (first
        | simp only [go_sem, reduceCtorEq, reduceIte, Nat.reduceAdd, Nat.reduceEqDiff, Nat.reduceLeDiff, Nat.reduceMul, *]
        | refine gdO_bool' _ (fun _ => ?_) (fun _ => ?_)
        | refine gdO_bool _ (fun _ => ?_) (fun _ => ?_)
        | refine gdD_bool' _ (fun _ => ?_) (fun _ => ?_)
        | refine gdD_bool _ (fun _ => ?_) (fun _ => ?_)
        | refine cdO_bool' _ (fun _ => ?_) (fun _ => ?_)
        | refine cdO_bool _ (fun _ => ?_) (fun _ => ?_)
        | refine callO.pure (by first | exact hx) ?_
        | refine callW.pure (by first | exact hx) ?_
        | refine ⟨by decide, ?_⟩
        | refine ppost_t (by simp) rfl ?_)
  | true =>
    rw [hok] at hx
    have e : textBy nowB l = bytesBy nowB l := by simp [textBy, hok]
    have hlen : l.length ≤ 24 := by simp only [textOk, Bool.and_eq_true, decide_eq_true_eq] at hok; exact hok.1
    rw [e]
    clear e
    refine pureC_of k85 (by first | rfl | simp [VV.cloL, VV.clo, *]) (by first | rfl | simp [VV.cloL, VV.clo, *]) (by simp) ?_
    intro X hP hm hH hn hX
    refine vwp_ok _ ?_
    unfold vc85
    repeat' (first
      | simp only [go_sem, reduceCtorEq, reduceIte, Nat.reduceAdd, Nat.reduceEqDiff, Nat.reduceLeDiff, Nat.reduceMul, *]
      | refine gdO_bool' _ (fun _ => ?_) (fun _ => ?_)
      | refine gdO_bool _ (fun _ => ?_) (fun _ => ?_)
      | refine gdD_bool' _ (fun _ => ?_) (fun _ => ?_)
      | refine gdD_bool _ (fun _ => ?_) (fun _ => ?_)
      | refine cdO_bool' _ (fun _ => ?_) (fun _ => ?_)
      | refine cdO_bool _ (fun _ => ?_) (fun _ => ?_)
      | refine ⟨by decide, ?_⟩
      | refine ppost_t (by simp) rfl ?_)
    refine loopV hX (fun μ s H n => ∃ (i : Nat) (a : List Int), i ≤ l.length ∧ bytesBy nowB (l.take i) = a ∧ a.length ≤ i ∧ μ = l.length - i ∧ s = slotsOf [(0, .sl 3 (l.map Sign.enc)), (3, .rf 0 0 a.length 1), (4, .sc (.int .i64 i))] ∧ H = heapOf [(0, a.map fun b => .sc (.int .u8 b))] ∧ n = 1) ?_
      ⟨l.length + 1, roundV_of hH hn [1] [(0, _), (3, _), (4, _)] [(0, _)] _ ⟨0, [], by simp, by simp [bytesBy], by simp, rfl, rfl, rfl, rfl⟩ (by simp) (by simp) (by simp [hm]) ?_ ?_⟩
    rotate_left
    · repeat' (first | exact List.forall_mem_nil _ | refine List.forall_mem_cons.2 ⟨?_, ?_⟩ | exact .toPt (by simp only [go_sem, reduceCtorEq, reduceIte, Nat.reduceAdd, Nat.reduceEqDiff, Nat.reduceLeDiff, Nat.reduceMul, *] <;> rfl) (by simp [tau]) (by simp) | exact .toRf (by simp only [go_sem, reduceCtorEq, reduceIte, Nat.reduceAdd, Nat.reduceEqDiff, Nat.reduceLeDiff, Nat.reduceMul, *] <;> rfl) (by simp [tau]) (by simp) | exact .same (by simp only [go_sem, reduceCtorEq, reduceIte, Nat.reduceAdd, Nat.reduceEqDiff, Nat.reduceLeDiff, Nat.reduceMul, *] <;> rfl) (by first | rfl | simp [VV.cloL, VV.clo, *]))
    · repeat' (first | exact HConv.nil | refine HConv.same (by decide) (by first | rfl | (simp only [go_sem, reduceCtorEq, reduceIte, Nat.reduceAdd, Nat.reduceEqDiff, Nat.reduceLeDiff, Nat.reduceMul, *] <;> rfl)) (by first | rfl | simp [VV.cloL, VV.clo, *]) ?_)
    rintro μ s H n ⟨i, a, hi, ha, hal, rfl, rfl, rfl, rfl⟩
    rcases Nat.lt_or_ge i l.length with hlt | hge
    · have g1 := lt_dec hlt
      have g2 : (0 : Int) ≤ (i : Int) := by omega
      have g3 : (i : Int) < (l.length : Int) := by omega
      have g4 : (l.map Sign.enc).getD i [] = (l[i]).enc := getD_map hlt
      have g5 : IntKind.i64.wrap ((i : Int) + 1) = ((i + 1 : Nat) : Int) := by rw [wrap_id] <;> omega
      have hsucc := bytesBy_succ (f := nowB) hlt
      rw [ha] at hsucc
      have a1 : a.length + 1 ≤ lim := by unfold lim; omega
      have a2 : a.length ≤ 9223372036854775806 := by omega
      have a3 : List.take a.length (a.map fun b => VV.sc (.int .u8 b)) = a.map fun b => VV.sc (.int .u8 b) := List.take_of_length_le (by simp)
      generalize l[i] = x at *
      have ex : x.enc = [.sc (.int .u8 x.byte), .sc (.int .i64 x.inn), .sc (.int .i64 x.out)] := rfl
      repeat' (first
        | simp only [go_sem, reduceCtorEq, reduceIte, Nat.reduceAdd, Nat.reduceEqDiff, Nat.reduceLeDiff, Nat.reduceMul, *]
        | refine gdO_bool' _ (fun _ => ?_) (fun _ => ?_)
        | refine gdO_bool _ (fun _ => ?_) (fun _ => ?_)
        | refine gdD_bool' _ (fun _ => ?_) (fun _ => ?_)
        | refine gdD_bool _ (fun _ => ?_) (fun _ => ?_)
        | refine cdO_bool' _ (fun _ => ?_) (fun _ => ?_)
        | refine cdO_bool _ (fun _ => ?_) (fun _ => ?_)
        | refine callO.pure (by first | exact hx) ?_
        | refine callW.pure (by first | exact hx) ?_
        | refine ⟨by decide, ?_⟩
        | refine ppost_t (by simp) rfl ?_)
      · rename_i h
        have hw : nowB x = true := h
        rw [hw, if_pos rfl] at hsucc
        refine roundV_of hH hn [21] [(0, _), (3, _), (4, _)] [(0, _)] _ ⟨i + 1, a ++ [x.byte], hlt, hsucc, by simp; omega, rfl, rfl, rfl, rfl⟩ (by omega) (by simp) (by simp [hm]) ?_ ?_
        · rw [List.length_append, List.length_cons, List.length_nil]
          repeat' (first | exact List.forall_mem_nil _ | refine List.forall_mem_cons.2 ⟨?_, ?_⟩ | exact .toPt (by simp only [go_sem, reduceCtorEq, reduceIte, Nat.reduceAdd, Nat.reduceEqDiff, Nat.reduceLeDiff, Nat.reduceMul, *] <;> rfl) (by simp [tau]) (by simp) | exact .toRf (by simp only [go_sem, reduceCtorEq, reduceIte, Nat.reduceAdd, Nat.reduceEqDiff, Nat.reduceLeDiff, Nat.reduceMul, *] <;> rfl) (by simp [tau]) (by simp) | exact .same (by simp only [go_sem, reduceCtorEq, reduceIte, Nat.reduceAdd, Nat.reduceEqDiff, Nat.reduceLeDiff, Nat.reduceMul, *] <;> rfl) (by first | rfl | simp [VV.cloL, VV.clo, *]))
        · repeat' (first | exact HConv.nil | refine HConv.same (by decide) (by first | rfl | (simp only [go_sem, reduceCtorEq, reduceIte, Nat.reduceAdd, Nat.reduceEqDiff, Nat.reduceLeDiff, Nat.reduceMul, *] <;> rfl)) (by first | rfl | simp [VV.cloL, VV.clo, *]) ?_)
      · rename_i h
        have hw : nowB x = false := h
        rw [hw, if_neg (by simp), List.append_nil] at hsucc
        refine roundV_of hH hn [0] [(0, _), (3, _), (4, _)] [(0, _)] _ ⟨i + 1, a, hlt, hsucc, by omega, rfl, rfl, rfl, rfl⟩ (by omega) (by simp) (by simp [hm]) ?_ ?_
        · repeat' (first | exact List.forall_mem_nil _ | refine List.forall_mem_cons.2 ⟨?_, ?_⟩ | exact .toPt (by simp only [go_sem, reduceCtorEq, reduceIte, Nat.reduceAdd, Nat.reduceEqDiff, Nat.reduceLeDiff, Nat.reduceMul, *] <;> rfl) (by simp [tau]) (by simp) | exact .toRf (by simp only [go_sem, reduceCtorEq, reduceIte, Nat.reduceAdd, Nat.reduceEqDiff, Nat.reduceLeDiff, Nat.reduceMul, *] <;> rfl) (by simp [tau]) (by simp) | exact .same (by simp only [go_sem, reduceCtorEq, reduceIte, Nat.reduceAdd, Nat.reduceEqDiff, Nat.reduceLeDiff, Nat.reduceMul, *] <;> rfl) (by first | rfl | simp [VV.cloL, VV.clo, *]))
        · repeat' (first | exact HConv.nil | refine HConv.same (by decide) (by first | rfl | (simp only [go_sem, reduceCtorEq, reduceIte, Nat.reduceAdd, Nat.reduceEqDiff, Nat.reduceLeDiff, Nat.reduceMul, *] <;> rfl)) (by first | rfl | simp [VV.cloL, VV.clo, *]) ?_)
    · have g1 := ge_dec hge
      have a3 : List.take a.length (a.map fun b => VV.sc (.int .u8 b)) = a.map fun b => VV.sc (.int .u8 b) := List.take_of_length_le (by simp)
      have a4 := nums8_map a
      have a5 : bytesBy nowB l = a := by rw [← ha, List.take_of_length_le hge]
      repeat' (first
        | simp only [go_sem, reduceCtorEq, reduceIte, Nat.reduceAdd, Nat.reduceEqDiff, Nat.reduceLeDiff, Nat.reduceMul, *]
        | refine gdO_bool' _ (fun _ => ?_) (fun _ => ?_)
        | refine gdO_bool _ (fun _ => ?_) (fun _ => ?_)
        | refine gdD_bool' _ (fun _ => ?_) (fun _ => ?_)
        | refine gdD_bool _ (fun _ => ?_) (fun _ => ?_)
        | refine cdO_bool' _ (fun _ => ?_) (fun _ => ?_)
        | refine cdO_bool _ (fun _ => ?_) (fun _ => ?_)
        | refine ⟨by decide, ?_⟩
        | refine ppost_t (by simp) rfl ?_)
end Go.Proofs.Ytdmmhainianadaa

/- F11: what a text says, as the program tells it. -/
namespace Go.Proofs.Ytdmmhainianadaa
open Go.VM Go.Lim Go.Proofs.Try
attribute [local irreducible] vwp vops vstep vdr vdr1 CallP PPost SWv gdO gdD cdO optV optW optD thenV blockV behind callO callW callvO roundV
set_option linter.unusedSimpArgs false
set_option linter.unusedVariables false
/- loop.example/limner/impl.chosen -/
def vc122 : VCode :=
(.seq (.reg [⟨(some 4), (.mov (.const (.string ⟨#[]⟩))), none⟩])
(.seq (.reg [⟨(some 8), (.bslice 1 0 [(.int .u8 0)] []), none⟩, ⟨(some 5), (.mov (.tmp 8)), none⟩])
(.seq (.seq (.reg [⟨(some 9), (.mov (.tmp 0)), none⟩, ⟨(some 10), (.len false (.tmp 9)), none⟩, ⟨(some 11), (.mov (.const (.int .i64 0))), none⟩])
(.block 0 (.loop (.seq (.reg [⟨(some 12), (.bin .lss .no (.tmp 11) (.tmp 10)), none⟩])
  (.seq (.cond (.tmp 12) .skip
   (.exit 0))
  (.seq (.block 1 (.seq (.reg [⟨(some 13), (.iad 3 (.tmp 9) (.tmp 11)), none⟩, ⟨(some 14), (.load true 3 (.tmp 13)), none⟩, ⟨(some 7), (.new [(.int .u8 0), (.int .i64 0), (.int .i64 0)]), none⟩, ⟨none, (.store 3 (.tmp 7) (.tmp 14)), none⟩])
   (.seq (.reg [⟨(some 15), (.mov (.tmp 1)), none⟩, ⟨(some 16), (.load true 3 (.tmp 7)), none⟩, ⟨(some 17), (.callv (.tmp 15) [(.tmp 16)]), none⟩])
   (.cond (.tmp 17) (.reg [⟨(some 18), (.mov (.tmp 5)), none⟩, ⟨(some 19), (.fad 0 (.tmp 7)), none⟩, ⟨(some 20), (.load false 1 (.tmp 19)), none⟩, ⟨(some 21), (.bslice 1 1 [(.int .u8 0)] [(0, 1, (.tmp 20))]), none⟩, ⟨(some 22), (.app 1 1 (.tmp 18) (.tmp 21)), none⟩, ⟨(some 5), (.mov (.tmp 22)), none⟩])
    .skip))))
  (.reg [⟨(some 23), (.bin .add .no (.tmp 11) (.const (.int .i64 1))), none⟩, ⟨(some 11), (.mov (.tmp 23)), none⟩])))))))
(.seq (.reg [⟨(some 24), (.mov (.tmp 5)), none⟩, ⟨(some 25), (.cstr (.tmp 24)), none⟩, ⟨(some 4), (.mov (.tmp 25)), none⟩])
.ret))))
theorem k122 : compFn prog 122 = some (26, vc122, [.t 4]) := by kernel_rfl
/- loop.example/limner/impl.TextNow$1 -/
def vc123 : VCode :=
(.seq (.reg [⟨(some 1), (.box (.tmp 0)), none⟩, ⟨(some 2), (.mov (.const (.bool false))), none⟩])
(.seq (.reg [⟨(some 3), (.fad 2 (.tmp 1)), none⟩, ⟨(some 4), (.load false 1 (.tmp 3)), none⟩, ⟨(some 5), (.bin .eql .no (.tmp 4) (.const (.int .i64 0))), none⟩, ⟨(some 2), (.mov (.tmp 5)), none⟩])
.ret))
theorem k123 : compFn prog 123 = some (6, vc123, [.t 2]) := by kernel_rfl
/- loop.example/limner/impl.TextWas$1 -/
def vc133 : VCode :=
(.seq (.reg [⟨(some 1), (.box (.tmp 0)), none⟩, ⟨(some 2), (.mov (.const (.bool false))), none⟩])
(.seq (.reg [⟨(some 3), (.fad 1 (.tmp 1)), none⟩, ⟨(some 4), (.load false 1 (.tmp 3)), none⟩, ⟨(some 5), (.bin .eql .no (.tmp 4) (.const (.int .i64 0))), none⟩, ⟨(some 2), (.mov (.tmp 5)), none⟩])
.ret))
theorem k133 : compFn prog 133 = some (6, vc133, [.t 2]) := by kernel_rfl
/- loop.example/limner/impl.TextNow -/
def vc78 : VCode :=
(.seq (.reg [⟨(some 2), (.mov (.const (.string ⟨#[]⟩))), none⟩])
(.seq (.seq (.reg [⟨(some 3), (.mov (.tmp 0)), none⟩, ⟨(some 4), (.call 121 [(.tmp 3)]), none⟩, ⟨(some 5), (.un .not (.tmp 4)), none⟩])
(.cond (.tmp 5) (.seq (.reg [⟨(some 2), (.mov (.const (.string ⟨#[]⟩))), none⟩])
 .ret)
 .skip))
(.seq (.reg [⟨(some 6), (.mov (.tmp 0)), none⟩, ⟨(some 7), (.call 122 [(.tmp 6), (.func 123)]), none⟩, ⟨(some 2), (.mov (.tmp 7)), none⟩])
.ret)))
theorem k78 : compFn prog 78 = some (8, vc78, [.t 2]) := by kernel_rfl
/- loop.example/limner/impl.TextWas -/
def vc91 : VCode :=
(.seq (.reg [⟨(some 2), (.mov (.const (.string ⟨#[]⟩))), none⟩])
(.seq (.seq (.reg [⟨(some 3), (.mov (.tmp 0)), none⟩, ⟨(some 4), (.call 121 [(.tmp 3)]), none⟩, ⟨(some 5), (.un .not (.tmp 4)), none⟩])
(.cond (.tmp 5) (.seq (.reg [⟨(some 2), (.mov (.const (.string ⟨#[]⟩))), none⟩])
 .ret)
 .skip))
(.seq (.reg [⟨(some 6), (.mov (.tmp 0)), none⟩, ⟨(some 7), (.call 122 [(.tmp 6), (.func 133)]), none⟩, ⟨(some 2), (.mov (.tmp 7)), none⟩])
.ret)))
theorem k91 : compFn prog 91 = some (8, vc91, [.t 2]) := by kernel_rfl
theorem c123 (x : Sign) : PureC prog 123 [.agg x.enc] (.sc (.bool (nowB x))) := by
  unfold Sign.enc
  refine pureC_of k123 (by first | rfl | simp [VV.cloL, VV.clo, *]) (by first | rfl | simp [VV.cloL, VV.clo, *]) (by simp) ?_
  intro X hP hm hH hn hX
  refine vwp_ok _ ?_
  unfold vc123
  repeat' (first
    | simp only [go_sem, reduceCtorEq, reduceIte, Nat.reduceAdd, Nat.reduceEqDiff, Nat.reduceLeDiff, Nat.reduceMul, *]
    | refine gdO_bool' _ (fun _ => ?_) (fun _ => ?_)
    | refine gdO_bool _ (fun _ => ?_) (fun _ => ?_)
    | refine gdD_bool' _ (fun _ => ?_) (fun _ => ?_)
    | refine gdD_bool _ (fun _ => ?_) (fun _ => ?_)
    | refine cdO_bool' _ (fun _ => ?_) (fun _ => ?_)
    | refine cdO_bool _ (fun _ => ?_) (fun _ => ?_)
    | refine ⟨by decide, ?_⟩
    | refine ppost_t (by simp) rfl ?_)
  all_goals rfl
theorem c133 (x : Sign) : PureC prog 133 [.agg x.enc] (.sc (.bool (wasB x))) := by
  unfold Sign.enc
  refine pureC_of k133 (by first | rfl | simp [VV.cloL, VV.clo, *]) (by first | rfl | simp [VV.cloL, VV.clo, *]) (by simp) ?_
  intro X hP hm hH hn hX
  refine vwp_ok _ ?_
  unfold vc133
  repeat' (first
    | simp only [go_sem, reduceCtorEq, reduceIte, Nat.reduceAdd, Nat.reduceEqDiff, Nat.reduceLeDiff, Nat.reduceMul, *]
    | refine gdO_bool' _ (fun _ => ?_) (fun _ => ?_)
    | refine gdO_bool _ (fun _ => ?_) (fun _ => ?_)
    | refine gdD_bool' _ (fun _ => ?_) (fun _ => ?_)
    | refine gdD_bool _ (fun _ => ?_) (fun _ => ?_)
    | refine cdO_bool' _ (fun _ => ?_) (fun _ => ?_)
    | refine cdO_bool _ (fun _ => ?_) (fun _ => ?_)
    | refine ⟨by decide, ?_⟩
    | refine ppost_t (by simp) rfl ?_)
  all_goals rfl
theorem c122 (l : Text) (g : FuncId) (p : Sign → Bool) (hs : l.length < 1099511627776) (hg : ∀ x : Sign, PureC prog g [.agg x.enc] (.sc (.bool (p x)))) : PureC prog 122 [encT l, .fn g []] (strV (bytesBy p l)) := by
  have hca : ∀ xs ys, VV.cloL (xs ++ ys) = (VV.cloL xs && VV.cloL ys) := cloL_append
  have hcb : ∀ a : List Int, VV.cloL (a.map fun b => VV.sc (.int .u8 b)) = true := clo_bytes
  unfold encT strV
  refine pureC_of k122 (by first | rfl | simp [VV.cloL, VV.clo, *]) (by first | rfl | simp [VV.cloL, VV.clo, *]) (by simp) ?_
  intro X hP hm hH hn hX
  refine vwp_ok _ ?_
  unfold vc122
  repeat' (first
    | simp only [go_sem, reduceCtorEq, reduceIte, Nat.reduceAdd, Nat.reduceEqDiff, Nat.reduceLeDiff, Nat.reduceMul, *]
    | refine gdO_bool' _ (fun _ => ?_) (fun _ => ?_)
    | refine gdO_bool _ (fun _ => ?_) (fun _ => ?_)
    | refine gdD_bool' _ (fun _ => ?_) (fun _ => ?_)
    | refine gdD_bool _ (fun _ => ?_) (fun _ => ?_)
    | refine cdO_bool' _ (fun _ => ?_) (fun _ => ?_)
    | refine cdO_bool _ (fun _ => ?_) (fun _ => ?_)
    | refine ⟨by decide, ?_⟩
    | refine ppost_t (by simp) rfl ?_)
  refine loopV hX (fun μ s H n => ∃ (i : Nat) (a : List Int), i ≤ l.length ∧ bytesBy p (l.take i) = a ∧ a.length ≤ i ∧ μ = l.length - i ∧ s = slotsOf [(1, .fn g []), (5, .rf 0 0 a.length 1), (9, .sl 3 (l.map Sign.enc)), (10, .sc (.int .i64 l.length)), (11, .sc (.int .i64 i))] ∧ H = heapOf [(0, a.map fun b => .sc (.int .u8 b))] ∧ n = 1) ?_
    ⟨l.length + 1, roundV_of hH hn [1] [(1, _), (5, _), (9, _), (10, _), (11, _)] [(0, _)] _ ⟨0, [], by simp, by simp [bytesBy], by simp, rfl, rfl, rfl, rfl⟩ (by simp) (by simp) (by simp [hm]) ?_ ?_⟩
  rotate_left
  · repeat' (first | exact List.forall_mem_nil _ | refine List.forall_mem_cons.2 ⟨?_, ?_⟩ | exact .toPt (by simp only [go_sem, reduceCtorEq, reduceIte, Nat.reduceAdd, Nat.reduceEqDiff, Nat.reduceLeDiff, Nat.reduceMul, *] <;> rfl) (by simp [tau]) (by simp) | exact .toRf (by simp only [go_sem, reduceCtorEq, reduceIte, Nat.reduceAdd, Nat.reduceEqDiff, Nat.reduceLeDiff, Nat.reduceMul, *] <;> rfl) (by simp [tau]) (by simp) | exact .same (by simp only [go_sem, reduceCtorEq, reduceIte, Nat.reduceAdd, Nat.reduceEqDiff, Nat.reduceLeDiff, Nat.reduceMul, *] <;> rfl) (by first | rfl | simp [VV.cloL, VV.clo, *]))
  · repeat' (first | exact HConv.nil | refine HConv.same (by decide) (by first | rfl | (simp only [go_sem, reduceCtorEq, reduceIte, Nat.reduceAdd, Nat.reduceEqDiff, Nat.reduceLeDiff, Nat.reduceMul, *] <;> rfl)) (by first | rfl | simp [VV.cloL, VV.clo, *]) ?_)
  rintro μ s H n ⟨i, a, hi, ha, hal, rfl, rfl, rfl, rfl⟩
  rcases Nat.lt_or_ge i l.length with hlt | hge
  · have g1 := lt_dec hlt
    have g2 : (0 : Int) ≤ (i : Int) := by omega
    have g3 : (i : Int) < (l.length : Int) := by omega
    have g4 : (l.map Sign.enc).getD i [] = (l[i]).enc := getD_map hlt
    have g5 : IntKind.i64.wrap ((i : Int) + 1) = ((i + 1 : Nat) : Int) := by rw [wrap_id] <;> omega
    have hsucc := bytesBy_succ (f := p) hlt
    rw [ha] at hsucc
    have a1 : a.length + 1 ≤ lim := by unfold lim; omega
    have a2 : a.length ≤ 9223372036854775806 := by omega
    have a3 : List.take a.length (a.map fun b => VV.sc (.int .u8 b)) = a.map fun b => VV.sc (.int .u8 b) := List.take_of_length_le (by simp)
    have hgx := hg l[i]
    generalize l[i] = x at *
    have ex : x.enc = [.sc (.int .u8 x.byte), .sc (.int .i64 x.inn), .sc (.int .i64 x.out)] := rfl
    rw [ex] at hgx
    repeat' (first
      | simp only [go_sem, reduceCtorEq, reduceIte, Nat.reduceAdd, Nat.reduceEqDiff, Nat.reduceLeDiff, Nat.reduceMul, *]
      | refine gdO_bool' _ (fun _ => ?_) (fun _ => ?_)
      | refine gdO_bool _ (fun _ => ?_) (fun _ => ?_)
      | refine gdD_bool' _ (fun _ => ?_) (fun _ => ?_)
      | refine gdD_bool _ (fun _ => ?_) (fun _ => ?_)
      | refine cdO_bool' _ (fun _ => ?_) (fun _ => ?_)
      | refine cdO_bool _ (fun _ => ?_) (fun _ => ?_)
      | refine callO.pure (by first | exact hgx) ?_
      | refine callW.pure (by first | exact hgx) ?_
      | refine ⟨by decide, ?_⟩
      | refine ppost_t (by simp) rfl ?_)
    · rename_i h
      rw [h, if_pos rfl] at hsucc
      refine roundV_of hH hn [12] [(1, _), (5, _), (9, _), (10, _), (11, _)] [(0, _)] _ ⟨i + 1, a ++ [x.byte], hlt, hsucc, by simp; omega, rfl, rfl, rfl, rfl⟩ (by omega) (by simp) (by simp [hm]) ?_ ?_
      · rw [List.length_append, List.length_cons, List.length_nil]
        repeat' (first | exact List.forall_mem_nil _ | refine List.forall_mem_cons.2 ⟨?_, ?_⟩ | exact .toPt (by simp only [go_sem, reduceCtorEq, reduceIte, Nat.reduceAdd, Nat.reduceEqDiff, Nat.reduceLeDiff, Nat.reduceMul, *] <;> rfl) (by simp [tau]) (by simp) | exact .toRf (by simp only [go_sem, reduceCtorEq, reduceIte, Nat.reduceAdd, Nat.reduceEqDiff, Nat.reduceLeDiff, Nat.reduceMul, *] <;> rfl) (by simp [tau]) (by simp) | exact .same (by simp only [go_sem, reduceCtorEq, reduceIte, Nat.reduceAdd, Nat.reduceEqDiff, Nat.reduceLeDiff, Nat.reduceMul, *] <;> rfl) (by first | rfl | simp [VV.cloL, VV.clo, *]))
      · repeat' (first | exact HConv.nil | refine HConv.same (by decide) (by first | rfl | (simp only [go_sem, reduceCtorEq, reduceIte, Nat.reduceAdd, Nat.reduceEqDiff, Nat.reduceLeDiff, Nat.reduceMul, *] <;> rfl)) (by first | rfl | simp [VV.cloL, VV.clo, *]) ?_)
    · rename_i h
      rw [h, if_neg (by simp), List.append_nil] at hsucc
      refine roundV_of hH hn [0] [(1, _), (5, _), (9, _), (10, _), (11, _)] [(0, _)] _ ⟨i + 1, a, hlt, hsucc, by omega, rfl, rfl, rfl, rfl⟩ (by omega) (by simp) (by simp [hm]) ?_ ?_
      · repeat' (first | exact List.forall_mem_nil _ | refine List.forall_mem_cons.2 ⟨?_, ?_⟩ | exact .toPt (by simp only [go_sem, reduceCtorEq, reduceIte, Nat.reduceAdd, Nat.reduceEqDiff, Nat.reduceLeDiff, Nat.reduceMul, *] <;> rfl) (by simp [tau]) (by simp) | exact .toRf (by simp only [go_sem, reduceCtorEq, reduceIte, Nat.reduceAdd, Nat.reduceEqDiff, Nat.reduceLeDiff, Nat.reduceMul, *] <;> rfl) (by simp [tau]) (by simp) | exact .same (by simp only [go_sem, reduceCtorEq, reduceIte, Nat.reduceAdd, Nat.reduceEqDiff, Nat.reduceLeDiff, Nat.reduceMul, *] <;> rfl) (by first | rfl | simp [VV.cloL, VV.clo, *]))
      · repeat' (first | exact HConv.nil | refine HConv.same (by decide) (by first | rfl | (simp only [go_sem, reduceCtorEq, reduceIte, Nat.reduceAdd, Nat.reduceEqDiff, Nat.reduceLeDiff, Nat.reduceMul, *] <;> rfl)) (by first | rfl | simp [VV.cloL, VV.clo, *]) ?_)
  · have g1 := ge_dec hge
    have a3 : List.take a.length (a.map fun b => VV.sc (.int .u8 b)) = a.map fun b => VV.sc (.int .u8 b) := List.take_of_length_le (by simp)
    have a4 := nums8_map a
    have a5 : bytesBy p l = a := by rw [← ha, List.take_of_length_le hge]
    repeat' (first
      | simp only [go_sem, reduceCtorEq, reduceIte, Nat.reduceAdd, Nat.reduceEqDiff, Nat.reduceLeDiff, Nat.reduceMul, *]
      | refine gdO_bool' _ (fun _ => ?_) (fun _ => ?_)
      | refine gdO_bool _ (fun _ => ?_) (fun _ => ?_)
      | refine gdD_bool' _ (fun _ => ?_) (fun _ => ?_)
      | refine gdD_bool _ (fun _ => ?_) (fun _ => ?_)
      | refine cdO_bool' _ (fun _ => ?_) (fun _ => ?_)
      | refine cdO_bool _ (fun _ => ?_) (fun _ => ?_)
      | refine ⟨by decide, ?_⟩
      | refine ppost_t (by simp) rfl ?_)
theorem c78 (l : Text) (hs : l.length < 1099511627776) : PureC prog 78 [encT l] (strV (textBy nowB l)) := by
  have hx := c121 l (by omega)
  have hc := c122 l 123 nowB hs c123
  have e : textBy nowB l = if textOk l = true then bytesBy nowB l else [] := rfl
  have hs0 : strOf [] = ByteArray.empty := rfl
  rw [e]
  cases hok : textOk l with
  | false =>
    rw [hok] at hx
    unfold encT strV at *
    clear hc e
    refine pureC_of k78 (by first | rfl | simp [VV.cloL, VV.clo, *]) (by first | rfl | simp [VV.cloL, VV.clo, *]) (by simp) ?_
    intro X hP hm hH hn hX
    refine vwp_ok _ ?_
    unfold vc78
    repeat' (first
      | simp only [go_sem, reduceCtorEq, reduceIte, Nat.reduceAdd, Nat.reduceEqDiff, Nat.reduceLeDiff, Nat.reduceMul, *]
      | refine gdO_bool' _ (fun _ => ?_) (fun _ => ?_)
      | refine gdO_bool _ (fun _ => ?_) (fun _ => ?_)
      | refine gdD_bool' _ (fun _ => ?_) (fun _ => ?_)
      | refine gdD_bool _ (fun _ => ?_) (fun _ => ?_)
      | refine cdO_bool' _ (fun _ => ?_) (fun _ => ?_)
      | refine cdO_bool _ (fun _ => ?_) (fun _ => ?_)
      | refine callO.pure (by first | exact hx) ?_
      | refine callW.pure (by first | exact hx) ?_
      | refine ⟨by decide, ?_⟩
      | refine ppost_t (by simp) rfl ?_)
    all_goals rfl
  | true =>
    rw [hok] at hx
    unfold encT strV at *
    clear e
    refine pureC_of k78 (by first | rfl | simp [VV.cloL, VV.clo, *]) (by first | rfl | simp [VV.cloL, VV.clo, *]) (by simp) ?_
    intro X hP hm hH hn hX
    refine vwp_ok _ ?_
    unfold vc78
    repeat' (first
      | simp only [go_sem, reduceCtorEq, reduceIte, Nat.reduceAdd, Nat.reduceEqDiff, Nat.reduceLeDiff, Nat.reduceMul, *]
      | refine gdO_bool' _ (fun _ => ?_) (fun _ => ?_)
      | refine gdO_bool _ (fun _ => ?_) (fun _ => ?_)
      | refine gdD_bool' _ (fun _ => ?_) (fun _ => ?_)
      | refine gdD_bool _ (fun _ => ?_) (fun _ => ?_)
      | refine cdO_bool' _ (fun _ => ?_) (fun _ => ?_)
      | refine cdO_bool _ (fun _ => ?_) (fun _ => ?_)
      | refine callO.pure (by first | exact hx | exact hc) ?_
      | refine callW.pure (by first | exact hx | exact hc) ?_
      | refine ⟨by decide, ?_⟩
      | refine ppost_t (by simp) rfl ?_)
    all_goals (simp only [if_true]; try rfl)
theorem c91 (l : Text) (hs : l.length < 1099511627776) : PureC prog 91 [encT l] (strV (textBy wasB l)) := by
  have hx := c121 l (by omega)
  have hc := c122 l 133 wasB hs c133
  have e : textBy wasB l = if textOk l = true then bytesBy wasB l else [] := rfl
  have hs0 : strOf [] = ByteArray.empty := rfl
  rw [e]
  cases hok : textOk l with
  | false =>
    rw [hok] at hx
    unfold encT strV at *
    clear hc e
    refine pureC_of k91 (by first | rfl | simp [VV.cloL, VV.clo, *]) (by first | rfl | simp [VV.cloL, VV.clo, *]) (by simp) ?_
    intro X hP hm hH hn hX
    refine vwp_ok _ ?_
    unfold vc91
    repeat' (first
      | simp only [go_sem, reduceCtorEq, reduceIte, Nat.reduceAdd, Nat.reduceEqDiff, Nat.reduceLeDiff, Nat.reduceMul, *]
      | refine gdO_bool' _ (fun _ => ?_) (fun _ => ?_)
      | refine gdO_bool _ (fun _ => ?_) (fun _ => ?_)
      | refine gdD_bool' _ (fun _ => ?_) (fun _ => ?_)
      | refine gdD_bool _ (fun _ => ?_) (fun _ => ?_)
      | refine cdO_bool' _ (fun _ => ?_) (fun _ => ?_)
      | refine cdO_bool _ (fun _ => ?_) (fun _ => ?_)
      | refine callO.pure (by first | exact hx) ?_
      | refine callW.pure (by first | exact hx) ?_
      | refine ⟨by decide, ?_⟩
      | refine ppost_t (by simp) rfl ?_)
    all_goals rfl
  | true =>
    rw [hok] at hx
    unfold encT strV at *
    clear e
    refine pureC_of k91 (by first | rfl | simp [VV.cloL, VV.clo, *]) (by first | rfl | simp [VV.cloL, VV.clo, *]) (by simp) ?_
    intro X hP hm hH hn hX
    refine vwp_ok _ ?_
    unfold vc91
    repeat' (first
      | simp only [go_sem, reduceCtorEq, reduceIte, Nat.reduceAdd, Nat.reduceEqDiff, Nat.reduceLeDiff, Nat.reduceMul, *]
      | refine gdO_bool' _ (fun _ => ?_) (fun _ => ?_)
      | refine gdO_bool _ (fun _ => ?_) (fun _ => ?_)
      | refine gdD_bool' _ (fun _ => ?_) (fun _ => ?_)
      | refine gdD_bool _ (fun _ => ?_) (fun _ => ?_)
      | refine cdO_bool' _ (fun _ => ?_) (fun _ => ?_)
      | refine cdO_bool _ (fun _ => ?_) (fun _ => ?_)
      | refine callO.pure (by first | exact hx | exact hc) ?_
      | refine callW.pure (by first | exact hx | exact hc) ?_
      | refine ⟨by decide, ?_⟩
      | refine ppost_t (by simp) rfl ?_)
    all_goals (simp only [if_true]; try rfl)
end Go.Proofs.Ytdmmhainianadaa

/- F12: a place's text, as the program finds it. -/
namespace Go.Proofs.Ytdmmhainianadaa
open Go.VM Go.Lim Go.Proofs.Try
attribute [local irreducible] vwp vops vstep vdr vdr1 CallP PPost SWv gdO gdD cdO optV optW optD thenV blockV behind callO callW callvO roundV
set_option linter.unusedSimpArgs false
set_option linter.unusedVariables false
/- (loop.example/limner/impl.Doc).textAt -/
def vc88 : VCode :=
(.seq (.reg [⟨(some 2), (.box (.tmp 0)), none⟩, ⟨(some 3), (.box (.tmp 1)), none⟩, ⟨(some 4), (.mov (.const (.pointer none))), none⟩])
(.seq (.seq (.reg [⟨(some 6), (.fad 0 (.tmp 3)), none⟩, ⟨(some 7), (.load false 1 (.tmp 6)), none⟩, ⟨(some 8), (.fad 0 (.tmp 2)), none⟩, ⟨(some 9), (.load false 1 (.tmp 8)), none⟩, ⟨(some 10), (.len false (.tmp 9)), none⟩, ⟨(some 11), (.bin .sub .no (.tmp 10) (.const (.int .i64 1))), none⟩, ⟨(some 12), (.call 113 [(.tmp 7), (.const (.int .i64 0)), (.tmp 11)]), none⟩, ⟨(some 13), (.un .not (.tmp 12)), none⟩])
(.cond (.tmp 13) (.seq (.reg [⟨(some 4), (.mov (.const (.pointer none))), none⟩])
 .ret)
 .skip))
(.seq (.reg [⟨(some 14), (.fad 0 (.tmp 2)), none⟩, ⟨(some 15), (.load false 1 (.tmp 14)), none⟩, ⟨(some 16), (.fad 0 (.tmp 3)), none⟩, ⟨(some 17), (.load false 1 (.tmp 16)), none⟩, ⟨(some 18), (.iad 6 (.tmp 15) (.tmp 17)), none⟩, ⟨(some 5), (.mov (.tmp 18)), none⟩])
(.seq (.seq (.reg [⟨(some 19), (.mov (.tmp 5)), none⟩, ⟨(some 20), (.nilc (.tmp 19)), none⟩, ⟨(some 21), (.fad 0 (.tmp 20)), none⟩, ⟨(some 22), (.load false 1 (.tmp 21)), none⟩, ⟨(some 23), (.bin .neq .no (.tmp 22) (.const (.int .i64 3))), none⟩])
(.cond (.tmp 23) (.seq (.seq (.reg [⟨(some 24), (.fad 1 (.tmp 3)), none⟩, ⟨(some 25), (.load false 1 (.tmp 24)), none⟩, ⟨(some 26), (.bin .neq .no (.tmp 25) (.const (.int .i64 0))), none⟩])
 (.cond (.tmp 26) (.seq (.reg [⟨(some 4), (.mov (.const (.pointer none))), none⟩])
  .ret)
  .skip))
 (.seq (.reg [⟨(some 27), (.mov (.tmp 5)), none⟩, ⟨(some 28), (.nilc (.tmp 27)), none⟩, ⟨(some 29), (.fad 2 (.tmp 28)), none⟩, ⟨(some 4), (.mov (.tmp 29)), none⟩])
 .ret))
 .skip))
(.seq (.seq (.drw [(⟨(some 30), (.fad 1 (.tmp 3)), none⟩, []), (⟨(some 31), (.load false 1 (.tmp 30)), none⟩, []), (⟨(some 32), (.mov (.tmp 5)), none⟩, []), (⟨(some 33), (.nilc (.tmp 32)), none⟩, []), (⟨(some 34), (.fad 3 (.tmp 33)), none⟩, []), (⟨(some 35), (.fad 2 (.tmp 34)), none⟩, []), (⟨(some 36), (.load false 1 (.tmp 35)), none⟩, [1]), (⟨(some 37), (.len false (.tmp 36)), none⟩, []), (⟨(some 38), (.bin .sub .no (.tmp 37) (.const (.int .i64 1))), none⟩, []), (⟨(some 39), (.call 113 [(.tmp 31), (.const (.int .i64 0)), (.tmp 38)]), none⟩, []), (⟨(some 40), (.un .not (.tmp 39)), none⟩, [])])
(.cond (.tmp 40) (.seq (.reg [⟨(some 4), (.mov (.const (.pointer none))), none⟩])
 .ret)
 .skip))
(.seq (.drw [(⟨(some 41), (.mov (.tmp 5)), none⟩, []), (⟨(some 42), (.nilc (.tmp 41)), none⟩, []), (⟨(some 43), (.fad 3 (.tmp 42)), none⟩, []), (⟨(some 44), (.fad 2 (.tmp 43)), none⟩, []), (⟨(some 45), (.load false 1 (.tmp 44)), none⟩, []), (⟨(some 46), (.fad 1 (.tmp 3)), none⟩, []), (⟨(some 47), (.load false 1 (.tmp 46)), none⟩, [4]), (⟨(some 48), (.iad 5 (.tmp 45) (.tmp 47)), none⟩, []), (⟨(some 49), (.fad 4 (.tmp 48)), none⟩, []), (⟨(some 4), (.mov (.tmp 49)), none⟩, [])])
.ret))))))
theorem k88 : compFn prog 88 = some (50, vc88, [.t 4]) := by kernel_rfl
/- loop.example/limner/impl.PlaceOk -/
def vc62 : VCode :=
(.seq (.reg [⟨(some 2), (.box (.tmp 0)), none⟩, ⟨(some 3), (.box (.tmp 1)), none⟩, ⟨(some 4), (.mov (.const (.bool false))), none⟩])
(.seq (.seq (.reg [⟨(some 6), (.load true 1 (.tmp 2)), none⟩, ⟨(some 7), (.call 72 [(.tmp 6)]), none⟩, ⟨(some 8), (.un .not (.tmp 7)), none⟩])
(.cond (.tmp 8) (.seq (.reg [⟨(some 4), (.mov (.const (.bool false))), none⟩])
 .ret)
 .skip))
(.seq (.reg [⟨(some 9), (.load true 1 (.tmp 2)), none⟩, ⟨(some 10), (.load true 3 (.tmp 3)), none⟩, ⟨(some 11), (.call 88 [(.tmp 9), (.tmp 10)]), none⟩, ⟨(some 5), (.mov (.tmp 11)), none⟩])
(.seq (.drw [(⟨(some 12), (.mov (.tmp 5)), none⟩, []), (⟨(some 13), (.bin .neq .ptr (.tmp 12) (.const (.pointer none))), none⟩, []), (⟨(some 14), (.mov (.tmp 13)), none⟩, []), (⟨(some 15), (.fad 2 (.tmp 3)), (some (14, true))⟩, []), (⟨(some 16), (.load false 1 (.tmp 15)), (some (14, true))⟩, []), (⟨(some 17), (.mov (.tmp 5)), (some (14, true))⟩, []), (⟨(some 18), (.nilc (.tmp 17)), (some (14, true))⟩, []), (⟨(some 19), (.load false 1 (.tmp 18)), (some (14, true))⟩, [4]), (⟨(some 20), (.len false (.tmp 19)), (some (14, true))⟩, []), (⟨(some 21), (.call 113 [(.tmp 16), (.const (.int .i64 0)), (.tmp 20)]), (some (14, true))⟩, []), (⟨(some 22), (.pick (.tmp 14) (.tmp 21) (.const (.bool false))), none⟩, []), (⟨(some 4), (.mov (.tmp 22)), none⟩, [])])
.ret))))
theorem k62 : compFn prog 62 = some (23, vc62, [.t 4]) := by kernel_rfl
theorem c88_no (d : Doc) (p : Spot) (hs : docSm d) (h : (within p.block 0 (IntKind.i64.wrap ((d.length : Int) - 1)) && cellIn (blkAt d p) p.cell) = false) : PureC prog 88 [.agg [encB d], .agg p.enc] (.sc (.pointer none)) := by
  cases h2 : within p.block 0 (IntKind.i64.wrap ((d.length : Int) - 1)) with
  | false =>
    unfold encB Spot.enc
    clear h
    refine pureC_of k88 (by first | rfl | simp [VV.cloL, VV.clo, *]) (by first | rfl | simp [VV.cloL, VV.clo, *]) (by simp) ?_
    intro X hP hm hH hn hX
    refine vwp_ok _ ?_
    unfold vc88
    repeat' (first
      | simp only [go_sem, reduceCtorEq, reduceIte, Nat.reduceAdd, Nat.reduceEqDiff, Nat.reduceLeDiff, Nat.reduceMul, *]
      | refine gdO_bool' _ (fun _ => ?_) (fun _ => ?_)
      | refine gdO_bool _ (fun _ => ?_) (fun _ => ?_)
      | refine gdD_bool' _ (fun _ => ?_) (fun _ => ?_)
      | refine gdD_bool _ (fun _ => ?_) (fun _ => ?_)
      | refine cdO_bool' _ (fun _ => ?_) (fun _ => ?_)
      | refine cdO_bool _ (fun _ => ?_) (fun _ => ?_)
      | refine callO.pure (by first | exact c113 _ _ _) ?_
      | refine callW.pure (by first | exact c113 _ _ _) ?_
      | refine ⟨by decide, ?_⟩
      | refine ppost_t (by simp) rfl ?_)
  | true =>
    rw [h2, Bool.true_and] at h
    obtain ⟨i, hi, hlt⟩ := within_idx (by have := hs.1; omega) h2
    have ebk : blkAt d p = d[i] := by rw [blkAt, hi, Int.toNat_natCast, getD_eq hlt]
    rw [ebk] at h
    have g2 : (0 : Int) ≤ (i : Int) := by omega
    have g3 : (i : Int) < (d.length : Int) := by omega
    have g4 : (d.map Block.enc).getD i [] = (d[i]).enc := getD_map hlt
    rw [hi] at h2
    generalize d[i] = b at *
    have eb : b.enc = [.sc (.int .i64 b.kind), .sc (.int .i64 b.level), .sl 3 (b.text.map Sign.enc), .sc (.int .i64 b.table.rows), .sc (.int .i64 b.table.cols), .sl 5 (b.table.cells.map Cell.enc)] := rfl
    unfold encB Spot.enc
    clear hs ebk
    cases hk : b.kind == 3 with
    | false =>
      simp only [cellIn, hk, Bool.false_eq_true, if_false] at h
      refine pureC_of k88 (by first | rfl | simp [VV.cloL, VV.clo, *]) (by first | rfl | simp [VV.cloL, VV.clo, *]) (by simp) ?_
      intro X hP hm hH hn hX
      refine vwp_ok _ ?_
      unfold vc88
      repeat' (first
        | simp only [go_sem, reduceCtorEq, reduceIte, Nat.reduceAdd, Nat.reduceEqDiff, Nat.reduceLeDiff, Nat.reduceMul, *]
        | refine gdO_bool' _ (fun _ => ?_) (fun _ => ?_)
        | refine gdO_bool _ (fun _ => ?_) (fun _ => ?_)
        | refine gdD_bool' _ (fun _ => ?_) (fun _ => ?_)
        | refine gdD_bool _ (fun _ => ?_) (fun _ => ?_)
        | refine cdO_bool' _ (fun _ => ?_) (fun _ => ?_)
        | refine cdO_bool _ (fun _ => ?_) (fun _ => ?_)
        | refine callO.pure (by first | exact c113 _ _ _) ?_
        | refine callW.pure (by first | exact c113 _ _ _) ?_
        | refine ⟨by decide, ?_⟩
        | refine ppost_t (by simp) rfl ?_)
    | true =>
      simp only [cellIn, hk, if_true] at h
      refine pureC_of k88 (by first | rfl | simp [VV.cloL, VV.clo, *]) (by first | rfl | simp [VV.cloL, VV.clo, *]) (by simp) ?_
      intro X hP hm hH hn hX
      refine vwp_ok _ ?_
      unfold vc88
      repeat' (first
        | simp only [go_sem, reduceCtorEq, reduceIte, Nat.reduceAdd, Nat.reduceEqDiff, Nat.reduceLeDiff, Nat.reduceMul, *]
        | refine gdO_bool' _ (fun _ => ?_) (fun _ => ?_)
        | refine gdO_bool _ (fun _ => ?_) (fun _ => ?_)
        | refine gdD_bool' _ (fun _ => ?_) (fun _ => ?_)
        | refine gdD_bool _ (fun _ => ?_) (fun _ => ?_)
        | refine cdO_bool' _ (fun _ => ?_) (fun _ => ?_)
        | refine cdO_bool _ (fun _ => ?_) (fun _ => ?_)
        | refine callO.pure (by first | exact c113 _ _ _) ?_
        | refine callW.pure (by first | exact c113 _ _ _) ?_
        | refine ⟨by decide, ?_⟩
        | refine ppost_t (by simp) rfl ?_)
theorem c88 (d : Doc) (p : Spot) (hs : docSm d) (h : (within p.block 0 (IntKind.i64.wrap ((d.length : Int) - 1)) && cellIn (blkAt d p) p.cell) = true) : ∃ rest, VV.cloL rest = true ∧ PureC prog 88 [.agg [encB d], .agg p.enc] (.pd (encT (textAtB (blkAt d p) p.cell) :: rest)) := by
  rw [Bool.and_eq_true] at h
  obtain ⟨h2, h⟩ := h
  obtain ⟨i, hi, hlt⟩ := within_idx (by have := hs.1; omega) h2
  have ebk : blkAt d p = d[i] := by rw [blkAt, hi, Int.toNat_natCast, getD_eq hlt]
  rw [ebk] at h ⊢
  have g2 : (0 : Int) ≤ (i : Int) := by omega
  have g3 : (i : Int) < (d.length : Int) := by omega
  have g4 : (d.map Block.enc).getD i [] = (d[i]).enc := getD_map hlt
  have hsb := hs.2 d[i] (List.getElem_mem hlt)
  rw [hi] at h2
  generalize d[i] = b at *
  have eb : b.enc = [.sc (.int .i64 b.kind), .sc (.int .i64 b.level), .sl 3 (b.text.map Sign.enc), .sc (.int .i64 b.table.rows), .sc (.int .i64 b.table.cols), .sl 5 (b.table.cells.map Cell.enc)] := rfl
  unfold encB Spot.enc encT
  clear hs ebk
  cases hk : b.kind == 3 with
  | false =>
    simp only [cellIn, hk, Bool.false_eq_true, if_false] at h
    have e : textAtB b p.cell = b.text := by simp only [textAtB, hk, Bool.false_eq_true, if_false]
    rw [e]
    clear e hsb
    refine ⟨[.sc (.int .i64 b.table.rows), .sc (.int .i64 b.table.cols), .sl 5 (b.table.cells.map Cell.enc)], rfl, ?_⟩
    refine pureC_of k88 (by first | rfl | simp [VV.cloL, VV.clo, *]) (by first | rfl | simp [VV.cloL, VV.clo, *]) (by simp) ?_
    intro X hP hm hH hn hX
    refine vwp_ok _ ?_
    unfold vc88
    repeat' (first
      | simp only [go_sem, reduceCtorEq, reduceIte, Nat.reduceAdd, Nat.reduceEqDiff, Nat.reduceLeDiff, Nat.reduceMul, *]
      | refine gdO_bool' _ (fun _ => ?_) (fun _ => ?_)
      | refine gdO_bool _ (fun _ => ?_) (fun _ => ?_)
      | refine gdD_bool' _ (fun _ => ?_) (fun _ => ?_)
      | refine gdD_bool _ (fun _ => ?_) (fun _ => ?_)
      | refine cdO_bool' _ (fun _ => ?_) (fun _ => ?_)
      | refine cdO_bool _ (fun _ => ?_) (fun _ => ?_)
      | refine callO.pure (by first | exact c113 _ _ _) ?_
      | refine callW.pure (by first | exact c113 _ _ _) ?_
      | refine ⟨by decide, ?_⟩
      | refine ppost_t (by simp) rfl ?_)
  | true =>
    simp only [cellIn, hk, if_true] at h
    obtain ⟨j, hj, hjl⟩ := within_idx (by have := hsb.2.1; omega) h
    have e : textAtB b p.cell = (b.table.cells[j]).text := by simp only [textAtB, hk, if_true, hj, Int.toNat_natCast, getD_eq hjl]
    have k4 : (b.table.cells.map Cell.enc).getD j [] = (b.table.cells[j]).enc := getD_map hjl
    have k2 : (0 : Int) ≤ (j : Int) := by omega
    have k3 : (j : Int) < (b.table.cells.length : Int) := by omega
    rw [e]
    rw [hj] at h
    generalize b.table.cells[j] = c at *
    have ec : c.enc = [.sc (.int .i64 c.row), .sc (.int .i64 c.col), .sc (.int .i64 c.down), .sc (.int .i64 c.right), .sl 3 (c.text.map Sign.enc)] := rfl
    clear e hsb
    refine ⟨[], rfl, ?_⟩
    refine pureC_of k88 (by first | rfl | simp [VV.cloL, VV.clo, *]) (by first | rfl | simp [VV.cloL, VV.clo, *]) (by simp) ?_
    intro X hP hm hH hn hX
    refine vwp_ok _ ?_
    unfold vc88
    repeat' (first
      | simp only [go_sem, reduceCtorEq, reduceIte, Nat.reduceAdd, Nat.reduceEqDiff, Nat.reduceLeDiff, Nat.reduceMul, *]
      | refine gdO_bool' _ (fun _ => ?_) (fun _ => ?_)
      | refine gdO_bool _ (fun _ => ?_) (fun _ => ?_)
      | refine gdD_bool' _ (fun _ => ?_) (fun _ => ?_)
      | refine gdD_bool _ (fun _ => ?_) (fun _ => ?_)
      | refine cdO_bool' _ (fun _ => ?_) (fun _ => ?_)
      | refine cdO_bool _ (fun _ => ?_) (fun _ => ?_)
      | refine callO.pure (by first | exact c113 _ _ _) ?_
      | refine callW.pure (by first | exact c113 _ _ _) ?_
      | refine ⟨by decide, ?_⟩
      | refine ppost_t (by simp) rfl ?_)
theorem c62 (d : Doc) (p : Spot) (hs : docSm d) : PureC prog 62 [.agg [encB d], .agg p.enc] (.sc (.bool (placeOk docOkI d p))) := by
  have h72 := c72 d hs
  have e : placeOk docOkI d p = (docOkI d && (within p.block 0 (IntKind.i64.wrap ((d.length : Int) - 1)) && cellIn (blkAt d p) p.cell) && within p.pos 0 ((textAtB (blkAt d p) p.cell).length : Int)) := by
    rw [placeOk]; simp only [Bool.and_assoc]
  rw [e]
  cases hb : docOkI d with
  | false =>
    rw [hb] at h72
    clear e hb
    unfold Spot.enc encB at *
    refine pureC_of k62 (by first | rfl | simp [VV.cloL, VV.clo, *]) (by first | rfl | simp [VV.cloL, VV.clo, *]) (by simp) ?_
    intro X hP hm hH hn hX
    refine vwp_ok _ ?_
    unfold vc62
    repeat' (first
      | simp only [go_sem, reduceCtorEq, reduceIte, Nat.reduceAdd, Nat.reduceEqDiff, Nat.reduceLeDiff, Nat.reduceMul, *]
      | refine gdO_bool' _ (fun _ => ?_) (fun _ => ?_)
      | refine gdO_bool _ (fun _ => ?_) (fun _ => ?_)
      | refine gdD_bool' _ (fun _ => ?_) (fun _ => ?_)
      | refine gdD_bool _ (fun _ => ?_) (fun _ => ?_)
      | refine cdO_bool' _ (fun _ => ?_) (fun _ => ?_)
      | refine cdO_bool _ (fun _ => ?_) (fun _ => ?_)
      | refine callO.pure (by first | exact h72) ?_
      | refine callW.pure (by first | exact h72) ?_
      | refine ⟨by decide, ?_⟩
      | refine ppost_t (by simp) rfl ?_)
    all_goals simp only [Bool.false_and]
  | true =>
    rw [hb] at h72
    cases hq : (within p.block 0 (IntKind.i64.wrap ((d.length : Int) - 1)) && cellIn (blkAt d p) p.cell) with
    | false =>
      have h88 := c88_no d p hs hq
      clear e hb hq
      unfold Spot.enc encB at *
      refine pureC_of k62 (by first | rfl | simp [VV.cloL, VV.clo, *]) (by first | rfl | simp [VV.cloL, VV.clo, *]) (by simp) ?_
      intro X hP hm hH hn hX
      refine vwp_ok _ ?_
      unfold vc62
      repeat' (first
        | simp only [go_sem, reduceCtorEq, reduceIte, Nat.reduceAdd, Nat.reduceEqDiff, Nat.reduceLeDiff, Nat.reduceMul, isNilP, neg, Option.bind_some, *]
        | refine gdO_bool' _ (fun _ => ?_) (fun _ => ?_)
        | refine gdO_bool _ (fun _ => ?_) (fun _ => ?_)
        | refine gdD_bool' _ (fun _ => ?_) (fun _ => ?_)
        | refine gdD_bool _ (fun _ => ?_) (fun _ => ?_)
        | refine cdO_bool' _ (fun _ => ?_) (fun _ => ?_)
        | refine cdO_bool _ (fun _ => ?_) (fun _ => ?_)
        | refine callO.pure (by first | exact h72 | exact h88) ?_
        | refine callW.pure (by first | exact h72 | exact h88) ?_
        | refine ⟨by decide, ?_⟩
        | refine ppost_t (by simp) rfl ?_)
    | true =>
      obtain ⟨rest, hr, h88⟩ := c88 d p hs hq
      clear e hb hq
      generalize textAtB (blkAt d p) p.cell = tx at *
      unfold Spot.enc encB encT at *
      refine pureC_of k62 (by first | rfl | simp [VV.cloL, VV.clo, *]) (by first | rfl | simp [VV.cloL, VV.clo, *]) (by simp) ?_
      intro X hP hm hH hn hX
      refine vwp_ok _ ?_
      unfold vc62
      repeat' (first
        | simp only [go_sem, reduceCtorEq, reduceIte, Nat.reduceAdd, Nat.reduceEqDiff, Nat.reduceLeDiff, Nat.reduceMul, isNilP, neg, Option.bind_some, *]
        | refine gdO_bool' _ (fun _ => ?_) (fun _ => ?_)
        | refine gdO_bool _ (fun _ => ?_) (fun _ => ?_)
        | refine gdD_bool' _ (fun _ => ?_) (fun _ => ?_)
        | refine gdD_bool _ (fun _ => ?_) (fun _ => ?_)
        | refine cdO_bool' _ (fun _ => ?_) (fun _ => ?_)
        | refine cdO_bool _ (fun _ => ?_) (fun _ => ?_)
        | refine callO.pure (by first | exact h72 | exact h88 | exact c113 _ _ _) ?_
        | refine callW.pure (by first | exact h72 | exact h88 | exact c113 _ _ _) ?_
        | refine ⟨by decide, ?_⟩
        | refine ppost_t (by simp) rfl ?_)
end Go.Proofs.Ytdmmhainianadaa

/- F13: places' texts; what is there now, and was. -/
namespace Go.Proofs.Ytdmmhainianadaa
open Go.VM Go.Lim Go.Proofs.Try
attribute [local irreducible] vwp vops vstep vdr vdr1 CallP PPost SWv gdO gdD cdO optV optW optD thenV blockV behind callO callW callvO roundV
set_option linter.unusedSimpArgs false
set_option linter.unusedVariables false
/- loop.example/limner/spec.PlaceText -/
def vc86 : VCode :=
(.seq (.reg [⟨(some 2), (.box (.tmp 0)), none⟩, ⟨(some 3), (.box (.tmp 1)), none⟩, ⟨(some 4), (.mov (.const (.slice none 0 0))), none⟩])
(.seq (.seq (.reg [⟨(some 5), (.load true 1 (.tmp 2)), none⟩, ⟨(some 6), (.load true 3 (.tmp 3)), none⟩, ⟨(some 7), (.call 41 [(.tmp 5), (.tmp 6)]), none⟩, ⟨(some 8), (.un .not (.tmp 7)), none⟩])
(.cond (.tmp 8) (.seq (.reg [⟨(some 9), (.bslice 3 0 [(.int .u8 0), (.int .i64 0), (.int .i64 0)] []), none⟩, ⟨(some 4), (.mov (.tmp 9)), none⟩])
 .ret)
 .skip))
(.seq (.drw [(⟨(some 10), (.bslice 3 0 [(.int .u8 0), (.int .i64 0), (.int .i64 0)] []), none⟩, []), (⟨(some 11), (.fad 0 (.tmp 2)), none⟩, []), (⟨(some 12), (.load false 1 (.tmp 11)), none⟩, [0]), (⟨(some 13), (.fad 0 (.tmp 3)), none⟩, []), (⟨(some 14), (.load false 1 (.tmp 13)), none⟩, [0, 2]), (⟨(some 15), (.iad 6 (.tmp 12) (.tmp 14)), none⟩, []), (⟨(some 16), (.load true 6 (.tmp 15)), none⟩, [0]), (⟨(some 17), (.fad 1 (.tmp 3)), none⟩, []), (⟨(some 18), (.load false 1 (.tmp 17)), none⟩, [0, 2, 4, 6]), (⟨(some 19), (.call 95 [(.tmp 16), (.tmp 18)]), none⟩, [0]), (⟨(some 20), (.app 3 24 (.tmp 10) (.tmp 19)), none⟩, []), (⟨(some 4), (.mov (.tmp 20)), none⟩, [])])
.ret)))
theorem k86 : compFn prog 86 = some (21, vc86, [.t 4]) := by kernel_rfl
/- loop.example/limner/spec.SpotWas -/
def vc38 : VCode :=
(.seq (.reg [⟨(some 2), (.box (.tmp 0)), none⟩, ⟨(some 3), (.box (.tmp 1)), none⟩, ⟨(some 4), (.new [(.int .i64 0), (.int .i64 0), (.int .i64 0)]), none⟩])
(.seq (.seq (.reg [⟨(some 5), (.load true 1 (.tmp 2)), none⟩, ⟨(some 6), (.load true 3 (.tmp 3)), none⟩, ⟨(some 7), (.call 41 [(.tmp 5), (.tmp 6)]), none⟩, ⟨(some 8), (.un .not (.tmp 7)), none⟩])
(.cond (.tmp 8) (.seq (.reg [⟨(some 9), (.build [(.int .i64 0), (.int .i64 0), (.int .i64 0)] []), none⟩, ⟨none, (.store 3 (.tmp 4) (.tmp 9)), none⟩])
 .ret)
 .skip))
(.seq (.drw [(⟨(some 10), (.fad 0 (.tmp 3)), none⟩, []), (⟨(some 11), (.load false 1 (.tmp 10)), none⟩, []), (⟨(some 12), (.fad 1 (.tmp 3)), none⟩, []), (⟨(some 13), (.load false 1 (.tmp 12)), none⟩, [1]), (⟨(some 14), (.load true 1 (.tmp 2)), none⟩, [1, 3]), (⟨(some 15), (.load true 3 (.tmp 3)), none⟩, [1, 3, 4]), (⟨(some 16), (.call 86 [(.tmp 14), (.tmp 15)]), none⟩, [1, 3]), (⟨(some 17), (.fad 2 (.tmp 3)), none⟩, []), (⟨(some 18), (.load false 1 (.tmp 17)), none⟩, [1, 3, 4, 5, 6]), (⟨(some 19), (.slice 3 (.tmp 16) none (some (.tmp 18))), none⟩, []), (⟨(some 20), (.call 90 [(.tmp 19)]), none⟩, [1, 3]), (⟨(some 21), (.len true (.tmp 20)), none⟩, []), (⟨(some 22), (.build [(.int .i64 0), (.int .i64 0), (.int .i64 0)] [(0, 1, (.tmp 11)), (1, 1, (.tmp 13)), (2, 1, (.tmp 21))]), none⟩, []), (⟨none, (.store 3 (.tmp 4) (.tmp 22)), none⟩, [])])
.ret)))
theorem k38 : compFn prog 38 = some (23, vc38, [.c 4 true 3]) := by kernel_rfl
/- loop.example/limner/spec.SpotNow -/
def vc32 : VCode :=
(.seq (.reg [⟨(some 2), (.box (.tmp 0)), none⟩, ⟨(some 3), (.box (.tmp 1)), none⟩, ⟨(some 4), (.new [(.int .i64 0), (.int .i64 0), (.int .i64 0)]), none⟩])
(.seq (.seq (.reg [⟨(some 5), (.load true 1 (.tmp 2)), none⟩, ⟨(some 6), (.load true 3 (.tmp 3)), none⟩, ⟨(some 7), (.call 41 [(.tmp 5), (.tmp 6)]), none⟩, ⟨(some 8), (.un .not (.tmp 7)), none⟩])
(.cond (.tmp 8) (.seq (.reg [⟨(some 9), (.build [(.int .i64 0), (.int .i64 0), (.int .i64 0)] []), none⟩, ⟨none, (.store 3 (.tmp 4) (.tmp 9)), none⟩])
 .ret)
 .skip))
(.seq (.drw [(⟨(some 10), (.fad 0 (.tmp 3)), none⟩, []), (⟨(some 11), (.load false 1 (.tmp 10)), none⟩, []), (⟨(some 12), (.fad 1 (.tmp 3)), none⟩, []), (⟨(some 13), (.load false 1 (.tmp 12)), none⟩, [1]), (⟨(some 14), (.load true 1 (.tmp 2)), none⟩, [1, 3]), (⟨(some 15), (.load true 3 (.tmp 3)), none⟩, [1, 3, 4]), (⟨(some 16), (.call 86 [(.tmp 14), (.tmp 15)]), none⟩, [1, 3]), (⟨(some 17), (.fad 2 (.tmp 3)), none⟩, []), (⟨(some 18), (.load false 1 (.tmp 17)), none⟩, [1, 3, 4, 5, 6]), (⟨(some 19), (.slice 3 (.tmp 16) none (some (.tmp 18))), none⟩, []), (⟨(some 20), (.call 85 [(.tmp 19)]), none⟩, [1, 3]), (⟨(some 21), (.len true (.tmp 20)), none⟩, []), (⟨(some 22), (.build [(.int .i64 0), (.int .i64 0), (.int .i64 0)] [(0, 1, (.tmp 11)), (1, 1, (.tmp 13)), (2, 1, (.tmp 21))]), none⟩, []), (⟨none, (.store 3 (.tmp 4) (.tmp 22)), none⟩, [])])
.ret)))
theorem k32 : compFn prog 32 = some (23, vc32, [.c 4 true 3]) := by kernel_rfl
/- loop.example/limner/impl.SpotWas -/
def vc39 : VCode :=
(.seq (.reg [⟨(some 2), (.box (.tmp 0)), none⟩, ⟨(some 3), (.box (.tmp 1)), none⟩, ⟨(some 4), (.new [(.int .i64 0), (.int .i64 0), (.int .i64 0)]), none⟩])
(.seq (.seq (.reg [⟨(some 5), (.load true 1 (.tmp 2)), none⟩, ⟨(some 6), (.load true 3 (.tmp 3)), none⟩, ⟨(some 7), (.call 62 [(.tmp 5), (.tmp 6)]), none⟩, ⟨(some 8), (.un .not (.tmp 7)), none⟩])
(.cond (.tmp 8) (.seq (.reg [⟨(some 9), (.build [(.int .i64 0), (.int .i64 0), (.int .i64 0)] []), none⟩, ⟨none, (.store 3 (.tmp 4) (.tmp 9)), none⟩])
 .ret)
 .skip))
(.seq (.drw [(⟨(some 10), (.fad 0 (.tmp 3)), none⟩, []), (⟨(some 11), (.load false 1 (.tmp 10)), none⟩, []), (⟨(some 12), (.fad 1 (.tmp 3)), none⟩, []), (⟨(some 13), (.load false 1 (.tmp 12)), none⟩, [1]), (⟨(some 14), (.load true 1 (.tmp 2)), none⟩, [1, 3]), (⟨(some 15), (.load true 3 (.tmp 3)), none⟩, [1, 3, 4]), (⟨(some 16), (.call 88 [(.tmp 14), (.tmp 15)]), none⟩, [1, 3]), (⟨(some 17), (.nilc (.tmp 16)), none⟩, []), (⟨(some 18), (.load false 1 (.tmp 17)), none⟩, [1, 3]), (⟨(some 19), (.fad 2 (.tmp 3)), none⟩, []), (⟨(some 20), (.load false 1 (.tmp 19)), none⟩, [1, 3, 4, 5, 6, 8]), (⟨(some 21), (.slice 3 (.tmp 18) none (some (.tmp 20))), none⟩, []), (⟨(some 22), (.call 91 [(.tmp 21)]), none⟩, [1, 3]), (⟨(some 23), (.len true (.tmp 22)), none⟩, []), (⟨(some 24), (.build [(.int .i64 0), (.int .i64 0), (.int .i64 0)] [(0, 1, (.tmp 11)), (1, 1, (.tmp 13)), (2, 1, (.tmp 23))]), none⟩, []), (⟨none, (.store 3 (.tmp 4) (.tmp 24)), none⟩, [])])
.ret)))
theorem k39 : compFn prog 39 = some (25, vc39, [.c 4 true 3]) := by kernel_rfl
/- loop.example/limner/impl.SpotNow -/
def vc35 : VCode :=
(.seq (.reg [⟨(some 2), (.box (.tmp 0)), none⟩, ⟨(some 3), (.box (.tmp 1)), none⟩, ⟨(some 4), (.new [(.int .i64 0), (.int .i64 0), (.int .i64 0)]), none⟩])
(.seq (.seq (.reg [⟨(some 5), (.load true 1 (.tmp 2)), none⟩, ⟨(some 6), (.load true 3 (.tmp 3)), none⟩, ⟨(some 7), (.call 62 [(.tmp 5), (.tmp 6)]), none⟩, ⟨(some 8), (.un .not (.tmp 7)), none⟩])
(.cond (.tmp 8) (.seq (.reg [⟨(some 9), (.build [(.int .i64 0), (.int .i64 0), (.int .i64 0)] []), none⟩, ⟨none, (.store 3 (.tmp 4) (.tmp 9)), none⟩])
 .ret)
 .skip))
(.seq (.drw [(⟨(some 10), (.fad 0 (.tmp 3)), none⟩, []), (⟨(some 11), (.load false 1 (.tmp 10)), none⟩, []), (⟨(some 12), (.fad 1 (.tmp 3)), none⟩, []), (⟨(some 13), (.load false 1 (.tmp 12)), none⟩, [1]), (⟨(some 14), (.load true 1 (.tmp 2)), none⟩, [1, 3]), (⟨(some 15), (.load true 3 (.tmp 3)), none⟩, [1, 3, 4]), (⟨(some 16), (.call 88 [(.tmp 14), (.tmp 15)]), none⟩, [1, 3]), (⟨(some 17), (.nilc (.tmp 16)), none⟩, []), (⟨(some 18), (.load false 1 (.tmp 17)), none⟩, [1, 3]), (⟨(some 19), (.fad 2 (.tmp 3)), none⟩, []), (⟨(some 20), (.load false 1 (.tmp 19)), none⟩, [1, 3, 4, 5, 6, 8]), (⟨(some 21), (.slice 3 (.tmp 18) none (some (.tmp 20))), none⟩, []), (⟨(some 22), (.call 78 [(.tmp 21)]), none⟩, [1, 3]), (⟨(some 23), (.len true (.tmp 22)), none⟩, []), (⟨(some 24), (.build [(.int .i64 0), (.int .i64 0), (.int .i64 0)] [(0, 1, (.tmp 11)), (1, 1, (.tmp 13)), (2, 1, (.tmp 23))]), none⟩, []), (⟨none, (.store 3 (.tmp 4) (.tmp 24)), none⟩, [])])
.ret)))
theorem k35 : compFn prog 35 = some (25, vc35, [.c 4 true 3]) := by kernel_rfl
theorem blk_text {b : Block} {cell : Int} (h : blockOk tableOk b = true) (hc : (b.kind == 3) = true → 0 ≤ cell ∧ cell < b.table.cells.length) : textOk (textAtB b cell) = true := by
  cases hk : b.kind == 3 with
  | true =>
    obtain ⟨h0, h1⟩ := hc hk
    have e1 : (b.kind == 1) = false := by simp at hk ⊢; omega
    have e2 : (b.kind == 2) = false := by simp at hk ⊢; omega
    simp only [blockOk, e1, e2, hk, Bool.false_eq_true, if_false, if_true, Bool.and_eq_true, tableOk, form, List.all_eq_true, List.mem_range] at h
    have := h.2.1.2 cell.toNat (by omega)
    simp only [okAt, Bool.and_eq_true, cellW] at this
    simp only [textAtB, hk, if_true]
    exact this.1.2
  | false =>
    simp only [textAtB, hk, Bool.false_eq_true, if_false]
    simp only [blockOk, hk, Bool.false_eq_true, if_false] at h
    split at h
    · simp only [Bool.and_eq_true] at h; exact h.1.2
    · split at h
      · simp only [Bool.and_eq_true] at h; exact h.1.2
      · simp at h
theorem textOk_len {l : Text} (h : textOk l = true) : l.length ≤ 24 := by
  simp only [textOk, Bool.and_eq_true, decide_eq_true_eq] at h; exact h.1
theorem c86 (d : Doc) (p : Spot) : PureC prog 86 [.agg [encB d], .agg p.enc] (encT (if placeOk docOk d p = true then textAtB (blkAt d p) p.cell else [])) := by
  have h41 := c41 d p
  cases hb : placeOk docOk d p with
  | false =>
    rw [hb] at h41
    clear hb
    unfold Spot.enc encB encT at *
    refine pureC_of k86 (by first | rfl | simp [VV.cloL, VV.clo, *]) (by first | rfl | simp [VV.cloL, VV.clo, *]) (by simp) ?_
    intro X hP hm hH hn hX
    refine vwp_ok _ ?_
    unfold vc86
    repeat' (first
      | simp only [go_sem, reduceCtorEq, reduceIte, Nat.reduceAdd, Nat.reduceEqDiff, Nat.reduceLeDiff, Nat.reduceMul, *]
      | refine gdO_bool' _ (fun _ => ?_) (fun _ => ?_)
      | refine gdO_bool _ (fun _ => ?_) (fun _ => ?_)
      | refine gdD_bool' _ (fun _ => ?_) (fun _ => ?_)
      | refine gdD_bool _ (fun _ => ?_) (fun _ => ?_)
      | refine cdO_bool' _ (fun _ => ?_) (fun _ => ?_)
      | refine cdO_bool _ (fun _ => ?_) (fun _ => ?_)
      | refine callO.pure (by first | exact h41) ?_
      | refine callW.pure (by first | exact h41) ?_
      | refine ⟨by decide, ?_⟩
      | fail)
    refine ppost_rf (cs := []) (by simp) (by simp only [go_sem, reduceCtorEq, reduceIte, Nat.reduceAdd, Nat.reduceEqDiff, Nat.reduceLeDiff, Nat.reduceMul]; rfl) (by simp only [go_sem, reduceCtorEq, reduceIte, Nat.reduceAdd, Nat.reduceEqDiff, Nat.reduceLeDiff, Nat.reduceMul]) rfl rfl (by simp) rfl
  | true =>
    rw [hb] at h41
    have hb' := hb
    simp only [placeOk, Bool.and_eq_true] at hb'
    obtain ⟨⟨⟨h1, h2⟩, h3⟩, h4⟩ := hb'
    have hl := docOk_len h1
    obtain ⟨i, hi, hlt⟩ := within_idx (by omega) h2
    have ebk : blkAt d p = d[i] := by rw [blkAt, hi, Int.toNat_natCast, getD_eq hlt]
    have hok := docOk_blk h1 hlt
    rw [ebk] at h3 ⊢
    have hcell : (d[i].kind == 3) = true → 0 ≤ p.cell ∧ p.cell < d[i].table.cells.length := fun hk => by
      have h3' := h3
      simp only [cellIn, hk, if_true] at h3'
      obtain ⟨j, hj, hjl⟩ := within_idx (by have := blk_cells hok hk; omega) h3'
      omega
    have h95 := c95 d[i] p.cell hcell
    have htl := textOk_len (blk_text hok hcell)
    have g2 : (0 : Int) ≤ (i : Int) := by omega
    have g3 : (i : Int) < (d.length : Int) := by omega
    have g4 : (d.map Block.enc).getD i [] = (d[i]).enc := getD_map hlt
    rw [if_pos rfl]
    clear hb h1 h3 h4 ebk hok hcell
    generalize textAtB d[i] p.cell = tx at *
    generalize d[i] = b at *
    have eb : b.enc = [.sc (.int .i64 b.kind), .sc (.int .i64 b.level), .sl 3 (b.text.map Sign.enc), .sc (.int .i64 b.table.rows), .sc (.int .i64 b.table.cols), .sl 5 (b.table.cells.map Cell.enc)] := rfl
    rw [eb] at h95
    unfold Spot.enc encB encT at *
    refine pureC_of k86 (by first | rfl | simp [VV.cloL, VV.clo, *]) (by first | rfl | simp [VV.cloL, VV.clo, *]) (by simp) ?_
    intro X hP hm hH hn hX
    refine vwp_ok _ ?_
    unfold vc86
    simp only [hi] at h41 h95
    have a1 : tx.length * 24 ≤ lim := by unfold lim; omega
    have a2 : tx.length ≤ 9223372036854775807 := by omega
    repeat' (first
      | simp only [go_sem, reduceCtorEq, reduceIte, Nat.reduceAdd, Nat.reduceEqDiff, Nat.reduceLeDiff, Nat.reduceMul, *]
      | refine gdO_bool' _ (fun _ => ?_) (fun _ => ?_)
      | refine gdO_bool _ (fun _ => ?_) (fun _ => ?_)
      | refine gdD_bool' _ (fun _ => ?_) (fun _ => ?_)
      | refine gdD_bool _ (fun _ => ?_) (fun _ => ?_)
      | refine cdO_bool' _ (fun _ => ?_) (fun _ => ?_)
      | refine cdO_bool _ (fun _ => ?_) (fun _ => ?_)
      | refine callO.pure (by first | exact h41 | exact h95) ?_
      | refine callW.pure (by first | exact h41 | exact h95) ?_
      | refine ⟨by decide, ?_⟩
      | fail)
    refine ppost_rf (cs := (tx.map Sign.enc).flatten) (by simp) (by simp only [go_sem, reduceCtorEq, reduceIte, Nat.reduceAdd, Nat.reduceEqDiff, Nat.reduceLeDiff, Nat.reduceMul]; rfl) (by simp only [go_sem, reduceCtorEq, reduceIte, Nat.reduceAdd, Nat.reduceEqDiff, Nat.reduceLeDiff, Nat.reduceMul]) (by simp) ?_ (enc_lens tx) (flat_clo tx)
    rw [List.drop_zero, List.take_of_length_le]
    rw [flat_len]
    exact Nat.le_refl _
end Go.Proofs.Ytdmmhainianadaa
