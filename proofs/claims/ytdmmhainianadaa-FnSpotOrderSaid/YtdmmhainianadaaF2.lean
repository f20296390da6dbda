/- F27: cells put together (none of them says anything). -/
import Derived.Test.YtdmmhainianadaaProg
import Derived.Test.YtdmmhainianadaaV0
import Derived.Test.YtdmmhainianadaaV1
import Derived.Test.YtdmmhainianadaaF0
import Derived.Test.YtdmmhainianadaaF1
set_option linter.unusedSimpArgs false
set_option linter.unusedVariables false
set_option linter.unnecessarySimpa false
namespace Go.Proofs.Ytdmmhainianadaa
open Go.VM Go.Lim Go.Proofs.Try
attribute [local irreducible] vwp vops vstep vdr vdr1 CallP PPost SWv gdO gdD cdO optV optW optD thenV blockV behind callO callW callvO roundV
set_option linter.unusedSimpArgs false
set_option linter.unusedVariables false
/- loop.example/limner/spec.TableMerge -/
def vc195 : VCode :=
(.seq (.reg [⟨(some 5), (.box (.tmp 0)), none⟩, ⟨(some 10), (.new [(.int .i64 0), (.int .i64 0), (.slice none 0 0)]), none⟩, ⟨(some 11), (.mov (.const (.bool false))), none⟩])
(.seq (.seq (.reg [⟨(some 20), (.load true 3 (.tmp 5)), none⟩, ⟨(some 21), (.call 144 [(.tmp 20)]), none⟩, ⟨(some 22), (.un .not (.tmp 21)), none⟩, ⟨(some 23), (.mov (.tmp 22)), none⟩, ⟨(some 24), (.mov (.tmp 1)), (some (23, false))⟩, ⟨(some 25), (.fad 0 (.tmp 5)), (some (23, false))⟩, ⟨(some 26), (.load false 1 (.tmp 25)), (some (23, false))⟩, ⟨(some 27), (.bin .sub .no (.tmp 26) (.const (.int .i64 1))), (some (23, false))⟩, ⟨(some 28), (.call 93 [(.tmp 24), (.const (.int .i64 0)), (.tmp 27)]), (some (23, false))⟩, ⟨(some 29), (.un .not (.tmp 28)), (some (23, false))⟩, ⟨(some 30), (.pick (.tmp 23) (.const (.bool true)) (.tmp 29)), none⟩, ⟨(some 31), (.mov (.tmp 30)), none⟩, ⟨(some 32), (.mov (.tmp 2)), (some (31, false))⟩, ⟨(some 33), (.fad 1 (.tmp 5)), (some (31, false))⟩, ⟨(some 34), (.load false 1 (.tmp 33)), (some (31, false))⟩, ⟨(some 35), (.bin .sub .no (.tmp 34) (.const (.int .i64 1))), (some (31, false))⟩, ⟨(some 36), (.call 93 [(.tmp 32), (.const (.int .i64 0)), (.tmp 35)]), (some (31, false))⟩, ⟨(some 37), (.un .not (.tmp 36)), (some (31, false))⟩, ⟨(some 38), (.pick (.tmp 31) (.const (.bool true)) (.tmp 37)), none⟩, ⟨(some 39), (.mov (.tmp 38)), none⟩, ⟨(some 40), (.mov (.tmp 3)), (some (39, false))⟩, ⟨(some 41), (.fad 0 (.tmp 5)), (some (39, false))⟩, ⟨(some 42), (.load false 1 (.tmp 41)), (some (39, false))⟩, ⟨(some 43), (.mov (.tmp 1)), (some (39, false))⟩, ⟨(some 44), (.bin .sub .no (.tmp 42) (.tmp 43)), (some (39, false))⟩, ⟨(some 45), (.call 93 [(.tmp 40), (.const (.int .i64 1)), (.tmp 44)]), (some (39, false))⟩, ⟨(some 46), (.un .not (.tmp 45)), (some (39, false))⟩, ⟨(some 47), (.pick (.tmp 39) (.const (.bool true)) (.tmp 46)), none⟩, ⟨(some 48), (.mov (.tmp 47)), none⟩, ⟨(some 49), (.mov (.tmp 4)), (some (48, false))⟩, ⟨(some 50), (.fad 1 (.tmp 5)), (some (48, false))⟩, ⟨(some 51), (.load false 1 (.tmp 50)), (some (48, false))⟩, ⟨(some 52), (.mov (.tmp 2)), (some (48, false))⟩, ⟨(some 53), (.bin .sub .no (.tmp 51) (.tmp 52)), (some (48, false))⟩, ⟨(some 54), (.call 93 [(.tmp 49), (.const (.int .i64 1)), (.tmp 53)]), (some (48, false))⟩, ⟨(some 55), (.un .not (.tmp 54)), (some (48, false))⟩, ⟨(some 56), (.pick (.tmp 48) (.const (.bool true)) (.tmp 55)), none⟩])
(.cond (.tmp 56) (.seq (.reg [⟨(some 57), (.build [(.int .i64 0), (.int .i64 0), (.slice none 0 0)] []), none⟩, ⟨none, (.store 3 (.tmp 10) (.tmp 57)), none⟩, ⟨(some 11), (.mov (.const (.bool false))), none⟩])
 .ret)
 .skip))
(.seq (.reg [⟨(some 58), (.mov (.tmp 1)), none⟩, ⟨(some 59), (.mov (.tmp 2)), none⟩, ⟨(some 60), (.mov (.tmp 3)), none⟩, ⟨(some 61), (.mov (.tmp 4)), none⟩, ⟨(some 62), (.build [(.int .i64 0), (.int .i64 0), (.int .i64 0), (.int .i64 0), (.slice none 0 0)] [(0, 1, (.tmp 58)), (1, 1, (.tmp 59)), (2, 1, (.tmp 60)), (3, 1, (.tmp 61))]), none⟩, ⟨(some 12), (.new [(.int .i64 0), (.int .i64 0), (.int .i64 0), (.int .i64 0), (.slice none 0 0)]), none⟩, ⟨none, (.store 5 (.tmp 12) (.tmp 62)), none⟩])
(.seq (.reg [⟨(some 63), (.fad 0 (.tmp 5)), none⟩, ⟨(some 64), (.load false 1 (.tmp 63)), none⟩, ⟨(some 65), (.fad 1 (.tmp 5)), none⟩, ⟨(some 66), (.load false 1 (.tmp 65)), none⟩, ⟨(some 67), (.build [(.int .i64 0), (.int .i64 0), (.slice none 0 0)] [(0, 1, (.tmp 64)), (1, 1, (.tmp 66))]), none⟩, ⟨(some 13), (.new [(.int .i64 0), (.int .i64 0), (.slice none 0 0)]), none⟩, ⟨none, (.store 3 (.tmp 13) (.tmp 67)), none⟩])
(.seq (.reg [⟨(some 14), (.mov (.const (.int .i64 0))), none⟩])
(.seq (.seq (.reg [⟨(some 15), (.mov (.const (.int .i64 0))), none⟩])
(.block 0 (.loop (.seq (.seq (.reg [⟨(some 68), (.mov (.tmp 15)), none⟩, ⟨(some 69), (.fad 2 (.tmp 5)), none⟩, ⟨(some 70), (.load false 1 (.tmp 69)), none⟩, ⟨(some 71), (.len false (.tmp 70)), none⟩, ⟨(some 72), (.bin .lss .no (.tmp 68) (.tmp 71)), none⟩])
  (.cond (.tmp 72) .skip
   (.exit 0)))
  (.seq (.block 1 (.seq (.reg [⟨(some 75), (.fad 2 (.tmp 5)), none⟩, ⟨(some 76), (.load false 1 (.tmp 75)), none⟩, ⟨(some 77), (.mov (.tmp 15)), none⟩, ⟨(some 78), (.iad 5 (.tmp 76) (.tmp 77)), none⟩, ⟨(some 79), (.load true 5 (.tmp 78)), none⟩, ⟨(some 16), (.new [(.int .i64 0), (.int .i64 0), (.int .i64 0), (.int .i64 0), (.slice none 0 0)]), none⟩, ⟨none, (.store 5 (.tmp 16) (.tmp 79)), none⟩])
   (.seq (.reg [⟨(some 17), (.mov (.const (.int .i64 0))), none⟩])
   (.seq (.seq (.reg [⟨(some 80), (.fad 0 (.tmp 16)), none⟩, ⟨(some 81), (.load false 1 (.tmp 80)), none⟩, ⟨(some 18), (.mov (.tmp 81)), none⟩])
   (.block 2 (.loop (.seq (.seq (.reg [⟨(some 82), (.mov (.tmp 18)), none⟩, ⟨(some 83), (.fad 0 (.tmp 16)), none⟩, ⟨(some 84), (.load false 1 (.tmp 83)), none⟩, ⟨(some 85), (.fad 2 (.tmp 16)), none⟩, ⟨(some 86), (.load false 1 (.tmp 85)), none⟩, ⟨(some 87), (.bin .add .no (.tmp 84) (.tmp 86)), none⟩, ⟨(some 88), (.bin .lss .no (.tmp 82) (.tmp 87)), none⟩])
     (.cond (.tmp 88) .skip
      (.exit 2)))
     (.seq (.block 3 (.seq (.reg [⟨(some 91), (.fad 1 (.tmp 16)), none⟩, ⟨(some 92), (.load false 1 (.tmp 91)), none⟩, ⟨(some 19), (.mov (.tmp 92)), none⟩])
      (.block 4 (.loop (.seq (.seq (.reg [⟨(some 93), (.mov (.tmp 19)), none⟩, ⟨(some 94), (.fad 1 (.tmp 16)), none⟩, ⟨(some 95), (.load false 1 (.tmp 94)), none⟩, ⟨(some 96), (.fad 3 (.tmp 16)), none⟩, ⟨(some 97), (.load false 1 (.tmp 96)), none⟩, ⟨(some 98), (.bin .add .no (.tmp 95) (.tmp 97)), none⟩, ⟨(some 99), (.bin .lss .no (.tmp 93) (.tmp 98)), none⟩])
        (.cond (.tmp 99) .skip
         (.exit 4)))
        (.seq (.block 5 (.seq (.reg [⟨(some 102), (.load true 5 (.tmp 12)), none⟩, ⟨(some 103), (.mov (.tmp 18)), none⟩, ⟨(some 104), (.mov (.tmp 19)), none⟩, ⟨(some 105), (.call 176 [(.tmp 102), (.tmp 103), (.tmp 104)]), none⟩])
         (.cond (.tmp 105) (.reg [⟨(some 106), (.mov (.tmp 17)), none⟩, ⟨(some 107), (.bin .add .no (.tmp 106) (.const (.int .i64 1))), none⟩, ⟨(some 17), (.mov (.tmp 107)), none⟩])
          .skip)))
        (.reg [⟨(some 100), (.mov (.tmp 19)), none⟩, ⟨(some 101), (.bin .add .no (.tmp 100) (.const (.int .i64 1))), none⟩, ⟨(some 19), (.mov (.tmp 101)), none⟩])))))))
     (.reg [⟨(some 89), (.mov (.tmp 18)), none⟩, ⟨(some 90), (.bin .add .no (.tmp 89) (.const (.int .i64 1))), none⟩, ⟨(some 18), (.mov (.tmp 90)), none⟩]))))))
   (.seq (.reg [⟨(some 108), (.mov (.tmp 17)), none⟩])
   (.block 6 (.seq (.reg [⟨(some 111), (.bin .eql .no (.tmp 108) (.const (.int .i64 0))), none⟩, ⟨(some 110), (.mov (.tmp 111)), none⟩])
    (.cond (.tmp 110) (.seq (.reg [⟨(some 112), (.bslice 3 0 [(.int .u8 0), (.int .i64 0), (.int .i64 0)] []), none⟩, ⟨(some 113), (.fad 4 (.tmp 16)), none⟩, ⟨(some 114), (.load false 1 (.tmp 113)), none⟩, ⟨(some 115), (.app 3 24 (.tmp 112) (.tmp 114)), none⟩, ⟨(some 116), (.fad 4 (.tmp 16)), none⟩, ⟨none, (.store 1 (.tmp 116) (.tmp 115)), none⟩])
     (.reg [⟨(some 117), (.fad 2 (.tmp 13)), none⟩, ⟨(some 118), (.load false 1 (.tmp 117)), none⟩, ⟨(some 119), (.load true 5 (.tmp 16)), none⟩, ⟨(some 120), (.bslice 5 1 [(.int .i64 0), (.int .i64 0), (.int .i64 0), (.int .i64 0), (.slice none 0 0)] [(0, 5, (.tmp 119))]), none⟩, ⟨(some 121), (.app 5 56 (.tmp 118) (.tmp 120)), none⟩, ⟨(some 122), (.fad 2 (.tmp 13)), none⟩, ⟨none, (.store 1 (.tmp 122) (.tmp 121)), none⟩]))
     (.seq (.reg [⟨(some 124), (.fad 2 (.tmp 16)), none⟩, ⟨(some 125), (.load false 1 (.tmp 124)), none⟩, ⟨(some 126), (.fad 3 (.tmp 16)), none⟩, ⟨(some 127), (.load false 1 (.tmp 126)), none⟩, ⟨(some 128), (.bin .mul .no (.tmp 125) (.tmp 127)), none⟩, ⟨(some 129), (.bin .eql .no (.tmp 108) (.tmp 128)), none⟩, ⟨(some 123), (.mov (.tmp 129)), none⟩])
     (.cond (.tmp 123) (.seq (.reg [⟨(some 130), (.fad 4 (.tmp 12)), none⟩, ⟨(some 131), (.load false 1 (.tmp 130)), none⟩, ⟨(some 132), (.fad 4 (.tmp 16)), none⟩, ⟨(some 133), (.load false 1 (.tmp 132)), none⟩, ⟨(some 134), (.app 3 24 (.tmp 131) (.tmp 133)), none⟩, ⟨(some 135), (.fad 4 (.tmp 12)), none⟩, ⟨none, (.store 1 (.tmp 135) (.tmp 134)), none⟩])
      (.reg [⟨(some 136), (.mov (.tmp 14)), none⟩, ⟨(some 137), (.bin .add .no (.tmp 136) (.const (.int .i64 1))), none⟩, ⟨(some 14), (.mov (.tmp 137)), none⟩]))
      (.seq (.reg [⟨(some 109), (.build [(.int .i64 0), (.int .i64 0), (.slice none 0 0)] []), none⟩, ⟨none, (.store 3 (.tmp 10) (.tmp 109)), none⟩, ⟨(some 11), (.mov (.const (.bool false))), none⟩])
      .ret)))))))))))
  (.reg [⟨(some 73), (.mov (.tmp 15)), none⟩, ⟨(some 74), (.bin .add .no (.tmp 73) (.const (.int .i64 1))), none⟩, ⟨(some 15), (.mov (.tmp 74)), none⟩]))))))
(.seq (.seq (.reg [⟨(some 138), (.mov (.tmp 14)), none⟩, ⟨(some 139), (.bin .lss .no (.tmp 138) (.const (.int .i64 2))), none⟩, ⟨(some 140), (.mov (.tmp 139)), none⟩, ⟨(some 141), (.fad 4 (.tmp 12)), (some (140, false))⟩, ⟨(some 142), (.load false 1 (.tmp 141)), (some (140, false))⟩, ⟨(some 143), (.call 130 [(.tmp 142)]), (some (140, false))⟩, ⟨(some 144), (.un .not (.tmp 143)), (some (140, false))⟩, ⟨(some 145), (.pick (.tmp 140) (.const (.bool true)) (.tmp 144)), none⟩])
(.cond (.tmp 145) (.seq (.reg [⟨(some 146), (.build [(.int .i64 0), (.int .i64 0), (.slice none 0 0)] []), none⟩, ⟨none, (.store 3 (.tmp 10) (.tmp 146)), none⟩, ⟨(some 11), (.mov (.const (.bool false))), none⟩])
 .ret)
 .skip))
(.seq (.reg [⟨(some 147), (.fad 2 (.tmp 13)), none⟩, ⟨(some 148), (.load false 1 (.tmp 147)), none⟩, ⟨(some 149), (.load true 5 (.tmp 12)), none⟩, ⟨(some 150), (.bslice 5 1 [(.int .i64 0), (.int .i64 0), (.int .i64 0), (.int .i64 0), (.slice none 0 0)] [(0, 5, (.tmp 149))]), none⟩, ⟨(some 151), (.app 5 56 (.tmp 148) (.tmp 150)), none⟩, ⟨(some 152), (.call 208 [(.tmp 151)]), none⟩, ⟨(some 153), (.fad 2 (.tmp 13)), none⟩, ⟨none, (.store 1 (.tmp 153) (.tmp 152)), none⟩])
(.seq (.reg [⟨(some 154), (.load true 3 (.tmp 13)), none⟩, ⟨none, (.store 3 (.tmp 10) (.tmp 154)), none⟩, ⟨(some 11), (.mov (.const (.bool true))), none⟩])
.ret)))))))))
theorem k195 : compFn prog 195 = some (155, vc195, [.c 10 true 3, .t 11]) := by kernel_rfl
theorem renL_app {σ : Nat → Nat} (xs ys : List VV) : VV.renL σ (xs ++ ys) = VV.renL σ xs ++ VV.renL σ ys := by simp [renL_map]
theorem frC {τ : Nat → Nat} {H : Heap} {D : Nat → Prop} {n' k : Nat} {l : List Cell} (hk : D k) (hc : H k = some (l.map Cell.enc).flatten) : Conv τ H D n' (.rf k 0 l.length 5) (.sl 5 (l.map Cell.enc)) := by
  refine .frf hk hc (by simp) ?_ (fun r hr => ?_) (flatC_clo _)
  · rw [List.drop_zero, List.take_of_length_le (by rw [flatC_len]; omega)]
  · obtain ⟨c, _, rfl⟩ := List.mem_map.1 hr; rfl
def cntB (one : Cell) (a b : Int) : Nat → Int
  | 0 => 0
  | k + 1 => if has one a (b + k) = true then cntB one a b k + 1 else cntB one a b k
def cntA (one : Cell) (a b : Int) (w : Nat) : Nat → Int
  | 0 => 0
  | k + 1 => cntA one a b w k + cntB one (a + k) b w
def cntC (one c : Cell) : Int := cntA one c.row c.col c.right.toNat c.down.toNat
def mgStep (one : Cell) (s : Option (List Cell × Nat)) (c : Cell) : Option (List Cell × Nat) :=
  match s with
  | none => none
  | some (out, n) => if (cntC one c == 0) = true then some (out ++ [c], n) else if (cntC one c == c.down * c.right) = true then some (out, n + 1) else none
def mgSt (one : Cell) (l : List Cell) : Option (List Cell × Nat) := l.foldl (mgStep one) (some ([], 0))
def mgArgs (t : Table) (row col down right : Int) : Bool := tableOk t && within row 0 (IntKind.i64.wrap (t.rows - 1)) && within col 0 (IntKind.i64.wrap (t.cols - 1)) && within down 1 (IntKind.i64.wrap (t.rows - row)) && within right 1 (IntKind.i64.wrap (t.cols - col))
def mergeT (t : Table) (row col down right : Int) : Option (List Cell) :=
  if mgArgs t row col down right = true then (match mgSt ⟨row, col, down, right, []⟩ t.cells with
    | none => none
    | some (out, n) => if n < 2 then none else some (sortC (out ++ [⟨row, col, down, right, []⟩]))) else none
def mgR (t : Table) : Option (List Cell) → VV
  | none => .tup [.agg [.sc (.int .i64 0), .sc (.int .i64 0), .sl 5 []], .sc (.bool false)]
  | some cs => .tup [.agg [.sc (.int .i64 t.rows), .sc (.int .i64 t.cols), .rf 1 0 cs.length 5], .sc (.bool true)]
def mgH (t : Table) : Option (List Cell) → List (Nat × List VV)
  | none => [(0, (t.cells.map Cell.enc).flatten)]
  | some cs => [(0, (t.cells.map Cell.enc).flatten), (1, (cs.map Cell.enc).flatten)]
def mgN : Option (List Cell) → Nat
  | none => 1
  | some _ => 2
theorem cntB_bd (one : Cell) (a b : Int) : ∀ k : Nat, 0 ≤ cntB one a b k ∧ cntB one a b k ≤ k
  | 0 => by simp [cntB]
  | k + 1 => by have := cntB_bd one a b k; unfold cntB; split <;> omega
theorem cntA_bd (one : Cell) (a b : Int) (w : Nat) : ∀ k : Nat, 0 ≤ cntA one a b w k ∧ cntA one a b w k ≤ (k * w : Nat)
  | 0 => by simp [cntA]
  | k + 1 => by
    have h1 := cntA_bd one a b w k
    have h2 := cntB_bd one (a + k) b w
    unfold cntA
    rw [Nat.succ_mul]
    omega
def MgPre (t : Table) (row col down right : Int) : List (Nat × List VV) :=
  [(0, (t.cells.map Cell.enc).flatten), (1, [.sc (.int .i64 t.rows), .sc (.int .i64 t.cols), .rf 0 0 t.cells.length 5]), (2, [.sc (.int .i64 0), .sc (.int .i64 0), .sc (.slice none 0 0)]), (3, [.sc (.int .i64 row), .sc (.int .i64 col), .sc (.int .i64 down), .sc (.int .i64 right), .sc (.slice none 0 0)])]
theorem formAll {t : Table} (h : tableOk t = true) {c : Cell} (hc : c ∈ t.cells) : 0 ≤ c.row ∧ c.row < t.rows ∧ 0 ≤ c.col ∧ c.col < t.cols ∧ 1 ≤ c.down ∧ c.row + c.down ≤ t.rows ∧ 1 ≤ c.right ∧ c.col + c.right ≤ t.cols := by
  simp only [tableOk, form, Bool.and_eq_true, List.all_eq_true, List.mem_range] at h
  obtain ⟨⟨⟨⟨h1, h2⟩, h3⟩, h4⟩, h5⟩ := h
  obtain ⟨i, hi, rfl⟩ := List.getElem_of_mem hc
  have := h4 i hi
  simp only [okAt, Bool.and_eq_true, getD_eq hi] at this
  exact cellW_bounds h1 h2 this.1
theorem formSm {t : Table} (h : tableOk t = true) : t.rows ≤ 5 ∧ t.cols ≤ 5 ∧ t.cells.length ≤ 25 := by
  simp only [tableOk, form, Bool.and_eq_true, decide_eq_true_eq] at h
  obtain ⟨⟨⟨⟨h1, h2⟩, h3⟩, h4⟩, h5⟩ := h
  have := within_nat h1
  have := within_nat h2
  omega
theorem mgNone1 (one : Cell) : ∀ l : List Cell, l.foldl (mgStep one) none = none
  | [] => rfl
  | _ :: l => mgNone1 one l
theorem mgNone (one : Cell) (l : List Cell) (i : Nat) (h : mgSt one (l.take i) = none) : mgSt one l = none := by
  unfold mgSt at h ⊢
  rw [← List.take_append_drop i l, List.foldl_append, h, mgNone1]
set_option maxHeartbeats 1000000 in
theorem c195 (t : Table) (row col down right : Int) (hb : ∀ c ∈ t.cells, c.text = []) (hbd : ∀ x ∈ [t.rows, t.cols, row, col, down, right], -1000000 ≤ x ∧ x ≤ 1000000) :
    ObjC prog 195 [.agg [.sc (.int .i64 t.rows), .sc (.int .i64 t.cols), .rf 0 0 t.cells.length 5], .sc (.int .i64 row), .sc (.int .i64 col), .sc (.int .i64 down), .sc (.int .i64 right)] [(t.cells.map Cell.enc).flatten]
      (mgR t (mergeT t row col down right)) (mgH t (mergeT t row col down right)) (mgN (mergeT t row col down right)) := by
  obtain ⟨T, hT⟩ : ∃ T, mergeT t row col down right = T := ⟨_, rfl⟩
  have hTm := Kept.mk hT
  rw [hT]
  have w1 : IntKind.i64.wrap (t.rows - 1) = t.rows - 1 := wrap_id (by have := hbd t.rows (by simp); omega) (by have := hbd t.rows (by simp); omega)
  have w2 : IntKind.i64.wrap (t.cols - 1) = t.cols - 1 := wrap_id (by have := hbd t.cols (by simp); omega) (by have := hbd t.cols (by simp); omega)
  have w3 : IntKind.i64.wrap (t.rows - row) = t.rows - row := wrap_id (by have := hbd t.rows (by simp); have := hbd row (by simp); omega) (by have := hbd t.rows (by simp); have := hbd row (by simp); omega)
  have w4 : IntKind.i64.wrap (t.cols - col) = t.cols - col := wrap_id (by have := hbd t.cols (by simp); have := hbd col (by simp); omega) (by have := hbd t.cols (by simp); have := hbd col (by simp); omega)
  clear hT hbd
  refine objC_of k195 (by simp) (by cases T <;> simp [mgN]) (by cases T <;> simp [wfO, mgR, mgH, mgN, VV.underL, VV.under, under_cells]) ?_
  intro X hP hm hH hn hX
  change X.n = 1 at hn
  refine vwp_ok _ ?_
  unfold vc195
  have failE : T = none → ∀ (s : Slots) (H : Heap) (n : Nat), s 10 = .pt 2 0 → s 11 = .sc (.bool false) → H 0 = some (t.cells.map Cell.enc).flatten → H 2 = some [.sc (.int .i64 0), .sc (.int .i64 0), .sc (.slice none 0 0)] → OPost X [.c 10 true 3, .t 11] (mgR t T) (mgH t T) (mgN T) .ret s H n := by
    rintro rfl s H n h1 h2 h3 h4
    refine ⟨by simp, [.agg [.sc (.int .i64 0), .sc (.int .i64 0), .sc (.slice none 0 0)], .sc (.bool false)], by simp only [go_sem, reduceCtorEq, reduceIte, Nat.reduceAdd, Nat.reduceEqDiff, Nat.reduceLeDiff, Nat.reduceMul, resV, h1, h2, h4], ?_⟩
    refine EndV.of hn [0] [(0, _)] (by simp) (by simp [tau]) (by simp) (Conv.tupOf (.cons (.aggOf ?_) rfl (.one rfl .nil))) (HConv.same (by simp) h3 (flatC_clo _) HConv.nil)
    repeat' (first | exact CellsC.nil | exact .nil 3 | exact .nil 5 | exact .nil 6 | (exact .toRf (by first | rfl | simp [tau]) (by simp [tau]) (by simp)) | (exact .toPt (by first | rfl | simp [tau]) (by simp [tau]) (by simp)) | refine CellsC.one rfl ?_ | refine CellsC.cons ?_ rfl ?_)
  have tx : textOk [] = true := rfl
  repeat' (first
    | simp only [go_sem, reduceCtorEq, reduceIte, Nat.reduceAdd, Nat.reduceEqDiff, Nat.reduceLeDiff, Nat.reduceMul, *]
    | refine gdO_bool' _ (fun _ => ?_) (fun _ => ?_)
    | refine gdO_bool _ (fun _ => ?_) (fun _ => ?_)
    | refine gdD_bool' _ (fun _ => ?_) (fun _ => ?_)
    | refine gdD_bool _ (fun _ => ?_) (fun _ => ?_)
    | refine cdO_bool' _ (fun _ => ?_) (fun _ => ?_)
    | refine cdO_bool _ (fun _ => ?_) (fun _ => ?_)
    | refine callO.pure (by first | exact c93 _ _ _) ?_
    | refine callW.pure (by first | exact c93 _ _ _) ?_
    | (refine callO.borrow (D := fun k => k = 0) (c144 ⟨t.rows, t.cols, t.cells⟩) ⟨ConvL.agg ⟨.clo rfl, .clo rfl, frC rfl rfl, trivial⟩, trivial⟩ ?_)
    | refine ⟨by decide, ?_⟩
    | fail)
  rotate_left
  · refine failE ?_ _ _ _ (by simp only [go_sem, reduceCtorEq, reduceIte, Nat.reduceAdd, Nat.reduceEqDiff, Nat.reduceLeDiff, Nat.reduceMul]) (by simp only [go_sem, reduceCtorEq, reduceIte, Nat.reduceAdd, Nat.reduceEqDiff, Nat.reduceLeDiff, Nat.reduceMul]) (by simp only [go_sem, reduceCtorEq, reduceIte, Nat.reduceAdd, Nat.reduceEqDiff, Nat.reduceLeDiff, Nat.reduceMul]) (by simp only [go_sem, reduceCtorEq, reduceIte, Nat.reduceAdd, Nat.reduceEqDiff, Nat.reduceLeDiff, Nat.reduceMul])
    have := hTm.out
    rw [← this, mergeT, mgArgs]
    simp only [*, Bool.and_false, Bool.false_and, Bool.true_and, Bool.and_true, Bool.false_eq_true, if_false]
  · refine failE ?_ _ _ _ (by simp only [go_sem, reduceCtorEq, reduceIte, Nat.reduceAdd, Nat.reduceEqDiff, Nat.reduceLeDiff, Nat.reduceMul]) (by simp only [go_sem, reduceCtorEq, reduceIte, Nat.reduceAdd, Nat.reduceEqDiff, Nat.reduceLeDiff, Nat.reduceMul]) (by simp only [go_sem, reduceCtorEq, reduceIte, Nat.reduceAdd, Nat.reduceEqDiff, Nat.reduceLeDiff, Nat.reduceMul]) (by simp only [go_sem, reduceCtorEq, reduceIte, Nat.reduceAdd, Nat.reduceEqDiff, Nat.reduceLeDiff, Nat.reduceMul])
    have := hTm.out
    rw [← this, mergeT, mgArgs]
    simp only [*, Bool.and_false, Bool.false_and, Bool.true_and, Bool.and_true, Bool.false_eq_true, if_false]
  · refine failE ?_ _ _ _ (by simp only [go_sem, reduceCtorEq, reduceIte, Nat.reduceAdd, Nat.reduceEqDiff, Nat.reduceLeDiff, Nat.reduceMul]) (by simp only [go_sem, reduceCtorEq, reduceIte, Nat.reduceAdd, Nat.reduceEqDiff, Nat.reduceLeDiff, Nat.reduceMul]) (by simp only [go_sem, reduceCtorEq, reduceIte, Nat.reduceAdd, Nat.reduceEqDiff, Nat.reduceLeDiff, Nat.reduceMul]) (by simp only [go_sem, reduceCtorEq, reduceIte, Nat.reduceAdd, Nat.reduceEqDiff, Nat.reduceLeDiff, Nat.reduceMul])
    have := hTm.out
    rw [← this, mergeT, mgArgs]
    simp only [*, Bool.and_false, Bool.false_and, Bool.true_and, Bool.and_true, Bool.false_eq_true, if_false]
  · refine failE ?_ _ _ _ (by simp only [go_sem, reduceCtorEq, reduceIte, Nat.reduceAdd, Nat.reduceEqDiff, Nat.reduceLeDiff, Nat.reduceMul]) (by simp only [go_sem, reduceCtorEq, reduceIte, Nat.reduceAdd, Nat.reduceEqDiff, Nat.reduceLeDiff, Nat.reduceMul]) (by simp only [go_sem, reduceCtorEq, reduceIte, Nat.reduceAdd, Nat.reduceEqDiff, Nat.reduceLeDiff, Nat.reduceMul]) (by simp only [go_sem, reduceCtorEq, reduceIte, Nat.reduceAdd, Nat.reduceEqDiff, Nat.reduceLeDiff, Nat.reduceMul])
    have := hTm.out
    rw [← this, mergeT, mgArgs]
    simp only [*, Bool.and_false, Bool.false_and, Bool.true_and, Bool.and_true, Bool.false_eq_true, if_false]
  · refine failE ?_ _ _ _ (by simp only [go_sem, reduceCtorEq, reduceIte, Nat.reduceAdd, Nat.reduceEqDiff, Nat.reduceLeDiff, Nat.reduceMul]) (by simp only [go_sem, reduceCtorEq, reduceIte, Nat.reduceAdd, Nat.reduceEqDiff, Nat.reduceLeDiff, Nat.reduceMul]) (by simp only [go_sem, reduceCtorEq, reduceIte, Nat.reduceAdd, Nat.reduceEqDiff, Nat.reduceLeDiff, Nat.reduceMul]) (by simp only [go_sem, reduceCtorEq, reduceIte, Nat.reduceAdd, Nat.reduceEqDiff, Nat.reduceLeDiff, Nat.reduceMul])
    have := hTm.out
    rw [← this, mergeT, mgArgs]
    simp only [*, Bool.and_false, Bool.false_and, Bool.true_and, Bool.and_true, Bool.false_eq_true, if_false]
  rename_i m1 m2 m3 m4 m5
  have htok : Kept (tableOk t = true) := ⟨m1⟩
  have hargs : Kept (mgArgs t row col down right = true) := ⟨by rw [mgArgs, m1, w1, w2, w3, w4, m2, m3, m4, m5]; rfl⟩
  have hTm : Kept ((match mgSt ⟨row, col, down, right, []⟩ t.cells with | none => none | some (out, n) => if n < 2 then none else some (sortC (out ++ [⟨row, col, down, right, []⟩]))) = T) := ⟨by have := hTm.out; rw [mergeT, hargs.out] at this; simpa using this⟩
  clear m1 m2 m3 m4 m5 w1 w2 w3 w4 hargs
  generalize hone : (⟨row, col, down, right, []⟩ : Cell) = one at hTm
  replace hone := Kept.mk hone
  generalize hl : t.cells = l at *
  refine loopW hX (fun μ s H n => ∃ (i : Nat) (out : List Cell) (k : Nat), i ≤ l.length ∧ mgSt one (l.take i) = some (out, k) ∧ out.length ≤ i ∧ k ≤ i ∧ μ = l.length - i ∧ s = slotsOf [(5, .pt 1 0), (10, .pt 2 0), (11, .sc (.bool false)), (12, .pt 3 0), (13, .pt 4 0), (14, .sc (.int .i64 k)), (15, .sc (.int .i64 i))] ∧ Grow (MgPre t row col down right) 4 [.sc (.int .i64 t.rows), .sc (.int .i64 t.cols)] out H ∧ n = 6) ?_
    ⟨l.length + 1, roundE (fun s => [0, nm (s 5), nm (s 10), nm (s 12), nm (s 13), 999]) (by simp only [go_sem, reduceCtorEq, reduceIte, Nat.reduceAdd, Nat.reduceEqDiff, Nat.reduceLeDiff, Nat.reduceMul, nm_pt]; rfl) (rk_of hn [(5, _), (10, _), (11, _), (12, _), (13, _), (14, _), (15, _)] _ _ ⟨0, [], 0, by omega, rfl, by simp, by omega, rfl, rfl, .inl ⟨rfl, rfl⟩, rfl⟩ (by omega) (by simp) (by simp [tau]) (by simp) (by simp [hm]) ?_ ?_)⟩
  rotate_left
  · repeat' (first | exact List.forall_mem_nil _ | refine List.forall_mem_cons.2 ⟨?_, ?_⟩ | exact .toPt (by simp only [go_sem, reduceCtorEq, reduceIte, Nat.reduceAdd, Nat.reduceEqDiff, Nat.reduceLeDiff, Nat.reduceMul, *] <;> rfl) (by simp [tau]) (by simp) | exact .toRf (by simp only [go_sem, reduceCtorEq, reduceIte, Nat.reduceAdd, Nat.reduceEqDiff, Nat.reduceLeDiff, Nat.reduceMul, *] <;> rfl) (by simp [tau]) (by simp) | exact .same (by simp only [go_sem, reduceCtorEq, reduceIte, Nat.reduceAdd, Nat.reduceEqDiff, Nat.reduceLeDiff, Nat.reduceMul, *] <;> rfl) (by first | rfl | simp [VV.cloL, VV.clo, *]))
  · unfold MgPre
    rw [hl]
    simp only [List.cons_append, List.nil_append]
    refine HConv.same (by decide) (by first | rfl | (simp only [go_sem, reduceCtorEq, reduceIte, Nat.reduceAdd, Nat.reduceEqDiff, Nat.reduceLeDiff, Nat.reduceMul, *] <;> rfl)) (flatC_clo _) ?_
    refine HConv.obj (cs := [.sc (.int .i64 t.rows), .sc (.int .i64 t.cols), .rf 0 0 _ 5]) (by decide) (by first | rfl | (simp only [go_sem, reduceCtorEq, reduceIte, Nat.reduceAdd, Nat.reduceEqDiff, Nat.reduceLeDiff, Nat.reduceMul, *] <;> rfl)) ?_ ?_
    · repeat' (first | exact CellsC.nil | exact .nil 3 | exact .nil 5 | exact .nil 6 | (exact .toRf (by first | rfl | simp [tau]) (by simp [tau]) (by simp)) | (exact .toPt (by first | rfl | simp [tau]) (by simp [tau]) (by simp)) | refine CellsC.one rfl ?_ | refine CellsC.cons ?_ rfl ?_)
    repeat' (first | exact HConv.nil | refine HConv.same (by decide) (by first | rfl | (simp only [go_sem, reduceCtorEq, reduceIte, Nat.reduceAdd, Nat.reduceEqDiff, Nat.reduceLeDiff, Nat.reduceMul, *] <;> rfl)) (by first | rfl | simp [VV.cloL, VV.clo, *]) ?_)
  rintro μ s H n ⟨i, out, k, hi, hst, hol, hk, rfl, rfl, hg, rfl⟩
  rcases Nat.lt_or_ge i l.length with hlt | hge
  · refine ⟨H, 6, Vw.refl _ _ _, ?_⟩
    have hsm := formSm htok.out
    rw [hl] at hsm
    have hcb := formAll htok.out (c := l[i]) (by rw [hl]; exact List.getElem_mem hlt)
    have hct := hb l[i] (List.getElem_mem hlt)
    have hnx : Kept (mgSt one (l.take (i + 1)) = mgStep one (some (out, k)) l[i]) := ⟨by rw [← hst]; exact foldl_take (mgStep one) _ hlt⟩
    have hall : Kept (mgSt one (l.take (i + 1)) = none → mgSt one l = none) := ⟨fun h => mgNone one l (i + 1) h⟩
    have g1 := lt_dec hlt
    have i0 : (0 : Int) ≤ (i : Int) := by omega
    have i1 : (i : Int) < (l.length : Int) := by omega
    have x0 := dropC l hlt (j := 0) (by omega)
    generalize ((l.drop (i + 1)).map Cell.enc).flatten = R at x0
    have w0 : IntKind.i64.wrap ((i : Int) + 1) = ((i + 1 : Nat) : Int) := by rw [wrap_id] <;> omega
    generalize l[i] = c at *
    obtain ⟨crow, ccol, cdown, cright, ctext⟩ := c
    simp only at hcb hct
    subst hct
    obtain ⟨dn, hdn⟩ : ∃ dn : Nat, cdown = dn := ⟨cdown.toNat, by omega⟩
    obtain ⟨rt, hrt⟩ : ∃ rt : Nat, cright = rt := ⟨cright.toNat, by omega⟩
    subst hdn hrt
    simp only [Cell.enc, encT, Nat.add_zero, List.drop_zero, List.drop_succ_cons, List.cons_append, List.nil_append, List.map_nil] at x0
    have k0 : H 0 = some (l.map Cell.enc).flatten := hg.at (by unfold MgPre; rw [hl]; rfl)
    have k1 : H 1 = some [.sc (.int .i64 t.rows), .sc (.int .i64 t.cols), .rf 0 0 l.length 5] := hg.at (by unfold MgPre; rw [hl]; rfl)
    have k3 : H 3 = some [.sc (.int .i64 row), .sc (.int .i64 col), .sc (.int .i64 down), .sc (.int .i64 right), .sc (.slice none 0 0)] := hg.at (by unfold MgPre; rfl)
    have hu := hg.un (by unfold MgPre; simp [VV.underL, VV.under, under_cells]) rfl
    have hdr : Kept (dn ≤ 5 ∧ rt ≤ 5 ∧ crow ≤ 5 ∧ ccol ≤ 5 ∧ 0 ≤ crow ∧ 0 ≤ ccol) := ⟨by omega⟩
    clear hcb
    repeat' (first
      | simp only [go_sem, reduceCtorEq, reduceIte, Nat.reduceAdd, Nat.reduceEqDiff, Nat.reduceLeDiff, Nat.reduceMul, *]
      | refine gdO_bool' _ (fun _ => ?_) (fun _ => ?_)
      | refine gdO_bool _ (fun _ => ?_) (fun _ => ?_)
      | refine gdD_bool' _ (fun _ => ?_) (fun _ => ?_)
      | refine gdD_bool _ (fun _ => ?_) (fun _ => ?_)
      | refine cdO_bool' _ (fun _ => ?_) (fun _ => ?_)
      | refine cdO_bool _ (fun _ => ?_) (fun _ => ?_)
      | refine ⟨by decide, ?_⟩
      | fail)
    obtain ⟨H1, hH1⟩ : ∃ H1, H1 = upd (upd H 16 [.sc (.int .i64 0), .sc (.int .i64 0), .sc (.int .i64 0), .sc (.int .i64 0), .sc (.slice none 0 0)]) 16 [.sc (.int .i64 crow), .sc (.int .i64 ccol), .sc (.int .i64 dn), .sc (.int .i64 rt), .sl 3 []] := ⟨_, rfl⟩
    rw [← hH1]
    have v3 : H1 3 = some [.sc (.int .i64 row), .sc (.int .i64 col), .sc (.int .i64 down), .sc (.int .i64 right), .sc (.slice none 0 0)] := by rw [hH1]; simp only [go_sem, reduceCtorEq, reduceIte, Nat.reduceAdd, Nat.reduceEqDiff, Nat.reduceLeDiff, Nat.reduceMul, k3]
    have v16 : H1 16 = some [.sc (.int .i64 crow), .sc (.int .i64 ccol), .sc (.int .i64 dn), .sc (.int .i64 rt), .sl 3 []] := by rw [hH1]; simp only [go_sem, reduceCtorEq, reduceIte, Nat.reduceAdd, Nat.reduceEqDiff, Nat.reduceLeDiff, Nat.reduceMul]
    have hu1 : HUn 60 H1 := by rw [hH1]; exact ((hu.mono (by omega)).upd (by omega) rfl).upd (by omega) rfl
    replace hH1 := Kept.mk hH1
    replace hst := Kept.mk hst
    clear x0 k0 k1 k3 hu
    have wd : IntKind.i64.wrap (crow + (dn : Int)) = crow + dn := by have := hdr.out; rw [wrap_id] <;> omega
    have wr' : IntKind.i64.wrap (ccol + (rt : Int)) = ccol + rt := by have := hdr.out; rw [wrap_id] <;> omega
    refine loopV hX (fun μ s H n => ∃ (a : Nat) (e f : Int), a ≤ dn ∧ e = cntA one crow ccol rt a ∧ f = crow + a ∧ μ = dn - a ∧ s = slotsOf [(5, .pt 1 0), (10, .pt 2 0), (11, .sc (.bool false)), (12, .pt 3 0), (13, .pt 4 0), (14, .sc (.int .i64 k)), (15, .sc (.int .i64 i)), (16, .pt 16 0), (17, .sc (.int .i64 e)), (18, .sc (.int .i64 f))] ∧ H = H1 ∧ n = 60) ?_
      ⟨dn + 1, round_cut 60 hn (by omega) hu1 [(5, _), (10, _), (11, _), (12, _), (13, _), (14, _), (15, _), (16, _), (17, _), (18, _)] _ ⟨0, 0, crow, by omega, rfl, by omega, rfl, rfl, rfl, rfl⟩ (by omega) (by simp [hm]) ?_⟩
    rotate_left
    · repeat' (first | exact List.forall_mem_nil _ | refine List.forall_mem_cons.2 ⟨?_, ?_⟩ | exact ⟨by simp only [go_sem, reduceCtorEq, reduceIte, Nat.reduceAdd, Nat.reduceEqDiff, Nat.reduceLeDiff, Nat.reduceMul, *] <;> rfl, by first | rfl | (simp [VV.under] <;> omega)⟩)
    rintro μ s H' n ⟨a, e, f, ha, he, hf, rfl, rfl, rfl, rfl⟩
    have hbe := cntA_bd one crow ccol rt a
    rw [← he] at hbe
    have ha25 : a * rt ≤ 25 := Nat.le_trans (Nat.mul_le_mul (Nat.le_trans ha hdr.out.1) hdr.out.2.1) (by omega)
    rcases Nat.lt_or_ge a dn with hlta | hgea
    · have ga : decide (f < crow + (dn : Int)) = true := by simp; omega
      have hfb : -100 ≤ f ∧ f ≤ 100 := by have := hdr.out; omega
      have w5 : IntKind.i64.wrap (f + 1) = f + 1 := by rw [wrap_id] <;> omega
      replace he := Kept.mk he
      replace hf := Kept.mk hf
      replace hbe := Kept.mk hbe
      repeat' (first
        | simp only [go_sem, reduceCtorEq, reduceIte, Nat.reduceAdd, Nat.reduceEqDiff, Nat.reduceLeDiff, Nat.reduceMul, *]
        | refine gdO_bool' _ (fun _ => ?_) (fun _ => ?_)
        | refine gdO_bool _ (fun _ => ?_) (fun _ => ?_)
        | refine gdD_bool' _ (fun _ => ?_) (fun _ => ?_)
        | refine gdD_bool _ (fun _ => ?_) (fun _ => ?_)
        | refine cdO_bool' _ (fun _ => ?_) (fun _ => ?_)
        | refine cdO_bool _ (fun _ => ?_) (fun _ => ?_)
        | refine ⟨by decide, ?_⟩
        | fail)
      refine loopV hX (fun μ s H n => ∃ (b : Nat) (e2 g : Int), b ≤ rt ∧ e2 = e + cntB one f ccol b ∧ g = ccol + b ∧ μ = rt - b ∧ s = slotsOf [(5, .pt 1 0), (10, .pt 2 0), (11, .sc (.bool false)), (12, .pt 3 0), (13, .pt 4 0), (14, .sc (.int .i64 k)), (15, .sc (.int .i64 i)), (16, .pt 16 0), (17, .sc (.int .i64 e2)), (18, .sc (.int .i64 f)), (19, .sc (.int .i64 g))] ∧ H = H' ∧ n = 60) ?_
        ⟨rt + 1, round_cut 60 hn (by omega) hu1 [(5, _), (10, _), (11, _), (12, _), (13, _), (14, _), (15, _), (16, _), (17, _), (18, _), (19, _)] _ ⟨0, e, ccol, by omega, by simp [cntB], by omega, rfl, rfl, rfl, rfl⟩ (by omega) (by simp [hm]) ?_⟩
      rotate_left
      · repeat' (first | exact List.forall_mem_nil _ | refine List.forall_mem_cons.2 ⟨?_, ?_⟩ | exact ⟨by simp only [go_sem, reduceCtorEq, reduceIte, Nat.reduceAdd, Nat.reduceEqDiff, Nat.reduceLeDiff, Nat.reduceMul, *] <;> rfl, by first | rfl | (simp [VV.under] <;> omega)⟩)
      rintro μ s H n ⟨b, e2, g, hb2, he2, hg2, rfl, rfl, rfl, rfl⟩
      have hbb := cntB_bd one f ccol b
      rcases Nat.lt_or_ge b rt with hltb | hgeb
      · have gb : decide (g < ccol + (rt : Int)) = true := by simp; omega
        have w6 : IntKind.i64.wrap (g + 1) = g + 1 := by have := hdr.out; rw [wrap_id] <;> omega
        have hbe2 := hbe.out
        have w7 : IntKind.i64.wrap (e2 + 1) = e2 + 1 := by have := hdr.out; rw [wrap_id] <;> omega
        have hnb : Kept (cntB one f ccol (b + 1) = if has one f g = true then cntB one f ccol b + 1 else cntB one f ccol b) := ⟨by rw [hg2]; rfl⟩
        replace he2 := Kept.mk he2
        replace hg2 := Kept.mk hg2
        have hc176 : PureC prog 176 [.agg [.sc (.int .i64 row), .sc (.int .i64 col), .sc (.int .i64 down), .sc (.int .i64 right), .sl 3 []], .sc (.int .i64 f), .sc (.int .i64 g)] (.sc (.bool (has one f g))) := by have := c176 one f g; rw [← hone.out] at this ⊢; exact this
        clear hbe2 hbb
        repeat' (first
          | simp only [go_sem, reduceCtorEq, reduceIte, Nat.reduceAdd, Nat.reduceEqDiff, Nat.reduceLeDiff, Nat.reduceMul, *]
          | refine gdO_bool' _ (fun _ => ?_) (fun _ => ?_)
          | refine gdO_bool _ (fun _ => ?_) (fun _ => ?_)
          | refine gdD_bool' _ (fun _ => ?_) (fun _ => ?_)
          | refine gdD_bool _ (fun _ => ?_) (fun _ => ?_)
          | refine cdO_bool' _ (fun _ => ?_) (fun _ => ?_)
          | refine cdO_bool _ (fun _ => ?_) (fun _ => ?_)
          | (refine callO.borrow (D := fun _ => False) hc176 ⟨ConvL.agg ⟨.clo rfl, .clo rfl, .clo rfl, .clo rfl, .nil 3, trivial⟩, .clo rfl, .clo rfl, trivial⟩ ?_)
          | refine ⟨by decide, ?_⟩
          | fail)
        · rename_i hh
          refine round_cut 60 hn (by omega) hu1 [(5, _), (10, _), (11, _), (12, _), (13, _), (14, _), (15, _), (16, _), (17, _), (18, _), (19, _)] _ ⟨b + 1, e2 + 1, g + 1, hltb, by rw [hnb.out, hh, if_pos rfl, he2.out]; omega, by rw [hg2.out]; omega, rfl, rfl, rfl, rfl⟩ (by omega) (by simp [hm]) ?_
          repeat' (first | exact List.forall_mem_nil _ | refine List.forall_mem_cons.2 ⟨?_, ?_⟩ | exact ⟨by simp only [go_sem, reduceCtorEq, reduceIte, Nat.reduceAdd, Nat.reduceEqDiff, Nat.reduceLeDiff, Nat.reduceMul, *] <;> rfl, by first | rfl | (simp [VV.under] <;> omega)⟩)
        · rename_i hh
          refine round_cut 60 hn (by omega) hu1 [(5, _), (10, _), (11, _), (12, _), (13, _), (14, _), (15, _), (16, _), (17, _), (18, _), (19, _)] _ ⟨b + 1, e2, g + 1, hltb, by rw [hnb.out, hh]; exact he2.out, by rw [hg2.out]; omega, rfl, rfl, rfl, rfl⟩ (by omega) (by simp [hm]) ?_
          repeat' (first | exact List.forall_mem_nil _ | refine List.forall_mem_cons.2 ⟨?_, ?_⟩ | exact ⟨by simp only [go_sem, reduceCtorEq, reduceIte, Nat.reduceAdd, Nat.reduceEqDiff, Nat.reduceLeDiff, Nat.reduceMul, *] <;> rfl, by first | rfl | (simp [VV.under] <;> omega)⟩)
      · have gb : decide (g < ccol + (rt : Int)) = false := by simp; omega
        have eb : b = rt := by omega
        replace he2 := Kept.mk he2
        clear hg2 hbb
        repeat' (first
          | simp only [go_sem, reduceCtorEq, reduceIte, Nat.reduceAdd, Nat.reduceEqDiff, Nat.reduceLeDiff, Nat.reduceMul, *]
          | refine gdO_bool' _ (fun _ => ?_) (fun _ => ?_)
          | refine gdO_bool _ (fun _ => ?_) (fun _ => ?_)
          | refine gdD_bool' _ (fun _ => ?_) (fun _ => ?_)
          | refine gdD_bool _ (fun _ => ?_) (fun _ => ?_)
          | refine cdO_bool' _ (fun _ => ?_) (fun _ => ?_)
          | refine cdO_bool _ (fun _ => ?_) (fun _ => ?_)
          | refine ⟨by decide, ?_⟩
          | fail)
        refine round_cut 60 hn (by omega) hu1 [(5, _), (10, _), (11, _), (12, _), (13, _), (14, _), (15, _), (16, _), (17, _), (18, _)] _ ⟨a + 1, e2, f + 1, hlta, by rw [he2.out, he.out, eb, hf.out]; rfl, by rw [hf.out]; omega, rfl, rfl, rfl, rfl⟩ (by omega) (by simp [hm]) ?_
        repeat' (first | exact List.forall_mem_nil _ | refine List.forall_mem_cons.2 ⟨?_, ?_⟩ | exact ⟨by simp only [go_sem, reduceCtorEq, reduceIte, Nat.reduceAdd, Nat.reduceEqDiff, Nat.reduceLeDiff, Nat.reduceMul, *] <;> rfl, by first | rfl | (simp [VV.under] <;> omega)⟩)
    · have ea : a = dn := by omega
      have hE : Kept (cntC one ⟨crow, ccol, dn, rt, []⟩ = e) := ⟨by rw [he, ea]; rfl⟩
      have ga : decide (f < crow + (dn : Int)) = false := by simp; omega
      have w8 : IntKind.i64.wrap ((dn : Int) * (rt : Int)) = (dn : Int) * (rt : Int) := by
        have h25 : dn * rt ≤ 25 := Nat.le_trans (Nat.mul_le_mul hdr.out.1 hdr.out.2.1) (by omega)
        have : ((dn : Int) * (rt : Int)) = ((dn * rt : Nat) : Int) := by simp
        rw [this, wrap_id] <;> omega
      have w9 : IntKind.i64.wrap ((k : Int) + 1) = ((k + 1 : Nat) : Int) := by rw [wrap_id] <;> omega
      have b0 : 0 ≤ lim := Nat.zero_le _
      have bl : out.length ≤ 24 := by omega
      have hx := hH1.out
      clear he hf hgea ha ea v3 v16 hu1 hbe ha25 hH1
      subst hx
      unfold MgPre at hg
      rw [hl] at hg
      rcases hg with ⟨ho, rfl⟩ | ⟨ho, rfl⟩
      · subst ho
        have b56 : 56 ≤ lim := by unfold lim; omega
        repeat' (first
          | simp only [go_sem, reduceCtorEq, reduceIte, Nat.reduceAdd, Nat.reduceEqDiff, Nat.reduceLeDiff, Nat.reduceMul, *]
          | refine gdO_bool' _ (fun _ => ?_) (fun _ => ?_)
          | refine gdO_bool _ (fun _ => ?_) (fun _ => ?_)
          | refine gdD_bool' _ (fun _ => ?_) (fun _ => ?_)
          | refine gdD_bool _ (fun _ => ?_) (fun _ => ?_)
          | refine cdO_bool' _ (fun _ => ?_) (fun _ => ?_)
          | refine cdO_bool _ (fun _ => ?_) (fun _ => ?_)
          | refine ⟨by decide, ?_⟩
          | fail)
        · refine roundE (fun s => [0, nm (s 5), nm (s 10), nm (s 12), nm (s 13), nm (s 121)]) (by simp only [go_sem, reduceCtorEq, reduceIte, Nat.reduceAdd, Nat.reduceEqDiff, Nat.reduceLeDiff, Nat.reduceMul, nm_pt, nm_rf]; rfl) (rk_of hn [(5, _), (10, _), (11, _), (12, _), (13, _), (14, _), (15, _)] _ _ ⟨i + 1, [] ++ [⟨crow, ccol, dn, rt, []⟩], k, by omega, by rw [hnx.out, mgStep, hE.out]; simp only [*, if_true, if_false, Bool.false_eq_true], by (try simp only [List.length_append, List.length_cons, List.length_nil]); omega, by omega, rfl, rfl, .inr ⟨by simp, rfl⟩, rfl⟩ (by omega) (by simp) (by simp [tau]) (by simp) (by simp [hm]) ?_ ?_)
          · repeat' (first | exact List.forall_mem_nil _ | refine List.forall_mem_cons.2 ⟨?_, ?_⟩ | exact .toPt (by simp only [go_sem, reduceCtorEq, reduceIte, Nat.reduceAdd, Nat.reduceEqDiff, Nat.reduceLeDiff, Nat.reduceMul, *] <;> rfl) (by simp [tau]) (by simp) | exact .toRf (by simp only [go_sem, reduceCtorEq, reduceIte, Nat.reduceAdd, Nat.reduceEqDiff, Nat.reduceLeDiff, Nat.reduceMul, *] <;> rfl) (by simp [tau]) (by simp) | exact .same (by simp only [go_sem, reduceCtorEq, reduceIte, Nat.reduceAdd, Nat.reduceEqDiff, Nat.reduceLeDiff, Nat.reduceMul, *] <;> rfl) (by first | rfl | simp [VV.cloL, VV.clo, *]))
          · unfold MgPre
            rw [hl]
            simp only [List.cons_append, List.nil_append]
            refine HConv.same (by decide) (by first | rfl | (simp only [go_sem, reduceCtorEq, reduceIte, Nat.reduceAdd, Nat.reduceEqDiff, Nat.reduceLeDiff, Nat.reduceMul, *] <;> rfl)) (flatC_clo _) ?_
            refine HConv.obj (cs := [.sc (.int .i64 t.rows), .sc (.int .i64 t.cols), .rf 0 0 _ 5]) (by decide) (by first | rfl | (simp only [go_sem, reduceCtorEq, reduceIte, Nat.reduceAdd, Nat.reduceEqDiff, Nat.reduceLeDiff, Nat.reduceMul, *] <;> rfl)) ?_ ?_
            · repeat' (first | exact CellsC.nil | exact .nil 3 | exact .nil 5 | exact .nil 6 | (exact .toRf (by first | rfl | simp [tau]) (by simp [tau]) (by simp)) | (exact .toPt (by first | rfl | simp [tau]) (by simp [tau]) (by simp)) | refine CellsC.one rfl ?_ | refine CellsC.cons ?_ rfl ?_)
            refine HConv.same (by decide) (by first | rfl | (simp only [go_sem, reduceCtorEq, reduceIte, Nat.reduceAdd, Nat.reduceEqDiff, Nat.reduceLeDiff, Nat.reduceMul, *] <;> rfl)) rfl ?_
            refine HConv.same (by decide) (by first | rfl | (simp only [go_sem, reduceCtorEq, reduceIte, Nat.reduceAdd, Nat.reduceEqDiff, Nat.reduceLeDiff, Nat.reduceMul, *] <;> rfl)) rfl ?_
            refine HConv.obj (cs := [.sc (.int .i64 t.rows), .sc (.int .i64 t.cols), .rf _ 0 _ 5]) (by decide) (by first | rfl | (simp only [go_sem, reduceCtorEq, reduceIte, Nat.reduceAdd, Nat.reduceEqDiff, Nat.reduceLeDiff, Nat.reduceMul, *] <;> rfl)) ?_ ?_
            · try rw [List.length_append]
              repeat' (first | exact CellsC.nil | exact .nil 3 | exact .nil 5 | exact .nil 6 | (exact .toRf (by first | rfl | simp [tau]) (by simp [tau]) (by simp)) | (exact .toPt (by first | rfl | simp [tau]) (by simp [tau]) (by simp)) | refine CellsC.one rfl ?_ | refine CellsC.cons ?_ rfl ?_)
            exact HConv.obj (cs := [.sc (.int .i64 crow), .sc (.int .i64 ccol), .sc (.int .i64 dn), .sc (.int .i64 rt), .rf _ 0 0 3]) (cs' := [.sc (.int .i64 crow), .sc (.int .i64 ccol), .sc (.int .i64 dn), .sc (.int .i64 rt), .sl 3 []]) (by decide) (by first | rfl | (simp only [go_sem, reduceCtorEq, reduceIte, Nat.reduceAdd, Nat.reduceEqDiff, Nat.reduceLeDiff, Nat.reduceMul, *] <;> rfl)) (.one rfl (.one rfl (.one rfl (.one rfl (.cons (.frf (cs := []) (by simp) (by simp only [go_sem, reduceCtorEq, reduceIte, Nat.reduceAdd, Nat.reduceEqDiff, Nat.reduceLeDiff, Nat.reduceMul]) rfl rfl (by simp) rfl) rfl .nil))))) HConv.nil
        · refine roundE (fun s => [0, nm (s 5), nm (s 10), nm (s 12), nm (s 13), 999]) (by simp only [go_sem, reduceCtorEq, reduceIte, Nat.reduceAdd, Nat.reduceEqDiff, Nat.reduceLeDiff, Nat.reduceMul, nm_pt, nm_rf]; rfl) (rk_of hn [(5, _), (10, _), (11, _), (12, _), (13, _), (14, _), (15, _)] _ _ ⟨i + 1, [], (k + 1), by omega, by rw [hnx.out, mgStep, hE.out]; simp only [*, if_true, if_false, Bool.false_eq_true], by (try simp only [List.length_append, List.length_cons, List.length_nil]); omega, by omega, rfl, rfl, .inl ⟨rfl, rfl⟩, rfl⟩ (by omega) (by simp) (by simp [tau]) (by simp) (by simp [hm]) ?_ ?_)
          · repeat' (first | exact List.forall_mem_nil _ | refine List.forall_mem_cons.2 ⟨?_, ?_⟩ | exact .toPt (by simp only [go_sem, reduceCtorEq, reduceIte, Nat.reduceAdd, Nat.reduceEqDiff, Nat.reduceLeDiff, Nat.reduceMul, *] <;> rfl) (by simp [tau]) (by simp) | exact .toRf (by simp only [go_sem, reduceCtorEq, reduceIte, Nat.reduceAdd, Nat.reduceEqDiff, Nat.reduceLeDiff, Nat.reduceMul, *] <;> rfl) (by simp [tau]) (by simp) | exact .same (by simp only [go_sem, reduceCtorEq, reduceIte, Nat.reduceAdd, Nat.reduceEqDiff, Nat.reduceLeDiff, Nat.reduceMul, *] <;> rfl) (by first | rfl | simp [VV.cloL, VV.clo, *]))
          · unfold MgPre
            rw [hl]
            simp only [List.cons_append, List.nil_append]
            refine HConv.same (by decide) (by first | rfl | (simp only [go_sem, reduceCtorEq, reduceIte, Nat.reduceAdd, Nat.reduceEqDiff, Nat.reduceLeDiff, Nat.reduceMul, *] <;> rfl)) (flatC_clo _) ?_
            refine HConv.obj (cs := [.sc (.int .i64 t.rows), .sc (.int .i64 t.cols), .rf 0 0 _ 5]) (by decide) (by first | rfl | (simp only [go_sem, reduceCtorEq, reduceIte, Nat.reduceAdd, Nat.reduceEqDiff, Nat.reduceLeDiff, Nat.reduceMul, *] <;> rfl)) ?_ ?_
            · repeat' (first | exact CellsC.nil | exact .nil 3 | exact .nil 5 | exact .nil 6 | (exact .toRf (by first | rfl | simp [tau]) (by simp [tau]) (by simp)) | (exact .toPt (by first | rfl | simp [tau]) (by simp [tau]) (by simp)) | refine CellsC.one rfl ?_ | refine CellsC.cons ?_ rfl ?_)
            refine HConv.same (by decide) (by first | rfl | (simp only [go_sem, reduceCtorEq, reduceIte, Nat.reduceAdd, Nat.reduceEqDiff, Nat.reduceLeDiff, Nat.reduceMul, *] <;> rfl)) rfl ?_
            refine HConv.same (by decide) (by first | rfl | (simp only [go_sem, reduceCtorEq, reduceIte, Nat.reduceAdd, Nat.reduceEqDiff, Nat.reduceLeDiff, Nat.reduceMul, *] <;> rfl)) rfl ?_
            exact HConv.same (by decide) (by first | rfl | (simp only [go_sem, reduceCtorEq, reduceIte, Nat.reduceAdd, Nat.reduceEqDiff, Nat.reduceLeDiff, Nat.reduceMul, *] <;> rfl)) rfl HConv.nil
        · refine failE ?_ _ _ _ (by simp only [go_sem, reduceCtorEq, reduceIte, Nat.reduceAdd, Nat.reduceEqDiff, Nat.reduceLeDiff, Nat.reduceMul]) (by simp only [go_sem, reduceCtorEq, reduceIte, Nat.reduceAdd, Nat.reduceEqDiff, Nat.reduceLeDiff, Nat.reduceMul]) (by simp only [go_sem, reduceCtorEq, reduceIte, Nat.reduceAdd, Nat.reduceEqDiff, Nat.reduceLeDiff, Nat.reduceMul]) (by simp only [go_sem, reduceCtorEq, reduceIte, Nat.reduceAdd, Nat.reduceEqDiff, Nat.reduceLeDiff, Nat.reduceMul])
          rw [← hTm.out, hall.out (by rw [hnx.out, mgStep, hE.out]; simp only [*, if_false, Bool.false_eq_true])]
      · have hfl := flatC_len out
        have tk : ((out.map Cell.enc).flatten).take (out.length * 5) = (out.map Cell.enc).flatten := List.take_of_length_le (by omega)
        have b3 : (out.length + 1) * 56 ≤ lim := lim56 (by omega)
        have b4 : out.length + 1 ≤ 9223372036854775807 := by omega
        have b5 : out.length * 5 ≤ out.length * 5 := by omega
        repeat' (first
          | simp only [go_sem, reduceCtorEq, reduceIte, Nat.reduceAdd, Nat.reduceEqDiff, Nat.reduceLeDiff, Nat.reduceMul, *]
          | refine gdO_bool' _ (fun _ => ?_) (fun _ => ?_)
          | refine gdO_bool _ (fun _ => ?_) (fun _ => ?_)
          | refine gdD_bool' _ (fun _ => ?_) (fun _ => ?_)
          | refine gdD_bool _ (fun _ => ?_) (fun _ => ?_)
          | refine cdO_bool' _ (fun _ => ?_) (fun _ => ?_)
          | refine cdO_bool _ (fun _ => ?_) (fun _ => ?_)
          | refine ⟨by decide, ?_⟩
          | fail)
        · refine roundE (fun s => [0, nm (s 5), nm (s 10), nm (s 12), nm (s 13), nm (s 121)]) (by simp only [go_sem, reduceCtorEq, reduceIte, Nat.reduceAdd, Nat.reduceEqDiff, Nat.reduceLeDiff, Nat.reduceMul, nm_pt, nm_rf]; rfl) (rk_of hn [(5, _), (10, _), (11, _), (12, _), (13, _), (14, _), (15, _)] _ _ ⟨i + 1, out ++ [⟨crow, ccol, dn, rt, []⟩], k, by omega, by rw [hnx.out, mgStep, hE.out]; simp only [*, if_true, if_false, Bool.false_eq_true], by (try simp only [List.length_append, List.length_cons, List.length_nil]); omega, by omega, rfl, rfl, .inr ⟨by simp, rfl⟩, rfl⟩ (by omega) (by simp) (by simp [tau]) (by simp) (by simp [hm]) ?_ ?_)
          · repeat' (first | exact List.forall_mem_nil _ | refine List.forall_mem_cons.2 ⟨?_, ?_⟩ | exact .toPt (by simp only [go_sem, reduceCtorEq, reduceIte, Nat.reduceAdd, Nat.reduceEqDiff, Nat.reduceLeDiff, Nat.reduceMul, *] <;> rfl) (by simp [tau]) (by simp) | exact .toRf (by simp only [go_sem, reduceCtorEq, reduceIte, Nat.reduceAdd, Nat.reduceEqDiff, Nat.reduceLeDiff, Nat.reduceMul, *] <;> rfl) (by simp [tau]) (by simp) | exact .same (by simp only [go_sem, reduceCtorEq, reduceIte, Nat.reduceAdd, Nat.reduceEqDiff, Nat.reduceLeDiff, Nat.reduceMul, *] <;> rfl) (by first | rfl | simp [VV.cloL, VV.clo, *]))
          · unfold MgPre
            rw [hl]
            simp only [List.cons_append, List.nil_append]
            refine HConv.same (by decide) (by first | rfl | (simp only [go_sem, reduceCtorEq, reduceIte, Nat.reduceAdd, Nat.reduceEqDiff, Nat.reduceLeDiff, Nat.reduceMul, *] <;> rfl)) (flatC_clo _) ?_
            refine HConv.obj (cs := [.sc (.int .i64 t.rows), .sc (.int .i64 t.cols), .rf 0 0 _ 5]) (by decide) (by first | rfl | (simp only [go_sem, reduceCtorEq, reduceIte, Nat.reduceAdd, Nat.reduceEqDiff, Nat.reduceLeDiff, Nat.reduceMul, *] <;> rfl)) ?_ ?_
            · repeat' (first | exact CellsC.nil | exact .nil 3 | exact .nil 5 | exact .nil 6 | (exact .toRf (by first | rfl | simp [tau]) (by simp [tau]) (by simp)) | (exact .toPt (by first | rfl | simp [tau]) (by simp [tau]) (by simp)) | refine CellsC.one rfl ?_ | refine CellsC.cons ?_ rfl ?_)
            refine HConv.same (by decide) (by first | rfl | (simp only [go_sem, reduceCtorEq, reduceIte, Nat.reduceAdd, Nat.reduceEqDiff, Nat.reduceLeDiff, Nat.reduceMul, *] <;> rfl)) rfl ?_
            refine HConv.same (by decide) (by first | rfl | (simp only [go_sem, reduceCtorEq, reduceIte, Nat.reduceAdd, Nat.reduceEqDiff, Nat.reduceLeDiff, Nat.reduceMul, *] <;> rfl)) rfl ?_
            refine HConv.obj (cs := [.sc (.int .i64 t.rows), .sc (.int .i64 t.cols), .rf _ 0 _ 5]) (by decide) (by first | rfl | (simp only [go_sem, reduceCtorEq, reduceIte, Nat.reduceAdd, Nat.reduceEqDiff, Nat.reduceLeDiff, Nat.reduceMul, *] <;> rfl)) ?_ ?_
            · try rw [List.length_append]
              repeat' (first | exact CellsC.nil | exact .nil 3 | exact .nil 5 | exact .nil 6 | (exact .toRf (by first | rfl | simp [tau]) (by simp [tau]) (by simp)) | (exact .toPt (by first | rfl | simp [tau]) (by simp [tau]) (by simp)) | refine CellsC.one rfl ?_ | refine CellsC.cons ?_ rfl ?_)
            rw [flatC_snoc]
            refine HConv.obj (cs := _ ++ [.sc (.int .i64 crow), .sc (.int .i64 ccol), .sc (.int .i64 dn), .sc (.int .i64 rt), .rf _ 0 0 3]) (by decide) (by first | rfl | (simp only [go_sem, reduceCtorEq, reduceIte, Nat.reduceAdd, Nat.reduceEqDiff, Nat.reduceLeDiff, Nat.reduceMul, *] <;> rfl)) ?_ HConv.nil
            exact CellsC.append (CellsC.same (flatC_clo _)) (.one rfl (.one rfl (.one rfl (.one rfl (.cons (.frf (cs := []) (by simp) (by simp only [go_sem, reduceCtorEq, reduceIte, Nat.reduceAdd, Nat.reduceEqDiff, Nat.reduceLeDiff, Nat.reduceMul]) rfl rfl (by simp) rfl) rfl .nil)))))
        · refine roundE (fun s => [0, nm (s 5), nm (s 10), nm (s 12), nm (s 13), 5]) (by simp only [go_sem, reduceCtorEq, reduceIte, Nat.reduceAdd, Nat.reduceEqDiff, Nat.reduceLeDiff, Nat.reduceMul, nm_pt, nm_rf]; rfl) (rk_of hn [(5, _), (10, _), (11, _), (12, _), (13, _), (14, _), (15, _)] _ _ ⟨i + 1, out, (k + 1), by omega, by rw [hnx.out, mgStep, hE.out]; simp only [*, if_true, if_false, Bool.false_eq_true], by (try simp only [List.length_append, List.length_cons, List.length_nil]); omega, by omega, rfl, rfl, .inr ⟨ho, rfl⟩, rfl⟩ (by omega) (by simp) (by simp [tau]) (by simp) (by simp [hm]) ?_ ?_)
          · repeat' (first | exact List.forall_mem_nil _ | refine List.forall_mem_cons.2 ⟨?_, ?_⟩ | exact .toPt (by simp only [go_sem, reduceCtorEq, reduceIte, Nat.reduceAdd, Nat.reduceEqDiff, Nat.reduceLeDiff, Nat.reduceMul, *] <;> rfl) (by simp [tau]) (by simp) | exact .toRf (by simp only [go_sem, reduceCtorEq, reduceIte, Nat.reduceAdd, Nat.reduceEqDiff, Nat.reduceLeDiff, Nat.reduceMul, *] <;> rfl) (by simp [tau]) (by simp) | exact .same (by simp only [go_sem, reduceCtorEq, reduceIte, Nat.reduceAdd, Nat.reduceEqDiff, Nat.reduceLeDiff, Nat.reduceMul, *] <;> rfl) (by first | rfl | simp [VV.cloL, VV.clo, *]))
          · unfold MgPre
            rw [hl]
            simp only [List.cons_append, List.nil_append]
            refine HConv.same (by decide) (by first | rfl | (simp only [go_sem, reduceCtorEq, reduceIte, Nat.reduceAdd, Nat.reduceEqDiff, Nat.reduceLeDiff, Nat.reduceMul, *] <;> rfl)) (flatC_clo _) ?_
            refine HConv.obj (cs := [.sc (.int .i64 t.rows), .sc (.int .i64 t.cols), .rf 0 0 _ 5]) (by decide) (by first | rfl | (simp only [go_sem, reduceCtorEq, reduceIte, Nat.reduceAdd, Nat.reduceEqDiff, Nat.reduceLeDiff, Nat.reduceMul, *] <;> rfl)) ?_ ?_
            · repeat' (first | exact CellsC.nil | exact .nil 3 | exact .nil 5 | exact .nil 6 | (exact .toRf (by first | rfl | simp [tau]) (by simp [tau]) (by simp)) | (exact .toPt (by first | rfl | simp [tau]) (by simp [tau]) (by simp)) | refine CellsC.one rfl ?_ | refine CellsC.cons ?_ rfl ?_)
            refine HConv.same (by decide) (by first | rfl | (simp only [go_sem, reduceCtorEq, reduceIte, Nat.reduceAdd, Nat.reduceEqDiff, Nat.reduceLeDiff, Nat.reduceMul, *] <;> rfl)) rfl ?_
            refine HConv.same (by decide) (by first | rfl | (simp only [go_sem, reduceCtorEq, reduceIte, Nat.reduceAdd, Nat.reduceEqDiff, Nat.reduceLeDiff, Nat.reduceMul, *] <;> rfl)) rfl ?_
            refine HConv.obj (cs := [.sc (.int .i64 t.rows), .sc (.int .i64 t.cols), .rf _ 0 _ 5]) (by decide) (by first | rfl | (simp only [go_sem, reduceCtorEq, reduceIte, Nat.reduceAdd, Nat.reduceEqDiff, Nat.reduceLeDiff, Nat.reduceMul, *] <;> rfl)) ?_ ?_
            · repeat' (first | exact CellsC.nil | exact .nil 3 | exact .nil 5 | exact .nil 6 | (exact .toRf (by first | rfl | simp [tau]) (by simp [tau]) (by simp)) | (exact .toPt (by first | rfl | simp [tau]) (by simp [tau]) (by simp)) | refine CellsC.one rfl ?_ | refine CellsC.cons ?_ rfl ?_)
            exact HConv.same (by decide) (by first | rfl | (simp only [go_sem, reduceCtorEq, reduceIte, Nat.reduceAdd, Nat.reduceEqDiff, Nat.reduceLeDiff, Nat.reduceMul, *] <;> rfl)) (flatC_clo _) HConv.nil
        · refine failE ?_ _ _ _ (by simp only [go_sem, reduceCtorEq, reduceIte, Nat.reduceAdd, Nat.reduceEqDiff, Nat.reduceLeDiff, Nat.reduceMul]) (by simp only [go_sem, reduceCtorEq, reduceIte, Nat.reduceAdd, Nat.reduceEqDiff, Nat.reduceLeDiff, Nat.reduceMul]) (by simp only [go_sem, reduceCtorEq, reduceIte, Nat.reduceAdd, Nat.reduceEqDiff, Nat.reduceLeDiff, Nat.reduceMul]) (by simp only [go_sem, reduceCtorEq, reduceIte, Nat.reduceAdd, Nat.reduceEqDiff, Nat.reduceLeDiff, Nat.reduceMul])
          rw [← hTm.out, hall.out (by rw [hnx.out, mgStep, hE.out]; simp only [*, if_false, Bool.false_eq_true])]
  · have e : i = l.length := by omega
    subst e
    rw [List.take_length] at hst
    have k3 : H 3 = some [.sc (.int .i64 row), .sc (.int .i64 col), .sc (.int .i64 down), .sc (.int .i64 right), .sc (.slice none 0 0)] := hg.at (by unfold MgPre; rfl)
    refine ⟨_, 6, Vw.nil (cs' := [.sc (.int .i64 row), .sc (.int .i64 col), .sc (.int .i64 down), .sc (.int .i64 right), .sl 3 []]) k3 ⟨.inl rfl, .inl rfl, .inl rfl, .inl rfl, .inr ⟨3, rfl, rfl⟩, trivial⟩, ?_⟩
    have hsm := formSm htok.out
    rw [hl] at hsm
    have hT2 : (if k < 2 then none else some (sortC (out ++ [one]))) = T := by rw [← hTm.out, hst]
    replace hT2 := Kept.mk hT2
    have g1 : decide (((l.length : Nat) : Int) < ((l.length : Nat) : Int)) = false := by simp
    have ht : PureC prog 130 [.sl 3 []] (.sc (.bool true)) := c130 []
    unfold MgPre at hg
    rw [hl] at hg
    clear hst hge k3 hi
    rcases Nat.lt_or_ge k 2 with hk2 | hk2
    · have g2 : decide ((k : Int) < 2) = true := by simp; omega
      rcases hg with ⟨ho, rfl⟩ | ⟨ho, rfl⟩
      all_goals
        repeat' (first
          | simp only [go_sem, reduceCtorEq, reduceIte, Nat.reduceAdd, Nat.reduceEqDiff, Nat.reduceLeDiff, Nat.reduceMul, *]
          | refine gdO_bool' _ (fun _ => ?_) (fun _ => ?_)
          | refine gdO_bool _ (fun _ => ?_) (fun _ => ?_)
          | refine gdD_bool' _ (fun _ => ?_) (fun _ => ?_)
          | refine gdD_bool _ (fun _ => ?_) (fun _ => ?_)
          | refine cdO_bool' _ (fun _ => ?_) (fun _ => ?_)
          | refine cdO_bool _ (fun _ => ?_) (fun _ => ?_)
          | refine callO.pure (by first | exact ht) ?_
          | refine callW.pure (by first | exact ht) ?_
          | refine ⟨by decide, ?_⟩
          | fail)
        refine failE (by rw [← hT2.out, if_pos hk2]) _ _ _ (by simp only [go_sem, reduceCtorEq, reduceIte, Nat.reduceAdd, Nat.reduceEqDiff, Nat.reduceLeDiff, Nat.reduceMul]) (by simp only [go_sem, reduceCtorEq, reduceIte, Nat.reduceAdd, Nat.reduceEqDiff, Nat.reduceLeDiff, Nat.reduceMul]) (by simp only [go_sem, reduceCtorEq, reduceIte, Nat.reduceAdd, Nat.reduceEqDiff, Nat.reduceLeDiff, Nat.reduceMul]) (by simp only [go_sem, reduceCtorEq, reduceIte, Nat.reduceAdd, Nat.reduceEqDiff, Nat.reduceLeDiff, Nat.reduceMul])
    · have g2 : decide ((k : Int) < 2) = false := by simp; omega
      have h208 : ObjC prog 208 [.rf 0 0 (out.length + 1) 5] [(out.map Cell.enc).flatten ++ [.sc (.int .i64 row), .sc (.int .i64 col), .sc (.int .i64 down), .sc (.int .i64 right), .sl 3 []]] (.rf 1 0 (out.length + 1) 5) [(0, (out.map Cell.enc).flatten ++ [.sc (.int .i64 row), .sc (.int .i64 col), .sc (.int .i64 down), .sc (.int .i64 right), .sl 3 []]), (1, ((sortC (out ++ [one])).map Cell.enc).flatten)] 2 := by
        have := c208 (l := out ++ [one]) (by simp; omega)
        rw [flatC_snoc, ← hone.out, List.length_append] at this
        rw [← hone.out]
        exact this
      have hT3 : some (sortC (out ++ [one])) = T := by rw [← hT2.out, if_neg (by omega)]
      subst hT3
      have hsl : (sortC (out ++ [one])).length = out.length + 1 := by
        have := sortC_len (out ++ [one]) _ (Nat.le_refl _)
        rw [List.take_length, List.length_append] at this
        exact this
      generalize sortC (out ++ [one]) = cs at *
      replace hsl := Kept.mk hsl
      rcases hg with ⟨ho, rfl⟩ | ⟨ho, rfl⟩
      · subst ho
        have b56 : 56 ≤ lim := by unfold lim; omega
        repeat' (first
          | simp only [go_sem, reduceCtorEq, reduceIte, Nat.reduceAdd, Nat.reduceEqDiff, Nat.reduceLeDiff, Nat.reduceMul, Nat.reduceSub, renL_app, *]
          | refine gdO_bool' _ (fun _ => ?_) (fun _ => ?_)
          | refine gdO_bool _ (fun _ => ?_) (fun _ => ?_)
          | refine gdD_bool' _ (fun _ => ?_) (fun _ => ?_)
          | refine gdD_bool _ (fun _ => ?_) (fun _ => ?_)
          | refine cdO_bool' _ (fun _ => ?_) (fun _ => ?_)
          | refine cdO_bool _ (fun _ => ?_) (fun _ => ?_)
          | refine callO.pure (by first | exact ht) ?_
          | refine callW.pure (by first | exact ht) ?_
          | (refine callO.obj [22] (h208) ?_ rfl (by decide) ?_ ?_
             · simp only [go_sem, reduceCtorEq, reduceIte, Nat.reduceAdd, Nat.reduceEqDiff, Nat.reduceLeDiff, Nat.reduceMul, Nat.reduceSub, renL_app, *]
             · repeat' (first | exact HIs_nil | refine HIs_cons ?_ ?_ | (simp only [go_sem, reduceCtorEq, reduceIte, Nat.reduceAdd, Nat.reduceEqDiff, Nat.reduceLeDiff, Nat.reduceMul, Nat.reduceSub, renL_app, *]; done)))
          | (refine callW.obj [22] (h208) rfl ?_ rfl (by decide) ?_ (by simp [okInc, Disj]) ?_
             · simp only [go_sem, reduceCtorEq, reduceIte, Nat.reduceAdd, Nat.reduceEqDiff, Nat.reduceLeDiff, Nat.reduceMul, Nat.reduceSub, renL_app, *]
             · repeat' (first | exact HIs_nil | refine HIs_cons ?_ ?_ | (simp only [go_sem, reduceCtorEq, reduceIte, Nat.reduceAdd, Nat.reduceEqDiff, Nat.reduceLeDiff, Nat.reduceMul, Nat.reduceSub, renL_app, *]; done)))
          | refine ⟨by decide, ?_⟩
          | fail)
        refine ⟨by simp, [.agg [.sc (.int .i64 t.rows), .sc (.int .i64 t.cols), .rf 23 0 (0 + 1) 5], .sc (.bool true)], by simp only [go_sem, reduceCtorEq, reduceIte, Nat.reduceAdd, Nat.reduceEqDiff, Nat.reduceLeDiff, Nat.reduceMul, resV], ?_⟩
        refine EndV.of hn [0, 23] [(0, _), (1, _)] (by simp) (by simp [tau]) (by simp) (Conv.tupOf (.cons (.aggOf ?_) rfl (.one rfl .nil))) ?_
        · refine .one rfl (.one rfl (.cons (.toRf (by rw [hsl.out]; rfl) (by simp [tau]) (by simp)) rfl .nil))
        · rw [hl]
          refine HConv.same (by decide) (by first | rfl | (simp only [go_sem, reduceCtorEq, reduceIte, Nat.reduceAdd, Nat.reduceEqDiff, Nat.reduceLeDiff, Nat.reduceMul, *] <;> rfl)) (flatC_clo _) ?_
          exact HConv.same (by decide) (by first | rfl | (simp only [go_sem, reduceCtorEq, reduceIte, Nat.reduceAdd, Nat.reduceEqDiff, Nat.reduceLeDiff, Nat.reduceMul, *] <;> rfl)) (flatC_clo _) HConv.nil
      · have hfl := flatC_len out
        have tk : ((out.map Cell.enc).flatten).take (out.length * 5) = (out.map Cell.enc).flatten := List.take_of_length_le (by omega)
        have b3 : (out.length + 1) * 56 ≤ lim := lim56 (by omega)
        have b4 : out.length + 1 ≤ 9223372036854775807 := by omega
        have b5 : out.length * 5 ≤ out.length * 5 := by omega
        clear hol
        repeat' (first
          | simp only [go_sem, reduceCtorEq, reduceIte, Nat.reduceAdd, Nat.reduceEqDiff, Nat.reduceLeDiff, Nat.reduceMul, Nat.reduceSub, renL_app, *]
          | refine gdO_bool' _ (fun _ => ?_) (fun _ => ?_)
          | refine gdO_bool _ (fun _ => ?_) (fun _ => ?_)
          | refine gdD_bool' _ (fun _ => ?_) (fun _ => ?_)
          | refine gdD_bool _ (fun _ => ?_) (fun _ => ?_)
          | refine cdO_bool' _ (fun _ => ?_) (fun _ => ?_)
          | refine cdO_bool _ (fun _ => ?_) (fun _ => ?_)
          | refine callO.pure (by first | exact ht) ?_
          | refine callW.pure (by first | exact ht) ?_
          | (refine callO.obj [22] (h208) ?_ rfl (by decide) ?_ ?_
             · simp only [go_sem, reduceCtorEq, reduceIte, Nat.reduceAdd, Nat.reduceEqDiff, Nat.reduceLeDiff, Nat.reduceMul, Nat.reduceSub, renL_app, *]
             · repeat' (first | exact HIs_nil | refine HIs_cons ?_ ?_ | (simp only [go_sem, reduceCtorEq, reduceIte, Nat.reduceAdd, Nat.reduceEqDiff, Nat.reduceLeDiff, Nat.reduceMul, Nat.reduceSub, renL_app, *]; done)))
          | (refine callW.obj [22] (h208) rfl ?_ rfl (by decide) ?_ (by simp [okInc, Disj]) ?_
             · simp only [go_sem, reduceCtorEq, reduceIte, Nat.reduceAdd, Nat.reduceEqDiff, Nat.reduceLeDiff, Nat.reduceMul, Nat.reduceSub, renL_app, *]
             · repeat' (first | exact HIs_nil | refine HIs_cons ?_ ?_ | (simp only [go_sem, reduceCtorEq, reduceIte, Nat.reduceAdd, Nat.reduceEqDiff, Nat.reduceLeDiff, Nat.reduceMul, Nat.reduceSub, renL_app, *]; done)))
          | refine ⟨by decide, ?_⟩
          | fail)
        refine ⟨by simp, [.agg [.sc (.int .i64 t.rows), .sc (.int .i64 t.cols), .rf 23 0 (out.length + 1) 5], .sc (.bool true)], by simp only [go_sem, reduceCtorEq, reduceIte, Nat.reduceAdd, Nat.reduceEqDiff, Nat.reduceLeDiff, Nat.reduceMul, resV], ?_⟩
        refine EndV.of hn [0, 23] [(0, _), (1, _)] (by simp) (by simp [tau]) (by simp) (Conv.tupOf (.cons (.aggOf ?_) rfl (.one rfl .nil))) ?_
        · refine .one rfl (.one rfl (.cons (.toRf (by rw [hsl.out]; rfl) (by simp [tau]) (by simp)) rfl .nil))
        · rw [hl]
          refine HConv.same (by decide) (by first | rfl | (simp only [go_sem, reduceCtorEq, reduceIte, Nat.reduceAdd, Nat.reduceEqDiff, Nat.reduceLeDiff, Nat.reduceMul, *] <;> rfl)) (flatC_clo _) ?_
          exact HConv.same (by decide) (by first | rfl | (simp only [go_sem, reduceCtorEq, reduceIte, Nat.reduceAdd, Nat.reduceEqDiff, Nat.reduceLeDiff, Nat.reduceMul, *] <;> rfl)) (flatC_clo _) HConv.nil
end Go.Proofs.Ytdmmhainianadaa

/- F28: a drawn table. -/
namespace Go.Proofs.Ytdmmhainianadaa
open Go.VM Go.Lim Go.Proofs.Try
attribute [local irreducible] vwp vops vstep vdr vdr1 CallP PPost SWv gdO gdD cdO optV optW optD thenV blockV behind callO callW callvO roundV
set_option linter.unusedSimpArgs false
set_option linter.unusedVariables false
/- loop.example/limner/spec.l71Table -/
def vc171 : VCode :=
(.seq (.reg [⟨(some 2), (.new [(.int .i64 0), (.int .i64 0), (.slice none 0 0)]), none⟩])
(.seq (.reg [⟨(some 10), (.mov (.tmp 0)), none⟩, ⟨(some 11), (.call 102 [(.tmp 10), (.const (.int .i64 4))]), none⟩, ⟨(some 12), (.bin .add .no (.const (.int .i64 1)) (.tmp 11)), none⟩, ⟨(some 13), (.mov (.tmp 0)), none⟩, ⟨(some 14), (.call 102 [(.tmp 13), (.const (.int .i64 4))]), none⟩, ⟨(some 15), (.bin .add .no (.const (.int .i64 1)) (.tmp 14)), none⟩, ⟨(some 16), (.call 194 [(.tmp 12), (.tmp 15)]), none⟩, ⟨(some 3), (.new [(.int .i64 0), (.int .i64 0), (.slice none 0 0)]), none⟩, ⟨none, (.store 3 (.tmp 3) (.tmp 16)), none⟩])
(.seq (.seq (.reg [⟨(some 17), (.mov (.tmp 0)), none⟩, ⟨(some 18), (.call 102 [(.tmp 17), (.const (.int .i64 4))]), none⟩, ⟨(some 4), (.mov (.tmp 18)), none⟩])
(.block 0 (.loop (.seq (.seq (.reg [⟨(some 19), (.mov (.tmp 4)), none⟩, ⟨(some 20), (.bin .gtr .no (.tmp 19) (.const (.int .i64 0))), none⟩])
  (.cond (.tmp 20) .skip
   (.exit 0)))
  (.seq (.block 1 (.seq (.reg [⟨(some 23), (.mov (.tmp 0)), none⟩, ⟨(some 24), (.fad 0 (.tmp 3)), none⟩, ⟨(some 25), (.load false 1 (.tmp 24)), none⟩, ⟨(some 26), (.call 102 [(.tmp 23), (.tmp 25)]), none⟩, ⟨(some 5), (.mov (.tmp 26)), none⟩])
   (.seq (.reg [⟨(some 27), (.mov (.tmp 0)), none⟩, ⟨(some 28), (.fad 1 (.tmp 3)), none⟩, ⟨(some 29), (.load false 1 (.tmp 28)), none⟩, ⟨(some 30), (.call 102 [(.tmp 27), (.tmp 29)]), none⟩, ⟨(some 6), (.mov (.tmp 30)), none⟩])
   (.seq (.drw [(⟨(some 32), (.load true 3 (.tmp 3)), none⟩, []), (⟨(some 33), (.mov (.tmp 5)), none⟩, []), (⟨(some 34), (.mov (.tmp 6)), none⟩, []), (⟨(some 35), (.mov (.tmp 0)), none⟩, []), (⟨(some 36), (.fad 0 (.tmp 3)), none⟩, []), (⟨(some 37), (.load false 1 (.tmp 36)), none⟩, [0]), (⟨(some 38), (.mov (.tmp 5)), none⟩, []), (⟨(some 39), (.bin .sub .no (.tmp 37) (.tmp 38)), none⟩, []), (⟨(some 40), (.call 102 [(.tmp 35), (.tmp 39)]), none⟩, [0]), (⟨(some 41), (.bin .add .no (.const (.int .i64 1)) (.tmp 40)), none⟩, []), (⟨(some 42), (.mov (.tmp 0)), none⟩, []), (⟨(some 43), (.fad 1 (.tmp 3)), none⟩, []), (⟨(some 44), (.load false 1 (.tmp 43)), none⟩, [0, 5, 8]), (⟨(some 45), (.mov (.tmp 6)), none⟩, []), (⟨(some 46), (.bin .sub .no (.tmp 44) (.tmp 45)), none⟩, []), (⟨(some 47), (.call 102 [(.tmp 42), (.tmp 46)]), none⟩, [0]), (⟨(some 48), (.bin .add .no (.const (.int .i64 1)) (.tmp 47)), none⟩, []), (⟨(some 49), (.call 195 [(.tmp 32), (.tmp 33), (.tmp 34), (.tmp 41), (.tmp 48)]), none⟩, []), (⟨(some 31), (.mov (.tmp 49)), none⟩, []), (⟨(some 50), (.ext (.tmp 31) 0), none⟩, []), (⟨(some 51), (.ext (.tmp 31) 1), none⟩, []), (⟨(some 7), (.new [(.int .i64 0), (.int .i64 0), (.slice none 0 0)]), none⟩, [0, 5, 8, 12, 15, 17]), (⟨none, (.store 3 (.tmp 7) (.tmp 50)), none⟩, []), (⟨(some 8), (.mov (.tmp 51)), none⟩, [])])
   (.seq (.reg [⟨(some 52), (.mov (.tmp 8)), none⟩])
   (.cond (.tmp 52) (.reg [⟨(some 53), (.load true 3 (.tmp 7)), none⟩, ⟨none, (.store 3 (.tmp 3) (.tmp 53)), none⟩])
    .skip))))))
  (.reg [⟨(some 21), (.mov (.tmp 4)), none⟩, ⟨(some 22), (.bin .sub .no (.tmp 21) (.const (.int .i64 1))), none⟩, ⟨(some 4), (.mov (.tmp 22)), none⟩]))))))
(.seq (.seq (.reg [⟨(some 9), (.mov (.const (.int .i64 0))), none⟩])
(.block 2 (.loop (.seq (.seq (.reg [⟨(some 54), (.mov (.tmp 9)), none⟩, ⟨(some 55), (.fad 2 (.tmp 3)), none⟩, ⟨(some 56), (.load false 1 (.tmp 55)), none⟩, ⟨(some 57), (.len false (.tmp 56)), none⟩, ⟨(some 58), (.bin .lss .no (.tmp 54) (.tmp 57)), none⟩])
  (.cond (.tmp 58) .skip
   (.exit 2)))
  (.seq (.block 3 (.seq (.reg [⟨(some 61), (.mov (.tmp 0)), none⟩, ⟨(some 62), (.call 102 [(.tmp 61), (.const (.int .i64 2))]), none⟩, ⟨(some 63), (.bin .eql .no (.tmp 62) (.const (.int .i64 0))), none⟩])
   (.cond (.tmp 63) (.drw [(⟨(some 64), (.fad 2 (.tmp 3)), none⟩, []), (⟨(some 65), (.load false 1 (.tmp 64)), none⟩, []), (⟨(some 66), (.mov (.tmp 9)), none⟩, []), (⟨(some 67), (.mov (.tmp 0)), none⟩, []), (⟨(some 68), (.call 193 [(.tmp 67), (.const (.int .i64 5))]), none⟩, [1]), (⟨(some 69), (.iad 5 (.tmp 65) (.tmp 66)), none⟩, []), (⟨(some 70), (.fad 4 (.tmp 69)), none⟩, []), (⟨none, (.store 1 (.tmp 70) (.tmp 68)), none⟩, [])])
    .skip)))
  (.reg [⟨(some 59), (.mov (.tmp 9)), none⟩, ⟨(some 60), (.bin .add .no (.tmp 59) (.const (.int .i64 1))), none⟩, ⟨(some 9), (.mov (.tmp 60)), none⟩]))))))
(.seq (.reg [⟨(some 71), (.load true 3 (.tmp 3)), none⟩, ⟨none, (.store 3 (.tmp 2) (.tmp 71)), none⟩])
.ret)))))
theorem k171 : compFn prog 171 = some (72, vc171, [.c 2 true 3]) := by kernel_rfl
theorem insSt_mem (x : Cell) (out : List Cell) {y : Cell} (h : y ∈ (insSt x out).1) : y = x ∨ y ∈ out := by
  have gen : ∀ (l : List Cell) (s : List Cell × Bool), y ∈ (l.foldl (insStep x) s).1 → y ∈ s.1 ∨ y = x ∨ y ∈ l := by
    intro l
    induction l with
    | nil => intro s h; exact .inl h
    | cons z l ih =>
      intro s h
      rcases ih _ h with h1 | h1 | h1
      · unfold insStep at h1
        split at h1 <;> simp at h1 <;> rcases h1 with h1 | h1
        · exact .inl h1
        · rcases h1 with h1 | h1
          · exact .inr (.inl h1)
          · exact .inr (.inr (by simp [h1]))
        · exact .inl h1
        · exact .inr (.inr (by simp [h1]))
      · exact .inr (.inl h1)
      · exact .inr (.inr (by simp [h1]))
  rcases gen out _ h with h1 | h1 | h1
  · simp at h1
  · exact .inl h1
  · exact .inr h1
theorem insOne_mem (x : Cell) (out : List Cell) {y : Cell} (h : y ∈ insOne x out) : y = x ∨ y ∈ out := by
  unfold insOne at h
  split at h
  · exact insSt_mem x out h
  · rcases List.mem_append.1 h with h | h
    · exact insSt_mem x out h
    · exact .inl (by simpa using h)
theorem sortC_mem {l : List Cell} {y : Cell} (h : y ∈ sortC l) : y ∈ l := by
  have gen : ∀ (l : List Cell) (s : List Cell), y ∈ l.foldl (fun out x => insOne x out) s → y ∈ s ∨ y ∈ l := by
    intro l
    induction l with
    | nil => intro s h; exact .inl h
    | cons z l ih =>
      intro s h
      rcases ih _ h with h1 | h1
      · rcases insOne_mem z s h1 with h1 | h1
        · exact .inr (by simp [h1])
        · exact .inl h1
      · exact .inr (by simp [h1])
  rcases gen l _ h with h1 | h1
  · simp at h1
  · exact h1
theorem mgSt_ok (one : Cell) : ∀ (l : List Cell) {s0 : List Cell × Nat} {s : List Cell × Nat}, l.foldl (mgStep one) (some s0) = some s → s.1.length ≤ s0.1.length + l.length ∧ ∀ c ∈ s.1, c ∈ s0.1 ∨ c ∈ l
  | [], s0, s, h => by injection h with h; subst h; exact ⟨by simp, fun c hc => .inl hc⟩
  | c :: l, s0, s, h => by
    obtain ⟨o0, n0⟩ := s0
    simp only [List.foldl_cons, mgStep] at h
    split at h
    · obtain ⟨h1, h2⟩ := mgSt_ok one l h
      simp only [List.length_append, List.length_cons, List.length_nil] at h1
      refine ⟨by simp only [List.length_cons]; omega, fun d hd => ?_⟩
      rcases h2 d hd with h3 | h3
      · rcases List.mem_append.1 h3 with h3 | h3
        · exact .inl h3
        · exact .inr (by simp at h3; simp [h3])
      · exact .inr (by simp [h3])
    · split at h
      · obtain ⟨h1, h2⟩ := mgSt_ok one l h
        refine ⟨by simp only [List.length_cons] at h1 ⊢; omega, fun d hd => ?_⟩
        rcases h2 d hd with h3 | h3
        · exact .inl h3
        · exact .inr (by simp [h3])
      · rw [mgNone1] at h; cases h
/-- A table that is being drawn. -/
def Bare (t : Table) : Prop := (∀ c ∈ t.cells, c.text = []) ∧ t.cells.length ≤ 26 ∧ 1 ≤ t.rows ∧ t.rows ≤ 5 ∧ 1 ≤ t.cols ∧ t.cols ≤ 5
theorem mergeT_bare {t : Table} {row col down right : Int} {cs : List Cell} (h : Bare t) (hm : mergeT t row col down right = some cs) : Bare ⟨t.rows, t.cols, cs⟩ := by
  unfold mergeT at hm
  split at hm
  · rename_i ha
    have ht : tableOk t = true := by simp only [mgArgs, Bool.and_eq_true] at ha; exact ha.1.1.1.1
    split at hm
    · cases hm
    · rename_i out n hs
      split at hm
      · cases hm
      · injection hm with hm; subst hm
        obtain ⟨h1, h2⟩ := mgSt_ok _ _ hs
        have hl := (formSm ht).2.2
        have hlen := sortC_len (out ++ [⟨row, col, down, right, []⟩]) _ (Nat.le_refl _)
        rw [List.take_length, List.length_append] at hlen
        simp only [List.length_nil, List.length_cons] at hlen h1
        refine ⟨fun c hc => ?_, by show (sortC _).length ≤ 26; omega, h.2.2⟩
        rcases List.mem_append.1 (sortC_mem hc) with hc | hc
        · rcases h2 c hc with hc | hc
          · simp at hc
          · exact h.1 c hc
        · simp at hc; simp [hc]
  · cases hm
theorem newRow_mem (i : Nat) : ∀ j, ∀ c ∈ newRow i j, c.text = []
  | 0, c, h => by simp [newRow] at h
  | j + 1, c, h => by
    rcases List.mem_append.1 h with h | h
    · exact newRow_mem i j c h
    · simp at h; simp [h]
theorem newCells_mem (cols : Nat) : ∀ i, ∀ c ∈ newCells cols i, c.text = []
  | 0, c, h => by simp [newCells] at h
  | i + 1, c, h => by
    rcases List.mem_append.1 h with h | h
    · exact newCells_mem cols i c h
    · exact newRow_mem i cols c h
def MgNext (b : List Int) (s s' : Table × Int) : Prop := ∃ row col v3 v4 : Int, Pk b s.2 s.1.rows row ∧ Pk b (s.2 + 1) s.1.cols col ∧ Pk b (s.2 + 1 + 1) (s.1.rows - row) v3 ∧ Pk b (s.2 + 1 + 1 + 1) (s.1.cols - col) v4 ∧ row < s.1.rows ∧ col < s.1.cols ∧ v3 < s.1.rows - row ∧ v4 < s.1.cols - col ∧
  s'.2 = s.2 + 1 + 1 + 1 + 1 ∧ s'.1 = match mergeT s.1 row col (1 + v3) (1 + v4) with | none => s.1 | some cs => ⟨s.1.rows, s.1.cols, cs⟩
def TxNext (b : List Int) (i : Nat) (s s' : List Cell × Int) : Prop := ∃ v : Int, Pk b s.2 2 v ∧ (v ≠ 0 → s' = (s.1, s.2 + 1)) ∧ (v = 0 → ∃ l : Text, l.length ≤ 5 ∧ ObjC prog 193 [.pt 0 0, .sc (.int .i64 5)] [[encBy b, .sc (.int .i64 (s.2 + 1))]] (.rf 1 0 l.length 3) [(0, [encBy b, .sc (.int .i64 s'.2)]), (1, (l.map Sign.enc).flatten)] 2 ∧ ∃ h : i < s.1.length, s'.1 = s.1.set i { s.1[i] with text := l })
theorem mgIter {b : List Int} (hr : Rd b) {p : Int} (h0 : 0 ≤ p) (h1 : p + 10000 < 1073741824) {t : Table} (ht : Bare t) : ∃ f : Nat → Table × Int, f 0 = (t, p) ∧ ∀ i, i ≤ 3 → Bare (f i).1 ∧ (f i).2 = p + 4 * i ∧ (f i).1.rows = t.rows ∧ (f i).1.cols = t.cols ∧ (i < 3 → MgNext b (f i) (f (i + 1))) := by
  obtain ⟨f, hf0, hf⟩ := iter_choice (α := Table × Int) (I := fun i s => Bare s.1 ∧ (i ≤ 3 → s.2 = p + 4 * i) ∧ s.1.rows = t.rows ∧ s.1.cols = t.cols) (R := fun i s s' => i < 3 → MgNext b s s') (s0 := (t, p)) ⟨ht, fun _ => by simp, rfl, rfl⟩ (fun i s hs => by
    obtain ⟨hs1, hs2, hs3, hs4⟩ := hs
    by_cases hi : i < 3
    · have hp := hs2 (by omega)
      have hs1' := hs1
      obtain ⟨_, _, r1, r2, d1, d2⟩ := hs1'
      obtain ⟨row, q1⟩ := pk hr (p := s.2) (by omega) (by omega) s.1.rows
      obtain ⟨col, q2⟩ := pk hr (p := s.2 + 1) (by omega) (by omega) s.1.cols
      obtain ⟨v3, q3⟩ := pk hr (p := s.2 + 1 + 1) (by omega) (by omega) (s.1.rows - row)
      obtain ⟨v4, q4⟩ := pk hr (p := s.2 + 1 + 1 + 1) (by omega) (by omega) (s.1.cols - col)
      have l1 := q1.2.1 (by omega)
      have l2 := q2.2.1 (by omega)
      have l3 := q3.2.1 (by omega)
      have l4 := q4.2.1 (by omega)
      refine ⟨(match mergeT s.1 row col (1 + v3) (1 + v4) with | none => s.1 | some cs => ⟨s.1.rows, s.1.cols, cs⟩, s.2 + 1 + 1 + 1 + 1), ⟨?_, fun _ => by simp only; omega, ?_, ?_⟩, fun _ => ⟨row, col, v3, v4, q1, q2, q3, q4, l1, l2, l3, l4, rfl, rfl⟩⟩
      · split
        · exact hs1
        · rename_i cs hm; exact mergeT_bare hs1 hm
      · split <;> exact hs3
      · split <;> exact hs4
    · exact ⟨(s.1, 0), ⟨hs1, fun h => by omega, hs3, hs4⟩, fun h => absurd h hi⟩)
  exact ⟨f, hf0, fun i hi => ⟨(hf i).1.1, (hf i).1.2.1 hi, (hf i).1.2.2.1, (hf i).1.2.2.2, (hf i).2⟩⟩
theorem txIter {b : List Int} (hr : Rd b) {p : Int} (h0 : 0 ≤ p) (h1 : p + 10000 < 1073741824) {cs : List Cell} (hc : cs.length ≤ 26) (ht : ∀ c ∈ cs, c.text.length ≤ 5) :
    ∃ g : Nat → List Cell × Int, g 0 = (cs, p) ∧ ∀ i, i ≤ cs.length → (g i).1.length = cs.length ∧ (∀ c ∈ (g i).1, c.text.length ≤ 5) ∧ p ≤ (g i).2 ∧ (g i).2 ≤ p + 201 * i ∧ (i < cs.length → TxNext b i (g i) (g (i + 1))) := by
  obtain ⟨g, hg0, hg⟩ := iter_choice (α := List Cell × Int) (I := fun i s => s.1.length = cs.length ∧ (∀ c ∈ s.1, c.text.length ≤ 5) ∧ (i ≤ cs.length → p ≤ s.2 ∧ s.2 ≤ p + 201 * i)) (R := fun i s s' => i < cs.length → TxNext b i s s') (s0 := (cs, p)) ⟨rfl, ht, fun _ => by simp⟩ (fun i s hs => by
    obtain ⟨hs1, hs2, hs3⟩ := hs
    by_cases hi : i < cs.length
    · have hp := hs3 (by omega)
      obtain ⟨v, q⟩ := pk hr (p := s.2) (by omega) (by omega) 2
      by_cases hv : v = 0
      · obtain ⟨l, p', hp', hl, hc'⟩ := c193 hr (p := s.2 + 1) (most := 5) (by omega) (by omega) (by omega) (by omega)
        have hi' : i < s.1.length := by omega
        refine ⟨(s.1.set i { s.1[i] with text := l }, p'), ⟨by simp [hs1], fun c hc => ?_, fun _ => by simp only; omega⟩, fun _ => ⟨v, q, fun h => absurd hv h, fun _ => ⟨l, by omega, hc', hi', rfl⟩⟩⟩
        rcases List.mem_or_eq_of_mem_set hc with h | h
        · exact hs2 c h
        · rw [h]; show l.length ≤ 5; omega
      · exact ⟨(s.1, s.2 + 1), ⟨hs1, hs2, fun _ => by simp only; omega⟩, fun _ => ⟨v, q, fun _ => rfl, fun h => absurd h hv⟩⟩
    · exact ⟨(s.1, 0), ⟨hs1, hs2, fun h => by omega⟩, fun h => absurd h hi⟩)
  exact ⟨g, hg0, fun i hi => ⟨(hg i).1.1, (hg i).1.2.1, ((hg i).1.2.2 hi).1, ((hg i).1.2.2 hi).2, (hg i).2⟩⟩
/-- A drawn table. -/
def DrT (t : Table) : Prop := 1 ≤ t.rows ∧ t.rows ≤ 5 ∧ 1 ≤ t.cols ∧ t.cols ≤ 5 ∧ t.cells.length ≤ 26 ∧ ∀ c ∈ t.cells, c.text.length ≤ 5
theorem frT {τ : Nat → Nat} {H : Heap} {D : Nat → Prop} {n' k : Nat} {l : Text} (hk : D k) (hc : H k = some (l.map Sign.enc).flatten) : Conv τ H D n' (.rf k 0 l.length 3) (.sl 3 (l.map Sign.enc)) := by
  refine .frf hk hc (by simp) ?_ (fun r hr => ?_) (flat_clo _)
  · rw [List.drop_zero, List.take_of_length_le (by rw [flat_len]; omega)]
  · obtain ⟨c, _, rfl⟩ := List.mem_map.1 hr; rfl
theorem takeC (l : List Cell) {i : Nat} (h : i < l.length) : ((l.map Cell.enc).flatten).take (i * 5 + 4) = ((l.take i).map Cell.enc).flatten ++ [.sc (.int .i64 l[i].row), .sc (.int .i64 l[i].col), .sc (.int .i64 l[i].down), .sc (.int .i64 l[i].right)] := by
  have e : (l.map Cell.enc).flatten = ((l.take i).map Cell.enc).flatten ++ ((l[i]).enc ++ ((l.drop (i + 1)).map Cell.enc).flatten) := by
    conv => lhs; rw [← List.take_append_drop i l, List.drop_eq_getElem_cons h, List.map_append, List.flatten_append, List.map_cons, List.flatten_cons]
  have e2 : ((l.take i).map Cell.enc).flatten.length = i * 5 := by rw [flatC_len, List.length_take, Nat.min_eq_left (Nat.le_of_lt h)]
  rw [e, List.take_append, e2, List.take_of_length_le (by omega), show i * 5 + 4 - i * 5 = 4 by omega]
  rfl
theorem setC (l : List Cell) {i : Nat} (h : i < l.length) {c : Cell} : ((l.set i c).map Cell.enc).flatten = ((l.take i).map Cell.enc).flatten ++ (c.enc ++ ((l.drop (i + 1)).map Cell.enc).flatten) := by
  rw [List.set_eq_take_append_cons_drop, if_pos h]
  simp
set_option maxHeartbeats 1000000 in
theorem c171 {b : List Int} (hr : Rd b) {p : Int} (h0 : 0 ≤ p) (h1 : p + 20000 < 1073741824) : ∃ (t : Table) (p' : Int), (p ≤ p' ∧ p' ≤ p + 6000) ∧ DrT t ∧
    ObjC prog 171 [.pt 0 0] [[encBy b, .sc (.int .i64 p)]] (.agg [.sc (.int .i64 t.rows), .sc (.int .i64 t.cols), .rf 1 0 t.cells.length 5]) [(0, [encBy b, .sc (.int .i64 p')]), (1, (t.cells.map Cell.enc).flatten)] 2 := by
  obtain ⟨v1, u1, u2, hv1⟩ := pk hr h0 (by omega) 4
  obtain ⟨v2, u3, u4, hv2⟩ := pk hr (p := p + 1) (by omega) (by omega) 4
  obtain ⟨v3, u5, u6, hv3⟩ := pk hr (p := p + 1 + 1) (by omega) (by omega) 4
  have u2 := u2 (by omega)
  have u4 := u4 (by omega)
  have u6 := u6 (by omega)
  obtain ⟨R, hR⟩ : ∃ R : Nat, 1 + v1 = R := ⟨(1 + v1).toNat, by omega⟩
  obtain ⟨K, hK⟩ : ∃ K : Nat, 1 + v2 = K := ⟨(1 + v2).toNat, by omega⟩
  obtain ⟨m, hm0⟩ : ∃ m : Nat, v3 = m := ⟨v3.toNat, by omega⟩
  subst hm0
  have hT0 : Bare ⟨R, K, newCells K R⟩ := ⟨newCells_mem K R, by
    have := newCells_len K R
    have h2 : R * K ≤ 4 * 4 := Nat.mul_le_mul (by omega) (by omega)
    show (newCells K R).length ≤ 26
    omega, by simp only; omega, by simp only; omega, by simp only; omega, by simp only; omega⟩
  obtain ⟨f, hf0, hf⟩ := mgIter hr (p := p + 1 + 1 + 1) (by omega) (by omega) hT0
  obtain ⟨e1, e2, e3, e4, _⟩ := hf m (by omega)
  simp only at e3 e4
  obtain ⟨g, hg0, hg⟩ := txIter hr (p := (f m).2) (by omega) (by omega) (cs := (f m).1.cells) e1.2.1 (fun c hc => by rw [e1.1 c hc]; simp)
  have hN := hg (f m).1.cells.length (Nat.le_refl _)
  refine ⟨⟨R, K, (g (f m).1.cells.length).1⟩, (g (f m).1.cells.length).2, ⟨by omega, by have := e1.2.1; omega⟩, ⟨by simp only; omega, by simp only; omega, by simp only; omega, by simp only; omega, by rw [hN.1]; exact e1.2.1, hN.2.1⟩, ?_⟩
  have w1 : IntKind.i64.wrap (1 + v1) = R := by rw [wrap_id] <;> omega
  have w2 : IntKind.i64.wrap (1 + v2) = K := by rw [wrap_id] <;> omega
  have h194 := c194 (rows := R) (cols := K) (by omega) (by omega) (by omega) (by omega)
  rw [← newCells_len K R] at h194
  have hf' : ∀ i, i < m → Bare (f i).1 ∧ (f i).1.rows = R ∧ (f i).1.cols = K ∧ MgNext b (f i) (f (i + 1)) := fun i hi => ⟨(hf i (by omega)).1, (hf i (by omega)).2.2.1, (hf i (by omega)).2.2.2.1, (hf i (by omega)).2.2.2.2 (by omega)⟩
  clear hf hr h0 h1 u1 u2 u3 u4 u5 u6 e2 hR hK
  unfold encBy at *
  refine objC_of k171 (by simp) (by simp) (by first | rfl | simp [wfO, VV.underL, VV.under, under_signs, under_cells, under_blocks, *]) ?_
  intro X hP hm hH hn hX
  change X.n = 1 at hn
  refine vwp_ok _ ?_
  unfold vc171
  repeat' (first
    | simp only [go_sem, reduceCtorEq, reduceIte, Nat.reduceAdd, Nat.reduceEqDiff, Nat.reduceLeDiff, Nat.reduceMul, Nat.reduceSub, *]
    | refine gdO_bool' _ (fun _ => ?_) (fun _ => ?_)
    | refine gdO_bool _ (fun _ => ?_) (fun _ => ?_)
    | refine gdD_bool' _ (fun _ => ?_) (fun _ => ?_)
    | refine gdD_bool _ (fun _ => ?_) (fun _ => ?_)
    | refine cdO_bool' _ (fun _ => ?_) (fun _ => ?_)
    | refine cdO_bool _ (fun _ => ?_) (fun _ => ?_)
    | (refine callO.obj [0] (hv1) ?_ rfl (by decide) ?_ ?_
       · simp only [go_sem, reduceCtorEq, reduceIte, Nat.reduceAdd, Nat.reduceEqDiff, Nat.reduceLeDiff, Nat.reduceMul, Nat.reduceSub, *]
       · repeat' (first | exact HIs_nil | refine HIs_cons ?_ ?_ | (simp only [go_sem, reduceCtorEq, reduceIte, Nat.reduceAdd, Nat.reduceEqDiff, Nat.reduceLeDiff, Nat.reduceMul, Nat.reduceSub, *]; done)))
    | (refine callW.obj [0] (hv1) rfl ?_ rfl (by decide) ?_ (by simp [okInc, Disj]) ?_
       · simp only [go_sem, reduceCtorEq, reduceIte, Nat.reduceAdd, Nat.reduceEqDiff, Nat.reduceLeDiff, Nat.reduceMul, Nat.reduceSub, *]
       · repeat' (first | exact HIs_nil | refine HIs_cons ?_ ?_ | (simp only [go_sem, reduceCtorEq, reduceIte, Nat.reduceAdd, Nat.reduceEqDiff, Nat.reduceLeDiff, Nat.reduceMul, Nat.reduceSub, *]; done)))
    | (refine callO.obj [0] (hv2) ?_ rfl (by decide) ?_ ?_
       · simp only [go_sem, reduceCtorEq, reduceIte, Nat.reduceAdd, Nat.reduceEqDiff, Nat.reduceLeDiff, Nat.reduceMul, Nat.reduceSub, *]
       · repeat' (first | exact HIs_nil | refine HIs_cons ?_ ?_ | (simp only [go_sem, reduceCtorEq, reduceIte, Nat.reduceAdd, Nat.reduceEqDiff, Nat.reduceLeDiff, Nat.reduceMul, Nat.reduceSub, *]; done)))
    | (refine callW.obj [0] (hv2) rfl ?_ rfl (by decide) ?_ (by simp [okInc, Disj]) ?_
       · simp only [go_sem, reduceCtorEq, reduceIte, Nat.reduceAdd, Nat.reduceEqDiff, Nat.reduceLeDiff, Nat.reduceMul, Nat.reduceSub, *]
       · repeat' (first | exact HIs_nil | refine HIs_cons ?_ ?_ | (simp only [go_sem, reduceCtorEq, reduceIte, Nat.reduceAdd, Nat.reduceEqDiff, Nat.reduceLeDiff, Nat.reduceMul, Nat.reduceSub, *]; done)))
    | (refine callO.obj [0] (hv3) ?_ rfl (by decide) ?_ ?_
       · simp only [go_sem, reduceCtorEq, reduceIte, Nat.reduceAdd, Nat.reduceEqDiff, Nat.reduceLeDiff, Nat.reduceMul, Nat.reduceSub, *]
       · repeat' (first | exact HIs_nil | refine HIs_cons ?_ ?_ | (simp only [go_sem, reduceCtorEq, reduceIte, Nat.reduceAdd, Nat.reduceEqDiff, Nat.reduceLeDiff, Nat.reduceMul, Nat.reduceSub, *]; done)))
    | (refine callW.obj [0] (hv3) rfl ?_ rfl (by decide) ?_ (by simp [okInc, Disj]) ?_
       · simp only [go_sem, reduceCtorEq, reduceIte, Nat.reduceAdd, Nat.reduceEqDiff, Nat.reduceLeDiff, Nat.reduceMul, Nat.reduceSub, *]
       · repeat' (first | exact HIs_nil | refine HIs_cons ?_ ?_ | (simp only [go_sem, reduceCtorEq, reduceIte, Nat.reduceAdd, Nat.reduceEqDiff, Nat.reduceLeDiff, Nat.reduceMul, Nat.reduceSub, *]; done)))
    | (refine callO.obj [] (h194) ?_ rfl (by decide) ?_ ?_
       · simp only [go_sem, reduceCtorEq, reduceIte, Nat.reduceAdd, Nat.reduceEqDiff, Nat.reduceLeDiff, Nat.reduceMul, Nat.reduceSub, *]
       · repeat' (first | exact HIs_nil | refine HIs_cons ?_ ?_ | (simp only [go_sem, reduceCtorEq, reduceIte, Nat.reduceAdd, Nat.reduceEqDiff, Nat.reduceLeDiff, Nat.reduceMul, Nat.reduceSub, *]; done)))
    | (refine callW.obj [] (h194) rfl ?_ rfl (by decide) ?_ (by simp [okInc, Disj]) ?_
       · simp only [go_sem, reduceCtorEq, reduceIte, Nat.reduceAdd, Nat.reduceEqDiff, Nat.reduceLeDiff, Nat.reduceMul, Nat.reduceSub, *]
       · repeat' (first | exact HIs_nil | refine HIs_cons ?_ ?_ | (simp only [go_sem, reduceCtorEq, reduceIte, Nat.reduceAdd, Nat.reduceEqDiff, Nat.reduceLeDiff, Nat.reduceMul, Nat.reduceSub, *]; done)))
    | refine ⟨by decide, ?_⟩
    | fail)
  refine loopV hX (fun μ s H n => ∃ (i : Nat) (T : Table) (q c : Int), i ≤ m ∧ c = m - i ∧ f i = (T, q) ∧ μ = m - i ∧ s = slotsOf [(0, .pt 0 0), (2, .pt 1 0), (3, .pt 2 0), (4, .sc (.int .i64 c))] ∧ H = heapOf [(0, [.sl 1 (b.map fun b => [.sc (.int .u8 b)]), .sc (.int .i64 q)]), (1, [.sc (.int .i64 0), .sc (.int .i64 0), .sc (.slice none 0 0)]), (2, [.sc (.int .i64 R), .sc (.int .i64 K), .rf 3 0 T.cells.length 5]), (3, (T.cells.map Cell.enc).flatten)] ∧ n = 4) ?_
    ⟨m + 1, roundE (fun s => [0, nm (s 2), nm (s 3), 6]) (by simp only [go_sem, reduceCtorEq, reduceIte, Nat.reduceAdd, Nat.reduceEqDiff, Nat.reduceLeDiff, Nat.reduceMul, nm_pt]; rfl) (rk_of hn [(0, _), (2, _), (3, _), (4, _)] _ _ ⟨0, _, _, m, by omega, by omega, hf0, rfl, rfl, rfl, rfl⟩ (by omega) (by simp) (by simp [tau]) (by simp) (by simp [hm]) ?_ ?_)⟩
  rotate_left
  · repeat' (first | exact List.forall_mem_nil _ | refine List.forall_mem_cons.2 ⟨?_, ?_⟩ | exact .toPt (by simp only [go_sem, reduceCtorEq, reduceIte, Nat.reduceAdd, Nat.reduceEqDiff, Nat.reduceLeDiff, Nat.reduceMul, *] <;> rfl) (by simp [tau]) (by simp) | exact .toRf (by simp only [go_sem, reduceCtorEq, reduceIte, Nat.reduceAdd, Nat.reduceEqDiff, Nat.reduceLeDiff, Nat.reduceMul, *] <;> rfl) (by simp [tau]) (by simp) | exact .same (by simp only [go_sem, reduceCtorEq, reduceIte, Nat.reduceAdd, Nat.reduceEqDiff, Nat.reduceLeDiff, Nat.reduceMul, *] <;> rfl) (by first | rfl | simp [VV.cloL, VV.clo, *]))
  · refine HConv.same (by decide) (by first | rfl | (simp only [go_sem, reduceCtorEq, reduceIte, Nat.reduceAdd, Nat.reduceEqDiff, Nat.reduceLeDiff, Nat.reduceMul, *] <;> rfl)) rfl ?_
    refine HConv.same (by decide) (by first | rfl | (simp only [go_sem, reduceCtorEq, reduceIte, Nat.reduceAdd, Nat.reduceEqDiff, Nat.reduceLeDiff, Nat.reduceMul, *] <;> rfl)) rfl ?_
    refine HConv.obj (cs := [.sc (.int .i64 R), .sc (.int .i64 K), .rf 6 0 (newCells K R).length 5]) (by decide) (by first | rfl | (simp only [go_sem, reduceCtorEq, reduceIte, Nat.reduceAdd, Nat.reduceEqDiff, Nat.reduceLeDiff, Nat.reduceMul, *] <;> rfl)) ?_ ?_
    · repeat' (first | exact CellsC.nil | exact .nil 3 | exact .nil 5 | exact .nil 6 | (exact .toRf (by first | rfl | simp [tau]) (by simp [tau]) (by simp)) | (exact .toPt (by first | rfl | simp [tau]) (by simp [tau]) (by simp)) | refine CellsC.one rfl ?_ | refine CellsC.cons ?_ rfl ?_)
    exact HConv.same (by decide) (by first | rfl | (simp only [go_sem, reduceCtorEq, reduceIte, Nat.reduceAdd, Nat.reduceEqDiff, Nat.reduceLeDiff, Nat.reduceMul, *] <;> rfl)) (flatC_clo _) HConv.nil
  clear hv1 hv2 hv3 h194 w1 w2 hf0 hT0
  rintro μ s H n ⟨i, T, q, c, hi, hc, hfi, rfl, rfl, rfl, rfl⟩
  rcases Nat.lt_or_ge i m with hlt | hge
  · have g1 : decide (c > 0) = true := by simp; omega
    have g2 : IntKind.i64.wrap (c - 1) = c - 1 := wrap_id (by omega) (by omega)
    obtain ⟨hB, hTR, hTK, row, col, v3, v4, ⟨a1, _, q1⟩, ⟨a2, _, q2⟩, ⟨a3, _, q3⟩, ⟨a4, _, q4⟩, l1, l2, l3, l4, hq', ht'⟩ := hf' i hlt
    rw [hfi] at hB hTR hTK q1 q2 q3 q4 hq' ht' l1 l2 l3 l4
    simp only at hB hTR hTK q1 q2 q3 q4 hq' ht' l1 l2 l3 l4
    have h195 := c195 T row col (1 + v3) (1 + v4) hB.1 (by
      obtain ⟨_, _, r1, r2, d1, d2⟩ := hB
      intro x hx
      simp only [List.mem_cons, List.not_mem_nil, or_false] at hx
      rcases hx with rfl | rfl | rfl | rfl | rfl | rfl <;> omega)
    unfold encBy at q1 q2 q3 q4
    have hBd := hB.2
    rw [hTR] at q1 q3 h195 l1 l3
    rw [hTK] at q2 q4 h195 l2 l4
    have hR5 : R ≤ 5 := by have := hB.2.2.2.1; omega
    have hK5 : K ≤ 5 := by have := hB.2.2.2.2.2; omega
    have w1 : IntKind.i64.wrap ((R : Int) - row) = R - row := by rw [wrap_id] <;> omega
    have w2 : IntKind.i64.wrap ((K : Int) - col) = K - col := by rw [wrap_id] <;> omega
    have w3 : IntKind.i64.wrap (1 + v3) = 1 + v3 := by rw [wrap_id] <;> omega
    have w4 : IntKind.i64.wrap (1 + v4) = 1 + v4 := by rw [wrap_id] <;> omega
    have hc' : Kept (c - 1 = (m : Int) - ((i + 1 : Nat) : Int)) := ⟨by omega⟩
    have hnx : Kept (f (i + 1) = ((f (i + 1)).1, q + 1 + 1 + 1 + 1)) := ⟨by rw [← hq']⟩
    clear hB hBd hc hf' hfi hq'
    rcases hM : mergeT T row col (1 + v3) (1 + v4) with _ | cs
    · rw [hM] at ht' h195
      simp only [mgR, mgH, mgN] at ht' h195
      replace ht' := Kept.mk ht'
      clear hM
      repeat' (first
        | simp only [go_sem, reduceCtorEq, reduceIte, Nat.reduceAdd, Nat.reduceEqDiff, Nat.reduceLeDiff, Nat.reduceMul, Nat.reduceSub, *]
        | refine gdO_bool' _ (fun _ => ?_) (fun _ => ?_)
        | refine gdO_bool _ (fun _ => ?_) (fun _ => ?_)
        | refine gdD_bool' _ (fun _ => ?_) (fun _ => ?_)
        | refine gdD_bool _ (fun _ => ?_) (fun _ => ?_)
        | refine cdO_bool' _ (fun _ => ?_) (fun _ => ?_)
        | refine cdO_bool _ (fun _ => ?_) (fun _ => ?_)
        | (refine callO.obj [0] (q1) ?_ rfl (by decide) ?_ ?_
           · simp only [go_sem, reduceCtorEq, reduceIte, Nat.reduceAdd, Nat.reduceEqDiff, Nat.reduceLeDiff, Nat.reduceMul, Nat.reduceSub, *]
           · repeat' (first | exact HIs_nil | refine HIs_cons ?_ ?_ | (simp only [go_sem, reduceCtorEq, reduceIte, Nat.reduceAdd, Nat.reduceEqDiff, Nat.reduceLeDiff, Nat.reduceMul, Nat.reduceSub, *]; done)))
        | (refine callW.obj [0] (q1) rfl ?_ rfl (by decide) ?_ (by simp [okInc, Disj]) ?_
           · simp only [go_sem, reduceCtorEq, reduceIte, Nat.reduceAdd, Nat.reduceEqDiff, Nat.reduceLeDiff, Nat.reduceMul, Nat.reduceSub, *]
           · repeat' (first | exact HIs_nil | refine HIs_cons ?_ ?_ | (simp only [go_sem, reduceCtorEq, reduceIte, Nat.reduceAdd, Nat.reduceEqDiff, Nat.reduceLeDiff, Nat.reduceMul, Nat.reduceSub, *]; done)))
        | (refine callO.obj [0] (q2) ?_ rfl (by decide) ?_ ?_
           · simp only [go_sem, reduceCtorEq, reduceIte, Nat.reduceAdd, Nat.reduceEqDiff, Nat.reduceLeDiff, Nat.reduceMul, Nat.reduceSub, *]
           · repeat' (first | exact HIs_nil | refine HIs_cons ?_ ?_ | (simp only [go_sem, reduceCtorEq, reduceIte, Nat.reduceAdd, Nat.reduceEqDiff, Nat.reduceLeDiff, Nat.reduceMul, Nat.reduceSub, *]; done)))
        | (refine callW.obj [0] (q2) rfl ?_ rfl (by decide) ?_ (by simp [okInc, Disj]) ?_
           · simp only [go_sem, reduceCtorEq, reduceIte, Nat.reduceAdd, Nat.reduceEqDiff, Nat.reduceLeDiff, Nat.reduceMul, Nat.reduceSub, *]
           · repeat' (first | exact HIs_nil | refine HIs_cons ?_ ?_ | (simp only [go_sem, reduceCtorEq, reduceIte, Nat.reduceAdd, Nat.reduceEqDiff, Nat.reduceLeDiff, Nat.reduceMul, Nat.reduceSub, *]; done)))
        | (refine callO.obj [0] (q3) ?_ rfl (by decide) ?_ ?_
           · simp only [go_sem, reduceCtorEq, reduceIte, Nat.reduceAdd, Nat.reduceEqDiff, Nat.reduceLeDiff, Nat.reduceMul, Nat.reduceSub, *]
           · repeat' (first | exact HIs_nil | refine HIs_cons ?_ ?_ | (simp only [go_sem, reduceCtorEq, reduceIte, Nat.reduceAdd, Nat.reduceEqDiff, Nat.reduceLeDiff, Nat.reduceMul, Nat.reduceSub, *]; done)))
        | (refine callW.obj [0] (q3) rfl ?_ rfl (by decide) ?_ (by simp [okInc, Disj]) ?_
           · simp only [go_sem, reduceCtorEq, reduceIte, Nat.reduceAdd, Nat.reduceEqDiff, Nat.reduceLeDiff, Nat.reduceMul, Nat.reduceSub, *]
           · repeat' (first | exact HIs_nil | refine HIs_cons ?_ ?_ | (simp only [go_sem, reduceCtorEq, reduceIte, Nat.reduceAdd, Nat.reduceEqDiff, Nat.reduceLeDiff, Nat.reduceMul, Nat.reduceSub, *]; done)))
        | (refine callO.obj [0] (q4) ?_ rfl (by decide) ?_ ?_
           · simp only [go_sem, reduceCtorEq, reduceIte, Nat.reduceAdd, Nat.reduceEqDiff, Nat.reduceLeDiff, Nat.reduceMul, Nat.reduceSub, *]
           · repeat' (first | exact HIs_nil | refine HIs_cons ?_ ?_ | (simp only [go_sem, reduceCtorEq, reduceIte, Nat.reduceAdd, Nat.reduceEqDiff, Nat.reduceLeDiff, Nat.reduceMul, Nat.reduceSub, *]; done)))
        | (refine callW.obj [0] (q4) rfl ?_ rfl (by decide) ?_ (by simp [okInc, Disj]) ?_
           · simp only [go_sem, reduceCtorEq, reduceIte, Nat.reduceAdd, Nat.reduceEqDiff, Nat.reduceLeDiff, Nat.reduceMul, Nat.reduceSub, *]
           · repeat' (first | exact HIs_nil | refine HIs_cons ?_ ?_ | (simp only [go_sem, reduceCtorEq, reduceIte, Nat.reduceAdd, Nat.reduceEqDiff, Nat.reduceLeDiff, Nat.reduceMul, Nat.reduceSub, *]; done)))
        | (refine callO.obj [3] (h195) ?_ rfl (by decide) ?_ ?_
           · simp only [go_sem, reduceCtorEq, reduceIte, Nat.reduceAdd, Nat.reduceEqDiff, Nat.reduceLeDiff, Nat.reduceMul, Nat.reduceSub, *]
           · repeat' (first | exact HIs_nil | refine HIs_cons ?_ ?_ | (simp only [go_sem, reduceCtorEq, reduceIte, Nat.reduceAdd, Nat.reduceEqDiff, Nat.reduceLeDiff, Nat.reduceMul, Nat.reduceSub, *]; done)))
        | (refine callW.obj [3] (h195) rfl ?_ rfl (by decide) ?_ (by simp [okInc, Disj]) ?_
           · simp only [go_sem, reduceCtorEq, reduceIte, Nat.reduceAdd, Nat.reduceEqDiff, Nat.reduceLeDiff, Nat.reduceMul, Nat.reduceSub, *]
           · repeat' (first | exact HIs_nil | refine HIs_cons ?_ ?_ | (simp only [go_sem, reduceCtorEq, reduceIte, Nat.reduceAdd, Nat.reduceEqDiff, Nat.reduceLeDiff, Nat.reduceMul, Nat.reduceSub, *]; done)))
        | refine ⟨by decide, ?_⟩
        | fail)
      refine roundE (fun s => [0, 1, 2, 3]) rfl (rk_of hn [(0, _), (2, _), (3, _), (4, _)] _ _ ⟨i + 1, T, q + 1 + 1 + 1 + 1, c - 1, hlt, hc'.out, by rw [hnx.out, ht'.out], rfl, rfl, rfl, rfl⟩ (by omega) (by simp) (by simp [tau]) (by simp) (by simp [hm]) ?_ ?_)
      · repeat' (first | exact List.forall_mem_nil _ | refine List.forall_mem_cons.2 ⟨?_, ?_⟩ | exact .toPt (by simp only [go_sem, reduceCtorEq, reduceIte, Nat.reduceAdd, Nat.reduceEqDiff, Nat.reduceLeDiff, Nat.reduceMul, *] <;> rfl) (by simp [tau]) (by simp) | exact .toRf (by simp only [go_sem, reduceCtorEq, reduceIte, Nat.reduceAdd, Nat.reduceEqDiff, Nat.reduceLeDiff, Nat.reduceMul, *] <;> rfl) (by simp [tau]) (by simp) | exact .same (by simp only [go_sem, reduceCtorEq, reduceIte, Nat.reduceAdd, Nat.reduceEqDiff, Nat.reduceLeDiff, Nat.reduceMul, *] <;> rfl) (by first | rfl | simp [VV.cloL, VV.clo, *]))
      · refine HConv.same (by decide) (by first | rfl | (simp only [go_sem, reduceCtorEq, reduceIte, Nat.reduceAdd, Nat.reduceEqDiff, Nat.reduceLeDiff, Nat.reduceMul, *] <;> rfl)) rfl ?_
        refine HConv.same (by decide) (by first | rfl | (simp only [go_sem, reduceCtorEq, reduceIte, Nat.reduceAdd, Nat.reduceEqDiff, Nat.reduceLeDiff, Nat.reduceMul, *] <;> rfl)) rfl ?_
        refine HConv.obj (cs := [.sc (.int .i64 R), .sc (.int .i64 K), .rf 3 0 _ 5]) (by decide) (by first | rfl | (simp only [go_sem, reduceCtorEq, reduceIte, Nat.reduceAdd, Nat.reduceEqDiff, Nat.reduceLeDiff, Nat.reduceMul, *] <;> rfl)) ?_ ?_
        · repeat' (first | exact CellsC.nil | exact .nil 3 | exact .nil 5 | exact .nil 6 | (exact .toRf (by first | rfl | simp [tau]) (by simp [tau]) (by simp)) | (exact .toPt (by first | rfl | simp [tau]) (by simp [tau]) (by simp)) | refine CellsC.one rfl ?_ | refine CellsC.cons ?_ rfl ?_)
        exact HConv.same (by decide) (by first | rfl | (simp only [go_sem, reduceCtorEq, reduceIte, Nat.reduceAdd, Nat.reduceEqDiff, Nat.reduceLeDiff, Nat.reduceMul, *] <;> rfl)) (flatC_clo _) HConv.nil
    · rw [hM] at ht' h195
      simp only [mgR, mgH, mgN, hTR, hTK] at ht' h195
      replace ht' := Kept.mk ht'
      clear hM
      repeat' (first
        | simp only [go_sem, reduceCtorEq, reduceIte, Nat.reduceAdd, Nat.reduceEqDiff, Nat.reduceLeDiff, Nat.reduceMul, Nat.reduceSub, *]
        | refine gdO_bool' _ (fun _ => ?_) (fun _ => ?_)
        | refine gdO_bool _ (fun _ => ?_) (fun _ => ?_)
        | refine gdD_bool' _ (fun _ => ?_) (fun _ => ?_)
        | refine gdD_bool _ (fun _ => ?_) (fun _ => ?_)
        | refine cdO_bool' _ (fun _ => ?_) (fun _ => ?_)
        | refine cdO_bool _ (fun _ => ?_) (fun _ => ?_)
        | (refine callO.obj [0] (q1) ?_ rfl (by decide) ?_ ?_
           · simp only [go_sem, reduceCtorEq, reduceIte, Nat.reduceAdd, Nat.reduceEqDiff, Nat.reduceLeDiff, Nat.reduceMul, Nat.reduceSub, *]
           · repeat' (first | exact HIs_nil | refine HIs_cons ?_ ?_ | (simp only [go_sem, reduceCtorEq, reduceIte, Nat.reduceAdd, Nat.reduceEqDiff, Nat.reduceLeDiff, Nat.reduceMul, Nat.reduceSub, *]; done)))
        | (refine callW.obj [0] (q1) rfl ?_ rfl (by decide) ?_ (by simp [okInc, Disj]) ?_
           · simp only [go_sem, reduceCtorEq, reduceIte, Nat.reduceAdd, Nat.reduceEqDiff, Nat.reduceLeDiff, Nat.reduceMul, Nat.reduceSub, *]
           · repeat' (first | exact HIs_nil | refine HIs_cons ?_ ?_ | (simp only [go_sem, reduceCtorEq, reduceIte, Nat.reduceAdd, Nat.reduceEqDiff, Nat.reduceLeDiff, Nat.reduceMul, Nat.reduceSub, *]; done)))
        | (refine callO.obj [0] (q2) ?_ rfl (by decide) ?_ ?_
           · simp only [go_sem, reduceCtorEq, reduceIte, Nat.reduceAdd, Nat.reduceEqDiff, Nat.reduceLeDiff, Nat.reduceMul, Nat.reduceSub, *]
           · repeat' (first | exact HIs_nil | refine HIs_cons ?_ ?_ | (simp only [go_sem, reduceCtorEq, reduceIte, Nat.reduceAdd, Nat.reduceEqDiff, Nat.reduceLeDiff, Nat.reduceMul, Nat.reduceSub, *]; done)))
        | (refine callW.obj [0] (q2) rfl ?_ rfl (by decide) ?_ (by simp [okInc, Disj]) ?_
           · simp only [go_sem, reduceCtorEq, reduceIte, Nat.reduceAdd, Nat.reduceEqDiff, Nat.reduceLeDiff, Nat.reduceMul, Nat.reduceSub, *]
           · repeat' (first | exact HIs_nil | refine HIs_cons ?_ ?_ | (simp only [go_sem, reduceCtorEq, reduceIte, Nat.reduceAdd, Nat.reduceEqDiff, Nat.reduceLeDiff, Nat.reduceMul, Nat.reduceSub, *]; done)))
        | (refine callO.obj [0] (q3) ?_ rfl (by decide) ?_ ?_
           · simp only [go_sem, reduceCtorEq, reduceIte, Nat.reduceAdd, Nat.reduceEqDiff, Nat.reduceLeDiff, Nat.reduceMul, Nat.reduceSub, *]
           · repeat' (first | exact HIs_nil | refine HIs_cons ?_ ?_ | (simp only [go_sem, reduceCtorEq, reduceIte, Nat.reduceAdd, Nat.reduceEqDiff, Nat.reduceLeDiff, Nat.reduceMul, Nat.reduceSub, *]; done)))
        | (refine callW.obj [0] (q3) rfl ?_ rfl (by decide) ?_ (by simp [okInc, Disj]) ?_
           · simp only [go_sem, reduceCtorEq, reduceIte, Nat.reduceAdd, Nat.reduceEqDiff, Nat.reduceLeDiff, Nat.reduceMul, Nat.reduceSub, *]
           · repeat' (first | exact HIs_nil | refine HIs_cons ?_ ?_ | (simp only [go_sem, reduceCtorEq, reduceIte, Nat.reduceAdd, Nat.reduceEqDiff, Nat.reduceLeDiff, Nat.reduceMul, Nat.reduceSub, *]; done)))
        | (refine callO.obj [0] (q4) ?_ rfl (by decide) ?_ ?_
           · simp only [go_sem, reduceCtorEq, reduceIte, Nat.reduceAdd, Nat.reduceEqDiff, Nat.reduceLeDiff, Nat.reduceMul, Nat.reduceSub, *]
           · repeat' (first | exact HIs_nil | refine HIs_cons ?_ ?_ | (simp only [go_sem, reduceCtorEq, reduceIte, Nat.reduceAdd, Nat.reduceEqDiff, Nat.reduceLeDiff, Nat.reduceMul, Nat.reduceSub, *]; done)))
        | (refine callW.obj [0] (q4) rfl ?_ rfl (by decide) ?_ (by simp [okInc, Disj]) ?_
           · simp only [go_sem, reduceCtorEq, reduceIte, Nat.reduceAdd, Nat.reduceEqDiff, Nat.reduceLeDiff, Nat.reduceMul, Nat.reduceSub, *]
           · repeat' (first | exact HIs_nil | refine HIs_cons ?_ ?_ | (simp only [go_sem, reduceCtorEq, reduceIte, Nat.reduceAdd, Nat.reduceEqDiff, Nat.reduceLeDiff, Nat.reduceMul, Nat.reduceSub, *]; done)))
        | (refine callW.obj1 [3] (h195) rfl ?_ rfl (by decide) ?_ ?_ (by simp [okInc, Disj]) ?_
           · simp only [go_sem, reduceCtorEq, reduceIte, Nat.reduceAdd, Nat.reduceEqDiff, Nat.reduceLeDiff, Nat.reduceMul, Nat.reduceSub, *]
           · repeat' (first | exact HIs_nil | refine HIs_cons ?_ ?_ | (simp only [go_sem, reduceCtorEq, reduceIte, Nat.reduceAdd, Nat.reduceEqDiff, Nat.reduceLeDiff, Nat.reduceMul, Nat.reduceSub, *]; done))
           · simp only [go_sem, reduceCtorEq, reduceIte, Nat.reduceAdd, Nat.reduceEqDiff, Nat.reduceLeDiff, Nat.reduceMul, Nat.reduceSub, *])
        | refine ⟨by decide, ?_⟩
        | fail)
      refine roundE (fun s => [0, 1, 2, 31]) rfl (rk_of hn [(0, _), (2, _), (3, _), (4, _)] _ _ ⟨i + 1, ⟨R, K, cs⟩, q + 1 + 1 + 1 + 1, c - 1, hlt, hc'.out, by rw [hnx.out, ht'.out], rfl, rfl, rfl, rfl⟩ (by omega) (by simp) (by simp [tau]) (by simp) (by simp [hm]) ?_ ?_)
      · repeat' (first | exact List.forall_mem_nil _ | refine List.forall_mem_cons.2 ⟨?_, ?_⟩ | exact .toPt (by simp only [go_sem, reduceCtorEq, reduceIte, Nat.reduceAdd, Nat.reduceEqDiff, Nat.reduceLeDiff, Nat.reduceMul, *] <;> rfl) (by simp [tau]) (by simp) | exact .toRf (by simp only [go_sem, reduceCtorEq, reduceIte, Nat.reduceAdd, Nat.reduceEqDiff, Nat.reduceLeDiff, Nat.reduceMul, *] <;> rfl) (by simp [tau]) (by simp) | exact .same (by simp only [go_sem, reduceCtorEq, reduceIte, Nat.reduceAdd, Nat.reduceEqDiff, Nat.reduceLeDiff, Nat.reduceMul, *] <;> rfl) (by first | rfl | simp [VV.cloL, VV.clo, *]))
      · refine HConv.same (by decide) (by first | rfl | (simp only [go_sem, reduceCtorEq, reduceIte, Nat.reduceAdd, Nat.reduceEqDiff, Nat.reduceLeDiff, Nat.reduceMul, *] <;> rfl)) rfl ?_
        refine HConv.same (by decide) (by first | rfl | (simp only [go_sem, reduceCtorEq, reduceIte, Nat.reduceAdd, Nat.reduceEqDiff, Nat.reduceLeDiff, Nat.reduceMul, *] <;> rfl)) rfl ?_
        refine HConv.obj (cs := [.sc (.int .i64 R), .sc (.int .i64 K), .rf 31 0 _ 5]) (by decide) (by first | rfl | (simp only [go_sem, reduceCtorEq, reduceIte, Nat.reduceAdd, Nat.reduceEqDiff, Nat.reduceLeDiff, Nat.reduceMul, *] <;> rfl)) ?_ ?_
        · repeat' (first | exact CellsC.nil | exact .nil 3 | exact .nil 5 | exact .nil 6 | (exact .toRf (by first | rfl | simp [tau]) (by simp [tau]) (by simp)) | (exact .toPt (by first | rfl | simp [tau]) (by simp [tau]) (by simp)) | refine CellsC.one rfl ?_ | refine CellsC.cons ?_ rfl ?_)
        exact HConv.same (by decide) (by first | rfl | (simp only [go_sem, reduceCtorEq, reduceIte, Nat.reduceAdd, Nat.reduceEqDiff, Nat.reduceLeDiff, Nat.reduceMul, *] <;> rfl)) (flatC_clo _) HConv.nil
  · have e : i = m := by omega
    subst e
    have g1 : decide (c > 0) = false := by simp; omega
    rw [hfi] at hg0 hg hN e1 e3 e4 ⊢
    simp only at hg0 hg hN e1 e3 e4 ⊢
    clear hf' hfi hc hi hge
    obtain ⟨N, hNl⟩ : ∃ N, T.cells.length = N := ⟨_, rfl⟩
    rw [hNl] at hg hN ⊢
    have hN26 : N ≤ 26 := by rw [← hNl]; exact e1.2.1
    have hgl : ∀ i, i ≤ N → (g i).1.length = N := fun i hi => (hg i hi).1
    have hgs : ∀ i, i < N → TxNext b i (g i) (g (i + 1)) := fun i hi => (hg i (by omega)).2.2.2.2 hi
    have hg0' := Kept.mk hg0
    clear hg hg0 e1 e3 e4 hN
    repeat' (first
      | simp only [go_sem, reduceCtorEq, reduceIte, Nat.reduceAdd, Nat.reduceEqDiff, Nat.reduceLeDiff, Nat.reduceMul, *]
      | refine gdO_bool' _ (fun _ => ?_) (fun _ => ?_)
      | refine gdO_bool _ (fun _ => ?_) (fun _ => ?_)
      | refine gdD_bool' _ (fun _ => ?_) (fun _ => ?_)
      | refine gdD_bool _ (fun _ => ?_) (fun _ => ?_)
      | refine cdO_bool' _ (fun _ => ?_) (fun _ => ?_)
      | refine cdO_bool _ (fun _ => ?_) (fun _ => ?_)
      | refine ⟨by decide, ?_⟩
      | fail)
    refine loopV hX (fun μ s H n => ∃ (j : Nat) (cs : List Cell) (q : Int), j ≤ N ∧ g j = (cs, q) ∧ μ = N - j ∧ s = slotsOf [(0, .pt 0 0), (2, .pt 1 0), (3, .pt 2 0), (9, .sc (.int .i64 j))] ∧ H = heapOf [(0, [.sl 1 (b.map fun b => [.sc (.int .u8 b)]), .sc (.int .i64 q)]), (1, [.sc (.int .i64 0), .sc (.int .i64 0), .sc (.slice none 0 0)]), (2, [.sc (.int .i64 R), .sc (.int .i64 K), .rf 3 0 N 5]), (3, (cs.map Cell.enc).flatten)] ∧ n = 4) ?_
      ⟨N + 1, roundE (fun s => [0, 1, 2, 3]) rfl (rk_of hn [(0, _), (2, _), (3, _), (9, _)] _ _ ⟨0, _, _, by omega, hg0'.out, rfl, rfl, rfl, rfl⟩ (by omega) (by simp) (by simp [tau]) (by simp) (by simp [hm]) ?_ ?_)⟩
    rotate_left
    · repeat' (first | exact List.forall_mem_nil _ | refine List.forall_mem_cons.2 ⟨?_, ?_⟩ | exact .toPt (by simp only [go_sem, reduceCtorEq, reduceIte, Nat.reduceAdd, Nat.reduceEqDiff, Nat.reduceLeDiff, Nat.reduceMul, *] <;> rfl) (by simp [tau]) (by simp) | exact .toRf (by simp only [go_sem, reduceCtorEq, reduceIte, Nat.reduceAdd, Nat.reduceEqDiff, Nat.reduceLeDiff, Nat.reduceMul, *] <;> rfl) (by simp [tau]) (by simp) | exact .same (by simp only [go_sem, reduceCtorEq, reduceIte, Nat.reduceAdd, Nat.reduceEqDiff, Nat.reduceLeDiff, Nat.reduceMul, *] <;> rfl) (by first | rfl | simp [VV.cloL, VV.clo, *]))
    · refine HConv.same (by decide) (by first | rfl | (simp only [go_sem, reduceCtorEq, reduceIte, Nat.reduceAdd, Nat.reduceEqDiff, Nat.reduceLeDiff, Nat.reduceMul, *] <;> rfl)) rfl ?_
      refine HConv.same (by decide) (by first | rfl | (simp only [go_sem, reduceCtorEq, reduceIte, Nat.reduceAdd, Nat.reduceEqDiff, Nat.reduceLeDiff, Nat.reduceMul, *] <;> rfl)) rfl ?_
      refine HConv.obj (cs := [.sc (.int .i64 R), .sc (.int .i64 K), .rf 3 0 _ 5]) (by decide) (by first | rfl | (simp only [go_sem, reduceCtorEq, reduceIte, Nat.reduceAdd, Nat.reduceEqDiff, Nat.reduceLeDiff, Nat.reduceMul, *] <;> rfl)) ?_ ?_
      · repeat' (first | exact CellsC.nil | exact .nil 3 | exact .nil 5 | exact .nil 6 | (exact .toRf (by first | rfl | simp [tau]) (by simp [tau]) (by simp)) | (exact .toPt (by first | rfl | simp [tau]) (by simp [tau]) (by simp)) | refine CellsC.one rfl ?_ | refine CellsC.cons ?_ rfl ?_)
      exact HConv.same (by decide) (by first | rfl | (simp only [go_sem, reduceCtorEq, reduceIte, Nat.reduceAdd, Nat.reduceEqDiff, Nat.reduceLeDiff, Nat.reduceMul, *] <;> rfl)) (flatC_clo _) HConv.nil
    clear g1
    rintro μ s H n ⟨j, cs, q, hj, hgj, rfl, rfl, rfl, rfl⟩
    rcases Nat.lt_or_ge j N with hlt | hge
    · have g1 : decide ((j : Int) < (N : Int)) = true := by simp; omega
      have w1 : IntKind.i64.wrap ((j : Int) + 1) = ((j + 1 : Nat) : Int) := by rw [wrap_id] <;> omega
      have hcl := hgl j hj
      obtain ⟨v, ⟨a1, _, q1⟩, hv1, hv0⟩ := hgs j hlt
      rw [hgj] at hcl q1 hv1 hv0
      simp only at hcl q1 hv1 hv0
      unfold encBy at q1
      rcases Classical.em (v = 0) with hv | hv
      · obtain ⟨l, hl5, hc, hjl, hs'⟩ := hv0 hv
        unfold encBy at hc
        have hnx : Kept (g (j + 1) = ((g (j + 1)).1, (g (j + 1)).2)) := ⟨rfl⟩
        generalize (g (j + 1)).1 = cs2 at hnx hs'
        generalize (g (j + 1)).2 = q2 at hnx hc
        have t4 := takeC cs hjl
        have d5 : ((cs.map Cell.enc).flatten).drop (j * 5 + 5) = ((cs.drop (j + 1)).map Cell.enc).flatten := drop_flat Cell.encLen cs hjl (j := 5) (by omega)
        have len5 : j * 5 + 5 ≤ (cs.map Cell.enc).flatten.length := by rw [flatC_len]; omega
        have fin : Kept ((cs2.map Cell.enc).flatten = ((cs.take j).map Cell.enc).flatten ++ [.sc (.int .i64 cs[j].row), .sc (.int .i64 cs[j].col), .sc (.int .i64 cs[j].down), .sc (.int .i64 cs[j].right)] ++ (.sl 3 (l.map Sign.enc) :: ((cs.drop (j + 1)).map Cell.enc).flatten)) := ⟨by rw [hs', setC cs hjl]; simp [Cell.enc, encT]⟩
        have i0 : (0 : Int) ≤ (j : Int) := by omega
        have i1 : (j : Int) < (N : Int) := by omega
        clear hv1 hv0 hgs hgl hgj hs' hcl
        have gv : (v == 0) = true := by simp [hv]
        clear hv
        repeat' (first
          | simp only [go_sem, reduceCtorEq, reduceIte, Nat.reduceAdd, Nat.reduceEqDiff, Nat.reduceLeDiff, Nat.reduceMul, Nat.reduceSub, *]
          | refine gdO_bool' _ (fun _ => ?_) (fun _ => ?_)
          | refine gdO_bool _ (fun _ => ?_) (fun _ => ?_)
          | refine gdD_bool' _ (fun _ => ?_) (fun _ => ?_)
          | refine gdD_bool _ (fun _ => ?_) (fun _ => ?_)
          | refine cdO_bool' _ (fun _ => ?_) (fun _ => ?_)
          | refine cdO_bool _ (fun _ => ?_) (fun _ => ?_)
          | (refine callO.obj [0] (q1) ?_ rfl (by decide) ?_ ?_
             · simp only [go_sem, reduceCtorEq, reduceIte, Nat.reduceAdd, Nat.reduceEqDiff, Nat.reduceLeDiff, Nat.reduceMul, Nat.reduceSub, *]
             · repeat' (first | exact HIs_nil | refine HIs_cons ?_ ?_ | (simp only [go_sem, reduceCtorEq, reduceIte, Nat.reduceAdd, Nat.reduceEqDiff, Nat.reduceLeDiff, Nat.reduceMul, Nat.reduceSub, *]; done)))
          | (refine callW.obj [0] (q1) rfl ?_ rfl (by decide) ?_ (by simp [okInc, Disj]) ?_
             · simp only [go_sem, reduceCtorEq, reduceIte, Nat.reduceAdd, Nat.reduceEqDiff, Nat.reduceLeDiff, Nat.reduceMul, Nat.reduceSub, *]
             · repeat' (first | exact HIs_nil | refine HIs_cons ?_ ?_ | (simp only [go_sem, reduceCtorEq, reduceIte, Nat.reduceAdd, Nat.reduceEqDiff, Nat.reduceLeDiff, Nat.reduceMul, Nat.reduceSub, *]; done)))
          | (refine callW.obj1 [0] (hc) rfl ?_ rfl (by decide) ?_ ?_ (by simp [okInc, Disj]) ?_
             · simp only [go_sem, reduceCtorEq, reduceIte, Nat.reduceAdd, Nat.reduceEqDiff, Nat.reduceLeDiff, Nat.reduceMul, Nat.reduceSub, *]
             · repeat' (first | exact HIs_nil | refine HIs_cons ?_ ?_ | (simp only [go_sem, reduceCtorEq, reduceIte, Nat.reduceAdd, Nat.reduceEqDiff, Nat.reduceLeDiff, Nat.reduceMul, Nat.reduceSub, *]; done))
             · simp only [go_sem, reduceCtorEq, reduceIte, Nat.reduceAdd, Nat.reduceEqDiff, Nat.reduceLeDiff, Nat.reduceMul, Nat.reduceSub, *])
          | refine ⟨by decide, ?_⟩
          | fail)
        refine roundE (fun s => [0, 1, 2, 3]) rfl (rk_of hn [(0, _), (2, _), (3, _), (9, _)] _ _ ⟨j + 1, cs2, q2, hlt, hnx.out, rfl, rfl, rfl, rfl⟩ (by omega) (by simp) (by simp [tau]) (by simp) (by simp [hm]) ?_ ?_)
        · repeat' (first | exact List.forall_mem_nil _ | refine List.forall_mem_cons.2 ⟨?_, ?_⟩ | exact .toPt (by simp only [go_sem, reduceCtorEq, reduceIte, Nat.reduceAdd, Nat.reduceEqDiff, Nat.reduceLeDiff, Nat.reduceMul, *] <;> rfl) (by simp [tau]) (by simp) | exact .toRf (by simp only [go_sem, reduceCtorEq, reduceIte, Nat.reduceAdd, Nat.reduceEqDiff, Nat.reduceLeDiff, Nat.reduceMul, *] <;> rfl) (by simp [tau]) (by simp) | exact .same (by simp only [go_sem, reduceCtorEq, reduceIte, Nat.reduceAdd, Nat.reduceEqDiff, Nat.reduceLeDiff, Nat.reduceMul, *] <;> rfl) (by first | rfl | simp [VV.cloL, VV.clo, *]))
        · refine HConv.same (by decide) (by first | rfl | (simp only [go_sem, reduceCtorEq, reduceIte, Nat.reduceAdd, Nat.reduceEqDiff, Nat.reduceLeDiff, Nat.reduceMul, *] <;> rfl)) rfl ?_
          refine HConv.same (by decide) (by first | rfl | (simp only [go_sem, reduceCtorEq, reduceIte, Nat.reduceAdd, Nat.reduceEqDiff, Nat.reduceLeDiff, Nat.reduceMul, *] <;> rfl)) rfl ?_
          refine HConv.obj (cs := [.sc (.int .i64 R), .sc (.int .i64 K), .rf 3 0 _ 5]) (by decide) (by first | rfl | (simp only [go_sem, reduceCtorEq, reduceIte, Nat.reduceAdd, Nat.reduceEqDiff, Nat.reduceLeDiff, Nat.reduceMul, *] <;> rfl)) ?_ ?_
          · repeat' (first | exact CellsC.nil | exact .nil 3 | exact .nil 5 | exact .nil 6 | (exact .toRf (by first | rfl | simp [tau]) (by simp [tau]) (by simp)) | (exact .toPt (by first | rfl | simp [tau]) (by simp [tau]) (by simp)) | refine CellsC.one rfl ?_ | refine CellsC.cons ?_ rfl ?_)
          rw [fin.out]
          refine HConv.obj (by decide) (by first | rfl | (simp only [go_sem, reduceCtorEq, reduceIte, Nat.reduceAdd, Nat.reduceEqDiff, Nat.reduceLeDiff, Nat.reduceMul, *] <;> rfl)) ?_ HConv.nil
          refine CellsC.append (CellsC.same ?_) (.cons (frT (by simp) (by simp only [go_sem, reduceCtorEq, reduceIte, Nat.reduceAdd, Nat.reduceEqDiff, Nat.reduceLeDiff, Nat.reduceMul])) rfl (CellsC.same (flatC_clo _)))
          rw [mapF_clo.cloL_app, flatC_clo]
          rfl
      · have gv : (v == 0) = false := by simpa using hv
        have hs' := hv1 hv
        replace hs' := Kept.mk hs'
        clear hv hv1 hv0 hgs hgl hgj hcl
        repeat' (first
          | simp only [go_sem, reduceCtorEq, reduceIte, Nat.reduceAdd, Nat.reduceEqDiff, Nat.reduceLeDiff, Nat.reduceMul, Nat.reduceSub, *]
          | refine gdO_bool' _ (fun _ => ?_) (fun _ => ?_)
          | refine gdO_bool _ (fun _ => ?_) (fun _ => ?_)
          | refine gdD_bool' _ (fun _ => ?_) (fun _ => ?_)
          | refine gdD_bool _ (fun _ => ?_) (fun _ => ?_)
          | refine cdO_bool' _ (fun _ => ?_) (fun _ => ?_)
          | refine cdO_bool _ (fun _ => ?_) (fun _ => ?_)
          | (refine callO.obj [0] (q1) ?_ rfl (by decide) ?_ ?_
             · simp only [go_sem, reduceCtorEq, reduceIte, Nat.reduceAdd, Nat.reduceEqDiff, Nat.reduceLeDiff, Nat.reduceMul, Nat.reduceSub, *]
             · repeat' (first | exact HIs_nil | refine HIs_cons ?_ ?_ | (simp only [go_sem, reduceCtorEq, reduceIte, Nat.reduceAdd, Nat.reduceEqDiff, Nat.reduceLeDiff, Nat.reduceMul, Nat.reduceSub, *]; done)))
          | (refine callW.obj [0] (q1) rfl ?_ rfl (by decide) ?_ (by simp [okInc, Disj]) ?_
             · simp only [go_sem, reduceCtorEq, reduceIte, Nat.reduceAdd, Nat.reduceEqDiff, Nat.reduceLeDiff, Nat.reduceMul, Nat.reduceSub, *]
             · repeat' (first | exact HIs_nil | refine HIs_cons ?_ ?_ | (simp only [go_sem, reduceCtorEq, reduceIte, Nat.reduceAdd, Nat.reduceEqDiff, Nat.reduceLeDiff, Nat.reduceMul, Nat.reduceSub, *]; done)))
          | refine ⟨by decide, ?_⟩
          | fail)
        refine roundE (fun s => [0, 1, 2, 3]) rfl (rk_of hn [(0, _), (2, _), (3, _), (9, _)] _ _ ⟨j + 1, cs, q + 1, hlt, hs'.out, rfl, rfl, rfl, rfl⟩ (by omega) (by simp) (by simp [tau]) (by simp) (by simp [hm]) ?_ ?_)
        · repeat' (first | exact List.forall_mem_nil _ | refine List.forall_mem_cons.2 ⟨?_, ?_⟩ | exact .toPt (by simp only [go_sem, reduceCtorEq, reduceIte, Nat.reduceAdd, Nat.reduceEqDiff, Nat.reduceLeDiff, Nat.reduceMul, *] <;> rfl) (by simp [tau]) (by simp) | exact .toRf (by simp only [go_sem, reduceCtorEq, reduceIte, Nat.reduceAdd, Nat.reduceEqDiff, Nat.reduceLeDiff, Nat.reduceMul, *] <;> rfl) (by simp [tau]) (by simp) | exact .same (by simp only [go_sem, reduceCtorEq, reduceIte, Nat.reduceAdd, Nat.reduceEqDiff, Nat.reduceLeDiff, Nat.reduceMul, *] <;> rfl) (by first | rfl | simp [VV.cloL, VV.clo, *]))
        · refine HConv.same (by decide) (by first | rfl | (simp only [go_sem, reduceCtorEq, reduceIte, Nat.reduceAdd, Nat.reduceEqDiff, Nat.reduceLeDiff, Nat.reduceMul, *] <;> rfl)) rfl ?_
          refine HConv.same (by decide) (by first | rfl | (simp only [go_sem, reduceCtorEq, reduceIte, Nat.reduceAdd, Nat.reduceEqDiff, Nat.reduceLeDiff, Nat.reduceMul, *] <;> rfl)) rfl ?_
          refine HConv.obj (cs := [.sc (.int .i64 R), .sc (.int .i64 K), .rf 3 0 _ 5]) (by decide) (by first | rfl | (simp only [go_sem, reduceCtorEq, reduceIte, Nat.reduceAdd, Nat.reduceEqDiff, Nat.reduceLeDiff, Nat.reduceMul, *] <;> rfl)) ?_ ?_
          · repeat' (first | exact CellsC.nil | exact .nil 3 | exact .nil 5 | exact .nil 6 | (exact .toRf (by first | rfl | simp [tau]) (by simp [tau]) (by simp)) | (exact .toPt (by first | rfl | simp [tau]) (by simp [tau]) (by simp)) | refine CellsC.one rfl ?_ | refine CellsC.cons ?_ rfl ?_)
          exact HConv.same (by decide) (by first | rfl | (simp only [go_sem, reduceCtorEq, reduceIte, Nat.reduceAdd, Nat.reduceEqDiff, Nat.reduceLeDiff, Nat.reduceMul, *] <;> rfl)) (flatC_clo _) HConv.nil
    · have e : j = N := by omega
      subst e
      have g1 : decide (((j : Nat) : Int) < ((j : Nat) : Int)) = false := by simp
      rw [hgj]
      simp only
      have hcl := hgl j hj
      rw [hgj] at hcl
      clear hgs hgl hgj
      repeat' (first
        | simp only [go_sem, reduceCtorEq, reduceIte, Nat.reduceAdd, Nat.reduceEqDiff, Nat.reduceLeDiff, Nat.reduceMul, *]
        | refine gdO_bool' _ (fun _ => ?_) (fun _ => ?_)
        | refine gdO_bool _ (fun _ => ?_) (fun _ => ?_)
        | refine gdD_bool' _ (fun _ => ?_) (fun _ => ?_)
        | refine gdD_bool _ (fun _ => ?_) (fun _ => ?_)
        | refine cdO_bool' _ (fun _ => ?_) (fun _ => ?_)
        | refine cdO_bool _ (fun _ => ?_) (fun _ => ?_)
        | refine ⟨by decide, ?_⟩
        | fail)
      refine ⟨by simp, _, by simp only [go_sem, reduceCtorEq, reduceIte, Nat.reduceAdd, Nat.reduceEqDiff, Nat.reduceLeDiff, Nat.reduceMul, resV]; rfl, ?_⟩
      refine EndV.of hn [0, 3] _ (by simp) (by simp [tau]) (by simp) (Conv.aggOf ?_) ?_
      · repeat' (first | exact CellsC.nil | exact .nil 3 | exact .nil 5 | exact .nil 6 | (exact .toRf (by first | rfl | simp [tau]) (by simp [tau]) (by simp)) | (exact .toPt (by first | rfl | simp [tau]) (by simp [tau]) (by simp)) | refine CellsC.one rfl ?_ | refine CellsC.cons ?_ rfl ?_)
      refine HConv.same (by decide) (by first | rfl | (simp only [go_sem, reduceCtorEq, reduceIte, Nat.reduceAdd, Nat.reduceEqDiff, Nat.reduceLeDiff, Nat.reduceMul, *] <;> rfl)) rfl ?_
      exact HConv.same (by decide) (by first | rfl | (simp only [go_sem, reduceCtorEq, reduceIte, Nat.reduceAdd, Nat.reduceEqDiff, Nat.reduceLeDiff, Nat.reduceMul, *] <;> rfl)) (flatC_clo _) HConv.nil
end Go.Proofs.Ytdmmhainianadaa

/- F29: a drawn block. -/
namespace Go.Proofs.Ytdmmhainianadaa
open Go.VM Go.Lim Go.Proofs.Try
attribute [local irreducible] vwp vops vstep vdr vdr1 CallP PPost SWv gdO gdD cdO optV optW optD thenV blockV behind callO callW callvO roundV
set_option linter.unusedSimpArgs false
set_option linter.unusedVariables false
/- loop.example/limner/spec.l71Block -/
def vc169 : VCode :=
(.seq (.reg [⟨(some 4), (.new [(.int .i64 0), (.int .i64 0), (.slice none 0 0), (.int .i64 0), (.int .i64 0), (.slice none 0 0)]), none⟩])
(.seq (.seq (.reg [⟨(some 5), (.mov (.tmp 0)), none⟩, ⟨(some 6), (.call 102 [(.tmp 5), (.const (.int .i64 6))]), none⟩])
(.block 0 (.seq (.reg [⟨(some 8), (.bin .eql .no (.tmp 6) (.const (.int .i64 0))), none⟩, ⟨(some 7), (.mov (.tmp 8)), none⟩])
 (.cond (.tmp 7) (.seq (.reg [⟨(some 9), (.mov (.tmp 0)), none⟩, ⟨(some 10), (.call 171 [(.tmp 9)]), none⟩, ⟨(some 11), (.build [(.int .i64 0), (.int .i64 0), (.slice none 0 0), (.int .i64 0), (.int .i64 0), (.slice none 0 0)] [(0, 1, (.const (.int .i64 3))), (3, 3, (.tmp 10))]), none⟩, ⟨none, (.store 6 (.tmp 4) (.tmp 11)), none⟩])
  .ret)
  (.seq (.seq (.reg [⟨(some 13), (.bin .eql .no (.tmp 6) (.const (.int .i64 1))), none⟩, ⟨(some 12), (.mov (.tmp 13)), none⟩])
  (.cond (.tmp 12) .skip
   (.seq (.reg [⟨(some 14), (.bin .eql .no (.tmp 6) (.const (.int .i64 2))), none⟩, ⟨(some 12), (.mov (.tmp 14)), none⟩])
   (.cond (.tmp 12) .skip
    (.reg [⟨(some 15), (.bin .eql .no (.tmp 6) (.const (.int .i64 3))), none⟩, ⟨(some 12), (.mov (.tmp 15)), none⟩])))))
  (.cond (.tmp 12) (.seq (.seq (.reg [⟨(some 16), (.mov (.tmp 1)), none⟩, ⟨(some 17), (.bin .gtr .no (.tmp 16) (.const (.int .i64 3))), none⟩])
   (.cond (.tmp 17) (.reg [⟨(some 1), (.mov (.const (.int .i64 3))), none⟩])
    .skip))
   (.seq (.reg [⟨(some 18), (.mov (.tmp 0)), none⟩, ⟨(some 19), (.mov (.tmp 1)), none⟩, ⟨(some 20), (.bin .add .no (.tmp 19) (.const (.int .i64 1))), none⟩, ⟨(some 21), (.call 102 [(.tmp 18), (.tmp 20)]), none⟩, ⟨(some 22), (.mov (.tmp 0)), none⟩, ⟨(some 23), (.call 193 [(.tmp 22), (.const (.int .i64 6))]), none⟩, ⟨(some 24), (.build [(.int .i64 0), (.int .i64 0), (.slice none 0 0), (.int .i64 0), (.int .i64 0), (.slice none 0 0)] [(0, 1, (.const (.int .i64 2))), (1, 1, (.tmp 21)), (2, 1, (.tmp 23))]), none⟩, ⟨none, (.store 6 (.tmp 4) (.tmp 24)), none⟩])
   .ret))
   .skip))))))
(.seq (.reg [⟨(some 25), (.mov (.tmp 0)), none⟩, ⟨(some 26), (.call 193 [(.tmp 25), (.const (.int .i64 8))]), none⟩, ⟨(some 27), (.build [(.int .i64 0), (.int .i64 0), (.slice none 0 0), (.int .i64 0), (.int .i64 0), (.slice none 0 0)] [(0, 1, (.const (.int .i64 1))), (2, 1, (.tmp 26))]), none⟩, ⟨none, (.store 6 (.tmp 4) (.tmp 27)), none⟩])
.ret)))
theorem k169 : compFn prog 169 = some (28, vc169, [.c 4 true 6]) := by kernel_rfl
def DrB (x : Block) : Prop := 0 ≤ x.level ∧ x.level ≤ 3 ∧ x.text.length ≤ 8 ∧ x.table.cells.length ≤ 26 ∧ ∀ c ∈ x.table.cells, c.text.length ≤ 5
set_option maxHeartbeats 400000 in
theorem c169 {b : List Int} (hr : Rd b) {p lv : Int} (h0 : 0 ≤ p) (h1 : p + 30000 < 1073741824) (hl0 : 0 ≤ lv) (hl1 : lv ≤ 100) : ∃ (x : Block) (p' : Int), (p ≤ p' ∧ p' ≤ p + 7000) ∧ DrB x ∧
    ObjC prog 169 [.pt 0 0, .sc (.int .i64 lv)] [[encBy b, .sc (.int .i64 p)]] (.agg x.enc) [(0, [encBy b, .sc (.int .i64 p')])] 1 := by
  obtain ⟨v, u1, u2, hv⟩ := pk hr h0 (by omega) 6
  obtain ⟨t, pt, ⟨ht1, ht2⟩, hD, hT⟩ := c171 hr (p := p + 1) (by omega) (by omega)
  obtain ⟨L, hL⟩ : ∃ L : Int, (if decide (lv > 3) = true then 3 else lv) = L := ⟨_, rfl⟩
  have hLb : 0 ≤ L ∧ L ≤ 3 := by
    rw [← hL]
    split
    · omega
    · rename_i h; simp at h; omega
  obtain ⟨v2, u3, u4, hv2⟩ := pk hr (p := p + 1) (by omega) (by omega) (L + 1)
  have u4 := u4 (by omega)
  obtain ⟨l1, p1, hp1, hl1', hc1⟩ := c193 hr (p := p + 1 + 1) (most := 6) (by omega) (by omega) (by omega) (by omega)
  obtain ⟨l2, p2, hp2, hl2', hc2⟩ := c193 hr (p := p + 1) (most := 8) (by omega) (by omega) (by omega) (by omega)
  have w1 : IntKind.i64.wrap (L + 1) = L + 1 := by rw [wrap_id] <;> omega
  unfold encBy at *
  rcases hb0 : (v == 0) with _ | _
  · have bl : ∀ (h1 : (v == 1) = true ∨ (v == 2) = true ∨ (v == 3) = true), ∃ (x : Block) (p' : Int), (p ≤ p' ∧ p' ≤ p + 7000) ∧ DrB x ∧ ObjC prog 169 [.pt 0 0, .sc (.int .i64 lv)] [[.sl 1 (b.map fun b => [.sc (.int .u8 b)]), .sc (.int .i64 p)]] (.agg x.enc) [(0, [.sl 1 (b.map fun b => [.sc (.int .u8 b)]), .sc (.int .i64 p')])] 1 := by
      intro hb
      refine ⟨⟨2, v2, l1, ⟨0, 0, []⟩⟩, p1, by omega, ⟨by simp only; omega, by simp only; omega, by simp only; omega, by simp, by simp⟩, ?_⟩
      have hLk := Kept.mk hL
      clear u1 u2 hT hD hL hLb u3 u4 hc2 h0 h1 hl0 hl1 hr
      unfold Block.enc encT encC
      simp only [List.map_nil]
      rcases hlv : decide (lv > 3) with _ | _
      all_goals
        have hLk := hLk.out
        simp only [hlv, if_true, if_false, Bool.false_eq_true] at hLk
        subst hLk
        rcases hb with hb | hb | hb
        all_goals
          refine objC_of k169 (by simp) (by simp) (by first | rfl | simp [wfO, VV.underL, VV.under, under_signs, under_cells, under_blocks, *]) ?_
          intro X hP hm hH hn hX
          change X.n = 1 at hn
          refine vwp_ok _ ?_
          unfold vc169
          repeat' (first
            | simp only [go_sem, reduceCtorEq, reduceIte, Nat.reduceAdd, Nat.reduceEqDiff, Nat.reduceLeDiff, Nat.reduceMul, Nat.reduceSub, *]
            | refine gdO_bool' _ (fun _ => ?_) (fun _ => ?_)
            | refine gdO_bool _ (fun _ => ?_) (fun _ => ?_)
            | refine gdD_bool' _ (fun _ => ?_) (fun _ => ?_)
            | refine gdD_bool _ (fun _ => ?_) (fun _ => ?_)
            | refine cdO_bool' _ (fun _ => ?_) (fun _ => ?_)
            | refine cdO_bool _ (fun _ => ?_) (fun _ => ?_)
            | (refine callO.obj [0] (hv) ?_ rfl (by decide) ?_ ?_
               · simp only [go_sem, reduceCtorEq, reduceIte, Nat.reduceAdd, Nat.reduceEqDiff, Nat.reduceLeDiff, Nat.reduceMul, Nat.reduceSub, *]
               · repeat' (first | exact HIs_nil | refine HIs_cons ?_ ?_ | (simp only [go_sem, reduceCtorEq, reduceIte, Nat.reduceAdd, Nat.reduceEqDiff, Nat.reduceLeDiff, Nat.reduceMul, Nat.reduceSub, *]; done)))
            | (refine callW.obj [0] (hv) rfl ?_ rfl (by decide) ?_ (by simp [okInc, Disj]) ?_
               · simp only [go_sem, reduceCtorEq, reduceIte, Nat.reduceAdd, Nat.reduceEqDiff, Nat.reduceLeDiff, Nat.reduceMul, Nat.reduceSub, *]
               · repeat' (first | exact HIs_nil | refine HIs_cons ?_ ?_ | (simp only [go_sem, reduceCtorEq, reduceIte, Nat.reduceAdd, Nat.reduceEqDiff, Nat.reduceLeDiff, Nat.reduceMul, Nat.reduceSub, *]; done)))
            | (refine callO.obj [0] (hv2) ?_ rfl (by decide) ?_ ?_
               · simp only [go_sem, reduceCtorEq, reduceIte, Nat.reduceAdd, Nat.reduceEqDiff, Nat.reduceLeDiff, Nat.reduceMul, Nat.reduceSub, *]
               · repeat' (first | exact HIs_nil | refine HIs_cons ?_ ?_ | (simp only [go_sem, reduceCtorEq, reduceIte, Nat.reduceAdd, Nat.reduceEqDiff, Nat.reduceLeDiff, Nat.reduceMul, Nat.reduceSub, *]; done)))
            | (refine callW.obj [0] (hv2) rfl ?_ rfl (by decide) ?_ (by simp [okInc, Disj]) ?_
               · simp only [go_sem, reduceCtorEq, reduceIte, Nat.reduceAdd, Nat.reduceEqDiff, Nat.reduceLeDiff, Nat.reduceMul, Nat.reduceSub, *]
               · repeat' (first | exact HIs_nil | refine HIs_cons ?_ ?_ | (simp only [go_sem, reduceCtorEq, reduceIte, Nat.reduceAdd, Nat.reduceEqDiff, Nat.reduceLeDiff, Nat.reduceMul, Nat.reduceSub, *]; done)))
            | (refine callO.obj [0] (hc1) ?_ rfl (by decide) ?_ ?_
               · simp only [go_sem, reduceCtorEq, reduceIte, Nat.reduceAdd, Nat.reduceEqDiff, Nat.reduceLeDiff, Nat.reduceMul, Nat.reduceSub, *]
               · repeat' (first | exact HIs_nil | refine HIs_cons ?_ ?_ | (simp only [go_sem, reduceCtorEq, reduceIte, Nat.reduceAdd, Nat.reduceEqDiff, Nat.reduceLeDiff, Nat.reduceMul, Nat.reduceSub, *]; done)))
            | (refine callW.obj [0] (hc1) rfl ?_ rfl (by decide) ?_ (by simp [okInc, Disj]) ?_
               · simp only [go_sem, reduceCtorEq, reduceIte, Nat.reduceAdd, Nat.reduceEqDiff, Nat.reduceLeDiff, Nat.reduceMul, Nat.reduceSub, *]
               · repeat' (first | exact HIs_nil | refine HIs_cons ?_ ?_ | (simp only [go_sem, reduceCtorEq, reduceIte, Nat.reduceAdd, Nat.reduceEqDiff, Nat.reduceLeDiff, Nat.reduceMul, Nat.reduceSub, *]; done)))
            | refine ⟨by decide, ?_⟩
            | fail)
          all_goals
            refine ⟨by simp, _, by simp only [go_sem, reduceCtorEq, reduceIte, Nat.reduceAdd, Nat.reduceEqDiff, Nat.reduceLeDiff, Nat.reduceMul, resV]; rfl, ?_⟩
            refine EndV.of hn [0] _ (by simp) (by simp [tau]) (by simp) (Conv.aggOf ?_) ?_
            · refine .one rfl (.one rfl (.cons (frT (by simp) (by simp only [go_sem, reduceCtorEq, reduceIte, Nat.reduceAdd, Nat.reduceEqDiff, Nat.reduceLeDiff, Nat.reduceMul])) rfl (.one rfl (.one rfl (.cons (.nil 5) rfl .nil)))))
            exact HConv.same (by decide) (by first | rfl | (simp only [go_sem, reduceCtorEq, reduceIte, Nat.reduceAdd, Nat.reduceEqDiff, Nat.reduceLeDiff, Nat.reduceMul, *] <;> rfl)) rfl HConv.nil
    rcases hb1 : (v == 1) with _ | _
    · rcases hb2 : (v == 2) with _ | _
      · rcases hb3 : (v == 3) with _ | _
        · refine ⟨⟨1, 0, l2, ⟨0, 0, []⟩⟩, p2, by omega, ⟨by simp, by simp, by simp only; omega, by simp, by simp⟩, ?_⟩
          clear bl u1 u2 hT hD hL hLb u3 u4 hc1 h0 h1 hl0 hl1 hr hv2
          unfold Block.enc encT encC
          simp only [List.map_nil]
          refine objC_of k169 (by simp) (by simp) (by first | rfl | simp [wfO, VV.underL, VV.under, under_signs, under_cells, under_blocks, *]) ?_
          intro X hP hm hH hn hX
          change X.n = 1 at hn
          refine vwp_ok _ ?_
          unfold vc169
          repeat' (first
            | simp only [go_sem, reduceCtorEq, reduceIte, Nat.reduceAdd, Nat.reduceEqDiff, Nat.reduceLeDiff, Nat.reduceMul, Nat.reduceSub, *]
            | refine gdO_bool' _ (fun _ => ?_) (fun _ => ?_)
            | refine gdO_bool _ (fun _ => ?_) (fun _ => ?_)
            | refine gdD_bool' _ (fun _ => ?_) (fun _ => ?_)
            | refine gdD_bool _ (fun _ => ?_) (fun _ => ?_)
            | refine cdO_bool' _ (fun _ => ?_) (fun _ => ?_)
            | refine cdO_bool _ (fun _ => ?_) (fun _ => ?_)
            | (refine callO.obj [0] (hv) ?_ rfl (by decide) ?_ ?_
               · simp only [go_sem, reduceCtorEq, reduceIte, Nat.reduceAdd, Nat.reduceEqDiff, Nat.reduceLeDiff, Nat.reduceMul, Nat.reduceSub, *]
               · repeat' (first | exact HIs_nil | refine HIs_cons ?_ ?_ | (simp only [go_sem, reduceCtorEq, reduceIte, Nat.reduceAdd, Nat.reduceEqDiff, Nat.reduceLeDiff, Nat.reduceMul, Nat.reduceSub, *]; done)))
            | (refine callW.obj [0] (hv) rfl ?_ rfl (by decide) ?_ (by simp [okInc, Disj]) ?_
               · simp only [go_sem, reduceCtorEq, reduceIte, Nat.reduceAdd, Nat.reduceEqDiff, Nat.reduceLeDiff, Nat.reduceMul, Nat.reduceSub, *]
               · repeat' (first | exact HIs_nil | refine HIs_cons ?_ ?_ | (simp only [go_sem, reduceCtorEq, reduceIte, Nat.reduceAdd, Nat.reduceEqDiff, Nat.reduceLeDiff, Nat.reduceMul, Nat.reduceSub, *]; done)))
            | (refine callO.obj [0] (hc2) ?_ rfl (by decide) ?_ ?_
               · simp only [go_sem, reduceCtorEq, reduceIte, Nat.reduceAdd, Nat.reduceEqDiff, Nat.reduceLeDiff, Nat.reduceMul, Nat.reduceSub, *]
               · repeat' (first | exact HIs_nil | refine HIs_cons ?_ ?_ | (simp only [go_sem, reduceCtorEq, reduceIte, Nat.reduceAdd, Nat.reduceEqDiff, Nat.reduceLeDiff, Nat.reduceMul, Nat.reduceSub, *]; done)))
            | (refine callW.obj [0] (hc2) rfl ?_ rfl (by decide) ?_ (by simp [okInc, Disj]) ?_
               · simp only [go_sem, reduceCtorEq, reduceIte, Nat.reduceAdd, Nat.reduceEqDiff, Nat.reduceLeDiff, Nat.reduceMul, Nat.reduceSub, *]
               · repeat' (first | exact HIs_nil | refine HIs_cons ?_ ?_ | (simp only [go_sem, reduceCtorEq, reduceIte, Nat.reduceAdd, Nat.reduceEqDiff, Nat.reduceLeDiff, Nat.reduceMul, Nat.reduceSub, *]; done)))
            | refine ⟨by decide, ?_⟩
            | fail)
          refine ⟨by simp, _, by simp only [go_sem, reduceCtorEq, reduceIte, Nat.reduceAdd, Nat.reduceEqDiff, Nat.reduceLeDiff, Nat.reduceMul, resV]; rfl, ?_⟩
          refine EndV.of hn [0] _ (by simp) (by simp [tau]) (by simp) (Conv.aggOf ?_) ?_
          · refine .one rfl (.one rfl (.cons (frT (by simp) (by simp only [go_sem, reduceCtorEq, reduceIte, Nat.reduceAdd, Nat.reduceEqDiff, Nat.reduceLeDiff, Nat.reduceMul])) rfl (.one rfl (.one rfl (.cons (.nil 5) rfl .nil)))))
          exact HConv.same (by decide) (by first | rfl | (simp only [go_sem, reduceCtorEq, reduceIte, Nat.reduceAdd, Nat.reduceEqDiff, Nat.reduceLeDiff, Nat.reduceMul, *] <;> rfl)) rfl HConv.nil
        · exact bl (.inr (.inr hb3))
      · exact bl (.inr (.inl hb2))
    · exact bl (.inl hb1)
  · refine ⟨⟨3, 0, [], t⟩, pt, by omega, ⟨by simp, by simp, by simp, hD.2.2.2.2.1, hD.2.2.2.2.2⟩, ?_⟩
    clear u1 u2 hD hL hLb u3 u4 hc1 hc2 h0 h1 hl0 hl1 hr hv2
    unfold Block.enc encT encC
    simp only [List.map_nil]
    refine objC_of k169 (by simp) (by simp) (by first | rfl | simp [wfO, VV.underL, VV.under, under_signs, under_cells, under_blocks, *]) ?_
    intro X hP hm hH hn hX
    change X.n = 1 at hn
    refine vwp_ok _ ?_
    unfold vc169
    repeat' (first
      | simp only [go_sem, reduceCtorEq, reduceIte, Nat.reduceAdd, Nat.reduceEqDiff, Nat.reduceLeDiff, Nat.reduceMul, Nat.reduceSub, *]
      | refine gdO_bool' _ (fun _ => ?_) (fun _ => ?_)
      | refine gdO_bool _ (fun _ => ?_) (fun _ => ?_)
      | refine gdD_bool' _ (fun _ => ?_) (fun _ => ?_)
      | refine gdD_bool _ (fun _ => ?_) (fun _ => ?_)
      | refine cdO_bool' _ (fun _ => ?_) (fun _ => ?_)
      | refine cdO_bool _ (fun _ => ?_) (fun _ => ?_)
      | (refine callO.obj [0] (hv) ?_ rfl (by decide) ?_ ?_
         · simp only [go_sem, reduceCtorEq, reduceIte, Nat.reduceAdd, Nat.reduceEqDiff, Nat.reduceLeDiff, Nat.reduceMul, Nat.reduceSub, *]
         · repeat' (first | exact HIs_nil | refine HIs_cons ?_ ?_ | (simp only [go_sem, reduceCtorEq, reduceIte, Nat.reduceAdd, Nat.reduceEqDiff, Nat.reduceLeDiff, Nat.reduceMul, Nat.reduceSub, *]; done)))
      | (refine callW.obj [0] (hv) rfl ?_ rfl (by decide) ?_ (by simp [okInc, Disj]) ?_
         · simp only [go_sem, reduceCtorEq, reduceIte, Nat.reduceAdd, Nat.reduceEqDiff, Nat.reduceLeDiff, Nat.reduceMul, Nat.reduceSub, *]
         · repeat' (first | exact HIs_nil | refine HIs_cons ?_ ?_ | (simp only [go_sem, reduceCtorEq, reduceIte, Nat.reduceAdd, Nat.reduceEqDiff, Nat.reduceLeDiff, Nat.reduceMul, Nat.reduceSub, *]; done)))
      | (refine callO.obj [0] (hT) ?_ rfl (by decide) ?_ ?_
         · simp only [go_sem, reduceCtorEq, reduceIte, Nat.reduceAdd, Nat.reduceEqDiff, Nat.reduceLeDiff, Nat.reduceMul, Nat.reduceSub, *]
         · repeat' (first | exact HIs_nil | refine HIs_cons ?_ ?_ | (simp only [go_sem, reduceCtorEq, reduceIte, Nat.reduceAdd, Nat.reduceEqDiff, Nat.reduceLeDiff, Nat.reduceMul, Nat.reduceSub, *]; done)))
      | (refine callW.obj [0] (hT) rfl ?_ rfl (by decide) ?_ (by simp [okInc, Disj]) ?_
         · simp only [go_sem, reduceCtorEq, reduceIte, Nat.reduceAdd, Nat.reduceEqDiff, Nat.reduceLeDiff, Nat.reduceMul, Nat.reduceSub, *]
         · repeat' (first | exact HIs_nil | refine HIs_cons ?_ ?_ | (simp only [go_sem, reduceCtorEq, reduceIte, Nat.reduceAdd, Nat.reduceEqDiff, Nat.reduceLeDiff, Nat.reduceMul, Nat.reduceSub, *]; done)))
      | refine ⟨by decide, ?_⟩
      | fail)
    refine ⟨by simp, _, by simp only [go_sem, reduceCtorEq, reduceIte, Nat.reduceAdd, Nat.reduceEqDiff, Nat.reduceLeDiff, Nat.reduceMul, resV]; rfl, ?_⟩
    refine EndV.of hn [0] _ (by simp) (by simp [tau]) (by simp) (Conv.aggOf ?_) ?_
    · refine .one rfl (.one rfl (.cons (.nil 3) rfl (.one rfl (.one rfl (.cons (frC (by simp) (by simp only [go_sem, reduceCtorEq, reduceIte, Nat.reduceAdd, Nat.reduceEqDiff, Nat.reduceLeDiff, Nat.reduceMul])) rfl .nil)))))
    exact HConv.same (by decide) (by first | rfl | (simp only [go_sem, reduceCtorEq, reduceIte, Nat.reduceAdd, Nat.reduceEqDiff, Nat.reduceLeDiff, Nat.reduceMul, *] <;> rfl)) rfl HConv.nil
end Go.Proofs.Ytdmmhainianadaa

/- F30: a drawn document. -/
namespace Go.Proofs.Ytdmmhainianadaa
open Go.VM Go.Lim Go.Proofs.Try
attribute [local irreducible] vwp vops vstep vdr vdr1 CallP PPost SWv gdO gdD cdO optV optW optD thenV blockV behind callO callW callvO roundV
set_option linter.unusedSimpArgs false
set_option linter.unusedVariables false
/- loop.example/limner/spec.l71Doc -/
def vc137 : VCode :=
(.seq (.reg [⟨(some 2), (.new [(.slice none 0 0)]), none⟩])
(.seq (.reg [⟨(some 5), (.build [(.slice none 0 0)] []), none⟩, ⟨(some 3), (.new [(.slice none 0 0)]), none⟩, ⟨none, (.store 1 (.tmp 3) (.tmp 5)), none⟩])
(.seq (.seq (.reg [⟨(some 6), (.mov (.tmp 0)), none⟩, ⟨(some 7), (.call 102 [(.tmp 6), (.const (.int .i64 6))]), none⟩, ⟨(some 4), (.mov (.tmp 7)), none⟩])
(.block 0 (.loop (.seq (.seq (.reg [⟨(some 8), (.mov (.tmp 4)), none⟩, ⟨(some 9), (.bin .geq .no (.tmp 8) (.const (.int .i64 0))), none⟩])
  (.cond (.tmp 9) .skip
   (.exit 0)))
  (.seq (.block 1 (.drw [(⟨(some 12), (.fad 0 (.tmp 3)), none⟩, []), (⟨(some 13), (.load false 1 (.tmp 12)), none⟩, []), (⟨(some 14), (.mov (.tmp 0)), none⟩, []), (⟨(some 15), (.load true 1 (.tmp 3)), none⟩, [1]), (⟨(some 16), (.fad 0 (.tmp 3)), none⟩, []), (⟨(some 17), (.load false 1 (.tmp 16)), none⟩, [1, 3]), (⟨(some 18), (.len false (.tmp 17)), none⟩, []), (⟨(some 19), (.call 118 [(.tmp 15), (.tmp 18)]), none⟩, [1]), (⟨(some 20), (.bin .add .no (.tmp 19) (.const (.int .i64 1))), none⟩, []), (⟨(some 21), (.call 169 [(.tmp 14), (.tmp 20)]), none⟩, [1]), (⟨(some 22), (.bslice 6 1 [(.int .i64 0), (.int .i64 0), (.slice none 0 0), (.int .i64 0), (.int .i64 0), (.slice none 0 0)] [(0, 6, (.tmp 21))]), none⟩, [1]), (⟨(some 23), (.app 6 80 (.tmp 13) (.tmp 22)), none⟩, []), (⟨(some 24), (.fad 0 (.tmp 3)), none⟩, []), (⟨none, (.store 1 (.tmp 24) (.tmp 23)), none⟩, [])]))
  (.reg [⟨(some 10), (.mov (.tmp 4)), none⟩, ⟨(some 11), (.bin .sub .no (.tmp 10) (.const (.int .i64 1))), none⟩, ⟨(some 4), (.mov (.tmp 11)), none⟩]))))))
(.seq (.reg [⟨(some 25), (.load true 1 (.tmp 3)), none⟩, ⟨none, (.store 1 (.tmp 2) (.tmp 25)), none⟩])
.ret))))
theorem k137 : compFn prog 137 = some (26, vc137, [.c 2 true 1]) := by kernel_rfl
def lastLv (d : Doc) : Int := aheadAt d d.length
theorem c118e (d : Doc) (h8 : d.length ≤ 8) : PureC prog 118 [.agg [encB d], .sc (.int .i64 d.length)] (.sc (.int .i64 (lastLv d))) := by
  unfold encB lastLv
  rcases Nat.eq_zero_or_pos d.length with h0 | hpos
  · have g1 : decide ((d.length : Int) < 1) = true := by simp; omega
    have e : aheadAt d d.length = -1 := by simp [aheadAt, h0]
    rw [e]
    clear h0 e
    refine pureC_of k118 (by first | rfl | simp [VV.cloL, VV.clo, *]) (by first | rfl | simp [VV.cloL, VV.clo, *]) (by simp) ?_
    intro X hP hm hH hn hX
    refine vwp_ok _ ?_
    unfold vc118
    repeat' (first
      | simp only [go_sem, reduceCtorEq, reduceIte, Nat.reduceAdd, Nat.reduceEqDiff, Nat.reduceLeDiff, Nat.reduceMul, *]
      | refine gdO_bool' _ (fun _ => ?_) (fun _ => ?_)
      | refine gdO_bool _ (fun _ => ?_) (fun _ => ?_)
      | refine gdD_bool' _ (fun _ => ?_) (fun _ => ?_)
      | refine gdD_bool _ (fun _ => ?_) (fun _ => ?_)
      | refine cdO_bool' _ (fun _ => ?_) (fun _ => ?_)
      | refine cdO_bool _ (fun _ => ?_) (fun _ => ?_)
      | refine ⟨by decide, ?_⟩
      | refine ppost_t (by simp) rfl ?_)
  · have g1 : decide ((d.length : Int) < 1) = false := by simp; omega
    have hlt' : d.length - 1 < d.length := by omega
    have g7 : IntKind.i64.wrap ((d.length : Int) - 1) = ((d.length - 1 : Nat) : Int) := by rw [wrap_id] <;> omega
    have g8 : (0 : Int) ≤ ((d.length - 1 : Nat) : Int) := by omega
    have g9 : ((d.length - 1 : Nat) : Int) < (d.length : Int) := by omega
    have g10 : (d.map Block.enc).getD (d.length - 1) [] = (d[d.length - 1]).enc := getD_map hlt'
    have hne : (d.length == 0) = false := by rw [beq_eq_false_iff_ne]; omega
    have e3 : d.getD (d.length - 1) noBlock = d[d.length - 1] := getD_eq hlt'
    have ea : aheadAt d d.length = if (d[d.length - 1].kind == 2) = true then d[d.length - 1].level else -1 := by simp only [aheadAt, hne, e3, Bool.false_eq_true, if_false]
    generalize aheadAt d d.length = res at *
    generalize d[d.length - 1] = b at *
    have ec : b.enc = [.sc (.int .i64 b.kind), .sc (.int .i64 b.level), .sl 3 (b.text.map Sign.enc), .sc (.int .i64 b.table.rows), .sc (.int .i64 b.table.cols), .sl 5 (b.table.cells.map Cell.enc)] := rfl
    clear e3 hne
    refine pureC_of k118 (by first | rfl | simp [VV.cloL, VV.clo, *]) (by first | rfl | simp [VV.cloL, VV.clo, *]) (by simp) ?_
    intro X hP hm hH hn hX
    refine vwp_ok _ ?_
    unfold vc118
    repeat' (first
      | simp only [go_sem, reduceCtorEq, reduceIte, Nat.reduceAdd, Nat.reduceEqDiff, Nat.reduceLeDiff, Nat.reduceMul, *]
      | refine gdO_bool' _ (fun _ => ?_) (fun _ => ?_)
      | refine gdO_bool _ (fun _ => ?_) (fun _ => ?_)
      | refine gdD_bool' _ (fun _ => ?_) (fun _ => ?_)
      | refine gdD_bool _ (fun _ => ?_) (fun _ => ?_)
      | refine cdO_bool' _ (fun _ => ?_) (fun _ => ?_)
      | refine cdO_bool _ (fun _ => ?_) (fun _ => ?_)
      | refine ⟨by decide, ?_⟩
      | refine ppost_t (by simp) rfl ?_)
    all_goals (try simp only [*, if_true, if_false, Bool.false_eq_true])
def DrD (d : Doc) : Prop := ∀ x ∈ d, DrB x
theorem lastLv_bd {d : Doc} (h : DrD d) : -1 ≤ lastLv d ∧ lastLv d ≤ 3 := by
  unfold lastLv aheadAt
  split
  · omega
  · split
    · rename_i h0 h1
      rcases Nat.lt_or_ge (d.length - 1) d.length with hl | hl
      · rw [getD_eq hl]
        have := h _ (List.getElem_mem hl)
        obtain ⟨a1, a2, _⟩ := this
        omega
      · simp [List.getD_eq_getElem?_getD, List.getElem?_eq_none hl, noBlock]
    · omega
def DocNext (b : List Int) (s s' : Doc × Int) : Prop := ∃ x : Block, ObjC prog 169 [.pt 0 0, .sc (.int .i64 (lastLv s.1 + 1))] [[encBy b, .sc (.int .i64 s.2)]] (.agg x.enc) [(0, [encBy b, .sc (.int .i64 s'.2)])] 1 ∧ s'.1 = s.1 ++ [x]
theorem docIter {b : List Int} (hr : Rd b) {p : Int} (h0 : 0 ≤ p) (h1 : p + 80000 < 1073741824) : ∃ f : Nat → Doc × Int, f 0 = ([], p) ∧ ∀ i, i ≤ 6 → (f i).1.length = i ∧ DrD (f i).1 ∧ p ≤ (f i).2 ∧ (f i).2 ≤ p + 7000 * i ∧ (i < 6 → DocNext b (f i) (f (i + 1))) := by
  obtain ⟨f, hf0, hf⟩ := iter_choice (α := Doc × Int) (I := fun i s => (i ≤ 6 → s.1.length = i ∧ DrD s.1 ∧ p ≤ s.2 ∧ s.2 ≤ p + 7000 * i)) (R := fun i s s' => i < 6 → DocNext b s s') (s0 := ([], p)) (fun _ => ⟨rfl, by simp [DrD], by simp, by simp⟩) (fun i s hs => by
    by_cases hi : i < 6
    · obtain ⟨hs1, hs2, hs3, hs4⟩ := hs (by omega)
      have hb := lastLv_bd hs2
      obtain ⟨x, p', hp', hx, hc⟩ := c169 hr (p := s.2) (lv := lastLv s.1 + 1) (by omega) (by omega) (by omega) (by omega)
      refine ⟨(s.1 ++ [x], p'), fun _ => ⟨by simp [hs1], ?_, by simp only; omega, by simp only; omega⟩, fun _ => ⟨x, hc, rfl⟩⟩
      intro y hy
      rcases List.mem_append.1 hy with hy | hy
      · exact hs2 y hy
      · simp at hy; rw [hy]; exact hx
    · exact ⟨s, fun h => by omega, fun h => absurd h hi⟩)
  exact ⟨f, hf0, fun i hi => ⟨((hf i).1 hi).1, ((hf i).1 hi).2.1, ((hf i).1 hi).2.2.1, ((hf i).1 hi).2.2.2, (hf i).2⟩⟩
theorem flatB_len (l : Doc) : (l.map Block.enc).flatten.length = l.length * 6 := by
  induction l with
  | nil => rfl
  | cons c l ih => simp only [List.map_cons, List.flatten_cons, List.length_append, ih, Block.encLen, List.length_cons]; omega
theorem flatB_clo (l : Doc) : VV.cloL (l.map Block.enc).flatten = true := mapF_clo (fun _ => rfl) l
theorem flatB_snoc (l : Doc) (y : Block) : ((l ++ [y]).map Block.enc).flatten = (l.map Block.enc).flatten ++ y.enc := by simp
theorem frB {τ : Nat → Nat} {H : Heap} {D : Nat → Prop} {n' k : Nat} {l : Doc} (hk : D k) (hc : H k = some (l.map Block.enc).flatten) : Conv τ H D n' (.rf k 0 l.length 6) (.sl 6 (l.map Block.enc)) := by
  refine .frf hk hc (by simp) ?_ (fun r hr => ?_) (flatB_clo _)
  · rw [List.drop_zero, List.take_of_length_le (by rw [flatB_len]; omega)]
  · obtain ⟨c, _, rfl⟩ := List.mem_map.1 hr; rfl
set_option maxHeartbeats 1000000 in
theorem c137 {b : List Int} (hr : Rd b) {p : Int} (h0 : 0 ≤ p) (h1 : p + 100000 < 1073741824) : ∃ (d : Doc) (p' : Int), (p ≤ p' ∧ p' ≤ p + 42001) ∧ (1 ≤ d.length ∧ d.length ≤ 6) ∧ DrD d ∧
    ObjC prog 137 [.pt 0 0] [[encBy b, .sc (.int .i64 p)]] (.agg [encB d]) [(0, [encBy b, .sc (.int .i64 p')])] 1 := by
  obtain ⟨v1, u1, u2, hv1⟩ := pk hr h0 (by omega) 6
  have u2 := u2 (by omega)
  obtain ⟨m, hm0⟩ : ∃ m : Nat, v1 = m := ⟨v1.toNat, by omega⟩
  subst hm0
  obtain ⟨f, hf0, hf⟩ := docIter hr (p := p + 1) (by omega) (by omega)
  have hN := hf (m + 1) (by omega)
  refine ⟨(f (m + 1)).1, (f (m + 1)).2, ⟨by omega, by omega⟩, ⟨by omega, by omega⟩, hN.2.1, ?_⟩
  have hfl : ∀ i, i ≤ m + 1 → (f i).1.length = i ∧ DrD (f i).1 := fun i hi => ⟨(hf i (by omega)).1, (hf i (by omega)).2.1⟩
  have hfs : ∀ i, i < m + 1 → DocNext b (f i) (f (i + 1)) := fun i hi => (hf i (by omega)).2.2.2.2 (by omega)
  have hf0' := Kept.mk hf0
  clear hf0 hf hN hr h0 h1
  unfold encBy encB at *
  refine objC_of k137 (by simp) (by simp) (by first | rfl | simp [wfO, VV.underL, VV.under, under_signs, under_cells, under_blocks, *]) ?_
  intro X hP hm hH hn hX
  change X.n = 1 at hn
  refine vwp_ok _ ?_
  unfold vc137
  repeat' (first
    | simp only [go_sem, reduceCtorEq, reduceIte, Nat.reduceAdd, Nat.reduceEqDiff, Nat.reduceLeDiff, Nat.reduceMul, Nat.reduceSub, *]
    | refine gdO_bool' _ (fun _ => ?_) (fun _ => ?_)
    | refine gdO_bool _ (fun _ => ?_) (fun _ => ?_)
    | refine gdD_bool' _ (fun _ => ?_) (fun _ => ?_)
    | refine gdD_bool _ (fun _ => ?_) (fun _ => ?_)
    | refine cdO_bool' _ (fun _ => ?_) (fun _ => ?_)
    | refine cdO_bool _ (fun _ => ?_) (fun _ => ?_)
    | (refine callO.obj [0] (hv1) ?_ rfl (by decide) ?_ ?_
       · simp only [go_sem, reduceCtorEq, reduceIte, Nat.reduceAdd, Nat.reduceEqDiff, Nat.reduceLeDiff, Nat.reduceMul, Nat.reduceSub, *]
       · repeat' (first | exact HIs_nil | refine HIs_cons ?_ ?_ | (simp only [go_sem, reduceCtorEq, reduceIte, Nat.reduceAdd, Nat.reduceEqDiff, Nat.reduceLeDiff, Nat.reduceMul, Nat.reduceSub, *]; done)))
    | (refine callW.obj [0] (hv1) rfl ?_ rfl (by decide) ?_ (by simp [okInc, Disj]) ?_
       · simp only [go_sem, reduceCtorEq, reduceIte, Nat.reduceAdd, Nat.reduceEqDiff, Nat.reduceLeDiff, Nat.reduceMul, Nat.reduceSub, *]
       · repeat' (first | exact HIs_nil | refine HIs_cons ?_ ?_ | (simp only [go_sem, reduceCtorEq, reduceIte, Nat.reduceAdd, Nat.reduceEqDiff, Nat.reduceLeDiff, Nat.reduceMul, Nat.reduceSub, *]; done)))
    | refine ⟨by decide, ?_⟩
    | fail)
  refine loopV hX (fun μ s H n => ∃ (i : Nat) (d : Doc) (q c : Int), i ≤ m + 1 ∧ c = m - i ∧ f i = (d, q) ∧ μ = m + 1 - i ∧ s = slotsOf [(0, .pt 0 0), (2, .pt 1 0), (3, .pt 2 0), (4, .sc (.int .i64 c))] ∧
      ((d = [] ∧ H = heapOf [(0, [.sl 1 (b.map fun b => [.sc (.int .u8 b)]), .sc (.int .i64 q)]), (1, [.sc (.slice none 0 0)]), (2, [.sc (.slice none 0 0)])]) ∨ H = heapOf [(0, [.sl 1 (b.map fun b => [.sc (.int .u8 b)]), .sc (.int .i64 q)]), (1, [.sc (.slice none 0 0)]), (2, [.rf 3 0 d.length 6]), (3, (d.map Block.enc).flatten)]) ∧ n = 4) ?_
    ⟨m + 2, roundE (fun s => [0, nm (s 2), nm (s 3), 99]) (by simp only [go_sem, reduceCtorEq, reduceIte, Nat.reduceAdd, Nat.reduceEqDiff, Nat.reduceLeDiff, Nat.reduceMul, nm_pt]; rfl) (rk_of hn [(0, _), (2, _), (3, _), (4, _)] _ _ ⟨0, [], p + 1, m, by omega, by omega, hf0'.out, rfl, rfl, .inl ⟨rfl, rfl⟩, rfl⟩ (by omega) (by simp) (by simp [tau]) (by simp) (by simp [hm]) ?_ ?_)⟩
  rotate_left
  · repeat' (first | exact List.forall_mem_nil _ | refine List.forall_mem_cons.2 ⟨?_, ?_⟩ | exact .toPt (by simp only [go_sem, reduceCtorEq, reduceIte, Nat.reduceAdd, Nat.reduceEqDiff, Nat.reduceLeDiff, Nat.reduceMul, *] <;> rfl) (by simp [tau]) (by simp) | exact .toRf (by simp only [go_sem, reduceCtorEq, reduceIte, Nat.reduceAdd, Nat.reduceEqDiff, Nat.reduceLeDiff, Nat.reduceMul, *] <;> rfl) (by simp [tau]) (by simp) | exact .same (by simp only [go_sem, reduceCtorEq, reduceIte, Nat.reduceAdd, Nat.reduceEqDiff, Nat.reduceLeDiff, Nat.reduceMul, *] <;> rfl) (by first | rfl | simp [VV.cloL, VV.clo, *]))
  · repeat' (first | exact HConv.nil | refine HConv.same (by decide) (by first | rfl | (simp only [go_sem, reduceCtorEq, reduceIte, Nat.reduceAdd, Nat.reduceEqDiff, Nat.reduceLeDiff, Nat.reduceMul, *] <;> rfl)) (by first | rfl | simp [VV.cloL, VV.clo, *]) ?_)
  rintro μ s H n ⟨i, d, q, c, hi, hc, hfi, rfl, rfl, hH, rfl⟩
  have hdl := hfl i hi
  rw [hfi] at hdl
  simp only at hdl
  have hlast := lastLv_bd hdl.2
  rcases Nat.lt_or_ge i (m + 1) with hlt | hge
  · have g1 : decide (c ≥ 0) = true := by simp; omega
    have g2 : IntKind.i64.wrap (c - 1) = c - 1 := wrap_id (by omega) (by omega)
    have hc' : Kept (c - 1 = (m : Int) - ((i + 1 : Nat) : Int)) := ⟨by omega⟩
    have hs := hfs i hlt
    rw [hfi] at hs
    obtain ⟨x, hx, hx'⟩ := hs
    simp only at hx hx'
    unfold encBy at hx
    have w1 : IntKind.i64.wrap (lastLv d + 1) = lastLv d + 1 := by rw [wrap_id] <;> omega
    have hnx : Kept (f (i + 1) = (d ++ [x], (f (i + 1)).2)) := ⟨by rw [← hx']⟩
    generalize (f (i + 1)).2 = q2 at hnx hx
    have hl6 : d.length ≤ 6 := by omega
    have h118 := c118e d (by omega)
    unfold encB at h118
    have b80 : 80 ≤ lim := by unfold lim; omega
    have ex : x.enc = [.sc (.int .i64 x.kind), .sc (.int .i64 x.level), .sl 3 (x.text.map Sign.enc), .sc (.int .i64 x.table.rows), .sc (.int .i64 x.table.cols), .sl 5 (x.table.cells.map Cell.enc)] := rfl
    clear hfl hfs hfi hx' hdl hlast hc hv1 hi
    rcases hH with ⟨hd, rfl⟩ | rfl
    · subst hd
      repeat' (first
        | simp only [go_sem, reduceCtorEq, reduceIte, Nat.reduceAdd, Nat.reduceEqDiff, Nat.reduceLeDiff, Nat.reduceMul, Nat.reduceSub, *]
        | refine gdO_bool' _ (fun _ => ?_) (fun _ => ?_)
        | refine gdO_bool _ (fun _ => ?_) (fun _ => ?_)
        | refine gdD_bool' _ (fun _ => ?_) (fun _ => ?_)
        | refine gdD_bool _ (fun _ => ?_) (fun _ => ?_)
        | refine cdO_bool' _ (fun _ => ?_) (fun _ => ?_)
        | refine cdO_bool _ (fun _ => ?_) (fun _ => ?_)
        | (refine callO.obj [0] (hx) ?_ rfl (by decide) ?_ ?_
           · simp only [go_sem, reduceCtorEq, reduceIte, Nat.reduceAdd, Nat.reduceEqDiff, Nat.reduceLeDiff, Nat.reduceMul, Nat.reduceSub, *]
           · repeat' (first | exact HIs_nil | refine HIs_cons ?_ ?_ | (simp only [go_sem, reduceCtorEq, reduceIte, Nat.reduceAdd, Nat.reduceEqDiff, Nat.reduceLeDiff, Nat.reduceMul, Nat.reduceSub, *]; done)))
        | (refine callW.obj [0] (hx) rfl ?_ rfl (by decide) ?_ (by simp [okInc, Disj]) ?_
           · simp only [go_sem, reduceCtorEq, reduceIte, Nat.reduceAdd, Nat.reduceEqDiff, Nat.reduceLeDiff, Nat.reduceMul, Nat.reduceSub, *]
           · repeat' (first | exact HIs_nil | refine HIs_cons ?_ ?_ | (simp only [go_sem, reduceCtorEq, reduceIte, Nat.reduceAdd, Nat.reduceEqDiff, Nat.reduceLeDiff, Nat.reduceMul, Nat.reduceSub, *]; done)))
        | (refine callW.borrow [] h118 ⟨ConvL.agg ⟨.nil 6, trivial⟩, .clo rfl, trivial⟩ (by simp [okInc, Disj]) ?_)
        | refine ⟨by decide, ?_⟩
        | fail)
      refine roundE (fun s => [0, 1, 2, nm (s 23)]) (by simp only [go_sem, reduceCtorEq, reduceIte, Nat.reduceAdd, Nat.reduceEqDiff, Nat.reduceLeDiff, Nat.reduceMul, nm_rf]; rfl) (rk_of hn [(0, _), (2, _), (3, _), (4, _)] _ _ ⟨i + 1, _, q2, c - 1, hlt, hc'.out, hnx.out, rfl, rfl, .inr rfl, rfl⟩ (by omega) (by simp) (by simp [tau]) (by simp) (by simp [hm]) ?_ ?_)
      · repeat' (first | exact List.forall_mem_nil _ | refine List.forall_mem_cons.2 ⟨?_, ?_⟩ | exact .toPt (by simp only [go_sem, reduceCtorEq, reduceIte, Nat.reduceAdd, Nat.reduceEqDiff, Nat.reduceLeDiff, Nat.reduceMul, *] <;> rfl) (by simp [tau]) (by simp) | exact .toRf (by simp only [go_sem, reduceCtorEq, reduceIte, Nat.reduceAdd, Nat.reduceEqDiff, Nat.reduceLeDiff, Nat.reduceMul, *] <;> rfl) (by simp [tau]) (by simp) | exact .same (by simp only [go_sem, reduceCtorEq, reduceIte, Nat.reduceAdd, Nat.reduceEqDiff, Nat.reduceLeDiff, Nat.reduceMul, *] <;> rfl) (by first | rfl | simp [VV.cloL, VV.clo, *]))
      · refine HConv.same (by decide) (by first | rfl | (simp only [go_sem, reduceCtorEq, reduceIte, Nat.reduceAdd, Nat.reduceEqDiff, Nat.reduceLeDiff, Nat.reduceMul, *] <;> rfl)) rfl ?_
        refine HConv.same (by decide) (by first | rfl | (simp only [go_sem, reduceCtorEq, reduceIte, Nat.reduceAdd, Nat.reduceEqDiff, Nat.reduceLeDiff, Nat.reduceMul, *] <;> rfl)) rfl ?_
        refine HConv.obj (cs := [.rf _ 0 _ 6]) (by decide) (by first | rfl | (simp only [go_sem, reduceCtorEq, reduceIte, Nat.reduceAdd, Nat.reduceEqDiff, Nat.reduceLeDiff, Nat.reduceMul, *] <;> rfl)) ?_ ?_
        · try rw [List.length_append]
          repeat' (first | exact CellsC.nil | exact .nil 3 | exact .nil 5 | exact .nil 6 | (exact .toRf (by first | rfl | simp [tau]) (by simp [tau]) (by simp)) | (exact .toPt (by first | rfl | simp [tau]) (by simp [tau]) (by simp)) | refine CellsC.one rfl ?_ | refine CellsC.cons ?_ rfl ?_)
        refine HConv.same (by decide) ?_ (flatB_clo _) HConv.nil
        first | rfl | (simp only [go_sem, reduceCtorEq, reduceIte, Nat.reduceAdd, Nat.reduceEqDiff, Nat.reduceLeDiff, Nat.reduceMul, *] <;> rfl)
    · have hfl := flatB_len d
      have tk : ((d.map Block.enc).flatten).take (d.length * 6) = (d.map Block.enc).flatten := List.take_of_length_le (by omega)
      have b3 : (d.length + 1) * 80 ≤ lim := by unfold lim; omega
      have b4 : d.length + 1 ≤ 9223372036854775807 := by omega
      have b5 : d.length * 6 ≤ d.length * 6 := by omega
      repeat' (first
        | simp only [go_sem, reduceCtorEq, reduceIte, Nat.reduceAdd, Nat.reduceEqDiff, Nat.reduceLeDiff, Nat.reduceMul, Nat.reduceSub, *]
        | refine gdO_bool' _ (fun _ => ?_) (fun _ => ?_)
        | refine gdO_bool _ (fun _ => ?_) (fun _ => ?_)
        | refine gdD_bool' _ (fun _ => ?_) (fun _ => ?_)
        | refine gdD_bool _ (fun _ => ?_) (fun _ => ?_)
        | refine cdO_bool' _ (fun _ => ?_) (fun _ => ?_)
        | refine cdO_bool _ (fun _ => ?_) (fun _ => ?_)
        | (refine callO.obj [0] (hx) ?_ rfl (by decide) ?_ ?_
           · simp only [go_sem, reduceCtorEq, reduceIte, Nat.reduceAdd, Nat.reduceEqDiff, Nat.reduceLeDiff, Nat.reduceMul, Nat.reduceSub, *]
           · repeat' (first | exact HIs_nil | refine HIs_cons ?_ ?_ | (simp only [go_sem, reduceCtorEq, reduceIte, Nat.reduceAdd, Nat.reduceEqDiff, Nat.reduceLeDiff, Nat.reduceMul, Nat.reduceSub, *]; done)))
        | (refine callW.obj [0] (hx) rfl ?_ rfl (by decide) ?_ (by simp [okInc, Disj]) ?_
           · simp only [go_sem, reduceCtorEq, reduceIte, Nat.reduceAdd, Nat.reduceEqDiff, Nat.reduceLeDiff, Nat.reduceMul, Nat.reduceSub, *]
           · repeat' (first | exact HIs_nil | refine HIs_cons ?_ ?_ | (simp only [go_sem, reduceCtorEq, reduceIte, Nat.reduceAdd, Nat.reduceEqDiff, Nat.reduceLeDiff, Nat.reduceMul, Nat.reduceSub, *]; done)))
        | (refine callW.borrow [3] h118 ⟨ConvL.agg ⟨frB (by simp) (by simp only [go_sem, reduceCtorEq, reduceIte, Nat.reduceAdd, Nat.reduceEqDiff, Nat.reduceLeDiff, Nat.reduceMul]), trivial⟩, .clo rfl, trivial⟩ (by simp [okInc, Disj]) ?_)
        | refine ⟨by decide, ?_⟩
        | fail)
      refine roundE (fun s => [0, 1, 2, nm (s 23)]) (by simp only [go_sem, reduceCtorEq, reduceIte, Nat.reduceAdd, Nat.reduceEqDiff, Nat.reduceLeDiff, Nat.reduceMul, nm_rf]; rfl) (rk_of hn [(0, _), (2, _), (3, _), (4, _)] _ _ ⟨i + 1, _, q2, c - 1, hlt, hc'.out, hnx.out, rfl, rfl, .inr rfl, rfl⟩ (by omega) (by simp) (by simp [tau]) (by simp) (by simp [hm]) ?_ ?_)
      · repeat' (first | exact List.forall_mem_nil _ | refine List.forall_mem_cons.2 ⟨?_, ?_⟩ | exact .toPt (by simp only [go_sem, reduceCtorEq, reduceIte, Nat.reduceAdd, Nat.reduceEqDiff, Nat.reduceLeDiff, Nat.reduceMul, *] <;> rfl) (by simp [tau]) (by simp) | exact .toRf (by simp only [go_sem, reduceCtorEq, reduceIte, Nat.reduceAdd, Nat.reduceEqDiff, Nat.reduceLeDiff, Nat.reduceMul, *] <;> rfl) (by simp [tau]) (by simp) | exact .same (by simp only [go_sem, reduceCtorEq, reduceIte, Nat.reduceAdd, Nat.reduceEqDiff, Nat.reduceLeDiff, Nat.reduceMul, *] <;> rfl) (by first | rfl | simp [VV.cloL, VV.clo, *]))
      · refine HConv.same (by decide) (by first | rfl | (simp only [go_sem, reduceCtorEq, reduceIte, Nat.reduceAdd, Nat.reduceEqDiff, Nat.reduceLeDiff, Nat.reduceMul, *] <;> rfl)) rfl ?_
        refine HConv.same (by decide) (by first | rfl | (simp only [go_sem, reduceCtorEq, reduceIte, Nat.reduceAdd, Nat.reduceEqDiff, Nat.reduceLeDiff, Nat.reduceMul, *] <;> rfl)) rfl ?_
        refine HConv.obj (cs := [.rf _ 0 _ 6]) (by decide) (by first | rfl | (simp only [go_sem, reduceCtorEq, reduceIte, Nat.reduceAdd, Nat.reduceEqDiff, Nat.reduceLeDiff, Nat.reduceMul, *] <;> rfl)) ?_ ?_
        · try rw [List.length_append]
          repeat' (first | exact CellsC.nil | exact .nil 3 | exact .nil 5 | exact .nil 6 | (exact .toRf (by first | rfl | simp [tau]) (by simp [tau]) (by simp)) | (exact .toPt (by first | rfl | simp [tau]) (by simp [tau]) (by simp)) | refine CellsC.one rfl ?_ | refine CellsC.cons ?_ rfl ?_)
        refine HConv.same (by decide) ?_ (flatB_clo _) HConv.nil
        rw [flatB_snoc]
        first | rfl | (simp only [go_sem, reduceCtorEq, reduceIte, Nat.reduceAdd, Nat.reduceEqDiff, Nat.reduceLeDiff, Nat.reduceMul, *] <;> rfl)
  · have e : i = m + 1 := by omega
    subst e
    have g1 : decide (c ≥ 0) = false := by simp; omega
    rw [hfi]
    simp only
    clear hfl hfs hc hlast hfi
    rcases hH with ⟨hd, rfl⟩ | rfl
    · rw [hd] at hdl; simp at hdl
    · clear hdl
      repeat' (first
        | simp only [go_sem, reduceCtorEq, reduceIte, Nat.reduceAdd, Nat.reduceEqDiff, Nat.reduceLeDiff, Nat.reduceMul, *]
        | refine gdO_bool' _ (fun _ => ?_) (fun _ => ?_)
        | refine gdO_bool _ (fun _ => ?_) (fun _ => ?_)
        | refine gdD_bool' _ (fun _ => ?_) (fun _ => ?_)
        | refine gdD_bool _ (fun _ => ?_) (fun _ => ?_)
        | refine cdO_bool' _ (fun _ => ?_) (fun _ => ?_)
        | refine cdO_bool _ (fun _ => ?_) (fun _ => ?_)
        | refine ⟨by decide, ?_⟩
        | fail)
      refine ⟨by simp, _, by simp only [go_sem, reduceCtorEq, reduceIte, Nat.reduceAdd, Nat.reduceEqDiff, Nat.reduceLeDiff, Nat.reduceMul, resV]; rfl, ?_⟩
      refine EndV.of hn [0] _ (by simp) (by simp [tau]) (by simp) (Conv.aggOf ?_) ?_
      · exact .cons (frB (by simp) (by simp only [go_sem, reduceCtorEq, reduceIte, Nat.reduceAdd, Nat.reduceEqDiff, Nat.reduceLeDiff, Nat.reduceMul])) rfl .nil
      exact HConv.same (by decide) (by first | rfl | (simp only [go_sem, reduceCtorEq, reduceIte, Nat.reduceAdd, Nat.reduceEqDiff, Nat.reduceLeDiff, Nat.reduceMul, *] <;> rfl)) rfl HConv.nil
end Go.Proofs.Ytdmmhainianadaa

/- F31: copies of tables. -/
namespace Go.Proofs.Ytdmmhainianadaa
open Go.VM Go.Lim Go.Proofs.Try
attribute [local irreducible] vwp vops vstep vdr vdr1 CallP PPost SWv gdO gdD cdO optV optW optD thenV blockV behind callO callW callvO roundV
set_option linter.unusedSimpArgs false
set_option linter.unusedVariables false
/- loop.example/limner/spec.l2Copy -/
def vc142 : VCode :=
(.seq (.reg [⟨(some 1), (.box (.tmp 0)), none⟩, ⟨(some 2), (.new [(.int .i64 0), (.int .i64 0), (.slice none 0 0)]), none⟩])
(.seq (.reg [⟨(some 6), (.fad 0 (.tmp 1)), none⟩, ⟨(some 7), (.load false 1 (.tmp 6)), none⟩, ⟨(some 8), (.fad 1 (.tmp 1)), none⟩, ⟨(some 9), (.load false 1 (.tmp 8)), none⟩, ⟨(some 10), (.build [(.int .i64 0), (.int .i64 0), (.slice none 0 0)] [(0, 1, (.tmp 7)), (1, 1, (.tmp 9))]), none⟩, ⟨(some 3), (.new [(.int .i64 0), (.int .i64 0), (.slice none 0 0)]), none⟩, ⟨none, (.store 3 (.tmp 3) (.tmp 10)), none⟩])
(.seq (.seq (.reg [⟨(some 4), (.mov (.const (.int .i64 0))), none⟩])
(.block 0 (.loop (.seq (.seq (.reg [⟨(some 11), (.mov (.tmp 4)), none⟩, ⟨(some 12), (.fad 2 (.tmp 1)), none⟩, ⟨(some 13), (.load false 1 (.tmp 12)), none⟩, ⟨(some 14), (.len false (.tmp 13)), none⟩, ⟨(some 15), (.bin .lss .no (.tmp 11) (.tmp 14)), none⟩])
  (.cond (.tmp 15) .skip
   (.exit 0)))
  (.seq (.block 1 (.seq (.reg [⟨(some 18), (.fad 2 (.tmp 1)), none⟩, ⟨(some 19), (.load false 1 (.tmp 18)), none⟩, ⟨(some 20), (.mov (.tmp 4)), none⟩, ⟨(some 21), (.iad 5 (.tmp 19) (.tmp 20)), none⟩, ⟨(some 22), (.load true 5 (.tmp 21)), none⟩, ⟨(some 5), (.new [(.int .i64 0), (.int .i64 0), (.int .i64 0), (.int .i64 0), (.slice none 0 0)]), none⟩, ⟨none, (.store 5 (.tmp 5) (.tmp 22)), none⟩])
   (.seq (.reg [⟨(some 23), (.bslice 3 0 [(.int .u8 0), (.int .i64 0), (.int .i64 0)] []), none⟩, ⟨(some 24), (.fad 4 (.tmp 5)), none⟩, ⟨(some 25), (.load false 1 (.tmp 24)), none⟩, ⟨(some 26), (.app 3 24 (.tmp 23) (.tmp 25)), none⟩, ⟨(some 27), (.fad 4 (.tmp 5)), none⟩, ⟨none, (.store 1 (.tmp 27) (.tmp 26)), none⟩])
   (.reg [⟨(some 28), (.fad 2 (.tmp 3)), none⟩, ⟨(some 29), (.load false 1 (.tmp 28)), none⟩, ⟨(some 30), (.load true 5 (.tmp 5)), none⟩, ⟨(some 31), (.bslice 5 1 [(.int .i64 0), (.int .i64 0), (.int .i64 0), (.int .i64 0), (.slice none 0 0)] [(0, 5, (.tmp 30))]), none⟩, ⟨(some 32), (.app 5 56 (.tmp 29) (.tmp 31)), none⟩, ⟨(some 33), (.fad 2 (.tmp 3)), none⟩, ⟨none, (.store 1 (.tmp 33) (.tmp 32)), none⟩]))))
  (.reg [⟨(some 16), (.mov (.tmp 4)), none⟩, ⟨(some 17), (.bin .add .no (.tmp 16) (.const (.int .i64 1))), none⟩, ⟨(some 4), (.mov (.tmp 17)), none⟩]))))))
(.seq (.reg [⟨(some 34), (.load true 3 (.tmp 3)), none⟩, ⟨none, (.store 3 (.tmp 2) (.tmp 34)), none⟩])
.ret))))
theorem k142 : compFn prog 142 = some (35, vc142, [.c 2 true 3]) := by kernel_rfl
def cpR (t : Table) : VV := .agg [.sc (.int .i64 t.rows), .sc (.int .i64 t.cols), if t.cells = [] then .sl 5 [] else .rf 0 0 t.cells.length 5]
def cpH (t : Table) : List (Nat × List VV) := if t.cells = [] then [] else [(0, (t.cells.map Cell.enc).flatten)]
def cpN (t : Table) : Nat := if t.cells = [] then 0 else 1
set_option maxHeartbeats 1000000 in
theorem c142 (t : Table) (hs : t.sm) : ObjC prog 142 [.agg t.enc] [] (cpR t) (cpH t) (cpN t) := by
  have hw : wfO [.agg t.enc] [] (cpR t) (cpH t) (cpN t) = true := by
    unfold cpR cpH cpN
    split <;> simp [wfO, VV.underL, VV.under, under_cells, Table.enc, encC]
  have hR : ∀ X : VM.Fn, X.n = 0 → ∀ (H : Heap) (n : Nat), (t.cells = [] → True) → True := fun _ _ _ _ _ => trivial
  unfold Table.enc encC at *
  refine objC_of k142 (by simp) (by simp) hw ?_
  intro X hP hm hH hn hX
  change X.n = 0 at hn
  refine vwp_ok _ ?_
  unfold vc142
  clear hw hR
  repeat' (first
    | simp only [go_sem, reduceCtorEq, reduceIte, Nat.reduceAdd, Nat.reduceEqDiff, Nat.reduceLeDiff, Nat.reduceMul, *]
    | refine gdO_bool' _ (fun _ => ?_) (fun _ => ?_)
    | refine gdO_bool _ (fun _ => ?_) (fun _ => ?_)
    | refine gdD_bool' _ (fun _ => ?_) (fun _ => ?_)
    | refine gdD_bool _ (fun _ => ?_) (fun _ => ?_)
    | refine cdO_bool' _ (fun _ => ?_) (fun _ => ?_)
    | refine cdO_bool _ (fun _ => ?_) (fun _ => ?_)
    | refine ⟨by decide, ?_⟩
    | fail)
  generalize hl : t.cells = l at *
  refine loopV hX (fun μ s H n => ∃ (i : Nat), i ≤ l.length ∧ μ = l.length - i ∧ s = slotsOf [(1, .pt 0 0), (2, .pt 1 0), (3, .pt 2 0), (4, .sc (.int .i64 i))] ∧
      Grow [(0, [.sc (.int .i64 t.rows), .sc (.int .i64 t.cols), .sl 5 (l.map Cell.enc)]), (1, [.sc (.int .i64 0), .sc (.int .i64 0), .sc (.slice none 0 0)])] 2 [.sc (.int .i64 t.rows), .sc (.int .i64 t.cols)] (l.take i) H ∧ n = 4) ?_
    ⟨l.length + 1, roundE (fun s => [nm (s 1), nm (s 2), nm (s 3), 99]) (by simp only [go_sem, reduceCtorEq, reduceIte, Nat.reduceAdd, Nat.reduceEqDiff, Nat.reduceLeDiff, Nat.reduceMul, nm_pt]; rfl) (rk_of hn [(1, _), (2, _), (3, _), (4, _)] _ _ ⟨0, by omega, rfl, rfl, .inl ⟨rfl, rfl⟩, rfl⟩ (by omega) (by simp) (by simp [tau]) (by simp) (by simp [hm]) ?_ ?_)⟩
  rotate_left
  · repeat' (first | exact List.forall_mem_nil _ | refine List.forall_mem_cons.2 ⟨?_, ?_⟩ | exact .toPt (by simp only [go_sem, reduceCtorEq, reduceIte, Nat.reduceAdd, Nat.reduceEqDiff, Nat.reduceLeDiff, Nat.reduceMul, *] <;> rfl) (by simp [tau]) (by simp) | exact .toRf (by simp only [go_sem, reduceCtorEq, reduceIte, Nat.reduceAdd, Nat.reduceEqDiff, Nat.reduceLeDiff, Nat.reduceMul, *] <;> rfl) (by simp [tau]) (by simp) | exact .same (by simp only [go_sem, reduceCtorEq, reduceIte, Nat.reduceAdd, Nat.reduceEqDiff, Nat.reduceLeDiff, Nat.reduceMul, *] <;> rfl) (by first | rfl | simp [VV.cloL, VV.clo, *]))
  · simp only [List.cons_append, List.nil_append]
    repeat' (first | exact HConv.nil | refine HConv.same (by decide) (by first | rfl | (simp only [go_sem, reduceCtorEq, reduceIte, Nat.reduceAdd, Nat.reduceEqDiff, Nat.reduceLeDiff, Nat.reduceMul, *] <;> rfl)) (by first | rfl | simp [VV.cloL, VV.clo, *]) ?_)
  rintro μ s H n ⟨i, hi, rfl, rfl, hg, rfl⟩
  rcases Nat.lt_or_ge i l.length with hlt | hge
  · have g1 := lt_dec hlt
    have i0 : (0 : Int) ≤ (i : Int) := by omega
    have i1 : (i : Int) < (l.length : Int) := by omega
    have hL : l.length < 1099511627776 := by have := hs.1; rw [hl] at this; exact this
    have w0 : IntKind.i64.wrap ((i : Int) + 1) = ((i + 1 : Nat) : Int) := by rw [wrap_id] <;> omega
    have g4 : (l.map Cell.enc).getD i [] = (l[i]).enc := getD_map hlt
    have htl : (l[i]).text.length < 1099511627776 := by have := hs.2 l[i] (by rw [hl]; exact List.getElem_mem hlt); exact this
    have hsn : Kept (l.take (i + 1) = l.take i ++ [l[i]]) := ⟨List.take_succ_eq_append_getElem hlt⟩
    have hln : (l.take i).length = i := by rw [List.length_take]; omega
    generalize l[i] = c at *
    generalize hO : l.take i = O at *
    obtain ⟨crow, ccol, cdown, cright, tx⟩ := c
    have ec : (⟨crow, ccol, cdown, cright, tx⟩ : Cell).enc = [.sc (.int .i64 crow), .sc (.int .i64 ccol), .sc (.int .i64 cdown), .sc (.int .i64 cright), .sl 3 (tx.map Sign.enc)] := rfl
    rw [ec] at g4
    have hfl := flatC_len O
    have tk : ((O.map Cell.enc).flatten).take (O.length * 5) = (O.map Cell.enc).flatten := List.take_of_length_le (by omega)
    have htl : tx.length < 1099511627776 := htl
    have b1 : tx.length * 24 ≤ lim := by unfold lim; omega
    have b2 : tx.length ≤ 9223372036854775807 := by omega
    have b3 : (O.length + 1) * 56 ≤ lim := by unfold lim; omega
    have b4 : O.length + 1 ≤ 9223372036854775807 := by omega
    have b5 : O.length * 5 ≤ O.length * 5 := by omega
    have b56 : 56 ≤ lim := by unfold lim; omega
    have b0 : 0 ≤ lim := Nat.zero_le _
    have hix : Kept (O.length = i) := ⟨hln⟩
    clear hln hL htl hs hO
    rcases hg with ⟨ho, rfl⟩ | ⟨ho, rfl⟩
    · subst ho
      repeat' (first
        | simp only [go_sem, reduceCtorEq, reduceIte, Nat.reduceAdd, Nat.reduceEqDiff, Nat.reduceLeDiff, Nat.reduceMul, *]
        | refine gdO_bool' _ (fun _ => ?_) (fun _ => ?_)
        | refine gdO_bool _ (fun _ => ?_) (fun _ => ?_)
        | refine gdD_bool' _ (fun _ => ?_) (fun _ => ?_)
        | refine gdD_bool _ (fun _ => ?_) (fun _ => ?_)
        | refine cdO_bool' _ (fun _ => ?_) (fun _ => ?_)
        | refine cdO_bool _ (fun _ => ?_) (fun _ => ?_)
        | refine ⟨by decide, ?_⟩
        | fail)
      refine roundE (fun s => [0, 1, 2, nm (s 32)]) (by simp only [go_sem, reduceCtorEq, reduceIte, Nat.reduceAdd, Nat.reduceEqDiff, Nat.reduceLeDiff, Nat.reduceMul, nm_rf]; rfl) (rk_of hn [(1, _), (2, _), (3, _), (4, _)] _ _ ⟨i + 1, hlt, rfl, rfl, by rw [hsn.out]; exact .inr ⟨by simp, rfl⟩, rfl⟩ (by omega) (by simp) (by simp [tau]) (by simp) (by simp [hm]) ?_ ?_)
      · repeat' (first | exact List.forall_mem_nil _ | refine List.forall_mem_cons.2 ⟨?_, ?_⟩ | exact .toPt (by simp only [go_sem, reduceCtorEq, reduceIte, Nat.reduceAdd, Nat.reduceEqDiff, Nat.reduceLeDiff, Nat.reduceMul, *] <;> rfl) (by simp [tau]) (by simp) | exact .toRf (by simp only [go_sem, reduceCtorEq, reduceIte, Nat.reduceAdd, Nat.reduceEqDiff, Nat.reduceLeDiff, Nat.reduceMul, *] <;> rfl) (by simp [tau]) (by simp) | exact .same (by simp only [go_sem, reduceCtorEq, reduceIte, Nat.reduceAdd, Nat.reduceEqDiff, Nat.reduceLeDiff, Nat.reduceMul, *] <;> rfl) (by first | rfl | simp [VV.cloL, VV.clo, *]))
      · simp only [List.cons_append, List.nil_append]
        refine HConv.same (by decide) (by first | rfl | (simp only [go_sem, reduceCtorEq, reduceIte, Nat.reduceAdd, Nat.reduceEqDiff, Nat.reduceLeDiff, Nat.reduceMul, *] <;> rfl)) rfl ?_
        refine HConv.same (by decide) (by first | rfl | (simp only [go_sem, reduceCtorEq, reduceIte, Nat.reduceAdd, Nat.reduceEqDiff, Nat.reduceLeDiff, Nat.reduceMul, *] <;> rfl)) rfl ?_
        refine HConv.obj (cs := [.sc (.int .i64 t.rows), .sc (.int .i64 t.cols), .rf _ 0 _ 5]) (by decide) (by first | rfl | (simp only [go_sem, reduceCtorEq, reduceIte, Nat.reduceAdd, Nat.reduceEqDiff, Nat.reduceLeDiff, Nat.reduceMul, *] <;> rfl)) ?_ ?_
        · try rw [List.length_append]
          repeat' (first | exact CellsC.nil | exact .nil 3 | exact .nil 5 | exact .nil 6 | (exact .toRf (by first | rfl | simp [tau]) (by simp [tau]) (by simp)) | (exact .toPt (by first | rfl | simp [tau]) (by simp [tau]) (by simp)) | refine CellsC.one rfl ?_ | refine CellsC.cons ?_ rfl ?_)
        refine HConv.obj (cs := [.sc (.int .i64 crow), .sc (.int .i64 ccol), .sc (.int .i64 cdown), .sc (.int .i64 cright), .rf _ 0 tx.length 3]) (cs' := [.sc (.int .i64 crow), .sc (.int .i64 ccol), .sc (.int .i64 cdown), .sc (.int .i64 cright), .sl 3 (tx.map Sign.enc)]) (by decide) (by first | rfl | (simp only [go_sem, reduceCtorEq, reduceIte, Nat.reduceAdd, Nat.reduceEqDiff, Nat.reduceLeDiff, Nat.reduceMul, *] <;> rfl)) ?_ HConv.nil
        exact (.one rfl (.one rfl (.one rfl (.one rfl (.cons (frT (by simp) (by simp only [go_sem, reduceCtorEq, reduceIte, Nat.reduceAdd, Nat.reduceEqDiff, Nat.reduceLeDiff, Nat.reduceMul])) rfl .nil)))))
    · repeat' (first
        | simp only [go_sem, reduceCtorEq, reduceIte, Nat.reduceAdd, Nat.reduceEqDiff, Nat.reduceLeDiff, Nat.reduceMul, *]
        | refine gdO_bool' _ (fun _ => ?_) (fun _ => ?_)
        | refine gdO_bool _ (fun _ => ?_) (fun _ => ?_)
        | refine gdD_bool' _ (fun _ => ?_) (fun _ => ?_)
        | refine gdD_bool _ (fun _ => ?_) (fun _ => ?_)
        | refine cdO_bool' _ (fun _ => ?_) (fun _ => ?_)
        | refine cdO_bool _ (fun _ => ?_) (fun _ => ?_)
        | refine ⟨by decide, ?_⟩
        | fail)
      refine roundE (fun s => [0, 1, 2, nm (s 32)]) (by simp only [go_sem, reduceCtorEq, reduceIte, Nat.reduceAdd, Nat.reduceEqDiff, Nat.reduceLeDiff, Nat.reduceMul, nm_rf]; rfl) (rk_of hn [(1, _), (2, _), (3, _), (4, _)] _ _ ⟨i + 1, hlt, rfl, rfl, by rw [hsn.out]; exact .inr ⟨by simp, rfl⟩, rfl⟩ (by omega) (by simp) (by simp [tau]) (by simp) (by simp [hm]) ?_ ?_)
      · repeat' (first | exact List.forall_mem_nil _ | refine List.forall_mem_cons.2 ⟨?_, ?_⟩ | exact .toPt (by simp only [go_sem, reduceCtorEq, reduceIte, Nat.reduceAdd, Nat.reduceEqDiff, Nat.reduceLeDiff, Nat.reduceMul, *] <;> rfl) (by simp [tau]) (by simp) | exact .toRf (by simp only [go_sem, reduceCtorEq, reduceIte, Nat.reduceAdd, Nat.reduceEqDiff, Nat.reduceLeDiff, Nat.reduceMul, *] <;> rfl) (by simp [tau]) (by simp) | exact .same (by simp only [go_sem, reduceCtorEq, reduceIte, Nat.reduceAdd, Nat.reduceEqDiff, Nat.reduceLeDiff, Nat.reduceMul, *] <;> rfl) (by first | rfl | simp [VV.cloL, VV.clo, *]))
      · simp only [List.cons_append, List.nil_append]
        refine HConv.same (by decide) (by first | rfl | (simp only [go_sem, reduceCtorEq, reduceIte, Nat.reduceAdd, Nat.reduceEqDiff, Nat.reduceLeDiff, Nat.reduceMul, *] <;> rfl)) rfl ?_
        refine HConv.same (by decide) (by first | rfl | (simp only [go_sem, reduceCtorEq, reduceIte, Nat.reduceAdd, Nat.reduceEqDiff, Nat.reduceLeDiff, Nat.reduceMul, *] <;> rfl)) rfl ?_
        refine HConv.obj (cs := [.sc (.int .i64 t.rows), .sc (.int .i64 t.cols), .rf _ 0 _ 5]) (by decide) (by first | rfl | (simp only [go_sem, reduceCtorEq, reduceIte, Nat.reduceAdd, Nat.reduceEqDiff, Nat.reduceLeDiff, Nat.reduceMul, *] <;> rfl)) ?_ ?_
        · try rw [List.length_append]
          repeat' (first | exact CellsC.nil | exact .nil 3 | exact .nil 5 | exact .nil 6 | (exact .toRf (by first | rfl | simp [tau]) (by simp [tau]) (by simp)) | (exact .toPt (by first | rfl | simp [tau]) (by simp [tau]) (by simp)) | refine CellsC.one rfl ?_ | refine CellsC.cons ?_ rfl ?_)
        rw [flatC_snoc]
        refine HConv.obj (cs := _ ++ [.sc (.int .i64 crow), .sc (.int .i64 ccol), .sc (.int .i64 cdown), .sc (.int .i64 cright), .rf _ 0 tx.length 3]) (by decide) (by first | rfl | (simp only [go_sem, reduceCtorEq, reduceIte, Nat.reduceAdd, Nat.reduceEqDiff, Nat.reduceLeDiff, Nat.reduceMul, *] <;> rfl)) ?_ HConv.nil
        exact CellsC.append (CellsC.same (flatC_clo _)) (.one rfl (.one rfl (.one rfl (.one rfl (.cons (frT (by simp) (by simp only [go_sem, reduceCtorEq, reduceIte, Nat.reduceAdd, Nat.reduceEqDiff, Nat.reduceLeDiff, Nat.reduceMul])) rfl .nil)))))
  · have e : i = l.length := by omega
    subst e
    have g1 : decide (((l.length : Nat) : Int) < ((l.length : Nat) : Int)) = false := by simp
    rw [List.take_length] at hg
    rcases hg with ⟨ho, rfl⟩ | ⟨ho, rfl⟩
    · unfold cpR cpH cpN
      rw [if_pos (by rw [hl]; exact ho), if_pos (by rw [hl]; exact ho), if_pos (by rw [hl]; exact ho)]
      clear hi
      have g0 : decide (((0 : Nat) : Int) < ((0 : Nat) : Int)) = false := by simp
      subst ho
      repeat' (first
        | simp only [go_sem, reduceCtorEq, reduceIte, Nat.reduceAdd, Nat.reduceEqDiff, Nat.reduceLeDiff, Nat.reduceMul, *]
        | refine gdO_bool' _ (fun _ => ?_) (fun _ => ?_)
        | refine gdO_bool _ (fun _ => ?_) (fun _ => ?_)
        | refine gdD_bool' _ (fun _ => ?_) (fun _ => ?_)
        | refine gdD_bool _ (fun _ => ?_) (fun _ => ?_)
        | refine cdO_bool' _ (fun _ => ?_) (fun _ => ?_)
        | refine cdO_bool _ (fun _ => ?_) (fun _ => ?_)
        | refine ⟨by decide, ?_⟩
        | fail)
      refine ⟨by simp, _, by simp only [go_sem, reduceCtorEq, reduceIte, Nat.reduceAdd, Nat.reduceEqDiff, Nat.reduceLeDiff, Nat.reduceMul, resV]; rfl, ?_⟩
      refine EndV.of hn [] [] (by simp) (by simp) (by simp) (Conv.aggOf ?_) HConv.nil
      repeat' (first | exact CellsC.nil | exact .nil 3 | exact .nil 5 | exact .nil 6 | (exact .toRf (by first | rfl | simp [tau]) (by simp [tau]) (by simp)) | (exact .toPt (by first | rfl | simp [tau]) (by simp [tau]) (by simp)) | refine CellsC.one rfl ?_ | refine CellsC.cons ?_ rfl ?_)
    · have hne : ¬ t.cells = [] := by rw [hl]; intro h; rw [h] at ho; simp at ho
      unfold cpR cpH cpN
      rw [if_neg hne, if_neg hne, if_neg hne, hl]
      clear hi hge hne
      repeat' (first
        | simp only [go_sem, reduceCtorEq, reduceIte, Nat.reduceAdd, Nat.reduceEqDiff, Nat.reduceLeDiff, Nat.reduceMul, *]
        | refine gdO_bool' _ (fun _ => ?_) (fun _ => ?_)
        | refine gdO_bool _ (fun _ => ?_) (fun _ => ?_)
        | refine gdD_bool' _ (fun _ => ?_) (fun _ => ?_)
        | refine gdD_bool _ (fun _ => ?_) (fun _ => ?_)
        | refine cdO_bool' _ (fun _ => ?_) (fun _ => ?_)
        | refine cdO_bool _ (fun _ => ?_) (fun _ => ?_)
        | refine ⟨by decide, ?_⟩
        | fail)
      refine ⟨by simp, _, by simp only [go_sem, reduceCtorEq, reduceIte, Nat.reduceAdd, Nat.reduceEqDiff, Nat.reduceLeDiff, Nat.reduceMul, resV]; rfl, ?_⟩
      refine EndV.of hn [3] _ (by simp) (by simp [tau]) (by simp) (Conv.aggOf ?_) ?_
      · repeat' (first | exact CellsC.nil | exact .nil 3 | exact .nil 5 | exact .nil 6 | (exact .toRf (by first | rfl | simp [tau]) (by simp [tau]) (by simp)) | (exact .toPt (by first | rfl | simp [tau]) (by simp [tau]) (by simp)) | refine CellsC.one rfl ?_ | refine CellsC.cons ?_ rfl ?_)
      exact HConv.same (by decide) (by first | rfl | (simp only [go_sem, reduceCtorEq, reduceIte, Nat.reduceAdd, Nat.reduceEqDiff, Nat.reduceLeDiff, Nat.reduceMul, *] <;> rfl)) (flatC_clo _) HConv.nil
end Go.Proofs.Ytdmmhainianadaa

/- F32: copies of documents. -/
namespace Go.Proofs.Ytdmmhainianadaa
open Go.VM Go.Lim Go.Proofs.Try
attribute [local irreducible] vwp vops vstep vdr vdr1 CallP PPost SWv gdO gdD cdO optV optW optD thenV blockV behind callO callW callvO roundV
set_option linter.unusedSimpArgs false
set_option linter.unusedVariables false
/- loop.example/limner/spec.l3Copy -/
def vc116 : VCode :=
(.seq (.reg [⟨(some 1), (.box (.tmp 0)), none⟩, ⟨(some 2), (.new [(.slice none 0 0)]), none⟩])
(.seq (.reg [⟨(some 6), (.build [(.slice none 0 0)] []), none⟩, ⟨(some 3), (.new [(.slice none 0 0)]), none⟩, ⟨none, (.store 1 (.tmp 3) (.tmp 6)), none⟩])
(.seq (.seq (.reg [⟨(some 4), (.mov (.const (.int .i64 0))), none⟩])
(.block 0 (.loop (.seq (.seq (.reg [⟨(some 7), (.mov (.tmp 4)), none⟩, ⟨(some 8), (.fad 0 (.tmp 1)), none⟩, ⟨(some 9), (.load false 1 (.tmp 8)), none⟩, ⟨(some 10), (.len false (.tmp 9)), none⟩, ⟨(some 11), (.bin .lss .no (.tmp 7) (.tmp 10)), none⟩])
  (.cond (.tmp 11) .skip
   (.exit 0)))
  (.seq (.block 1 (.seq (.reg [⟨(some 14), (.fad 0 (.tmp 1)), none⟩, ⟨(some 15), (.load false 1 (.tmp 14)), none⟩, ⟨(some 16), (.mov (.tmp 4)), none⟩, ⟨(some 17), (.iad 6 (.tmp 15) (.tmp 16)), none⟩, ⟨(some 18), (.load true 6 (.tmp 17)), none⟩, ⟨(some 5), (.new [(.int .i64 0), (.int .i64 0), (.slice none 0 0), (.int .i64 0), (.int .i64 0), (.slice none 0 0)]), none⟩, ⟨none, (.store 6 (.tmp 5) (.tmp 18)), none⟩])
   (.seq (.reg [⟨(some 19), (.bslice 3 0 [(.int .u8 0), (.int .i64 0), (.int .i64 0)] []), none⟩, ⟨(some 20), (.fad 2 (.tmp 5)), none⟩, ⟨(some 21), (.load false 1 (.tmp 20)), none⟩, ⟨(some 22), (.app 3 24 (.tmp 19) (.tmp 21)), none⟩, ⟨(some 23), (.fad 2 (.tmp 5)), none⟩, ⟨none, (.store 1 (.tmp 23) (.tmp 22)), none⟩])
   (.seq (.reg [⟨(some 24), (.fad 3 (.tmp 5)), none⟩, ⟨(some 25), (.load true 3 (.tmp 24)), none⟩, ⟨(some 26), (.call 142 [(.tmp 25)]), none⟩, ⟨(some 27), (.fad 3 (.tmp 5)), none⟩, ⟨none, (.store 3 (.tmp 27) (.tmp 26)), none⟩])
   (.reg [⟨(some 28), (.fad 0 (.tmp 3)), none⟩, ⟨(some 29), (.load false 1 (.tmp 28)), none⟩, ⟨(some 30), (.load true 6 (.tmp 5)), none⟩, ⟨(some 31), (.bslice 6 1 [(.int .i64 0), (.int .i64 0), (.slice none 0 0), (.int .i64 0), (.int .i64 0), (.slice none 0 0)] [(0, 6, (.tmp 30))]), none⟩, ⟨(some 32), (.app 6 80 (.tmp 29) (.tmp 31)), none⟩, ⟨(some 33), (.fad 0 (.tmp 3)), none⟩, ⟨none, (.store 1 (.tmp 33) (.tmp 32)), none⟩])))))
  (.reg [⟨(some 12), (.mov (.tmp 4)), none⟩, ⟨(some 13), (.bin .add .no (.tmp 12) (.const (.int .i64 1))), none⟩, ⟨(some 4), (.mov (.tmp 13)), none⟩]))))))
(.seq (.reg [⟨(some 34), (.load true 1 (.tmp 3)), none⟩, ⟨none, (.store 1 (.tmp 2) (.tmp 34)), none⟩])
.ret))))
theorem k116 : compFn prog 116 = some (35, vc116, [.c 2 true 1]) := by kernel_rfl
def ocC (l : List Cell) : VV := if l = [] then .sl 5 [] else .ow 5 (l.map Cell.enc)
def blkO (x : Block) : List VV := [.sc (.int .i64 x.kind), .sc (.int .i64 x.level), .ow 3 (x.text.map Sign.enc), .sc (.int .i64 x.table.rows), .sc (.int .i64 x.table.cols), ocC x.table.cells]
def encOF (d : Doc) : List VV := (d.map blkO).flatten
theorem ocC_clo (l : List Cell) : (ocC l).clo = true := by unfold ocC; split <;> rfl
theorem blkO_clo (x : Block) : VV.cloL (blkO x) = true := by simp [blkO, VV.cloL, VV.clo, ocC_clo]
theorem encOF_clo (d : Doc) : VV.cloL (encOF d) = true := mapF_clo blkO_clo d
theorem encOF_len (l : Doc) : (encOF l).length = l.length * 6 := by
  induction l with
  | nil => rfl
  | cons c l ih => simp only [encOF, List.map_cons, List.flatten_cons, List.length_append, List.length_cons] at ih ⊢; rw [ih]; show 6 + _ = _; omega
theorem encOF_snoc (l : Doc) (y : Block) : encOF (l ++ [y]) = encOF l ++ blkO y := by simp [encOF]
theorem encOF_under {m : Nat} (l : Doc) : VV.underL m (encOF l) = true := cloL_under _ (encOF_clo l)
theorem encOF_ren {σ : Nat → Nat} (l : Doc) : VV.renL σ (encOF l) = encOF l := ren_cloL _ (encOF_clo l)
theorem set_app {A B : List VV} {a j : Nat} {x : VV} (h : A.length = a) : (A ++ B).set (a + j) x = A ++ B.set j x := by
  subst h
  rw [List.set_append_right _ _ (by omega), Nat.add_sub_cancel_left]
theorem get_app {A B : List VV} {a j : Nat} (h : A.length = a) : (A ++ B)[a + j]? = B[j]? := by
  subst h
  rw [List.getElem?_append_right (by omega), Nat.add_sub_cancel_left]
def cdR (d : Doc) : VV := .agg [if d = [] then .sl 6 [] else .rf 0 0 d.length 6]
def cdH (d : Doc) : List (Nat × List VV) := if d = [] then [] else [(0, encOF d)]
def cdN (d : Doc) : Nat := if d = [] then 0 else 1
set_option maxHeartbeats 2000000 in
theorem c116 (d : Doc) (hs : docSm d) : ObjC prog 116 [.agg [encB d]] [] (cdR d) (cdH d) (cdN d) := by
  have hw : wfO [.agg [encB d]] [] (cdR d) (cdH d) (cdN d) = true := by
    unfold cdR cdH cdN
    split <;> simp [wfO, VV.underL, VV.under, encOF_under, encB]
  unfold encB at *
  refine objC_of k116 (by simp) (by simp) hw ?_
  intro X hP hm hH hn hX
  change X.n = 0 at hn
  refine vwp_ok _ ?_
  unfold vc116
  clear hw
  repeat' (first
    | simp only [go_sem, reduceCtorEq, reduceIte, Nat.reduceAdd, Nat.reduceEqDiff, Nat.reduceLeDiff, Nat.reduceMul, *]
    | refine gdO_bool' _ (fun _ => ?_) (fun _ => ?_)
    | refine gdO_bool _ (fun _ => ?_) (fun _ => ?_)
    | refine gdD_bool' _ (fun _ => ?_) (fun _ => ?_)
    | refine gdD_bool _ (fun _ => ?_) (fun _ => ?_)
    | refine cdO_bool' _ (fun _ => ?_) (fun _ => ?_)
    | refine cdO_bool _ (fun _ => ?_) (fun _ => ?_)
    | refine ⟨by decide, ?_⟩
    | fail)
  generalize hl : d = l at *
  refine loopV hX (fun μ s H n => ∃ (i : Nat), i ≤ l.length ∧ μ = l.length - i ∧ s = slotsOf [(1, .pt 0 0), (2, .pt 1 0), (3, .pt 2 0), (4, .sc (.int .i64 i))] ∧
      ((i = 0 ∧ H = heapOf [(0, [.sl 6 (l.map Block.enc)]), (1, [.sc (.slice none 0 0)]), (2, [.sc (.slice none 0 0)])]) ∨ (0 < i ∧ H = heapOf [(0, [.sl 6 (l.map Block.enc)]), (1, [.sc (.slice none 0 0)]), (2, [.rf 3 0 i 6]), (3, encOF (l.take i))])) ∧ n = 4) ?_
    ⟨l.length + 1, roundE (fun s => [nm (s 1), nm (s 2), nm (s 3), 99]) (by simp only [go_sem, reduceCtorEq, reduceIte, Nat.reduceAdd, Nat.reduceEqDiff, Nat.reduceLeDiff, Nat.reduceMul, nm_pt]; rfl) (rk_of hn [(1, _), (2, _), (3, _), (4, _)] _ _ ⟨0, by omega, rfl, rfl, .inl ⟨rfl, rfl⟩, rfl⟩ (by omega) (by simp) (by simp [tau]) (by simp) (by simp [hm]) ?_ ?_)⟩
  rotate_left
  · repeat' (first | exact List.forall_mem_nil _ | refine List.forall_mem_cons.2 ⟨?_, ?_⟩ | exact .toPt (by simp only [go_sem, reduceCtorEq, reduceIte, Nat.reduceAdd, Nat.reduceEqDiff, Nat.reduceLeDiff, Nat.reduceMul, *] <;> rfl) (by simp [tau]) (by simp) | exact .toRf (by simp only [go_sem, reduceCtorEq, reduceIte, Nat.reduceAdd, Nat.reduceEqDiff, Nat.reduceLeDiff, Nat.reduceMul, *] <;> rfl) (by simp [tau]) (by simp) | exact .same (by simp only [go_sem, reduceCtorEq, reduceIte, Nat.reduceAdd, Nat.reduceEqDiff, Nat.reduceLeDiff, Nat.reduceMul, *] <;> rfl) (by first | rfl | simp [VV.cloL, VV.clo, *]))
  · repeat' (first | exact HConv.nil | refine HConv.same (by decide) (by first | rfl | (simp only [go_sem, reduceCtorEq, reduceIte, Nat.reduceAdd, Nat.reduceEqDiff, Nat.reduceLeDiff, Nat.reduceMul, *] <;> rfl)) (by first | rfl | simp [VV.cloL, VV.clo, *]) ?_)
  rintro μ s H n ⟨i, hi, rfl, rfl, hg, rfl⟩
  rcases Nat.lt_or_ge i l.length with hlt | hge
  · have g1 := lt_dec hlt
    have i0 : (0 : Int) ≤ (i : Int) := by omega
    have i1 : (i : Int) < (l.length : Int) := by omega
    have hL : l.length < 1099511627776 := hs.1
    have w0 : IntKind.i64.wrap ((i : Int) + 1) = ((i + 1 : Nat) : Int) := by rw [wrap_id] <;> omega
    have g4 : (l.map Block.enc).getD i [] = (l[i]).enc := getD_map hlt
    have hxs := hs.2 l[i] (List.getElem_mem hlt)
    have hsn : Kept (encOF (l.take (i + 1)) = encOF (l.take i) ++ blkO l[i]) := ⟨by rw [List.take_succ_eq_append_getElem hlt, encOF_snoc]⟩
    have hln : (encOF (l.take i)).length = i * 6 := by rw [encOF_len, List.length_take]; omega
    have hz : Kept (i = 0 → encOF (l.take i) = []) := ⟨fun h => by rw [h]; rfl⟩
    have hclo := encOF_clo (l.take i)
    generalize l[i] = x at *
    generalize encOF (l.take i) = O at *
    obtain ⟨kd, lv, tx, tb⟩ := x
    have htl : tx.length < 1099511627776 := hxs.1
    have h142 := c142 tb hxs.2
    unfold Table.enc encC at h142
    have ec : (⟨kd, lv, tx, tb⟩ : Block).enc = [.sc (.int .i64 kd), .sc (.int .i64 lv), .sl 3 (tx.map Sign.enc), .sc (.int .i64 tb.rows), .sc (.int .i64 tb.cols), .sl 5 (tb.cells.map Cell.enc)] := rfl
    rw [ec] at g4
    have tk : O.take (i * 6) = O := List.take_of_length_le (by omega)
    have b1 : tx.length * 24 ≤ lim := by unfold lim; omega
    have b2 : tx.length ≤ 9223372036854775807 := by omega
    have b3 : (i + 1) * 80 ≤ lim := by unfold lim; omega
    have b4 : i + 1 ≤ 9223372036854775807 := by omega
    have b5 : i * 6 ≤ i * 6 := by omega
    have b80 : 80 ≤ lim := by unfold lim; omega
    have b0 : 0 ≤ lim := Nat.zero_le _
    replace hclo := Kept.mk hclo
    clear hL htl hs hxs
    have fin0 : ∀ (s : Slots) (H : Heap) (n q : Nat), s 1 = .pt 0 0 → s 2 = .pt 1 0 → s 3 = .pt 2 0 → s 4 = .sc (.int .i64 ((i + 1 : Nat) : Int)) → H 0 = some [.sl 6 (l.map Block.enc)] → H 1 = some [.sc (.slice none 0 0)] → H 2 = some [.rf q 0 (i + 1) 6] → 2 < q → H q = some (O ++ blkO ⟨kd, lv, tx, tb⟩) → roundV X (fun μ s H n => ∃ (i : Nat), i ≤ l.length ∧ μ = l.length - i ∧ s = slotsOf [(1, .pt 0 0), (2, .pt 1 0), (3, .pt 2 0), (4, .sc (.int .i64 i))] ∧
      ((i = 0 ∧ H = heapOf [(0, [.sl 6 (l.map Block.enc)]), (1, [.sc (.slice none 0 0)]), (2, [.sc (.slice none 0 0)])]) ∨ (0 < i ∧ H = heapOf [(0, [.sl 6 (l.map Block.enc)]), (1, [.sc (.slice none 0 0)]), (2, [.rf 3 0 i 6]), (3, encOF (l.take i))])) ∧ n = 4) (l.length - i) s H n := by
      intro s H n q s1 s2 s3 s4 h0 h1 h2 hq2 hq
      refine roundN hn [0, 1, 2, q] [(1, _), (2, _), (3, _), (4, _)] [(0, _), (1, _), (2, _), (3, _)] _ ⟨i + 1, hlt, rfl, rfl, .inr ⟨by omega, rfl⟩, rfl⟩ (by omega) (by simp) (by simp [tau]) (by simp; omega) (by simp [hm]) ?_ ?_
      · rw [List.forall_mem_cons, List.forall_mem_cons, List.forall_mem_cons, List.forall_mem_cons]
        exact ⟨.toPt s1 (by simp [tau]) (by simp), .toPt s2 (by simp [tau]) (by simp), .toPt s3 (by simp [tau]) (by simp), .same s4 rfl, List.forall_mem_nil _⟩
      · rw [hsn.out]
        refine HConv.same (by simp) h0 rfl (HConv.same (by simp) h1 rfl (HConv.obj (by simp) h2 ?_ (HConv.same (by simp) hq ?_ HConv.nil)))
        · repeat' (first | exact CellsC.nil | exact .nil 3 | exact .nil 5 | exact .nil 6 | (exact .toRf (by first | rfl | simp [tau]) (by simp [tau]) (by simp)) | (exact .toPt (by first | rfl | simp [tau]) (by simp [tau]) (by simp)) | refine CellsC.one rfl ?_ | refine CellsC.cons ?_ rfl ?_)
        · rw [mapF_clo.cloL_app, hclo.out, blkO_clo]; rfl
    have finA : tb.cells = [] → ∀ (s : Slots) (H : Heap) (n q m1 : Nat), s 1 = .pt 0 0 → s 2 = .pt 1 0 → s 3 = .pt 2 0 → s 4 = .sc (.int .i64 ((i + 1 : Nat) : Int)) → H 0 = some [.sl 6 (l.map Block.enc)] → H 1 = some [.sc (.slice none 0 0)] → H 2 = some [.rf q 0 (i + 1) 6] → 2 < q → 2 < m1 → m1 ≠ q → H m1 = some (tx.map Sign.enc).flatten → H q = some (O ++ [.sc (.int .i64 kd), .sc (.int .i64 lv), .rf m1 0 tx.length 3, .sc (.int .i64 tb.rows), .sc (.int .i64 tb.cols), .sl 5 []]) → roundV X (fun μ s H n => ∃ (i : Nat), i ≤ l.length ∧ μ = l.length - i ∧ s = slotsOf [(1, .pt 0 0), (2, .pt 1 0), (3, .pt 2 0), (4, .sc (.int .i64 i))] ∧
      ((i = 0 ∧ H = heapOf [(0, [.sl 6 (l.map Block.enc)]), (1, [.sc (.slice none 0 0)]), (2, [.sc (.slice none 0 0)])]) ∨ (0 < i ∧ H = heapOf [(0, [.sl 6 (l.map Block.enc)]), (1, [.sc (.slice none 0 0)]), (2, [.rf 3 0 i 6]), (3, encOF (l.take i))])) ∧ n = 4) (l.length - i) s H n := by
      intro hc s H n q m1 s1 s2 s3 s4 h0 h1 h2 hq2 hm2 hmq hm1 hq
      refine roundV.seen (Vw.pack (k := q) (m := m1) (j := i * 6 + 2) (z := 3) (l := tx.map Sign.enc) hq (by rw [get_app hln]; simp) hm1 (Ne.symm hmq) (enc_lens tx) (flat_clo _)) ?_
      have ne : ∀ j, j ≤ 2 → j ≠ q ∧ j ≠ m1 := fun j hj => ⟨by omega, by omega⟩
      refine fin0 s _ n q s1 s2 s3 s4 ?_ ?_ ?_ hq2 ?_
      · rw [upd_ne (ne 0 (by omega)).1, kill_ne (ne 0 (by omega)).2]; exact h0
      · rw [upd_ne (ne 1 (by omega)).1, kill_ne (ne 1 (by omega)).2]; exact h1
      · rw [upd_ne (ne 2 (by omega)).1, kill_ne (ne 2 (by omega)).2]; exact h2
      · rw [upd_eq, set_app hln]
        simp [blkO, ocC, hc]
    have finB : tb.cells ≠ [] → ∀ (s : Slots) (H : Heap) (n q m1 m2 : Nat), s 1 = .pt 0 0 → s 2 = .pt 1 0 → s 3 = .pt 2 0 → s 4 = .sc (.int .i64 ((i + 1 : Nat) : Int)) → H 0 = some [.sl 6 (l.map Block.enc)] → H 1 = some [.sc (.slice none 0 0)] → H 2 = some [.rf q 0 (i + 1) 6] → 2 < q → 2 < m1 → m1 ≠ q → H m1 = some (tx.map Sign.enc).flatten → 2 < m2 → m2 ≠ q → m1 ≠ m2 → H m2 = some (tb.cells.map Cell.enc).flatten → H q = some (O ++ [.sc (.int .i64 kd), .sc (.int .i64 lv), .rf m1 0 tx.length 3, .sc (.int .i64 tb.rows), .sc (.int .i64 tb.cols), .rf m2 0 tb.cells.length 5]) → roundV X (fun μ s H n => ∃ (i : Nat), i ≤ l.length ∧ μ = l.length - i ∧ s = slotsOf [(1, .pt 0 0), (2, .pt 1 0), (3, .pt 2 0), (4, .sc (.int .i64 i))] ∧
      ((i = 0 ∧ H = heapOf [(0, [.sl 6 (l.map Block.enc)]), (1, [.sc (.slice none 0 0)]), (2, [.sc (.slice none 0 0)])]) ∨ (0 < i ∧ H = heapOf [(0, [.sl 6 (l.map Block.enc)]), (1, [.sc (.slice none 0 0)]), (2, [.rf 3 0 i 6]), (3, encOF (l.take i))])) ∧ n = 4) (l.length - i) s H n := by
      intro hc s H n q m1 m2 s1 s2 s3 s4 h0 h1 h2 hq2 hm2 hmq hm1 hp2 hpq hmp hp hq
      have ne : ∀ j, j ≤ 2 → j ≠ q ∧ j ≠ m1 ∧ j ≠ m2 := fun j hj => ⟨by omega, by omega, by omega⟩
      refine roundV.seen (Vw.pack (k := q) (m := m1) (j := i * 6 + 2) (z := 3) (l := tx.map Sign.enc) hq (by rw [get_app hln]; simp) hm1 (Ne.symm hmq) (enc_lens tx) (flat_clo _)) ?_
      rw [set_app hln]
      refine roundV.seen (Vw.pack (k := q) (m := m2) (j := i * 6 + 5) (z := 5) (l := tb.cells.map Cell.enc) upd_eq (by rw [get_app hln]; simp) (by rw [upd_ne hpq, kill_ne (Ne.symm hmp)]; exact hp) (Ne.symm hpq) (fun r hr => by obtain ⟨c, _, rfl⟩ := List.mem_map.1 hr; rfl) (flatC_clo _)) ?_
      refine fin0 s _ n q s1 s2 s3 s4 ?_ ?_ ?_ hq2 ?_
      · rw [upd_ne (ne 0 (by omega)).1, kill_ne (ne 0 (by omega)).2.2, upd_ne (ne 0 (by omega)).1, kill_ne (ne 0 (by omega)).2.1]; exact h0
      · rw [upd_ne (ne 1 (by omega)).1, kill_ne (ne 1 (by omega)).2.2, upd_ne (ne 1 (by omega)).1, kill_ne (ne 1 (by omega)).2.1]; exact h1
      · rw [upd_ne (ne 2 (by omega)).1, kill_ne (ne 2 (by omega)).2.2, upd_ne (ne 2 (by omega)).1, kill_ne (ne 2 (by omega)).2.1]; exact h2
      · rw [upd_eq, set_app hln]
        simp [blkO, ocC, hc]
    clear hsn hclo fin0
    rcases Classical.em (tb.cells = []) with hc | hc
    · unfold cpR cpH cpN at h142
      rw [if_pos hc, if_pos hc, if_pos hc] at h142
      rcases hg with ⟨ho, rfl⟩ | ⟨ho, rfl⟩
      · have hO := hz.out ho
        subst hO ho
        repeat' (first
          | simp only [go_sem, reduceCtorEq, reduceIte, Nat.reduceAdd, Nat.reduceEqDiff, Nat.reduceLeDiff, Nat.reduceMul, Nat.reduceSub, *]
          | refine gdO_bool' _ (fun _ => ?_) (fun _ => ?_)
          | refine gdO_bool _ (fun _ => ?_) (fun _ => ?_)
          | refine gdD_bool' _ (fun _ => ?_) (fun _ => ?_)
          | refine gdD_bool _ (fun _ => ?_) (fun _ => ?_)
          | refine cdO_bool' _ (fun _ => ?_) (fun _ => ?_)
          | refine cdO_bool _ (fun _ => ?_) (fun _ => ?_)
          | (refine callO.obj [] (h142) ?_ rfl (by decide) ?_ ?_
             · simp only [go_sem, reduceCtorEq, reduceIte, Nat.reduceAdd, Nat.reduceEqDiff, Nat.reduceLeDiff, Nat.reduceMul, Nat.reduceSub, *]
             · repeat' (first | exact HIs_nil | refine HIs_cons ?_ ?_ | (simp only [go_sem, reduceCtorEq, reduceIte, Nat.reduceAdd, Nat.reduceEqDiff, Nat.reduceLeDiff, Nat.reduceMul, Nat.reduceSub, *]; done)))
          | (refine callW.obj [] (h142) rfl ?_ rfl (by decide) ?_ (by simp [okInc, Disj]) ?_
             · simp only [go_sem, reduceCtorEq, reduceIte, Nat.reduceAdd, Nat.reduceEqDiff, Nat.reduceLeDiff, Nat.reduceMul, Nat.reduceSub, *]
             · repeat' (first | exact HIs_nil | refine HIs_cons ?_ ?_ | (simp only [go_sem, reduceCtorEq, reduceIte, Nat.reduceAdd, Nat.reduceEqDiff, Nat.reduceLeDiff, Nat.reduceMul, Nat.reduceSub, *]; done)))
          | refine ⟨by decide, ?_⟩
          | fail)
        exact finA hc _ _ _ 30 19 rfl rfl rfl rfl (by simp only [go_sem, reduceCtorEq, reduceIte, Nat.reduceAdd, Nat.reduceEqDiff, Nat.reduceLeDiff, Nat.reduceMul]) (by simp only [go_sem, reduceCtorEq, reduceIte, Nat.reduceAdd, Nat.reduceEqDiff, Nat.reduceLeDiff, Nat.reduceMul]) (by simp only [go_sem, reduceCtorEq, reduceIte, Nat.reduceAdd, Nat.reduceEqDiff, Nat.reduceLeDiff, Nat.reduceMul]) (by decide) (by decide) (by decide) (by simp only [go_sem, reduceCtorEq, reduceIte, Nat.reduceAdd, Nat.reduceEqDiff, Nat.reduceLeDiff, Nat.reduceMul]) (by simp only [go_sem, reduceCtorEq, reduceIte, Nat.reduceAdd, Nat.reduceEqDiff, Nat.reduceLeDiff, Nat.reduceMul])
      · repeat' (first
          | simp only [go_sem, reduceCtorEq, reduceIte, Nat.reduceAdd, Nat.reduceEqDiff, Nat.reduceLeDiff, Nat.reduceMul, Nat.reduceSub, *]
          | refine gdO_bool' _ (fun _ => ?_) (fun _ => ?_)
          | refine gdO_bool _ (fun _ => ?_) (fun _ => ?_)
          | refine gdD_bool' _ (fun _ => ?_) (fun _ => ?_)
          | refine gdD_bool _ (fun _ => ?_) (fun _ => ?_)
          | refine cdO_bool' _ (fun _ => ?_) (fun _ => ?_)
          | refine cdO_bool _ (fun _ => ?_) (fun _ => ?_)
          | (refine callO.obj [] (h142) ?_ rfl (by decide) ?_ ?_
             · simp only [go_sem, reduceCtorEq, reduceIte, Nat.reduceAdd, Nat.reduceEqDiff, Nat.reduceLeDiff, Nat.reduceMul, Nat.reduceSub, *]
             · repeat' (first | exact HIs_nil | refine HIs_cons ?_ ?_ | (simp only [go_sem, reduceCtorEq, reduceIte, Nat.reduceAdd, Nat.reduceEqDiff, Nat.reduceLeDiff, Nat.reduceMul, Nat.reduceSub, *]; done)))
          | (refine callW.obj [] (h142) rfl ?_ rfl (by decide) ?_ (by simp [okInc, Disj]) ?_
             · simp only [go_sem, reduceCtorEq, reduceIte, Nat.reduceAdd, Nat.reduceEqDiff, Nat.reduceLeDiff, Nat.reduceMul, Nat.reduceSub, *]
             · repeat' (first | exact HIs_nil | refine HIs_cons ?_ ?_ | (simp only [go_sem, reduceCtorEq, reduceIte, Nat.reduceAdd, Nat.reduceEqDiff, Nat.reduceLeDiff, Nat.reduceMul, Nat.reduceSub, *]; done)))
          | refine ⟨by decide, ?_⟩
          | fail)
        exact finA hc _ _ _ 30 19 rfl rfl rfl rfl (by simp only [go_sem, reduceCtorEq, reduceIte, Nat.reduceAdd, Nat.reduceEqDiff, Nat.reduceLeDiff, Nat.reduceMul]) (by simp only [go_sem, reduceCtorEq, reduceIte, Nat.reduceAdd, Nat.reduceEqDiff, Nat.reduceLeDiff, Nat.reduceMul]) (by simp only [go_sem, reduceCtorEq, reduceIte, Nat.reduceAdd, Nat.reduceEqDiff, Nat.reduceLeDiff, Nat.reduceMul]) (by decide) (by decide) (by decide) (by simp only [go_sem, reduceCtorEq, reduceIte, Nat.reduceAdd, Nat.reduceEqDiff, Nat.reduceLeDiff, Nat.reduceMul]) (by simp only [go_sem, reduceCtorEq, reduceIte, Nat.reduceAdd, Nat.reduceEqDiff, Nat.reduceLeDiff, Nat.reduceMul])
    · unfold cpR cpH cpN at h142
      rw [if_neg hc, if_neg hc, if_neg hc] at h142
      rcases hg with ⟨ho, rfl⟩ | ⟨ho, rfl⟩
      · have hO := hz.out ho
        subst hO ho
        repeat' (first
          | simp only [go_sem, reduceCtorEq, reduceIte, Nat.reduceAdd, Nat.reduceEqDiff, Nat.reduceLeDiff, Nat.reduceMul, Nat.reduceSub, *]
          | refine gdO_bool' _ (fun _ => ?_) (fun _ => ?_)
          | refine gdO_bool _ (fun _ => ?_) (fun _ => ?_)
          | refine gdD_bool' _ (fun _ => ?_) (fun _ => ?_)
          | refine gdD_bool _ (fun _ => ?_) (fun _ => ?_)
          | refine cdO_bool' _ (fun _ => ?_) (fun _ => ?_)
          | refine cdO_bool _ (fun _ => ?_) (fun _ => ?_)
          | (refine callO.obj [] (h142) ?_ rfl (by decide) ?_ ?_
             · simp only [go_sem, reduceCtorEq, reduceIte, Nat.reduceAdd, Nat.reduceEqDiff, Nat.reduceLeDiff, Nat.reduceMul, Nat.reduceSub, *]
             · repeat' (first | exact HIs_nil | refine HIs_cons ?_ ?_ | (simp only [go_sem, reduceCtorEq, reduceIte, Nat.reduceAdd, Nat.reduceEqDiff, Nat.reduceLeDiff, Nat.reduceMul, Nat.reduceSub, *]; done)))
          | (refine callW.obj [] (h142) rfl ?_ rfl (by decide) ?_ (by simp [okInc, Disj]) ?_
             · simp only [go_sem, reduceCtorEq, reduceIte, Nat.reduceAdd, Nat.reduceEqDiff, Nat.reduceLeDiff, Nat.reduceMul, Nat.reduceSub, *]
             · repeat' (first | exact HIs_nil | refine HIs_cons ?_ ?_ | (simp only [go_sem, reduceCtorEq, reduceIte, Nat.reduceAdd, Nat.reduceEqDiff, Nat.reduceLeDiff, Nat.reduceMul, Nat.reduceSub, *]; done)))
          | refine ⟨by decide, ?_⟩
          | fail)
        exact finB hc _ _ _ 31 19 24 rfl rfl rfl rfl (by simp only [go_sem, reduceCtorEq, reduceIte, Nat.reduceAdd, Nat.reduceEqDiff, Nat.reduceLeDiff, Nat.reduceMul]) (by simp only [go_sem, reduceCtorEq, reduceIte, Nat.reduceAdd, Nat.reduceEqDiff, Nat.reduceLeDiff, Nat.reduceMul]) (by simp only [go_sem, reduceCtorEq, reduceIte, Nat.reduceAdd, Nat.reduceEqDiff, Nat.reduceLeDiff, Nat.reduceMul]) (by decide) (by decide) (by decide) (by simp only [go_sem, reduceCtorEq, reduceIte, Nat.reduceAdd, Nat.reduceEqDiff, Nat.reduceLeDiff, Nat.reduceMul]) (by decide) (by decide) (by decide) (by simp only [go_sem, reduceCtorEq, reduceIte, Nat.reduceAdd, Nat.reduceEqDiff, Nat.reduceLeDiff, Nat.reduceMul]) (by simp only [go_sem, reduceCtorEq, reduceIte, Nat.reduceAdd, Nat.reduceEqDiff, Nat.reduceLeDiff, Nat.reduceMul])
      · repeat' (first
          | simp only [go_sem, reduceCtorEq, reduceIte, Nat.reduceAdd, Nat.reduceEqDiff, Nat.reduceLeDiff, Nat.reduceMul, Nat.reduceSub, *]
          | refine gdO_bool' _ (fun _ => ?_) (fun _ => ?_)
          | refine gdO_bool _ (fun _ => ?_) (fun _ => ?_)
          | refine gdD_bool' _ (fun _ => ?_) (fun _ => ?_)
          | refine gdD_bool _ (fun _ => ?_) (fun _ => ?_)
          | refine cdO_bool' _ (fun _ => ?_) (fun _ => ?_)
          | refine cdO_bool _ (fun _ => ?_) (fun _ => ?_)
          | (refine callO.obj [] (h142) ?_ rfl (by decide) ?_ ?_
             · simp only [go_sem, reduceCtorEq, reduceIte, Nat.reduceAdd, Nat.reduceEqDiff, Nat.reduceLeDiff, Nat.reduceMul, Nat.reduceSub, *]
             · repeat' (first | exact HIs_nil | refine HIs_cons ?_ ?_ | (simp only [go_sem, reduceCtorEq, reduceIte, Nat.reduceAdd, Nat.reduceEqDiff, Nat.reduceLeDiff, Nat.reduceMul, Nat.reduceSub, *]; done)))
          | (refine callW.obj [] (h142) rfl ?_ rfl (by decide) ?_ (by simp [okInc, Disj]) ?_
             · simp only [go_sem, reduceCtorEq, reduceIte, Nat.reduceAdd, Nat.reduceEqDiff, Nat.reduceLeDiff, Nat.reduceMul, Nat.reduceSub, *]
             · repeat' (first | exact HIs_nil | refine HIs_cons ?_ ?_ | (simp only [go_sem, reduceCtorEq, reduceIte, Nat.reduceAdd, Nat.reduceEqDiff, Nat.reduceLeDiff, Nat.reduceMul, Nat.reduceSub, *]; done)))
          | refine ⟨by decide, ?_⟩
          | fail)
        exact finB hc _ _ _ 31 19 24 rfl rfl rfl rfl (by simp only [go_sem, reduceCtorEq, reduceIte, Nat.reduceAdd, Nat.reduceEqDiff, Nat.reduceLeDiff, Nat.reduceMul]) (by simp only [go_sem, reduceCtorEq, reduceIte, Nat.reduceAdd, Nat.reduceEqDiff, Nat.reduceLeDiff, Nat.reduceMul]) (by simp only [go_sem, reduceCtorEq, reduceIte, Nat.reduceAdd, Nat.reduceEqDiff, Nat.reduceLeDiff, Nat.reduceMul]) (by decide) (by decide) (by decide) (by simp only [go_sem, reduceCtorEq, reduceIte, Nat.reduceAdd, Nat.reduceEqDiff, Nat.reduceLeDiff, Nat.reduceMul]) (by decide) (by decide) (by decide) (by simp only [go_sem, reduceCtorEq, reduceIte, Nat.reduceAdd, Nat.reduceEqDiff, Nat.reduceLeDiff, Nat.reduceMul]) (by simp only [go_sem, reduceCtorEq, reduceIte, Nat.reduceAdd, Nat.reduceEqDiff, Nat.reduceLeDiff, Nat.reduceMul])
  · have e : i = l.length := by omega
    subst e
    have g1 : decide (((l.length : Nat) : Int) < ((l.length : Nat) : Int)) = false := by simp
    rw [List.take_length] at hg
    rcases hg with ⟨ho, rfl⟩ | ⟨ho, rfl⟩
    · have hl0 : l = [] := List.eq_nil_of_length_eq_zero ho
      have g0 : decide (((0 : Nat) : Int) < ((0 : Nat) : Int)) = false := by simp
      clear hi hge hs ho
      subst hl0
      unfold cdR cdH cdN
      rw [if_pos rfl, if_pos rfl, if_pos rfl]
      repeat' (first
        | simp only [go_sem, reduceCtorEq, reduceIte, Nat.reduceAdd, Nat.reduceEqDiff, Nat.reduceLeDiff, Nat.reduceMul, *]
        | refine gdO_bool' _ (fun _ => ?_) (fun _ => ?_)
        | refine gdO_bool _ (fun _ => ?_) (fun _ => ?_)
        | refine gdD_bool' _ (fun _ => ?_) (fun _ => ?_)
        | refine gdD_bool _ (fun _ => ?_) (fun _ => ?_)
        | refine cdO_bool' _ (fun _ => ?_) (fun _ => ?_)
        | refine cdO_bool _ (fun _ => ?_) (fun _ => ?_)
        | refine ⟨by decide, ?_⟩
        | fail)
      refine ⟨by simp, _, by simp only [go_sem, reduceCtorEq, reduceIte, Nat.reduceAdd, Nat.reduceEqDiff, Nat.reduceLeDiff, Nat.reduceMul, resV]; rfl, ?_⟩
      refine EndV.of hn [] [] (by simp) (by simp) (by simp) (Conv.aggOf ?_) HConv.nil
      repeat' (first | exact CellsC.nil | exact .nil 3 | exact .nil 5 | exact .nil 6 | (exact .toRf (by first | rfl | simp [tau]) (by simp [tau]) (by simp)) | (exact .toPt (by first | rfl | simp [tau]) (by simp [tau]) (by simp)) | refine CellsC.one rfl ?_ | refine CellsC.cons ?_ rfl ?_)
    · have hne : ¬ l = [] := by intro h; rw [h] at ho; simp at ho
      unfold cdR cdH cdN
      rw [if_neg hne, if_neg hne, if_neg hne]
      clear hi hge hne
      repeat' (first
        | simp only [go_sem, reduceCtorEq, reduceIte, Nat.reduceAdd, Nat.reduceEqDiff, Nat.reduceLeDiff, Nat.reduceMul, *]
        | refine gdO_bool' _ (fun _ => ?_) (fun _ => ?_)
        | refine gdO_bool _ (fun _ => ?_) (fun _ => ?_)
        | refine gdD_bool' _ (fun _ => ?_) (fun _ => ?_)
        | refine gdD_bool _ (fun _ => ?_) (fun _ => ?_)
        | refine cdO_bool' _ (fun _ => ?_) (fun _ => ?_)
        | refine cdO_bool _ (fun _ => ?_) (fun _ => ?_)
        | refine ⟨by decide, ?_⟩
        | fail)
      refine ⟨by simp, _, by simp only [go_sem, reduceCtorEq, reduceIte, Nat.reduceAdd, Nat.reduceEqDiff, Nat.reduceLeDiff, Nat.reduceMul, resV]; rfl, ?_⟩
      refine EndV.of hn [3] _ (by simp) (by simp [tau]) (by simp) (Conv.aggOf ?_) ?_
      · repeat' (first | exact CellsC.nil | exact .nil 3 | exact .nil 5 | exact .nil 6 | (exact .toRf (by first | rfl | simp [tau]) (by simp [tau]) (by simp)) | (exact .toPt (by first | rfl | simp [tau]) (by simp [tau]) (by simp)) | refine CellsC.one rfl ?_ | refine CellsC.cons ?_ rfl ?_)
      exact HConv.same (by decide) (by first | rfl | (simp only [go_sem, reduceCtorEq, reduceIte, Nat.reduceAdd, Nat.reduceEqDiff, Nat.reduceLeDiff, Nat.reduceMul, *] <;> rfl)) (encOF_clo _) HConv.nil
end Go.Proofs.Ytdmmhainianadaa

/- F33: a text in which something is not as it was. -/
namespace Go.Proofs.Ytdmmhainianadaa
open Go.VM Go.Lim Go.Proofs.Try
attribute [local irreducible] vwp vops vstep vdr vdr1 CallP PPost SWv gdO gdD cdO optV optW optD thenV blockV behind callO callW callvO roundV
set_option linter.unusedSimpArgs false
set_option linter.unusedVariables false
/- loop.example/limner/spec.l71Bad -/
def vc170 : VCode :=
(.seq (.reg [⟨(some 4), (.mov (.const (.slice none 0 0))), none⟩])
(.seq (.reg [⟨(some 6), (.build [(.int .u8 0), (.int .i64 0), (.int .i64 0)] [(0, 1, (.const (.int .u8 120)))]), none⟩, ⟨(some 5), (.new [(.int .u8 0), (.int .i64 0), (.int .i64 0)]), none⟩, ⟨none, (.store 3 (.tmp 5) (.tmp 6)), none⟩])
(.seq (.seq (.reg [⟨(some 7), (.mov (.tmp 0)), none⟩, ⟨(some 8), (.call 102 [(.tmp 7), (.const (.int .i64 6))]), none⟩])
(.block 0 (.seq (.reg [⟨(some 10), (.bin .eql .no (.tmp 8) (.const (.int .i64 0))), none⟩, ⟨(some 9), (.mov (.tmp 10)), none⟩])
 (.cond (.tmp 9) (.reg [⟨(some 11), (.bslice 1 5 [(.int .u8 0)] [(0, 1, (.const (.int .u8 65))), (1, 1, (.const (.int .u8 10))), (2, 1, (.const (.int .u8 0))), (3, 1, (.const (.int .u8 123))), (4, 1, (.const (.int .u8 47)))]), none⟩, ⟨(some 12), (.mov (.tmp 0)), none⟩, ⟨(some 13), (.call 102 [(.tmp 12), (.const (.int .i64 5))]), none⟩, ⟨(some 14), (.iad 1 (.tmp 11) (.tmp 13)), none⟩, ⟨(some 15), (.load false 1 (.tmp 14)), none⟩, ⟨(some 16), (.fad 0 (.tmp 5)), none⟩, ⟨none, (.store 1 (.tmp 16) (.tmp 15)), none⟩])
  (.seq (.reg [⟨(some 18), (.bin .eql .no (.tmp 8) (.const (.int .i64 1))), none⟩, ⟨(some 17), (.mov (.tmp 18)), none⟩])
  (.cond (.tmp 17) (.reg [⟨(some 19), (.bslice 1 2 [(.int .i64 0)] [(0, 1, (.const (.int .i64 (-1)))), (1, 1, (.const (.int .i64 4)))]), none⟩, ⟨(some 20), (.mov (.tmp 0)), none⟩, ⟨(some 21), (.call 102 [(.tmp 20), (.const (.int .i64 2))]), none⟩, ⟨(some 22), (.iad 1 (.tmp 19) (.tmp 21)), none⟩, ⟨(some 23), (.load false 1 (.tmp 22)), none⟩, ⟨(some 24), (.fad 1 (.tmp 5)), none⟩, ⟨none, (.store 1 (.tmp 24) (.tmp 23)), none⟩])
   (.seq (.reg [⟨(some 26), (.bin .eql .no (.tmp 8) (.const (.int .i64 2))), none⟩, ⟨(some 25), (.mov (.tmp 26)), none⟩])
   (.cond (.tmp 25) (.reg [⟨(some 27), (.bslice 1 2 [(.int .i64 0)] [(0, 1, (.const (.int .i64 (-1)))), (1, 1, (.const (.int .i64 4)))]), none⟩, ⟨(some 28), (.mov (.tmp 0)), none⟩, ⟨(some 29), (.call 102 [(.tmp 28), (.const (.int .i64 2))]), none⟩, ⟨(some 30), (.iad 1 (.tmp 27) (.tmp 29)), none⟩, ⟨(some 31), (.load false 1 (.tmp 30)), none⟩, ⟨(some 32), (.fad 2 (.tmp 5)), none⟩, ⟨none, (.store 1 (.tmp 32) (.tmp 31)), none⟩])
    (.seq (.reg [⟨(some 34), (.bin .eql .no (.tmp 8) (.const (.int .i64 3))), none⟩, ⟨(some 33), (.mov (.tmp 34)), none⟩])
    (.cond (.tmp 33) (.seq (.reg [⟨(some 35), (.fad 1 (.tmp 5)), none⟩, ⟨none, (.store 1 (.tmp 35) (.const (.int .i64 2))), none⟩])
     (.reg [⟨(some 36), (.fad 2 (.tmp 5)), none⟩, ⟨none, (.store 1 (.tmp 36) (.const (.int .i64 2))), none⟩]))
     (.seq (.reg [⟨(some 38), (.bin .eql .no (.tmp 8) (.const (.int .i64 4))), none⟩, ⟨(some 37), (.mov (.tmp 38)), none⟩])
     (.cond (.tmp 37) (.seq (.block 1 (.loop (.seq (.seq (.reg [⟨(some 39), (.mov (.tmp 1)), none⟩, ⟨(some 40), (.len false (.tmp 39)), none⟩, ⟨(some 41), (.mov (.tmp 0)), none⟩, ⟨(some 42), (.call 102 [(.tmp 41), (.const (.int .i64 2))]), none⟩, ⟨(some 43), (.bin .add .no (.const (.int .i64 24)) (.tmp 42)), none⟩, ⟨(some 44), (.bin .lss .no (.tmp 40) (.tmp 43)), none⟩])
        (.cond (.tmp 44) .skip
         (.exit 1)))
        (.block 2 (.reg [⟨(some 45), (.mov (.tmp 1)), none⟩, ⟨(some 46), (.load true 3 (.tmp 5)), none⟩, ⟨(some 47), (.bslice 3 1 [(.int .u8 0), (.int .i64 0), (.int .i64 0)] [(0, 3, (.tmp 46))]), none⟩, ⟨(some 48), (.app 3 24 (.tmp 45) (.tmp 47)), none⟩, ⟨(some 1), (.mov (.tmp 48)), none⟩])))))
      (.seq (.reg [⟨(some 49), (.mov (.tmp 1)), none⟩, ⟨(some 4), (.mov (.tmp 49)), none⟩])
      .ret))
      .skip))))))))))))
(.seq (.drw [(⟨(some 50), (.bslice 3 0 [(.int .u8 0), (.int .i64 0), (.int .i64 0)] []), none⟩, []), (⟨(some 51), (.mov (.tmp 1)), none⟩, []), (⟨(some 52), (.app 3 24 (.tmp 50) (.tmp 51)), none⟩, []), (⟨(some 53), (.load true 3 (.tmp 5)), none⟩, [0, 2]), (⟨(some 54), (.bslice 3 1 [(.int .u8 0), (.int .i64 0), (.int .i64 0)] [(0, 3, (.tmp 53))]), none⟩, [0, 2]), (⟨(some 55), (.app 3 24 (.tmp 52) (.tmp 54)), none⟩, []), (⟨(some 4), (.mov (.tmp 55)), none⟩, [])])
.ret))))
theorem k170 : compFn prog 170 = some (56, vc170, [.t 4]) := by kernel_rfl
theorem first_stop {P : Nat → Prop} : ∀ (M : Nat), P M → ∃ N, N ≤ M ∧ P N ∧ ∀ i, i < N → ¬ P i
  | 0, h => ⟨0, by omega, h, fun i hi => by omega⟩
  | M + 1, h => by
    rcases Classical.em (∃ i, i ≤ M ∧ P i) with ⟨i, hi, h'⟩ | hn
    · obtain ⟨N, h1, h2, h3⟩ := first_stop i h'
      exact ⟨N, by omega, h2, h3⟩
    · exact ⟨M + 1, Nat.le_refl _, h, fun i hi h' => hn ⟨i, by omega, h'⟩⟩
  termination_by M => M
  decreasing_by omega
def BadC (b : List Int) (p : Int) (l : Text) : Prop := ∃ (l' : Text) (p' : Int), (p ≤ p' ∧ p' ≤ p + 100) ∧ l'.length ≤ 30 ∧ ObjC prog 170 [.pt 0 0, .rf 1 0 l.length 3] [[encBy b, .sc (.int .i64 p)], (l.map Sign.enc).flatten] (.rf 2 0 l'.length 3) [(0, [encBy b, .sc (.int .i64 p')]), (2, (l'.map Sign.enc).flatten)] 3
theorem bad_of {b : List Int} {p p' : Int} {l : Text} (hl : l.length ≤ 8) (s : Sign) (hp : p ≤ p' ∧ p' ≤ p + 100)
    (C : ObjC prog 170 [.pt 0 0, .rf 1 0 l.length 3] [[.sl 1 (b.map fun b => [.sc (.int .u8 b)]), .sc (.int .i64 p)], (l.map Sign.enc).flatten] (.rf 2 0 (l.length + 1) 3) [(0, [.sl 1 (b.map fun b => [.sc (.int .u8 b)]), .sc (.int .i64 p')]), (2, (l.map Sign.enc).flatten ++ [.sc (.int .u8 s.byte), .sc (.int .i64 s.inn), .sc (.int .i64 s.out)])] 3) : BadC b p l := by
  refine ⟨l ++ [s], p', hp, by simp; omega, ?_⟩
  rw [flat_snoc, List.length_append]
  exact C
structure BadK (l : Text) : Prop where
  b1 : l.length * 24 ≤ lim
  b2 : l.length ≤ 9223372036854775807
  b3 : (l.length + 1) * 24 ≤ lim
  b4 : l.length + 1 ≤ 9223372036854775807
  b5 : l.length * 3 ≤ l.length * 3
  b0 : 0 ≤ lim
  tk : ((l.map Sign.enc).flatten).take (l.length * 3) = (l.map Sign.enc).flatten
  fl : (l.map Sign.enc).flatten.length = l.length * 3
theorem badK {l : Text} (hl : l.length ≤ 8) : BadK l := by
  have hfl := flat_len l
  exact ⟨by unfold lim; omega, by omega, by unfold lim; omega, by omega, by omega, Nat.zero_le _, List.take_of_length_le (by omega), hfl⟩
theorem bad_end {b : List Int} {p : Int} {l : Text} {v : Int} (hl : l.length ≤ 8) (hv : ObjC prog 102 [.pt 0 0, .sc (.int .i64 6)] [[encBy b, .sc (.int .i64 p)]] (.sc (.int .i64 v)) [(0, [encBy b, .sc (.int .i64 (p + 1))])] 1)
    (h0 : (v == 0) = false) (h1 : (v == 1) = false) (h2 : (v == 2) = false) (h4 : (v == 4) = false) : BadC b p l := by
  obtain ⟨b1, b2, b3, b4, b5, b0, tk, hfl⟩ := badK hl
  unfold encBy at hv
  rcases h3 : (v == 3) with _ | _
  · refine bad_of hl ⟨120, 0, 0⟩ (p' := p + 1) (by omega) ?_
    refine objC_of k170 (by simp) (by simp) (by simp [wfO, VV.underL, VV.under, underL_app, under_signs]) ?_
    intro X hP hm hH hn hX
    change X.n = 2 at hn
    refine vwp_ok _ ?_
    unfold vc170
    repeat' (first
      | simp only [go_sem, reduceCtorEq, reduceIte, Nat.reduceAdd, Nat.reduceEqDiff, Nat.reduceLeDiff, Nat.reduceMul, Nat.reduceSub, *]
      | refine gdO_bool' _ (fun _ => ?_) (fun _ => ?_)
      | refine gdO_bool _ (fun _ => ?_) (fun _ => ?_)
      | refine gdD_bool' _ (fun _ => ?_) (fun _ => ?_)
      | refine gdD_bool _ (fun _ => ?_) (fun _ => ?_)
      | refine cdO_bool' _ (fun _ => ?_) (fun _ => ?_)
      | refine cdO_bool _ (fun _ => ?_) (fun _ => ?_)
      | (refine callO.obj [0] (hv) ?_ rfl (by decide) ?_ ?_
         · simp only [go_sem, reduceCtorEq, reduceIte, Nat.reduceAdd, Nat.reduceEqDiff, Nat.reduceLeDiff, Nat.reduceMul, Nat.reduceSub, *]
         · repeat' (first | exact HIs_nil | refine HIs_cons ?_ ?_ | (simp only [go_sem, reduceCtorEq, reduceIte, Nat.reduceAdd, Nat.reduceEqDiff, Nat.reduceLeDiff, Nat.reduceMul, Nat.reduceSub, *]; done)))
      | (refine callW.obj [0] (hv) rfl ?_ rfl (by decide) ?_ (by simp [okInc, Disj]) ?_
         · simp only [go_sem, reduceCtorEq, reduceIte, Nat.reduceAdd, Nat.reduceEqDiff, Nat.reduceLeDiff, Nat.reduceMul, Nat.reduceSub, *]
         · repeat' (first | exact HIs_nil | refine HIs_cons ?_ ?_ | (simp only [go_sem, reduceCtorEq, reduceIte, Nat.reduceAdd, Nat.reduceEqDiff, Nat.reduceLeDiff, Nat.reduceMul, Nat.reduceSub, *]; done)))
      | refine ⟨by decide, ?_⟩
      | fail)
    refine ⟨by simp, _, by simp only [go_sem, reduceCtorEq, reduceIte, Nat.reduceAdd, Nat.reduceEqDiff, Nat.reduceLeDiff, Nat.reduceMul, resV]; rfl, ?_⟩
    refine endE (fun l => [0, 1, nm (oneV l)]) (by simp only [oneV, nm_rf]; rfl) (ek_at hn (by rfl) (by simp) (by exact tau2) (by simp) (.toRf rfl (by simp [tau]) (by simp)) ?_)
    refine HConv.same (by decide) (by first | rfl | (simp only [go_sem, reduceCtorEq, reduceIte, Nat.reduceAdd, Nat.reduceEqDiff, Nat.reduceLeDiff, Nat.reduceMul, *] <;> rfl)) rfl ?_
    refine HConv.same (by decide) (by first | rfl | (simp only [go_sem, reduceCtorEq, reduceIte, Nat.reduceAdd, Nat.reduceEqDiff, Nat.reduceLeDiff, Nat.reduceMul, *] <;> rfl)) ?_ HConv.nil
    rw [mapF_clo.cloL_app, flat_clo]; rfl
  · refine bad_of hl ⟨120, 2, 2⟩ (p' := p + 1) (by omega) ?_
    have h4 : (v == 4) = false := by
      have : v = 3 := by simpa using h3
      rw [this]; rfl
    refine objC_of k170 (by simp) (by simp) (by simp [wfO, VV.underL, VV.under, underL_app, under_signs]) ?_
    intro X hP hm hH hn hX
    change X.n = 2 at hn
    refine vwp_ok _ ?_
    unfold vc170
    repeat' (first
      | simp only [go_sem, reduceCtorEq, reduceIte, Nat.reduceAdd, Nat.reduceEqDiff, Nat.reduceLeDiff, Nat.reduceMul, Nat.reduceSub, *]
      | refine gdO_bool' _ (fun _ => ?_) (fun _ => ?_)
      | refine gdO_bool _ (fun _ => ?_) (fun _ => ?_)
      | refine gdD_bool' _ (fun _ => ?_) (fun _ => ?_)
      | refine gdD_bool _ (fun _ => ?_) (fun _ => ?_)
      | refine cdO_bool' _ (fun _ => ?_) (fun _ => ?_)
      | refine cdO_bool _ (fun _ => ?_) (fun _ => ?_)
      | (refine callO.obj [0] (hv) ?_ rfl (by decide) ?_ ?_
         · simp only [go_sem, reduceCtorEq, reduceIte, Nat.reduceAdd, Nat.reduceEqDiff, Nat.reduceLeDiff, Nat.reduceMul, Nat.reduceSub, *]
         · repeat' (first | exact HIs_nil | refine HIs_cons ?_ ?_ | (simp only [go_sem, reduceCtorEq, reduceIte, Nat.reduceAdd, Nat.reduceEqDiff, Nat.reduceLeDiff, Nat.reduceMul, Nat.reduceSub, *]; done)))
      | (refine callW.obj [0] (hv) rfl ?_ rfl (by decide) ?_ (by simp [okInc, Disj]) ?_
         · simp only [go_sem, reduceCtorEq, reduceIte, Nat.reduceAdd, Nat.reduceEqDiff, Nat.reduceLeDiff, Nat.reduceMul, Nat.reduceSub, *]
         · repeat' (first | exact HIs_nil | refine HIs_cons ?_ ?_ | (simp only [go_sem, reduceCtorEq, reduceIte, Nat.reduceAdd, Nat.reduceEqDiff, Nat.reduceLeDiff, Nat.reduceMul, Nat.reduceSub, *]; done)))
      | refine ⟨by decide, ?_⟩
      | fail)
    refine ⟨by simp, _, by simp only [go_sem, reduceCtorEq, reduceIte, Nat.reduceAdd, Nat.reduceEqDiff, Nat.reduceLeDiff, Nat.reduceMul, resV]; rfl, ?_⟩
    refine endE (fun l => [0, 1, nm (oneV l)]) (by simp only [oneV, nm_rf]; rfl) (ek_at hn (by rfl) (by simp) (by exact tau2) (by simp) (.toRf rfl (by simp [tau]) (by simp)) ?_)
    refine HConv.same (by decide) (by first | rfl | (simp only [go_sem, reduceCtorEq, reduceIte, Nat.reduceAdd, Nat.reduceEqDiff, Nat.reduceLeDiff, Nat.reduceMul, *] <;> rfl)) rfl ?_
    refine HConv.same (by decide) (by first | rfl | (simp only [go_sem, reduceCtorEq, reduceIte, Nat.reduceAdd, Nat.reduceEqDiff, Nat.reduceLeDiff, Nat.reduceMul, *] <;> rfl)) ?_ HConv.nil
    rw [mapF_clo.cloL_app, flat_clo]; rfl
theorem two_at {v : Int} (h0 : 0 ≤ v) (h1 : v < 2) : ∃ x : Int, ([VV.sc (.int .i64 (-1)), VV.sc (.int .i64 4)].drop v.toNat).head? = some (.sc (.int .i64 x)) := by
  have e : v = 0 ∨ v = 1 := by omega
  rcases e with rfl | rfl <;> exact ⟨_, rfl⟩
theorem five_at {v : Int} (h0 : 0 ≤ v) (h1 : v < 5) : ∃ x : Int, ([VV.sc (.int .u8 65), .sc (.int .u8 10), .sc (.int .u8 0), .sc (.int .u8 123), .sc (.int .u8 47)].drop v.toNat).head? = some (.sc (.int .u8 x)) := by
  have e : v = 0 ∨ v = 1 ∨ v = 2 ∨ v = 3 ∨ v = 4 := by omega
  rcases e with rfl | rfl | rfl | rfl | rfl <;> exact ⟨_, rfl⟩
theorem bad_012 {b : List Int} (hr : Rd b) {p : Int} {l : Text} {v : Int} (h0 : 0 ≤ p) (h1 : p + 1000 < 1073741824) (hl : l.length ≤ 8) (hv : ObjC prog 102 [.pt 0 0, .sc (.int .i64 6)] [[encBy b, .sc (.int .i64 p)]] (.sc (.int .i64 v)) [(0, [encBy b, .sc (.int .i64 (p + 1))])] 1)
    (h : v = 0 ∨ v = 1 ∨ v = 2) : BadC b p l := by
  obtain ⟨b1, b2, b3, b4, b5, b0, tk, hfl⟩ := badK hl
  obtain ⟨u, u0, u1, hu⟩ := pk hr (p := p + 1) (by omega) (by omega) 2
  obtain ⟨w, w0, w1, hw⟩ := pk hr (p := p + 1) (by omega) (by omega) 5
  have u1 := u1 (by omega)
  have w1 := w1 (by omega)
  obtain ⟨x, hx⟩ := two_at u0 u1
  obtain ⟨y, hy⟩ := five_at w0 w1
  have u2 : u < ((2 : Nat) : Int) := u1
  have w2 : w < ((5 : Nat) : Int) := w1
  unfold encBy at hv hu hw
  rcases h with rfl | rfl | rfl
  · refine bad_of hl ⟨y, 0, 0⟩ (p' := p + 1 + 1) (by omega) ?_
    have e0 : ((0 : Int) == 0) = true := rfl
    clear hu hx
    refine objC_of k170 (by simp) (by simp) (by simp [wfO, VV.underL, VV.under, underL_app, under_signs]) ?_
    intro X hP hm hH hn hX
    change X.n = 2 at hn
    refine vwp_ok _ ?_
    unfold vc170
    repeat' (first
      | simp only [go_sem, reduceCtorEq, reduceIte, Nat.reduceAdd, Nat.reduceEqDiff, Nat.reduceLeDiff, Nat.reduceMul, Nat.reduceSub, *]
      | refine gdO_bool' _ (fun _ => ?_) (fun _ => ?_)
      | refine gdO_bool _ (fun _ => ?_) (fun _ => ?_)
      | refine gdD_bool' _ (fun _ => ?_) (fun _ => ?_)
      | refine gdD_bool _ (fun _ => ?_) (fun _ => ?_)
      | refine cdO_bool' _ (fun _ => ?_) (fun _ => ?_)
      | refine cdO_bool _ (fun _ => ?_) (fun _ => ?_)
      | (refine callO.obj [0] (hv) ?_ rfl (by decide) ?_ ?_
         · simp only [go_sem, reduceCtorEq, reduceIte, Nat.reduceAdd, Nat.reduceEqDiff, Nat.reduceLeDiff, Nat.reduceMul, Nat.reduceSub, *]
         · repeat' (first | exact HIs_nil | refine HIs_cons ?_ ?_ | (simp only [go_sem, reduceCtorEq, reduceIte, Nat.reduceAdd, Nat.reduceEqDiff, Nat.reduceLeDiff, Nat.reduceMul, Nat.reduceSub, *]; done)))
      | (refine callW.obj [0] (hv) rfl ?_ rfl (by decide) ?_ (by simp [okInc, Disj]) ?_
         · simp only [go_sem, reduceCtorEq, reduceIte, Nat.reduceAdd, Nat.reduceEqDiff, Nat.reduceLeDiff, Nat.reduceMul, Nat.reduceSub, *]
         · repeat' (first | exact HIs_nil | refine HIs_cons ?_ ?_ | (simp only [go_sem, reduceCtorEq, reduceIte, Nat.reduceAdd, Nat.reduceEqDiff, Nat.reduceLeDiff, Nat.reduceMul, Nat.reduceSub, *]; done)))
      | (refine callO.obj [0] (hw) ?_ rfl (by decide) ?_ ?_
         · simp only [go_sem, reduceCtorEq, reduceIte, Nat.reduceAdd, Nat.reduceEqDiff, Nat.reduceLeDiff, Nat.reduceMul, Nat.reduceSub, *]
         · repeat' (first | exact HIs_nil | refine HIs_cons ?_ ?_ | (simp only [go_sem, reduceCtorEq, reduceIte, Nat.reduceAdd, Nat.reduceEqDiff, Nat.reduceLeDiff, Nat.reduceMul, Nat.reduceSub, *]; done)))
      | (refine callW.obj [0] (hw) rfl ?_ rfl (by decide) ?_ (by simp [okInc, Disj]) ?_
         · simp only [go_sem, reduceCtorEq, reduceIte, Nat.reduceAdd, Nat.reduceEqDiff, Nat.reduceLeDiff, Nat.reduceMul, Nat.reduceSub, *]
         · repeat' (first | exact HIs_nil | refine HIs_cons ?_ ?_ | (simp only [go_sem, reduceCtorEq, reduceIte, Nat.reduceAdd, Nat.reduceEqDiff, Nat.reduceLeDiff, Nat.reduceMul, Nat.reduceSub, *]; done)))
      | refine ⟨by decide, ?_⟩
      | fail)
    refine ⟨by simp, _, by simp only [go_sem, reduceCtorEq, reduceIte, Nat.reduceAdd, Nat.reduceEqDiff, Nat.reduceLeDiff, Nat.reduceMul, resV]; rfl, ?_⟩
    refine endE (fun l => [0, 1, nm (oneV l)]) (by simp only [oneV, nm_rf]; rfl) (ek_at hn (by rfl) (by simp) (by exact tau2) (by simp) (.toRf rfl (by simp [tau]) (by simp)) ?_)
    refine HConv.same (by decide) (by first | rfl | (simp only [go_sem, reduceCtorEq, reduceIte, Nat.reduceAdd, Nat.reduceEqDiff, Nat.reduceLeDiff, Nat.reduceMul, *] <;> rfl)) rfl ?_
    refine HConv.same (by decide) (by first | rfl | (simp only [go_sem, reduceCtorEq, reduceIte, Nat.reduceAdd, Nat.reduceEqDiff, Nat.reduceLeDiff, Nat.reduceMul, *] <;> rfl)) ?_ HConv.nil
    rw [mapF_clo.cloL_app, flat_clo]; rfl
  · refine bad_of hl ⟨120, x, 0⟩ (p' := p + 1 + 1) (by omega) ?_
    have e0 : ((1 : Int) == 0) = false := rfl
    have e1 : ((1 : Int) == 1) = true := rfl
    clear hw hy
    refine objC_of k170 (by simp) (by simp) (by simp [wfO, VV.underL, VV.under, underL_app, under_signs]) ?_
    intro X hP hm hH hn hX
    change X.n = 2 at hn
    refine vwp_ok _ ?_
    unfold vc170
    repeat' (first
      | simp only [go_sem, reduceCtorEq, reduceIte, Nat.reduceAdd, Nat.reduceEqDiff, Nat.reduceLeDiff, Nat.reduceMul, Nat.reduceSub, *]
      | refine gdO_bool' _ (fun _ => ?_) (fun _ => ?_)
      | refine gdO_bool _ (fun _ => ?_) (fun _ => ?_)
      | refine gdD_bool' _ (fun _ => ?_) (fun _ => ?_)
      | refine gdD_bool _ (fun _ => ?_) (fun _ => ?_)
      | refine cdO_bool' _ (fun _ => ?_) (fun _ => ?_)
      | refine cdO_bool _ (fun _ => ?_) (fun _ => ?_)
      | (refine callO.obj [0] (hv) ?_ rfl (by decide) ?_ ?_
         · simp only [go_sem, reduceCtorEq, reduceIte, Nat.reduceAdd, Nat.reduceEqDiff, Nat.reduceLeDiff, Nat.reduceMul, Nat.reduceSub, *]
         · repeat' (first | exact HIs_nil | refine HIs_cons ?_ ?_ | (simp only [go_sem, reduceCtorEq, reduceIte, Nat.reduceAdd, Nat.reduceEqDiff, Nat.reduceLeDiff, Nat.reduceMul, Nat.reduceSub, *]; done)))
      | (refine callW.obj [0] (hv) rfl ?_ rfl (by decide) ?_ (by simp [okInc, Disj]) ?_
         · simp only [go_sem, reduceCtorEq, reduceIte, Nat.reduceAdd, Nat.reduceEqDiff, Nat.reduceLeDiff, Nat.reduceMul, Nat.reduceSub, *]
         · repeat' (first | exact HIs_nil | refine HIs_cons ?_ ?_ | (simp only [go_sem, reduceCtorEq, reduceIte, Nat.reduceAdd, Nat.reduceEqDiff, Nat.reduceLeDiff, Nat.reduceMul, Nat.reduceSub, *]; done)))
      | (refine callO.obj [0] (hu) ?_ rfl (by decide) ?_ ?_
         · simp only [go_sem, reduceCtorEq, reduceIte, Nat.reduceAdd, Nat.reduceEqDiff, Nat.reduceLeDiff, Nat.reduceMul, Nat.reduceSub, *]
         · repeat' (first | exact HIs_nil | refine HIs_cons ?_ ?_ | (simp only [go_sem, reduceCtorEq, reduceIte, Nat.reduceAdd, Nat.reduceEqDiff, Nat.reduceLeDiff, Nat.reduceMul, Nat.reduceSub, *]; done)))
      | (refine callW.obj [0] (hu) rfl ?_ rfl (by decide) ?_ (by simp [okInc, Disj]) ?_
         · simp only [go_sem, reduceCtorEq, reduceIte, Nat.reduceAdd, Nat.reduceEqDiff, Nat.reduceLeDiff, Nat.reduceMul, Nat.reduceSub, *]
         · repeat' (first | exact HIs_nil | refine HIs_cons ?_ ?_ | (simp only [go_sem, reduceCtorEq, reduceIte, Nat.reduceAdd, Nat.reduceEqDiff, Nat.reduceLeDiff, Nat.reduceMul, Nat.reduceSub, *]; done)))
      | refine ⟨by decide, ?_⟩
      | fail)
    refine ⟨by simp, _, by simp only [go_sem, reduceCtorEq, reduceIte, Nat.reduceAdd, Nat.reduceEqDiff, Nat.reduceLeDiff, Nat.reduceMul, resV]; rfl, ?_⟩
    refine endE (fun l => [0, 1, nm (oneV l)]) (by simp only [oneV, nm_rf]; rfl) (ek_at hn (by rfl) (by simp) (by exact tau2) (by simp) (.toRf rfl (by simp [tau]) (by simp)) ?_)
    refine HConv.same (by decide) (by first | rfl | (simp only [go_sem, reduceCtorEq, reduceIte, Nat.reduceAdd, Nat.reduceEqDiff, Nat.reduceLeDiff, Nat.reduceMul, *] <;> rfl)) rfl ?_
    refine HConv.same (by decide) (by first | rfl | (simp only [go_sem, reduceCtorEq, reduceIte, Nat.reduceAdd, Nat.reduceEqDiff, Nat.reduceLeDiff, Nat.reduceMul, *] <;> rfl)) ?_ HConv.nil
    rw [mapF_clo.cloL_app, flat_clo]; rfl
  · refine bad_of hl ⟨120, 0, x⟩ (p' := p + 1 + 1) (by omega) ?_
    have e0 : ((2 : Int) == 0) = false := rfl
    have e1 : ((2 : Int) == 1) = false := rfl
    have e2 : ((2 : Int) == 2) = true := rfl
    clear hw hy
    refine objC_of k170 (by simp) (by simp) (by simp [wfO, VV.underL, VV.under, underL_app, under_signs]) ?_
    intro X hP hm hH hn hX
    change X.n = 2 at hn
    refine vwp_ok _ ?_
    unfold vc170
    repeat' (first
      | simp only [go_sem, reduceCtorEq, reduceIte, Nat.reduceAdd, Nat.reduceEqDiff, Nat.reduceLeDiff, Nat.reduceMul, Nat.reduceSub, *]
      | refine gdO_bool' _ (fun _ => ?_) (fun _ => ?_)
      | refine gdO_bool _ (fun _ => ?_) (fun _ => ?_)
      | refine gdD_bool' _ (fun _ => ?_) (fun _ => ?_)
      | refine gdD_bool _ (fun _ => ?_) (fun _ => ?_)
      | refine cdO_bool' _ (fun _ => ?_) (fun _ => ?_)
      | refine cdO_bool _ (fun _ => ?_) (fun _ => ?_)
      | (refine callO.obj [0] (hv) ?_ rfl (by decide) ?_ ?_
         · simp only [go_sem, reduceCtorEq, reduceIte, Nat.reduceAdd, Nat.reduceEqDiff, Nat.reduceLeDiff, Nat.reduceMul, Nat.reduceSub, *]
         · repeat' (first | exact HIs_nil | refine HIs_cons ?_ ?_ | (simp only [go_sem, reduceCtorEq, reduceIte, Nat.reduceAdd, Nat.reduceEqDiff, Nat.reduceLeDiff, Nat.reduceMul, Nat.reduceSub, *]; done)))
      | (refine callW.obj [0] (hv) rfl ?_ rfl (by decide) ?_ (by simp [okInc, Disj]) ?_
         · simp only [go_sem, reduceCtorEq, reduceIte, Nat.reduceAdd, Nat.reduceEqDiff, Nat.reduceLeDiff, Nat.reduceMul, Nat.reduceSub, *]
         · repeat' (first | exact HIs_nil | refine HIs_cons ?_ ?_ | (simp only [go_sem, reduceCtorEq, reduceIte, Nat.reduceAdd, Nat.reduceEqDiff, Nat.reduceLeDiff, Nat.reduceMul, Nat.reduceSub, *]; done)))
      | (refine callO.obj [0] (hu) ?_ rfl (by decide) ?_ ?_
         · simp only [go_sem, reduceCtorEq, reduceIte, Nat.reduceAdd, Nat.reduceEqDiff, Nat.reduceLeDiff, Nat.reduceMul, Nat.reduceSub, *]
         · repeat' (first | exact HIs_nil | refine HIs_cons ?_ ?_ | (simp only [go_sem, reduceCtorEq, reduceIte, Nat.reduceAdd, Nat.reduceEqDiff, Nat.reduceLeDiff, Nat.reduceMul, Nat.reduceSub, *]; done)))
      | (refine callW.obj [0] (hu) rfl ?_ rfl (by decide) ?_ (by simp [okInc, Disj]) ?_
         · simp only [go_sem, reduceCtorEq, reduceIte, Nat.reduceAdd, Nat.reduceEqDiff, Nat.reduceLeDiff, Nat.reduceMul, Nat.reduceSub, *]
         · repeat' (first | exact HIs_nil | refine HIs_cons ?_ ?_ | (simp only [go_sem, reduceCtorEq, reduceIte, Nat.reduceAdd, Nat.reduceEqDiff, Nat.reduceLeDiff, Nat.reduceMul, Nat.reduceSub, *]; done)))
      | refine ⟨by decide, ?_⟩
      | fail)
    refine ⟨by simp, _, by simp only [go_sem, reduceCtorEq, reduceIte, Nat.reduceAdd, Nat.reduceEqDiff, Nat.reduceLeDiff, Nat.reduceMul, resV]; rfl, ?_⟩
    refine endE (fun l => [0, 1, nm (oneV l)]) (by simp only [oneV, nm_rf]; rfl) (ek_at hn (by rfl) (by simp) (by exact tau2) (by simp) (.toRf rfl (by simp [tau]) (by simp)) ?_)
    refine HConv.same (by decide) (by first | rfl | (simp only [go_sem, reduceCtorEq, reduceIte, Nat.reduceAdd, Nat.reduceEqDiff, Nat.reduceLeDiff, Nat.reduceMul, *] <;> rfl)) rfl ?_
    refine HConv.same (by decide) (by first | rfl | (simp only [go_sem, reduceCtorEq, reduceIte, Nat.reduceAdd, Nat.reduceEqDiff, Nat.reduceLeDiff, Nat.reduceMul, *] <;> rfl)) ?_ HConv.nil
    rw [mapF_clo.cloL_app, flat_clo]; rfl
set_option maxHeartbeats 400000 in
theorem bad_4 {b : List Int} (hr : Rd b) {p : Int} {l : Text} (h0 : 0 ≤ p) (h1 : p + 1000 < 1073741824) (hl : l.length ≤ 8) (hv : ObjC prog 102 [.pt 0 0, .sc (.int .i64 6)] [[encBy b, .sc (.int .i64 p)]] (.sc (.int .i64 4)) [(0, [encBy b, .sc (.int .i64 (p + 1))])] 1) : BadC b p l := by
  have hpk : ∀ i : Nat, ∃ v : Int, i < 60 → Pk b (p + 1 + i) 2 v := fun i => by
    by_cases hi : i < 60
    · obtain ⟨v, h⟩ := pk hr (p := p + 1 + i) (by omega) (by omega) 2
      exact ⟨v, fun _ => h⟩
    · exact ⟨0, fun h => absurd h hi⟩
  obtain ⟨V, hV⟩ := Classical.axiomOfChoice hpk
  have hVb : ∀ i, i < 60 → 0 ≤ V i ∧ V i < 2 := fun i hi => ⟨(hV i hi).1, (hV i hi).2.1 (by omega)⟩
  obtain ⟨N, hN1, hN2, hN3⟩ := first_stop (P := fun i => ¬ ((l.length : Int) + i < 24 + V i)) (25 - l.length) (by have := hVb (25 - l.length) (by omega); omega)
  have hN0 : 0 < N := by
    rcases Nat.eq_zero_or_pos N with h | h
    · subst h
      have := hVb 0 (by omega)
      exfalso; apply hN2; simp; omega
    · exact h
  obtain ⟨LN, hLN⟩ : ∃ LN : Text, l ++ List.replicate N ⟨120, 0, 0⟩ = LN := ⟨_, rfl⟩
  refine ⟨LN, p + 1 + N + 1, by omega, by rw [← hLN]; simp; omega, ?_⟩
  replace hLN := Kept.mk hLN
  have hq : ∀ i : Nat, i ≤ N → ObjC prog 102 [.pt 0 0, .sc (.int .i64 2)] [[.sl 1 (b.map fun b => [.sc (.int .u8 b)]), .sc (.int .i64 (p + 1 + i))]] (.sc (.int .i64 (V i))) [(0, [.sl 1 (b.map fun b => [.sc (.int .u8 b)]), .sc (.int .i64 (p + 1 + i + 1))])] 1 := fun i hi => (hV i (by omega)).2.2
  have hlt : ∀ i : Nat, i < N → ((l.length : Int) + i < 24 + V i) := fun i hi => Classical.not_not.1 (hN3 i hi)
  have hVN : ∀ i : Nat, i ≤ N → 0 ≤ V i ∧ V i < 2 := fun i hi => hVb i (by omega)
  clear hpk hV hVb hN3
  unfold encBy at *
  have e0 : ((4 : Int) == 0) = false := rfl
  have e1 : ((4 : Int) == 1) = false := rfl
  have e2 : ((4 : Int) == 2) = false := rfl
  have e3 : ((4 : Int) == 3) = false := rfl
  have e4 : ((4 : Int) == 4) = true := rfl
  refine objC_of k170 (by simp) (by simp) (by simp [wfO, VV.underL, VV.under, underL_app, under_signs, cloL_under _ (flat_clo _), -List.map_append]) ?_
  intro X hP hm hH hn hX
  change X.n = 2 at hn
  refine vwp_ok _ ?_
  unfold vc170
  repeat' (first
    | simp only [go_sem, reduceCtorEq, reduceIte, Nat.reduceAdd, Nat.reduceEqDiff, Nat.reduceLeDiff, Nat.reduceMul, Nat.reduceSub, *]
    | refine gdO_bool' _ (fun _ => ?_) (fun _ => ?_)
    | refine gdO_bool _ (fun _ => ?_) (fun _ => ?_)
    | refine gdD_bool' _ (fun _ => ?_) (fun _ => ?_)
    | refine gdD_bool _ (fun _ => ?_) (fun _ => ?_)
    | refine cdO_bool' _ (fun _ => ?_) (fun _ => ?_)
    | refine cdO_bool _ (fun _ => ?_) (fun _ => ?_)
    | (refine callO.obj [0] (hv) ?_ rfl (by decide) ?_ ?_
       · simp only [go_sem, reduceCtorEq, reduceIte, Nat.reduceAdd, Nat.reduceEqDiff, Nat.reduceLeDiff, Nat.reduceMul, Nat.reduceSub, *]
       · repeat' (first | exact HIs_nil | refine HIs_cons ?_ ?_ | (simp only [go_sem, reduceCtorEq, reduceIte, Nat.reduceAdd, Nat.reduceEqDiff, Nat.reduceLeDiff, Nat.reduceMul, Nat.reduceSub, *]; done)))
    | (refine callW.obj [0] (hv) rfl ?_ rfl (by decide) ?_ (by simp [okInc, Disj]) ?_
       · simp only [go_sem, reduceCtorEq, reduceIte, Nat.reduceAdd, Nat.reduceEqDiff, Nat.reduceLeDiff, Nat.reduceMul, Nat.reduceSub, *]
       · repeat' (first | exact HIs_nil | refine HIs_cons ?_ ?_ | (simp only [go_sem, reduceCtorEq, reduceIte, Nat.reduceAdd, Nat.reduceEqDiff, Nat.reduceLeDiff, Nat.reduceMul, Nat.reduceSub, *]; done)))
    | refine ⟨by decide, ?_⟩
    | fail)
  refine loopV hX (fun μ s H n => ∃ (i : Nat) (L : Text), i ≤ N ∧ L = l ++ List.replicate i ⟨120, 0, 0⟩ ∧ μ = N - i ∧ ((i = 0 ∧ s = slotsOf [(0, .pt 0 0), (1, .rf 1 0 L.length 3), (5, .pt 2 0)] ∧ H = heapOf [(0, [.sl 1 (b.map fun b => [.sc (.int .u8 b)]), .sc (.int .i64 (p + 1 + i))]), (1, (L.map Sign.enc).flatten), (2, [.sc (.int .u8 120), .sc (.int .i64 0), .sc (.int .i64 0)])] ∧ n = 3) ∨
      (0 < i ∧ s = slotsOf [(0, .pt 0 0), (1, .rf 3 0 L.length 3), (5, .pt 2 0)] ∧ H = heapOf [(0, [.sl 1 (b.map fun b => [.sc (.int .u8 b)]), .sc (.int .i64 (p + 1 + i))]), (2, [.sc (.int .u8 120), .sc (.int .i64 0), .sc (.int .i64 0)]), (3, (L.map Sign.enc).flatten)] ∧ n = 4))) ?_
    ⟨N + 1, roundE (fun s => [0, 1, nm (s 5)]) (by simp only [go_sem, reduceCtorEq, reduceIte, Nat.reduceAdd, Nat.reduceEqDiff, Nat.reduceLeDiff, Nat.reduceMul, nm_pt]; rfl) (rk_of hn [(0, _), (1, _), (5, _)] _ _ ⟨0, l, by omega, by simp, rfl, .inl ⟨rfl, rfl, rfl, rfl⟩⟩ (by omega) (by simp) (by exact tau2) (by simp) (by simp [hm]) ?_ ?_)⟩
  rotate_left
  · repeat' (first | exact List.forall_mem_nil _ | refine List.forall_mem_cons.2 ⟨?_, ?_⟩ | exact .toPt (by simp only [go_sem, reduceCtorEq, reduceIte, Nat.reduceAdd, Nat.reduceEqDiff, Nat.reduceLeDiff, Nat.reduceMul, *] <;> rfl) (by simp [tau]) (by simp) | exact .toRf (by simp only [go_sem, reduceCtorEq, reduceIte, Nat.reduceAdd, Nat.reduceEqDiff, Nat.reduceLeDiff, Nat.reduceMul, *] <;> rfl) (by simp [tau]) (by simp) | exact .same (by simp only [go_sem, reduceCtorEq, reduceIte, Nat.reduceAdd, Nat.reduceEqDiff, Nat.reduceLeDiff, Nat.reduceMul, *] <;> rfl) (by first | rfl | simp [VV.cloL, VV.clo, *]))
  · rw [show p + 1 + ((0 : Nat) : Int) = p + 1 by omega]
    refine HConv.same (by decide) (by first | rfl | (simp only [go_sem, reduceCtorEq, reduceIte, Nat.reduceAdd, Nat.reduceEqDiff, Nat.reduceLeDiff, Nat.reduceMul, *] <;> rfl)) rfl ?_
    refine HConv.same (by decide) (by first | rfl | (simp only [go_sem, reduceCtorEq, reduceIte, Nat.reduceAdd, Nat.reduceEqDiff, Nat.reduceLeDiff, Nat.reduceMul, *] <;> rfl)) (flat_clo _) ?_
    exact HConv.same (by decide) (by first | rfl | (simp only [go_sem, reduceCtorEq, reduceIte, Nat.reduceAdd, Nat.reduceEqDiff, Nat.reduceLeDiff, Nat.reduceMul, *] <;> rfl)) rfl HConv.nil
  clear hv
  rintro μ s H n ⟨i, L, hi, hL, rfl, hc⟩
  have hLl : L.length = l.length + i := by rw [hL]; simp
  have hVi := hVN i hi
  have w1 : IntKind.i64.wrap (24 + V i) = 24 + V i := by rw [wrap_id] <;> omega
  have q1 := hq i hi
  have hfl := flat_len L
  have b3 : (L.length + 1) * 24 ≤ lim := by unfold lim; omega
  have b4 : L.length + 1 ≤ 9223372036854775807 := by omega
  have b5 : L.length * 3 ≤ L.length * 3 := by omega
  have tk : ((L.map Sign.enc).flatten).take (L.length * 3) = (L.map Sign.enc).flatten := List.take_of_length_le (by omega)
  rcases Nat.lt_or_ge i N with hiN | hge
  · have g1 : decide ((L.length : Int) < 24 + V i) = true := by have := hlt i hiN; simp; omega
    have hsn : Kept (L ++ [⟨120, 0, 0⟩] = l ++ List.replicate (i + 1) ⟨120, 0, 0⟩) := ⟨by rw [hL, List.append_assoc, List.replicate_succ']⟩
    have hpi : Kept (p + 1 + ((i + 1 : Nat) : Int) = p + 1 + i + 1) := ⟨by omega⟩
    have hie : Kept (0 < N - i) := ⟨by omega⟩
    clear hq hlt hVN hL hLl hVi
    rcases hc with ⟨hi0, rfl, rfl, rfl⟩ | ⟨hi0, rfl, rfl, rfl⟩
    · clear hi0
      repeat' (first
        | simp only [go_sem, reduceCtorEq, reduceIte, Nat.reduceAdd, Nat.reduceEqDiff, Nat.reduceLeDiff, Nat.reduceMul, Nat.reduceSub, *]
        | refine gdO_bool' _ (fun _ => ?_) (fun _ => ?_)
        | refine gdO_bool _ (fun _ => ?_) (fun _ => ?_)
        | refine gdD_bool' _ (fun _ => ?_) (fun _ => ?_)
        | refine gdD_bool _ (fun _ => ?_) (fun _ => ?_)
        | refine cdO_bool' _ (fun _ => ?_) (fun _ => ?_)
        | refine cdO_bool _ (fun _ => ?_) (fun _ => ?_)
        | (refine callO.obj [0] (q1) ?_ rfl (by decide) ?_ ?_
           · simp only [go_sem, reduceCtorEq, reduceIte, Nat.reduceAdd, Nat.reduceEqDiff, Nat.reduceLeDiff, Nat.reduceMul, Nat.reduceSub, *]
           · repeat' (first | exact HIs_nil | refine HIs_cons ?_ ?_ | (simp only [go_sem, reduceCtorEq, reduceIte, Nat.reduceAdd, Nat.reduceEqDiff, Nat.reduceLeDiff, Nat.reduceMul, Nat.reduceSub, *]; done)))
        | (refine callW.obj [0] (q1) rfl ?_ rfl (by decide) ?_ (by simp [okInc, Disj]) ?_
           · simp only [go_sem, reduceCtorEq, reduceIte, Nat.reduceAdd, Nat.reduceEqDiff, Nat.reduceLeDiff, Nat.reduceMul, Nat.reduceSub, *]
           · repeat' (first | exact HIs_nil | refine HIs_cons ?_ ?_ | (simp only [go_sem, reduceCtorEq, reduceIte, Nat.reduceAdd, Nat.reduceEqDiff, Nat.reduceLeDiff, Nat.reduceMul, Nat.reduceSub, *]; done)))
        | refine ⟨by decide, ?_⟩
        | fail)
      refine roundE (fun s => [0, 1, nm (s 5), nm (s 1)]) (by simp only [go_sem, reduceCtorEq, reduceIte, Nat.reduceAdd, Nat.reduceEqDiff, Nat.reduceLeDiff, Nat.reduceMul, nm_pt, nm_rf]; rfl) (rk_of hn [(0, _), (1, _), (5, _)] _ _ ⟨i + 1, L ++ [⟨120, 0, 0⟩], hiN, hsn.out, rfl, .inr ⟨by omega, rfl, rfl, rfl⟩⟩ (by have := hie.out; omega) (by simp) (by exact tau2) (by simp) (by simp [hm]) ?_ ?_)
      · rw [List.length_append]
        repeat' (first | exact List.forall_mem_nil _ | refine List.forall_mem_cons.2 ⟨?_, ?_⟩ | exact .toPt (by simp only [go_sem, reduceCtorEq, reduceIte, Nat.reduceAdd, Nat.reduceEqDiff, Nat.reduceLeDiff, Nat.reduceMul, *] <;> rfl) (by simp [tau]) (by simp) | exact .toRf (by simp only [go_sem, reduceCtorEq, reduceIte, Nat.reduceAdd, Nat.reduceEqDiff, Nat.reduceLeDiff, Nat.reduceMul, *] <;> rfl) (by simp [tau]) (by simp) | exact .same (by simp only [go_sem, reduceCtorEq, reduceIte, Nat.reduceAdd, Nat.reduceEqDiff, Nat.reduceLeDiff, Nat.reduceMul, *] <;> rfl) (by first | rfl | simp [VV.cloL, VV.clo, *]))
      · rw [hpi.out, flat_snoc]
        refine HConv.same (by decide) (by first | rfl | (simp only [go_sem, reduceCtorEq, reduceIte, Nat.reduceAdd, Nat.reduceEqDiff, Nat.reduceLeDiff, Nat.reduceMul, *] <;> rfl)) rfl ?_
        refine HConv.same (by decide) (by first | rfl | (simp only [go_sem, reduceCtorEq, reduceIte, Nat.reduceAdd, Nat.reduceEqDiff, Nat.reduceLeDiff, Nat.reduceMul, *] <;> rfl)) rfl ?_
        refine HConv.same (by decide) (by first | rfl | (simp only [go_sem, reduceCtorEq, reduceIte, Nat.reduceAdd, Nat.reduceEqDiff, Nat.reduceLeDiff, Nat.reduceMul, *] <;> rfl)) ?_ HConv.nil
        rw [mapF_clo.cloL_app, flat_clo]; rfl
    · repeat' (first
        | simp only [go_sem, reduceCtorEq, reduceIte, Nat.reduceAdd, Nat.reduceEqDiff, Nat.reduceLeDiff, Nat.reduceMul, Nat.reduceSub, *]
        | refine gdO_bool' _ (fun _ => ?_) (fun _ => ?_)
        | refine gdO_bool _ (fun _ => ?_) (fun _ => ?_)
        | refine gdD_bool' _ (fun _ => ?_) (fun _ => ?_)
        | refine gdD_bool _ (fun _ => ?_) (fun _ => ?_)
        | refine cdO_bool' _ (fun _ => ?_) (fun _ => ?_)
        | refine cdO_bool _ (fun _ => ?_) (fun _ => ?_)
        | (refine callO.obj [0] (q1) ?_ rfl (by decide) ?_ ?_
           · simp only [go_sem, reduceCtorEq, reduceIte, Nat.reduceAdd, Nat.reduceEqDiff, Nat.reduceLeDiff, Nat.reduceMul, Nat.reduceSub, *]
           · repeat' (first | exact HIs_nil | refine HIs_cons ?_ ?_ | (simp only [go_sem, reduceCtorEq, reduceIte, Nat.reduceAdd, Nat.reduceEqDiff, Nat.reduceLeDiff, Nat.reduceMul, Nat.reduceSub, *]; done)))
        | (refine callW.obj [0] (q1) rfl ?_ rfl (by decide) ?_ (by simp [okInc, Disj]) ?_
           · simp only [go_sem, reduceCtorEq, reduceIte, Nat.reduceAdd, Nat.reduceEqDiff, Nat.reduceLeDiff, Nat.reduceMul, Nat.reduceSub, *]
           · repeat' (first | exact HIs_nil | refine HIs_cons ?_ ?_ | (simp only [go_sem, reduceCtorEq, reduceIte, Nat.reduceAdd, Nat.reduceEqDiff, Nat.reduceLeDiff, Nat.reduceMul, Nat.reduceSub, *]; done)))
        | refine ⟨by decide, ?_⟩
        | fail)
      refine roundE (fun s => [0, 1, nm (s 5), nm (s 1)]) (by simp only [go_sem, reduceCtorEq, reduceIte, Nat.reduceAdd, Nat.reduceEqDiff, Nat.reduceLeDiff, Nat.reduceMul, nm_pt, nm_rf]; rfl) (rk_of hn [(0, _), (1, _), (5, _)] _ _ ⟨i + 1, L ++ [⟨120, 0, 0⟩], hiN, hsn.out, rfl, .inr ⟨by omega, rfl, rfl, rfl⟩⟩ (by have := hie.out; omega) (by simp) (by exact tau2) (by simp) (by simp [hm]) ?_ ?_)
      · rw [List.length_append]
        repeat' (first | exact List.forall_mem_nil _ | refine List.forall_mem_cons.2 ⟨?_, ?_⟩ | exact .toPt (by simp only [go_sem, reduceCtorEq, reduceIte, Nat.reduceAdd, Nat.reduceEqDiff, Nat.reduceLeDiff, Nat.reduceMul, *] <;> rfl) (by simp [tau]) (by simp) | exact .toRf (by simp only [go_sem, reduceCtorEq, reduceIte, Nat.reduceAdd, Nat.reduceEqDiff, Nat.reduceLeDiff, Nat.reduceMul, *] <;> rfl) (by simp [tau]) (by simp) | exact .same (by simp only [go_sem, reduceCtorEq, reduceIte, Nat.reduceAdd, Nat.reduceEqDiff, Nat.reduceLeDiff, Nat.reduceMul, *] <;> rfl) (by first | rfl | simp [VV.cloL, VV.clo, *]))
      · rw [hpi.out, flat_snoc]
        refine HConv.same (by decide) (by first | rfl | (simp only [go_sem, reduceCtorEq, reduceIte, Nat.reduceAdd, Nat.reduceEqDiff, Nat.reduceLeDiff, Nat.reduceMul, *] <;> rfl)) rfl ?_
        refine HConv.same (by decide) (by first | rfl | (simp only [go_sem, reduceCtorEq, reduceIte, Nat.reduceAdd, Nat.reduceEqDiff, Nat.reduceLeDiff, Nat.reduceMul, *] <;> rfl)) rfl ?_
        refine HConv.same (by decide) (by first | rfl | (simp only [go_sem, reduceCtorEq, reduceIte, Nat.reduceAdd, Nat.reduceEqDiff, Nat.reduceLeDiff, Nat.reduceMul, *] <;> rfl)) ?_ HConv.nil
        rw [mapF_clo.cloL_app, flat_clo]; rfl
  · have e : i = N := by omega
    subst e
    have g1 : decide ((L.length : Int) < 24 + V i) = false := by simp only [decide_eq_false_iff_not]; omega
    have hiz : Kept (i ≠ 0) := ⟨by omega⟩
    have hL2 : L = LN := by rw [hL]; exact hLN.out
    clear hq hlt hVN hLl hVi hN2 hi hge hL hLN
    subst hL2
    rcases hc with ⟨hi0, rfl, rfl, rfl⟩ | ⟨hi0, rfl, rfl, rfl⟩
    · exact absurd hi0 hiz.out
    · repeat' (first
        | simp only [go_sem, reduceCtorEq, reduceIte, Nat.reduceAdd, Nat.reduceEqDiff, Nat.reduceLeDiff, Nat.reduceMul, Nat.reduceSub, *]
        | refine gdO_bool' _ (fun _ => ?_) (fun _ => ?_)
        | refine gdO_bool _ (fun _ => ?_) (fun _ => ?_)
        | refine gdD_bool' _ (fun _ => ?_) (fun _ => ?_)
        | refine gdD_bool _ (fun _ => ?_) (fun _ => ?_)
        | refine cdO_bool' _ (fun _ => ?_) (fun _ => ?_)
        | refine cdO_bool _ (fun _ => ?_) (fun _ => ?_)
        | (refine callO.obj [0] (q1) ?_ rfl (by decide) ?_ ?_
           · simp only [go_sem, reduceCtorEq, reduceIte, Nat.reduceAdd, Nat.reduceEqDiff, Nat.reduceLeDiff, Nat.reduceMul, Nat.reduceSub, *]
           · repeat' (first | exact HIs_nil | refine HIs_cons ?_ ?_ | (simp only [go_sem, reduceCtorEq, reduceIte, Nat.reduceAdd, Nat.reduceEqDiff, Nat.reduceLeDiff, Nat.reduceMul, Nat.reduceSub, *]; done)))
        | (refine callW.obj [0] (q1) rfl ?_ rfl (by decide) ?_ (by simp [okInc, Disj]) ?_
           · simp only [go_sem, reduceCtorEq, reduceIte, Nat.reduceAdd, Nat.reduceEqDiff, Nat.reduceLeDiff, Nat.reduceMul, Nat.reduceSub, *]
           · repeat' (first | exact HIs_nil | refine HIs_cons ?_ ?_ | (simp only [go_sem, reduceCtorEq, reduceIte, Nat.reduceAdd, Nat.reduceEqDiff, Nat.reduceLeDiff, Nat.reduceMul, Nat.reduceSub, *]; done)))
        | refine ⟨by decide, ?_⟩
        | fail)
      refine ⟨by simp, _, by simp only [go_sem, reduceCtorEq, reduceIte, Nat.reduceAdd, Nat.reduceEqDiff, Nat.reduceLeDiff, Nat.reduceMul, resV]; rfl, ?_⟩
      refine endE (fun l => [0, 1, nm (oneV l)]) (by simp only [oneV, nm_rf]; rfl) (ek_at hn (by rfl) (by simp) (by exact tau2) (by simp) (.toRf rfl (by simp [tau]) (by simp)) ?_)
      refine HConv.same (by decide) (by first | rfl | (simp only [go_sem, reduceCtorEq, reduceIte, Nat.reduceAdd, Nat.reduceEqDiff, Nat.reduceLeDiff, Nat.reduceMul, *] <;> rfl)) rfl ?_
      exact HConv.same (by decide) (by first | rfl | (simp only [go_sem, reduceCtorEq, reduceIte, Nat.reduceAdd, Nat.reduceEqDiff, Nat.reduceLeDiff, Nat.reduceMul, *] <;> rfl)) (flat_clo _) HConv.nil
/-- A text in which something is not as it was. -/
theorem c170 {b : List Int} (hr : Rd b) {p : Int} {l : Text} (h0 : 0 ≤ p) (h1 : p + 2000 < 1073741824) (hl : l.length ≤ 8) : BadC b p l := by
  obtain ⟨v, u0, u1, hv⟩ := pk hr h0 (by omega) 6
  have u1 := u1 (by omega)
  have e : v = 0 ∨ v = 1 ∨ v = 2 ∨ v = 4 ∨ (v = 3 ∨ v = 5) := by omega
  rcases e with e | e | e | e | e
  · exact bad_012 hr h0 (by omega) hl hv (.inl e)
  · exact bad_012 hr h0 (by omega) hl hv (.inr (.inl e))
  · exact bad_012 hr h0 (by omega) hl hv (.inr (.inr e))
  · subst e; exact bad_4 hr h0 (by omega) hl hv
  · exact bad_end hl hv (by simp; omega) (by simp; omega) (by simp; omega) (by simp; omega)
end Go.Proofs.Ytdmmhainianadaa
