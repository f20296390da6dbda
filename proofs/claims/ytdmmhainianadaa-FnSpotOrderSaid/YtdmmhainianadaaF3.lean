/- F34: a document in which something is not as it was. -/
import Derived.Test.YtdmmhainianadaaProg
import Derived.Test.YtdmmhainianadaaRows
import Derived.Test.YtdmmhainianadaaV0
import Derived.Test.YtdmmhainianadaaV1
import Derived.Test.YtdmmhainianadaaF0
import Derived.Test.YtdmmhainianadaaF1
import Derived.Test.YtdmmhainianadaaF2
set_option linter.unusedSimpArgs false
set_option linter.unusedVariables false
set_option linter.unnecessarySimpa false
namespace Go.Proofs.Ytdmmhainianadaa
open Go.VM Go.Lim Go.Proofs.Try
attribute [local irreducible] vwp vops vstep vdr vdr1 CallP PPost SWv gdO gdD cdO optV optW optD thenV blockV behind callO callW callvO roundV
set_option linter.unusedSimpArgs false
set_option linter.unusedVariables false
/- loop.example/limner/spec.l71Odd -/
def vc138 : VCode :=
(.seq (.reg [⟨(some 3), (.box (.tmp 1)), none⟩, ⟨(some 4), (.new [(.slice none 0 0)]), none⟩])
(.seq (.reg [⟨(some 6), (.load true 1 (.tmp 3)), none⟩, ⟨(some 7), (.call 116 [(.tmp 6)]), none⟩, ⟨none, (.store 1 (.tmp 3) (.tmp 7)), none⟩])
(.seq (.reg [⟨(some 8), (.mov (.tmp 0)), none⟩, ⟨(some 9), (.fad 0 (.tmp 3)), none⟩, ⟨(some 10), (.load false 1 (.tmp 9)), none⟩, ⟨(some 11), (.len false (.tmp 10)), none⟩, ⟨(some 12), (.call 102 [(.tmp 8), (.tmp 11)]), none⟩, ⟨(some 5), (.mov (.tmp 12)), none⟩])
(.seq (.seq (.reg [⟨(some 13), (.mov (.tmp 0)), none⟩, ⟨(some 14), (.call 102 [(.tmp 13), (.const (.int .i64 7))]), none⟩])
(.block 0 (.seq (.reg [⟨(some 27), (.bin .eql .no (.tmp 14) (.const (.int .i64 0))), none⟩, ⟨(some 26), (.mov (.tmp 27)), none⟩])
 (.cond (.tmp 26) (.drw [(⟨(some 28), (.fad 0 (.tmp 3)), none⟩, []), (⟨(some 29), (.load false 1 (.tmp 28)), none⟩, []), (⟨(some 30), (.mov (.tmp 5)), none⟩, []), (⟨(some 31), (.mov (.tmp 0)), none⟩, []), (⟨(some 32), (.call 102 [(.tmp 31), (.const (.int .i64 5))]), none⟩, [1]), (⟨(some 33), (.iad 6 (.tmp 29) (.tmp 30)), none⟩, []), (⟨(some 34), (.fad 0 (.tmp 33)), none⟩, []), (⟨none, (.store 1 (.tmp 34) (.tmp 32)), none⟩, [])])
  (.seq (.reg [⟨(some 36), (.bin .eql .no (.tmp 14) (.const (.int .i64 1))), none⟩, ⟨(some 35), (.mov (.tmp 36)), none⟩])
  (.cond (.tmp 35) (.drw [(⟨(some 37), (.fad 0 (.tmp 3)), none⟩, []), (⟨(some 38), (.load false 1 (.tmp 37)), none⟩, []), (⟨(some 39), (.mov (.tmp 5)), none⟩, []), (⟨(some 40), (.mov (.tmp 0)), none⟩, []), (⟨(some 41), (.call 102 [(.tmp 40), (.const (.int .i64 6))]), none⟩, [1]), (⟨(some 42), (.bin .sub .no (.tmp 41) (.const (.int .i64 1))), none⟩, []), (⟨(some 43), (.iad 6 (.tmp 38) (.tmp 39)), none⟩, []), (⟨(some 44), (.fad 1 (.tmp 43)), none⟩, []), (⟨none, (.store 1 (.tmp 44) (.tmp 42)), none⟩, [])])
   (.seq (.reg [⟨(some 46), (.bin .eql .no (.tmp 14) (.const (.int .i64 2))), none⟩, ⟨(some 45), (.mov (.tmp 46)), none⟩])
   (.cond (.tmp 45) (.drw [(⟨(some 47), (.fad 0 (.tmp 3)), none⟩, []), (⟨(some 48), (.load false 1 (.tmp 47)), none⟩, []), (⟨(some 49), (.mov (.tmp 5)), none⟩, []), (⟨(some 50), (.mov (.tmp 0)), none⟩, []), (⟨(some 51), (.fad 0 (.tmp 3)), none⟩, []), (⟨(some 52), (.load false 1 (.tmp 51)), none⟩, [1]), (⟨(some 53), (.mov (.tmp 5)), none⟩, []), (⟨(some 54), (.iad 6 (.tmp 52) (.tmp 53)), none⟩, []), (⟨(some 55), (.fad 2 (.tmp 54)), none⟩, []), (⟨(some 56), (.load false 1 (.tmp 55)), none⟩, [1]), (⟨(some 57), (.call 170 [(.tmp 50), (.tmp 56)]), none⟩, [1]), (⟨(some 58), (.iad 6 (.tmp 48) (.tmp 49)), none⟩, []), (⟨(some 59), (.fad 2 (.tmp 58)), none⟩, []), (⟨none, (.store 1 (.tmp 59) (.tmp 57)), none⟩, [])])
    (.seq (.reg [⟨(some 61), (.bin .eql .no (.tmp 14) (.const (.int .i64 3))), none⟩, ⟨(some 60), (.mov (.tmp 61)), none⟩])
    (.cond (.tmp 60) (.drw [(⟨(some 62), (.fad 0 (.tmp 3)), none⟩, []), (⟨(some 63), (.load false 1 (.tmp 62)), none⟩, []), (⟨(some 64), (.mov (.tmp 5)), none⟩, []), (⟨(some 65), (.mov (.tmp 0)), none⟩, []), (⟨(some 66), (.call 171 [(.tmp 65)]), none⟩, [1]), (⟨(some 67), (.iad 6 (.tmp 63) (.tmp 64)), none⟩, []), (⟨(some 68), (.fad 3 (.tmp 67)), none⟩, []), (⟨none, (.store 3 (.tmp 68) (.tmp 66)), none⟩, [])])
     (.seq (.reg [⟨(some 70), (.bin .eql .no (.tmp 14) (.const (.int .i64 4))), none⟩, ⟨(some 69), (.mov (.tmp 70)), none⟩])
     (.cond (.tmp 69) (.block 1 (.loop (.seq (.seq (.drw [(⟨(some 71), (.fad 0 (.tmp 3)), none⟩, []), (⟨(some 72), (.load false 1 (.tmp 71)), none⟩, []), (⟨(some 73), (.len false (.tmp 72)), none⟩, []), (⟨(some 74), (.mov (.tmp 0)), none⟩, []), (⟨(some 75), (.call 102 [(.tmp 74), (.const (.int .i64 2))]), none⟩, [1]), (⟨(some 76), (.bin .add .no (.const (.int .i64 8)) (.tmp 75)), none⟩, []), (⟨(some 77), (.bin .lss .no (.tmp 73) (.tmp 76)), none⟩, [])])
        (.cond (.tmp 77) .skip
         (.exit 1)))
        (.block 2 (.reg [⟨(some 78), (.fad 0 (.tmp 3)), none⟩, ⟨(some 79), (.load false 1 (.tmp 78)), none⟩, ⟨(some 80), (.build [(.int .i64 0), (.int .i64 0), (.slice none 0 0), (.int .i64 0), (.int .i64 0), (.slice none 0 0)] [(0, 1, (.const (.int .i64 1)))]), none⟩, ⟨(some 81), (.bslice 6 1 [(.int .i64 0), (.int .i64 0), (.slice none 0 0), (.int .i64 0), (.int .i64 0), (.slice none 0 0)] [(0, 6, (.tmp 80))]), none⟩, ⟨(some 82), (.app 6 80 (.tmp 79) (.tmp 81)), none⟩, ⟨(some 83), (.fad 0 (.tmp 3)), none⟩, ⟨none, (.store 1 (.tmp 83) (.tmp 82)), none⟩])))))
      (.seq (.reg [⟨(some 85), (.bin .eql .no (.tmp 14) (.const (.int .i64 5))), none⟩, ⟨(some 84), (.mov (.tmp 85)), none⟩])
      (.cond (.tmp 84) (.drw [(⟨(some 86), (.mov (.tmp 0)), none⟩, []), (⟨(some 87), (.call 102 [(.tmp 86), (.const (.int .i64 2))]), none⟩, []), (⟨(some 88), (.bin .add .no (.const (.int .i64 1)) (.tmp 87)), none⟩, []), (⟨(some 89), (.build [(.int .i64 0), (.int .i64 0), (.slice none 0 0), (.int .i64 0), (.int .i64 0), (.slice none 0 0)] [(0, 1, (.const (.int .i64 2))), (1, 1, (.tmp 88))]), none⟩, []), (⟨(some 90), (.bslice 6 1 [(.int .i64 0), (.int .i64 0), (.slice none 0 0), (.int .i64 0), (.int .i64 0), (.slice none 0 0)] [(0, 6, (.tmp 89))]), none⟩, []), (⟨(some 91), (.fad 0 (.tmp 3)), none⟩, []), (⟨(some 92), (.load false 1 (.tmp 91)), none⟩, [1, 4]), (⟨(some 93), (.app 6 80 (.tmp 90) (.tmp 92)), none⟩, []), (⟨(some 94), (.fad 0 (.tmp 3)), none⟩, []), (⟨none, (.store 1 (.tmp 94) (.tmp 93)), none⟩, [])])
       (.drw [(⟨(some 15), (.fad 0 (.tmp 3)), none⟩, []), (⟨(some 16), (.load false 1 (.tmp 15)), none⟩, []), (⟨(some 17), (.mov (.tmp 5)), none⟩, []), (⟨(some 18), (.slice 6 (.tmp 16) none (some (.tmp 17))), none⟩, []), (⟨(some 19), (.fad 0 (.tmp 3)), none⟩, []), (⟨(some 20), (.load false 1 (.tmp 19)), none⟩, [1]), (⟨(some 21), (.mov (.tmp 5)), none⟩, []), (⟨(some 22), (.bin .add .no (.tmp 21) (.const (.int .i64 1))), none⟩, []), (⟨(some 23), (.slice 6 (.tmp 20) (some (.tmp 22)) none), none⟩, []), (⟨(some 24), (.app 6 80 (.tmp 18) (.tmp 23)), none⟩, []), (⟨(some 25), (.fad 0 (.tmp 3)), none⟩, []), (⟨none, (.store 1 (.tmp 25) (.tmp 24)), none⟩, [])])))))))))))))))
(.seq (.reg [⟨(some 95), (.load true 1 (.tmp 3)), none⟩, ⟨none, (.store 1 (.tmp 4) (.tmp 95)), none⟩])
.ret)))))
theorem k138 : compFn prog 138 = some (96, vc138, [.c 4 true 1]) := by kernel_rfl
theorem flat_length {α : Type} {enc : α → List VV} {z : Nat} (hz : ∀ x, (enc x).length = z) (l : List α) : (l.map enc).flatten.length = l.length * z := by
  induction l with
  | nil => simp
  | cons c l ih => simp only [List.map_cons, List.flatten_cons, List.length_append, ih, hz, List.length_cons, Nat.succ_mul]; omega
theorem take_flat {α : Type} {enc : α → List VV} {z : Nat} (hz : ∀ x, (enc x).length = z) (l : List α) {i : Nat} (h : i < l.length) {j : Nat} (hj : j ≤ z) : ((l.map enc).flatten).take (i * z + j) = ((l.take i).map enc).flatten ++ (enc l[i]).take j := by
  have e : (l.map enc).flatten = ((l.take i).map enc).flatten ++ (enc l[i] ++ ((l.drop (i + 1)).map enc).flatten) := by
    conv => lhs; rw [← List.take_append_drop i l, List.drop_eq_getElem_cons h, List.map_append, List.flatten_append, List.map_cons, List.flatten_cons]
  have e2 : ((l.take i).map enc).flatten.length = i * z := by rw [flat_length hz, List.length_take, Nat.min_eq_left (Nat.le_of_lt h)]
  rw [e, List.take_append, e2, List.take_of_length_le (by omega), show i * z + j - i * z = j by omega, List.take_append_of_le_length (by rw [hz]; exact hj)]
theorem set_flat {α : Type} {enc : α → List VV} (l : List α) {i : Nat} (h : i < l.length) {x : α} : ((l.set i x).map enc).flatten = ((l.take i).map enc).flatten ++ (enc x ++ ((l.drop (i + 1)).map enc).flatten) := by
  rw [List.set_eq_take_append_cons_drop, if_pos h]
  simp
theorem frz_ocC (l : List Cell) : (ocC l).frz = encC l := by
  have h2 : VV.frzR (l.map Cell.enc) = l.map Cell.enc := frzR_map (fun _ => rfl) _
  unfold ocC encC
  split
  · rename_i h; simp [VV.frz, h]
  · simp [VV.frz, h2]
theorem frz_blk (x : Block) : VV.frzL (blkO x) = x.enc := by
  have h1 : VV.frzR (x.text.map Sign.enc) = x.text.map Sign.enc := frzR_map (fun _ => rfl) _
  have h2 : VV.frzR (x.table.cells.map Cell.enc) = x.table.cells.map Cell.enc := frzR_map (fun _ => rfl) _
  unfold blkO ocC Block.enc encT encC
  split
  · rename_i h; simp [VV.frzL, VV.frz, h1, h]
  · simp [VV.frzL, VV.frz, h1, h2]
theorem frz_enc (x : Block) : VV.frzL x.enc = x.enc := by rfl
theorem frz_doc (d : Doc) : VV.frzL (encOF d) = (d.map Block.enc).flatten := frzL_flat frz_blk d
theorem DrD.sm {d : Doc} (h : DrD d) (hl : d.length ≤ 20) : docSm d := by
  refine ⟨by omega, fun x hx => ?_⟩
  obtain ⟨_, _, h1, h2, h3⟩ := h x hx
  exact ⟨by omega, by omega, fun c hc => by have := h3 c hc; unfold Cell.sm; omega⟩
/-- What a spoilt document is: small, but it need not be in form. -/
def SmB (x : Block) : Prop := x.text.length ≤ 40 ∧ x.table.cells.length ≤ 40 ∧ ∀ c ∈ x.table.cells, c.text.length ≤ 40
def SmD (d : Doc) : Prop := d.length ≤ 20 ∧ ∀ x ∈ d, SmB x
theorem DrB.smb {x : Block} (h : DrB x) : SmB x := by
  obtain ⟨_, _, h1, h2, h3⟩ := h
  exact ⟨by omega, by omega, fun c hc => by have := h3 c hc; omega⟩
theorem SmD.sm {d : Doc} (h : SmD d) : docSm d := by
  refine ⟨by have := h.1; omega, fun x hx => ?_⟩
  obtain ⟨h1, h2, h3⟩ := h.2 x hx
  exact ⟨by omega, by omega, fun c hc => by have := h3 c hc; unfold Cell.sm; omega⟩
theorem SmD.set {d : Doc} (hl : d.length ≤ 20) (h : DrD d) {k : Nat} {x : Block} (hx : SmB x) : SmD (d.set k x) := by
  refine ⟨by simpa using hl, fun y hy => ?_⟩
  rcases List.mem_or_eq_of_mem_set hy with h' | h'
  · exact (h y h').smb
  · exact h' ▸ hx
theorem frnB {ks : List Nat} {H : Heap} {k : Nat} {l : Doc} {cs : List VV} (hk : k ∉ ks) (hc : H k = some cs) (h : CellsC ks H cs (l.map Block.enc).flatten) : Conv (tau ks) H (fun k => k ∉ ks) ks.length (.rf k 0 l.length 6) (.sl 6 (l.map Block.enc)) := by
  have e : (cs.drop 0).take (l.length * 6) = cs := by rw [List.drop_zero, List.take_of_length_le (by rw [h.get.1, flatB_len]; omega)]
  refine .frn hk hc (by simp) (by rw [e]; exact h.get.1) (fun j x y hx hy => ?_) (fun r hr => ?_) (flatB_clo _)
  · rw [e] at hx; exact (h.get.2 j x y hx hy).1
  · obtain ⟨c, _, rfl⟩ := List.mem_map.1 hr; rfl
def OddC (b : List Int) (p : Int) (d : Doc) : Prop := ∃ (d' : Doc) (p' : Int), (p ≤ p' ∧ p' ≤ p + 10000) ∧ SmD d' ∧ ObjC prog 138 [.pt 0 0, .agg [encB d]] [[encBy b, .sc (.int .i64 p)]] (.agg [encB d']) [(0, [encBy b, .sc (.int .i64 p')])] 1
theorem odd_0 {b : List Int} (hr : Rd b) {p : Int} {d : Doc} {k : Nat} (h0 : 0 ≤ p) (h1 : p + 50000 < 1073741824) (hd : DrD d) (hl1 : 1 ≤ d.length) (hl2 : d.length ≤ 6) (hk : k < d.length)
    (hck : ObjC prog 102 [.pt 0 0, .sc (.int .i64 d.length)] [[encBy b, .sc (.int .i64 p)]] (.sc (.int .i64 k)) [(0, [encBy b, .sc (.int .i64 (p + 1))])] 1)
    (hcv : ObjC prog 102 [.pt 0 0, .sc (.int .i64 7)] [[encBy b, .sc (.int .i64 (p + 1))]] (.sc (.int .i64 0)) [(0, [encBy b, .sc (.int .i64 (p + 1 + 1))])] 1) : OddC b p d := by
  have h116 := c116 d (hd.sm (by omega))
  have hne : ¬ d = [] := by intro h; rw [h] at hl1; simp at hl1
  unfold cdR cdH cdN at h116
  rw [if_neg hne, if_neg hne, if_neg hne] at h116
  have hkl : (k : Int) < (d.length : Int) := by omega
  have hk0 : (0 : Int) ≤ (k : Int) := by omega
  have hfl := flatB_len d
  obtain ⟨u, u0, u1, hu⟩ := pk hr (p := p + 1 + 1) (by omega) (by omega) 5
  have t0 : ((d.map Block.enc).flatten).take (k * 6) = ((d.take k).map Block.enc).flatten := by have := take_flat Block.encLen d hk (j := 0) (by omega); simpa using this
  have d1 : ((d.map Block.enc).flatten).drop (k * 6 + 1) = (d[k].enc.drop 1) ++ ((d.drop (k + 1)).map Block.enc).flatten := drop_flat Block.encLen d hk (j := 1) (by omega)
  have l1 : k * 6 + 1 ≤ d.length * 6 := by omega
  obtain ⟨d', hd'⟩ : ∃ d', d' = d.set k { d[k] with kind := u } := ⟨_, rfl⟩
  refine ⟨d', p + 1 + 1 + 1, by omega, by rw [hd']; exact SmD.set (by omega) hd (hd d[k] (List.getElem_mem hk)).smb, ?_⟩
  replace hd' := Kept.mk hd'
  have hx := Block.encLen d[k]
  have ec : (d[k]).enc = [.sc (.int .i64 (d[k]).kind), .sc (.int .i64 (d[k]).level), .sl 3 ((d[k]).text.map Sign.enc), .sc (.int .i64 (d[k]).table.rows), .sc (.int .i64 (d[k]).table.cols), .sl 5 ((d[k]).table.cells.map Cell.enc)] := rfl
  unfold encBy encB at *
  clear h0 h1 hr
  refine objC_of k138 (by simp) (by simp) (by simp [wfO, VV.underL, VV.under]) ?_
  intro X hP hm hH hn hX
  change X.n = 1 at hn
  unfold vc138
  refine SWv.seq (vwp_ok _ ?_)
  repeat' (first
    | simp only [go_sem, reduceCtorEq, reduceIte, Nat.reduceAdd, Nat.reduceEqDiff, Nat.reduceLeDiff, Nat.reduceMul, *]
    | refine gdO_bool' _ (fun _ => ?_) (fun _ => ?_)
    | refine gdO_bool _ (fun _ => ?_) (fun _ => ?_)
    | refine gdD_bool' _ (fun _ => ?_) (fun _ => ?_)
    | refine gdD_bool _ (fun _ => ?_) (fun _ => ?_)
    | refine cdO_bool' _ (fun _ => ?_) (fun _ => ?_)
    | refine cdO_bool _ (fun _ => ?_) (fun _ => ?_)
    | refine ⟨by decide, ?_⟩
    | refine ppost_t (by simp) rfl ?_)
  refine SWv.seq (vwp_ok _ ?_)
  repeat' (first
    | simp only [go_sem, reduceCtorEq, reduceIte, Nat.reduceAdd, Nat.reduceEqDiff, Nat.reduceLeDiff, Nat.reduceMul, Nat.reduceSub, encOF_ren, *]
    | refine gdO_bool' _ (fun _ => ?_) (fun _ => ?_)
    | refine gdO_bool _ (fun _ => ?_) (fun _ => ?_)
    | refine gdD_bool' _ (fun _ => ?_) (fun _ => ?_)
    | refine gdD_bool _ (fun _ => ?_) (fun _ => ?_)
    | refine cdO_bool' _ (fun _ => ?_) (fun _ => ?_)
    | refine cdO_bool _ (fun _ => ?_) (fun _ => ?_)
    | (refine callO.obj [] (h116) ?_ rfl (by decide) ?_ ?_
       · simp only [go_sem, reduceCtorEq, reduceIte, Nat.reduceAdd, Nat.reduceEqDiff, Nat.reduceLeDiff, Nat.reduceMul, Nat.reduceSub, encOF_ren, *]
       · repeat' (first | exact HIs_nil | refine HIs_cons ?_ ?_ | (simp only [go_sem, reduceCtorEq, reduceIte, Nat.reduceAdd, Nat.reduceEqDiff, Nat.reduceLeDiff, Nat.reduceMul, Nat.reduceSub, encOF_ren, *]; done)))
    | (refine callW.obj [] (h116) rfl ?_ rfl (by decide) ?_ (by simp [okInc, Disj]) ?_
       · simp only [go_sem, reduceCtorEq, reduceIte, Nat.reduceAdd, Nat.reduceEqDiff, Nat.reduceLeDiff, Nat.reduceMul, Nat.reduceSub, encOF_ren, *]
       · repeat' (first | exact HIs_nil | refine HIs_cons ?_ ?_ | (simp only [go_sem, reduceCtorEq, reduceIte, Nat.reduceAdd, Nat.reduceEqDiff, Nat.reduceLeDiff, Nat.reduceMul, Nat.reduceSub, encOF_ren, *]; done)))
    | refine ⟨by decide, ?_⟩
    | fail)
  have e0 : ((0 : Int) == 0) = true := rfl
  refine SWv.seen hX (Vw.melt (k := 4) (cs := encOF d) (by simp only [go_sem, reduceCtorEq, reduceIte, Nat.reduceAdd, Nat.reduceEqDiff, Nat.reduceLeDiff, Nat.reduceMul]) (encOF_clo d)) ?_
  rw [frz_doc]
  refine vwp_ok _ ?_
  clear h116
  repeat' (first
    | simp only [go_sem, reduceCtorEq, reduceIte, Nat.reduceAdd, Nat.reduceEqDiff, Nat.reduceLeDiff, Nat.reduceMul, Nat.reduceSub, *]
    | refine gdO_bool' _ (fun _ => ?_) (fun _ => ?_)
    | refine gdO_bool _ (fun _ => ?_) (fun _ => ?_)
    | refine gdD_bool' _ (fun _ => ?_) (fun _ => ?_)
    | refine gdD_bool _ (fun _ => ?_) (fun _ => ?_)
    | refine cdO_bool' _ (fun _ => ?_) (fun _ => ?_)
    | refine cdO_bool _ (fun _ => ?_) (fun _ => ?_)
    | (refine callO.obj [0] (hck) ?_ rfl (by decide) ?_ ?_
       · simp only [go_sem, reduceCtorEq, reduceIte, Nat.reduceAdd, Nat.reduceEqDiff, Nat.reduceLeDiff, Nat.reduceMul, Nat.reduceSub, *]
       · repeat' (first | exact HIs_nil | refine HIs_cons ?_ ?_ | (simp only [go_sem, reduceCtorEq, reduceIte, Nat.reduceAdd, Nat.reduceEqDiff, Nat.reduceLeDiff, Nat.reduceMul, Nat.reduceSub, *]; done)))
    | (refine callW.obj [0] (hck) rfl ?_ rfl (by decide) ?_ (by simp [okInc, Disj]) ?_
       · simp only [go_sem, reduceCtorEq, reduceIte, Nat.reduceAdd, Nat.reduceEqDiff, Nat.reduceLeDiff, Nat.reduceMul, Nat.reduceSub, *]
       · repeat' (first | exact HIs_nil | refine HIs_cons ?_ ?_ | (simp only [go_sem, reduceCtorEq, reduceIte, Nat.reduceAdd, Nat.reduceEqDiff, Nat.reduceLeDiff, Nat.reduceMul, Nat.reduceSub, *]; done)))
    | (refine callO.obj [0] (hcv) ?_ rfl (by decide) ?_ ?_
       · simp only [go_sem, reduceCtorEq, reduceIte, Nat.reduceAdd, Nat.reduceEqDiff, Nat.reduceLeDiff, Nat.reduceMul, Nat.reduceSub, *]
       · repeat' (first | exact HIs_nil | refine HIs_cons ?_ ?_ | (simp only [go_sem, reduceCtorEq, reduceIte, Nat.reduceAdd, Nat.reduceEqDiff, Nat.reduceLeDiff, Nat.reduceMul, Nat.reduceSub, *]; done)))
    | (refine callW.obj [0] (hcv) rfl ?_ rfl (by decide) ?_ (by simp [okInc, Disj]) ?_
       · simp only [go_sem, reduceCtorEq, reduceIte, Nat.reduceAdd, Nat.reduceEqDiff, Nat.reduceLeDiff, Nat.reduceMul, Nat.reduceSub, *]
       · repeat' (first | exact HIs_nil | refine HIs_cons ?_ ?_ | (simp only [go_sem, reduceCtorEq, reduceIte, Nat.reduceAdd, Nat.reduceEqDiff, Nat.reduceLeDiff, Nat.reduceMul, Nat.reduceSub, *]; done)))
    | (refine callO.obj [0] (hu) ?_ rfl (by decide) ?_ ?_
       · simp only [go_sem, reduceCtorEq, reduceIte, Nat.reduceAdd, Nat.reduceEqDiff, Nat.reduceLeDiff, Nat.reduceMul, Nat.reduceSub, *]
       · repeat' (first | exact HIs_nil | refine HIs_cons ?_ ?_ | (simp only [go_sem, reduceCtorEq, reduceIte, Nat.reduceAdd, Nat.reduceEqDiff, Nat.reduceLeDiff, Nat.reduceMul, Nat.reduceSub, *]; done)))
    | (refine callW.obj [0] (hu) rfl ?_ rfl (by decide) ?_ (by simp [okInc, Disj]) ?_
       · simp only [go_sem, reduceCtorEq, reduceIte, Nat.reduceAdd, Nat.reduceEqDiff, Nat.reduceLeDiff, Nat.reduceMul, Nat.reduceSub, *]
       · repeat' (first | exact HIs_nil | refine HIs_cons ?_ ?_ | (simp only [go_sem, reduceCtorEq, reduceIte, Nat.reduceAdd, Nat.reduceEqDiff, Nat.reduceLeDiff, Nat.reduceMul, Nat.reduceSub, *]; done)))
    | refine ⟨by decide, ?_⟩
    | fail)
  refine ⟨by simp, _, by simp only [go_sem, reduceCtorEq, reduceIte, Nat.reduceAdd, Nat.reduceEqDiff, Nat.reduceLeDiff, Nat.reduceMul, resV]; rfl, ?_⟩
  refine EndV.of hn [0] _ (by simp) (by simp [tau]) (by simp) (Conv.aggOf (.cons ?_ rfl .nil)) (HConv.same (by decide) (by first | rfl | (simp only [go_sem, reduceCtorEq, reduceIte, Nat.reduceAdd, Nat.reduceEqDiff, Nat.reduceLeDiff, Nat.reduceMul, *] <;> rfl)) rfl HConv.nil)
  rw [show d.length = d'.length by rw [hd'.out]; simp]
  refine frB (by simp) ?_
  simp only [go_sem, reduceCtorEq, reduceIte, Nat.reduceAdd, Nat.reduceEqDiff, Nat.reduceLeDiff, Nat.reduceMul]
  rw [hd'.out, set_flat d hk]
  simp [Block.enc, encT, encC]
theorem odd_1 {b : List Int} (hr : Rd b) {p : Int} {d : Doc} {k : Nat} (h0 : 0 ≤ p) (h1 : p + 50000 < 1073741824) (hd : DrD d) (hl1 : 1 ≤ d.length) (hl2 : d.length ≤ 6) (hk : k < d.length)
    (hck : ObjC prog 102 [.pt 0 0, .sc (.int .i64 d.length)] [[encBy b, .sc (.int .i64 p)]] (.sc (.int .i64 k)) [(0, [encBy b, .sc (.int .i64 (p + 1))])] 1)
    (hcv : ObjC prog 102 [.pt 0 0, .sc (.int .i64 7)] [[encBy b, .sc (.int .i64 (p + 1))]] (.sc (.int .i64 1)) [(0, [encBy b, .sc (.int .i64 (p + 1 + 1))])] 1) : OddC b p d := by
  have h116 := c116 d (hd.sm (by omega))
  have hne : ¬ d = [] := by intro h; rw [h] at hl1; simp at hl1
  unfold cdR cdH cdN at h116
  rw [if_neg hne, if_neg hne, if_neg hne] at h116
  have hkl : (k : Int) < (d.length : Int) := by omega
  have hk0 : (0 : Int) ≤ (k : Int) := by omega
  have hfl := flatB_len d
  obtain ⟨u, u0, u1, hu⟩ := pk hr (p := p + 1 + 1) (by omega) (by omega) 6
  have u1 := u1 (by omega)
  have wu : IntKind.i64.wrap (u - 1) = u - 1 := by rw [wrap_id] <;> omega
  have t1 : ((d.map Block.enc).flatten).take (k * 6 + 1) = ((d.take k).map Block.enc).flatten ++ d[k].enc.take 1 := take_flat Block.encLen d hk (j := 1) (by omega)
  have d2 : ((d.map Block.enc).flatten).drop (k * 6 + 2) = (d[k].enc.drop 2) ++ ((d.drop (k + 1)).map Block.enc).flatten := drop_flat Block.encLen d hk (j := 2) (by omega)
  have l2 : k * 6 + 2 ≤ d.length * 6 := by omega
  obtain ⟨d', hd'⟩ : ∃ d', d' = d.set k { d[k] with level := u - 1 } := ⟨_, rfl⟩
  refine ⟨d', p + 1 + 1 + 1, by omega, by rw [hd']; exact SmD.set (by omega) hd (hd d[k] (List.getElem_mem hk)).smb, ?_⟩
  replace hd' := Kept.mk hd'
  have hx := Block.encLen d[k]
  have ec : (d[k]).enc = [.sc (.int .i64 (d[k]).kind), .sc (.int .i64 (d[k]).level), .sl 3 ((d[k]).text.map Sign.enc), .sc (.int .i64 (d[k]).table.rows), .sc (.int .i64 (d[k]).table.cols), .sl 5 ((d[k]).table.cells.map Cell.enc)] := rfl
  unfold encBy encB at *
  clear h0 h1 hr
  refine objC_of k138 (by simp) (by simp) (by simp [wfO, VV.underL, VV.under]) ?_
  intro X hP hm hH hn hX
  change X.n = 1 at hn
  unfold vc138
  refine SWv.seq (vwp_ok _ ?_)
  repeat' (first
    | simp only [go_sem, reduceCtorEq, reduceIte, Nat.reduceAdd, Nat.reduceEqDiff, Nat.reduceLeDiff, Nat.reduceMul, *]
    | refine gdO_bool' _ (fun _ => ?_) (fun _ => ?_)
    | refine gdO_bool _ (fun _ => ?_) (fun _ => ?_)
    | refine gdD_bool' _ (fun _ => ?_) (fun _ => ?_)
    | refine gdD_bool _ (fun _ => ?_) (fun _ => ?_)
    | refine cdO_bool' _ (fun _ => ?_) (fun _ => ?_)
    | refine cdO_bool _ (fun _ => ?_) (fun _ => ?_)
    | refine ⟨by decide, ?_⟩
    | refine ppost_t (by simp) rfl ?_)
  refine SWv.seq (vwp_ok _ ?_)
  repeat' (first
    | simp only [go_sem, reduceCtorEq, reduceIte, Nat.reduceAdd, Nat.reduceEqDiff, Nat.reduceLeDiff, Nat.reduceMul, Nat.reduceSub, encOF_ren, *]
    | refine gdO_bool' _ (fun _ => ?_) (fun _ => ?_)
    | refine gdO_bool _ (fun _ => ?_) (fun _ => ?_)
    | refine gdD_bool' _ (fun _ => ?_) (fun _ => ?_)
    | refine gdD_bool _ (fun _ => ?_) (fun _ => ?_)
    | refine cdO_bool' _ (fun _ => ?_) (fun _ => ?_)
    | refine cdO_bool _ (fun _ => ?_) (fun _ => ?_)
    | (refine callO.obj [] (h116) ?_ rfl (by decide) ?_ ?_
       · simp only [go_sem, reduceCtorEq, reduceIte, Nat.reduceAdd, Nat.reduceEqDiff, Nat.reduceLeDiff, Nat.reduceMul, Nat.reduceSub, encOF_ren, *]
       · repeat' (first | exact HIs_nil | refine HIs_cons ?_ ?_ | (simp only [go_sem, reduceCtorEq, reduceIte, Nat.reduceAdd, Nat.reduceEqDiff, Nat.reduceLeDiff, Nat.reduceMul, Nat.reduceSub, encOF_ren, *]; done)))
    | (refine callW.obj [] (h116) rfl ?_ rfl (by decide) ?_ (by simp [okInc, Disj]) ?_
       · simp only [go_sem, reduceCtorEq, reduceIte, Nat.reduceAdd, Nat.reduceEqDiff, Nat.reduceLeDiff, Nat.reduceMul, Nat.reduceSub, encOF_ren, *]
       · repeat' (first | exact HIs_nil | refine HIs_cons ?_ ?_ | (simp only [go_sem, reduceCtorEq, reduceIte, Nat.reduceAdd, Nat.reduceEqDiff, Nat.reduceLeDiff, Nat.reduceMul, Nat.reduceSub, encOF_ren, *]; done)))
    | refine ⟨by decide, ?_⟩
    | fail)
  have e0 : ((1 : Int) == 0) = false := rfl
  have e1 : ((1 : Int) == 1) = true := rfl
  refine SWv.seen hX (Vw.melt (k := 4) (cs := encOF d) (by simp only [go_sem, reduceCtorEq, reduceIte, Nat.reduceAdd, Nat.reduceEqDiff, Nat.reduceLeDiff, Nat.reduceMul]) (encOF_clo d)) ?_
  rw [frz_doc]
  refine vwp_ok _ ?_
  clear h116
  repeat' (first
    | simp only [go_sem, reduceCtorEq, reduceIte, Nat.reduceAdd, Nat.reduceEqDiff, Nat.reduceLeDiff, Nat.reduceMul, Nat.reduceSub, *]
    | refine gdO_bool' _ (fun _ => ?_) (fun _ => ?_)
    | refine gdO_bool _ (fun _ => ?_) (fun _ => ?_)
    | refine gdD_bool' _ (fun _ => ?_) (fun _ => ?_)
    | refine gdD_bool _ (fun _ => ?_) (fun _ => ?_)
    | refine cdO_bool' _ (fun _ => ?_) (fun _ => ?_)
    | refine cdO_bool _ (fun _ => ?_) (fun _ => ?_)
    | (refine callO.obj [0] (hck) ?_ rfl (by decide) ?_ ?_
       · simp only [go_sem, reduceCtorEq, reduceIte, Nat.reduceAdd, Nat.reduceEqDiff, Nat.reduceLeDiff, Nat.reduceMul, Nat.reduceSub, *]
       · repeat' (first | exact HIs_nil | refine HIs_cons ?_ ?_ | (simp only [go_sem, reduceCtorEq, reduceIte, Nat.reduceAdd, Nat.reduceEqDiff, Nat.reduceLeDiff, Nat.reduceMul, Nat.reduceSub, *]; done)))
    | (refine callW.obj [0] (hck) rfl ?_ rfl (by decide) ?_ (by simp [okInc, Disj]) ?_
       · simp only [go_sem, reduceCtorEq, reduceIte, Nat.reduceAdd, Nat.reduceEqDiff, Nat.reduceLeDiff, Nat.reduceMul, Nat.reduceSub, *]
       · repeat' (first | exact HIs_nil | refine HIs_cons ?_ ?_ | (simp only [go_sem, reduceCtorEq, reduceIte, Nat.reduceAdd, Nat.reduceEqDiff, Nat.reduceLeDiff, Nat.reduceMul, Nat.reduceSub, *]; done)))
    | (refine callO.obj [0] (hcv) ?_ rfl (by decide) ?_ ?_
       · simp only [go_sem, reduceCtorEq, reduceIte, Nat.reduceAdd, Nat.reduceEqDiff, Nat.reduceLeDiff, Nat.reduceMul, Nat.reduceSub, *]
       · repeat' (first | exact HIs_nil | refine HIs_cons ?_ ?_ | (simp only [go_sem, reduceCtorEq, reduceIte, Nat.reduceAdd, Nat.reduceEqDiff, Nat.reduceLeDiff, Nat.reduceMul, Nat.reduceSub, *]; done)))
    | (refine callW.obj [0] (hcv) rfl ?_ rfl (by decide) ?_ (by simp [okInc, Disj]) ?_
       · simp only [go_sem, reduceCtorEq, reduceIte, Nat.reduceAdd, Nat.reduceEqDiff, Nat.reduceLeDiff, Nat.reduceMul, Nat.reduceSub, *]
       · repeat' (first | exact HIs_nil | refine HIs_cons ?_ ?_ | (simp only [go_sem, reduceCtorEq, reduceIte, Nat.reduceAdd, Nat.reduceEqDiff, Nat.reduceLeDiff, Nat.reduceMul, Nat.reduceSub, *]; done)))
    | (refine callO.obj [0] (hu) ?_ rfl (by decide) ?_ ?_
       · simp only [go_sem, reduceCtorEq, reduceIte, Nat.reduceAdd, Nat.reduceEqDiff, Nat.reduceLeDiff, Nat.reduceMul, Nat.reduceSub, *]
       · repeat' (first | exact HIs_nil | refine HIs_cons ?_ ?_ | (simp only [go_sem, reduceCtorEq, reduceIte, Nat.reduceAdd, Nat.reduceEqDiff, Nat.reduceLeDiff, Nat.reduceMul, Nat.reduceSub, *]; done)))
    | (refine callW.obj [0] (hu) rfl ?_ rfl (by decide) ?_ (by simp [okInc, Disj]) ?_
       · simp only [go_sem, reduceCtorEq, reduceIte, Nat.reduceAdd, Nat.reduceEqDiff, Nat.reduceLeDiff, Nat.reduceMul, Nat.reduceSub, *]
       · repeat' (first | exact HIs_nil | refine HIs_cons ?_ ?_ | (simp only [go_sem, reduceCtorEq, reduceIte, Nat.reduceAdd, Nat.reduceEqDiff, Nat.reduceLeDiff, Nat.reduceMul, Nat.reduceSub, *]; done)))
    | refine ⟨by decide, ?_⟩
    | fail)
  refine ⟨by simp, _, by simp only [go_sem, reduceCtorEq, reduceIte, Nat.reduceAdd, Nat.reduceEqDiff, Nat.reduceLeDiff, Nat.reduceMul, resV]; rfl, ?_⟩
  refine EndV.of hn [0] _ (by simp) (by simp [tau]) (by simp) (Conv.aggOf (.cons ?_ rfl .nil)) (HConv.same (by decide) (by first | rfl | (simp only [go_sem, reduceCtorEq, reduceIte, Nat.reduceAdd, Nat.reduceEqDiff, Nat.reduceLeDiff, Nat.reduceMul, *] <;> rfl)) rfl HConv.nil)
  rw [show d.length = d'.length by rw [hd'.out]; simp]
  refine frB (by simp) ?_
  simp only [go_sem, reduceCtorEq, reduceIte, Nat.reduceAdd, Nat.reduceEqDiff, Nat.reduceLeDiff, Nat.reduceMul]
  rw [hd'.out, set_flat d hk]
  simp [Block.enc, encT, encC]
theorem odd_3 {b : List Int} (hr : Rd b) {p : Int} {d : Doc} {k : Nat} (h0 : 0 ≤ p) (h1 : p + 50000 < 1073741824) (hd : DrD d) (hl1 : 1 ≤ d.length) (hl2 : d.length ≤ 6) (hk : k < d.length)
    (hck : ObjC prog 102 [.pt 0 0, .sc (.int .i64 d.length)] [[encBy b, .sc (.int .i64 p)]] (.sc (.int .i64 k)) [(0, [encBy b, .sc (.int .i64 (p + 1))])] 1)
    (hcv : ObjC prog 102 [.pt 0 0, .sc (.int .i64 7)] [[encBy b, .sc (.int .i64 (p + 1))]] (.sc (.int .i64 3)) [(0, [encBy b, .sc (.int .i64 (p + 1 + 1))])] 1) : OddC b p d := by
  have h116 := c116 d (hd.sm (by omega))
  have hne : ¬ d = [] := by intro h; rw [h] at hl1; simp at hl1
  unfold cdR cdH cdN at h116
  rw [if_neg hne, if_neg hne, if_neg hne] at h116
  have hkl : (k : Int) < (d.length : Int) := by omega
  have hk0 : (0 : Int) ≤ (k : Int) := by omega
  have hfl := flatB_len d
  obtain ⟨tb, pt, ⟨ht1, ht2⟩, hD, hT⟩ := c171 hr (p := p + 1 + 1) (by omega) (by omega)
  have t3 : ((d.map Block.enc).flatten).take (k * 6 + 3) = ((d.take k).map Block.enc).flatten ++ d[k].enc.take 3 := take_flat Block.encLen d hk (j := 3) (by omega)
  have d6 : ((d.map Block.enc).flatten).drop (k * 6 + 6) = (d[k].enc.drop 6) ++ ((d.drop (k + 1)).map Block.enc).flatten := drop_flat Block.encLen d hk (j := 6) (by omega)
  have l6 : k * 6 + 6 ≤ d.length * 6 := by omega
  obtain ⟨d', hd'⟩ : ∃ d', d' = d.set k { d[k] with table := tb } := ⟨_, rfl⟩
  refine ⟨d', pt, by omega, by rw [hd']; exact SmD.set (by omega) hd (by obtain ⟨_, _, h1, _, _⟩ := hd d[k] (List.getElem_mem hk); exact ⟨by show (d[k]).text.length ≤ 40; omega, by show tb.cells.length ≤ 40; have := hD.2.2.2.2.1; omega, fun c hc => by have := hD.2.2.2.2.2 c hc; omega⟩), ?_⟩
  replace hd' := Kept.mk hd'
  have hx := Block.encLen d[k]
  have ec : (d[k]).enc = [.sc (.int .i64 (d[k]).kind), .sc (.int .i64 (d[k]).level), .sl 3 ((d[k]).text.map Sign.enc), .sc (.int .i64 (d[k]).table.rows), .sc (.int .i64 (d[k]).table.cols), .sl 5 ((d[k]).table.cells.map Cell.enc)] := rfl
  unfold encBy encB at *
  clear h0 h1 hr
  refine objC_of k138 (by simp) (by simp) (by simp [wfO, VV.underL, VV.under]) ?_
  intro X hP hm hH hn hX
  change X.n = 1 at hn
  unfold vc138
  refine SWv.seq (vwp_ok _ ?_)
  repeat' (first
    | simp only [go_sem, reduceCtorEq, reduceIte, Nat.reduceAdd, Nat.reduceEqDiff, Nat.reduceLeDiff, Nat.reduceMul, *]
    | refine gdO_bool' _ (fun _ => ?_) (fun _ => ?_)
    | refine gdO_bool _ (fun _ => ?_) (fun _ => ?_)
    | refine gdD_bool' _ (fun _ => ?_) (fun _ => ?_)
    | refine gdD_bool _ (fun _ => ?_) (fun _ => ?_)
    | refine cdO_bool' _ (fun _ => ?_) (fun _ => ?_)
    | refine cdO_bool _ (fun _ => ?_) (fun _ => ?_)
    | refine ⟨by decide, ?_⟩
    | refine ppost_t (by simp) rfl ?_)
  refine SWv.seq (vwp_ok _ ?_)
  repeat' (first
    | simp only [go_sem, reduceCtorEq, reduceIte, Nat.reduceAdd, Nat.reduceEqDiff, Nat.reduceLeDiff, Nat.reduceMul, Nat.reduceSub, encOF_ren, *]
    | refine gdO_bool' _ (fun _ => ?_) (fun _ => ?_)
    | refine gdO_bool _ (fun _ => ?_) (fun _ => ?_)
    | refine gdD_bool' _ (fun _ => ?_) (fun _ => ?_)
    | refine gdD_bool _ (fun _ => ?_) (fun _ => ?_)
    | refine cdO_bool' _ (fun _ => ?_) (fun _ => ?_)
    | refine cdO_bool _ (fun _ => ?_) (fun _ => ?_)
    | (refine callO.obj [] (h116) ?_ rfl (by decide) ?_ ?_
       · simp only [go_sem, reduceCtorEq, reduceIte, Nat.reduceAdd, Nat.reduceEqDiff, Nat.reduceLeDiff, Nat.reduceMul, Nat.reduceSub, encOF_ren, *]
       · repeat' (first | exact HIs_nil | refine HIs_cons ?_ ?_ | (simp only [go_sem, reduceCtorEq, reduceIte, Nat.reduceAdd, Nat.reduceEqDiff, Nat.reduceLeDiff, Nat.reduceMul, Nat.reduceSub, encOF_ren, *]; done)))
    | (refine callW.obj [] (h116) rfl ?_ rfl (by decide) ?_ (by simp [okInc, Disj]) ?_
       · simp only [go_sem, reduceCtorEq, reduceIte, Nat.reduceAdd, Nat.reduceEqDiff, Nat.reduceLeDiff, Nat.reduceMul, Nat.reduceSub, encOF_ren, *]
       · repeat' (first | exact HIs_nil | refine HIs_cons ?_ ?_ | (simp only [go_sem, reduceCtorEq, reduceIte, Nat.reduceAdd, Nat.reduceEqDiff, Nat.reduceLeDiff, Nat.reduceMul, Nat.reduceSub, encOF_ren, *]; done)))
    | refine ⟨by decide, ?_⟩
    | fail)
  have e0 : ((3 : Int) == 0) = false := rfl
  have e1 : ((3 : Int) == 1) = false := rfl
  have e2 : ((3 : Int) == 2) = false := rfl
  have e3 : ((3 : Int) == 3) = true := rfl
  refine SWv.seen hX (Vw.melt (k := 4) (cs := encOF d) (by simp only [go_sem, reduceCtorEq, reduceIte, Nat.reduceAdd, Nat.reduceEqDiff, Nat.reduceLeDiff, Nat.reduceMul]) (encOF_clo d)) ?_
  rw [frz_doc]
  refine vwp_ok _ ?_
  clear h116
  clear hD
  repeat' (first
    | simp only [go_sem, reduceCtorEq, reduceIte, Nat.reduceAdd, Nat.reduceEqDiff, Nat.reduceLeDiff, Nat.reduceMul, Nat.reduceSub, List.getElem?_nil, *]
    | refine gdO_bool' _ (fun _ => ?_) (fun _ => ?_)
    | refine gdO_bool _ (fun _ => ?_) (fun _ => ?_)
    | refine gdD_bool' _ (fun _ => ?_) (fun _ => ?_)
    | refine gdD_bool _ (fun _ => ?_) (fun _ => ?_)
    | refine cdO_bool' _ (fun _ => ?_) (fun _ => ?_)
    | refine cdO_bool _ (fun _ => ?_) (fun _ => ?_)
    | (refine callO.obj [0] (hck) ?_ rfl (by decide) ?_ ?_
       · simp only [go_sem, reduceCtorEq, reduceIte, Nat.reduceAdd, Nat.reduceEqDiff, Nat.reduceLeDiff, Nat.reduceMul, Nat.reduceSub, List.getElem?_nil, *]
       · repeat' (first | exact HIs_nil | refine HIs_cons ?_ ?_ | (simp only [go_sem, reduceCtorEq, reduceIte, Nat.reduceAdd, Nat.reduceEqDiff, Nat.reduceLeDiff, Nat.reduceMul, Nat.reduceSub, List.getElem?_nil, *]; done)))
    | (refine callW.obj [0] (hck) rfl ?_ rfl (by decide) ?_ (by simp [okInc, Disj]) ?_
       · simp only [go_sem, reduceCtorEq, reduceIte, Nat.reduceAdd, Nat.reduceEqDiff, Nat.reduceLeDiff, Nat.reduceMul, Nat.reduceSub, List.getElem?_nil, *]
       · repeat' (first | exact HIs_nil | refine HIs_cons ?_ ?_ | (simp only [go_sem, reduceCtorEq, reduceIte, Nat.reduceAdd, Nat.reduceEqDiff, Nat.reduceLeDiff, Nat.reduceMul, Nat.reduceSub, List.getElem?_nil, *]; done)))
    | (refine callO.obj [0] (hcv) ?_ rfl (by decide) ?_ ?_
       · simp only [go_sem, reduceCtorEq, reduceIte, Nat.reduceAdd, Nat.reduceEqDiff, Nat.reduceLeDiff, Nat.reduceMul, Nat.reduceSub, List.getElem?_nil, *]
       · repeat' (first | exact HIs_nil | refine HIs_cons ?_ ?_ | (simp only [go_sem, reduceCtorEq, reduceIte, Nat.reduceAdd, Nat.reduceEqDiff, Nat.reduceLeDiff, Nat.reduceMul, Nat.reduceSub, List.getElem?_nil, *]; done)))
    | (refine callW.obj [0] (hcv) rfl ?_ rfl (by decide) ?_ (by simp [okInc, Disj]) ?_
       · simp only [go_sem, reduceCtorEq, reduceIte, Nat.reduceAdd, Nat.reduceEqDiff, Nat.reduceLeDiff, Nat.reduceMul, Nat.reduceSub, List.getElem?_nil, *]
       · repeat' (first | exact HIs_nil | refine HIs_cons ?_ ?_ | (simp only [go_sem, reduceCtorEq, reduceIte, Nat.reduceAdd, Nat.reduceEqDiff, Nat.reduceLeDiff, Nat.reduceMul, Nat.reduceSub, List.getElem?_nil, *]; done)))
    | (refine callW.obj1 [0] (hT) rfl ?_ rfl (by decide) ?_ ?_ (by simp [okInc, Disj]) ?_
       · simp only [go_sem, reduceCtorEq, reduceIte, Nat.reduceAdd, Nat.reduceEqDiff, Nat.reduceLeDiff, Nat.reduceMul, Nat.reduceSub, List.getElem?_nil, *]
       · repeat' (first | exact HIs_nil | refine HIs_cons ?_ ?_ | (simp only [go_sem, reduceCtorEq, reduceIte, Nat.reduceAdd, Nat.reduceEqDiff, Nat.reduceLeDiff, Nat.reduceMul, Nat.reduceSub, List.getElem?_nil, *]; done))
       · simp only [go_sem, reduceCtorEq, reduceIte, Nat.reduceAdd, Nat.reduceEqDiff, Nat.reduceLeDiff, Nat.reduceMul, Nat.reduceSub, List.getElem?_nil, *])
    | refine ⟨by decide, ?_⟩
    | fail)
  refine ⟨by simp, _, by simp only [go_sem, reduceCtorEq, reduceIte, Nat.reduceAdd, Nat.reduceEqDiff, Nat.reduceLeDiff, Nat.reduceMul, resV]; rfl, ?_⟩
  refine EndV.of hn [0] _ (by simp) (by simp [tau]) (by simp) (Conv.aggOf (.cons ?_ rfl .nil)) (HConv.same (by decide) (by first | rfl | (simp only [go_sem, reduceCtorEq, reduceIte, Nat.reduceAdd, Nat.reduceEqDiff, Nat.reduceLeDiff, Nat.reduceMul, *] <;> rfl)) rfl HConv.nil)
  rw [show d.length = d'.length by rw [hd'.out]; simp]
  refine frnB (by simp) (by simp only [go_sem, reduceCtorEq, reduceIte, Nat.reduceAdd, Nat.reduceEqDiff, Nat.reduceLeDiff, Nat.reduceMul]; rfl) ?_
  have e : ((d'.map Block.enc).flatten) = ((d.take k).map Block.enc).flatten ++ [.sc (.int .i64 d[k].kind), .sc (.int .i64 d[k].level), .sl 3 (d[k].text.map Sign.enc)] ++ (.sc (.int .i64 tb.rows) :: .sc (.int .i64 tb.cols) :: .sl 5 (tb.cells.map Cell.enc) :: ((d.drop (k + 1)).map Block.enc).flatten) := by rw [hd'.out, set_flat d hk]; simp [Block.enc, encT, encC]
  rw [e]
  refine CellsC.append (CellsC.same ?_) (.one rfl (.one rfl (.cons (frC (by simp) (by simp only [go_sem, reduceCtorEq, reduceIte, Nat.reduceAdd, Nat.reduceEqDiff, Nat.reduceLeDiff, Nat.reduceMul])) rfl (CellsC.same (flatB_clo _)))))
  rw [mapF_clo.cloL_app, flatB_clo]; rfl
theorem odd_5 {b : List Int} (hr : Rd b) {p : Int} {d : Doc} {k : Nat} (h0 : 0 ≤ p) (h1 : p + 50000 < 1073741824) (hd : DrD d) (hl1 : 1 ≤ d.length) (hl2 : d.length ≤ 6) (hk : k < d.length)
    (hck : ObjC prog 102 [.pt 0 0, .sc (.int .i64 d.length)] [[encBy b, .sc (.int .i64 p)]] (.sc (.int .i64 k)) [(0, [encBy b, .sc (.int .i64 (p + 1))])] 1)
    (hcv : ObjC prog 102 [.pt 0 0, .sc (.int .i64 7)] [[encBy b, .sc (.int .i64 (p + 1))]] (.sc (.int .i64 5)) [(0, [encBy b, .sc (.int .i64 (p + 1 + 1))])] 1) : OddC b p d := by
  have h116 := c116 d (hd.sm (by omega))
  have hne : ¬ d = [] := by intro h; rw [h] at hl1; simp at hl1
  unfold cdR cdH cdN at h116
  rw [if_neg hne, if_neg hne, if_neg hne] at h116
  have hkl : (k : Int) < (d.length : Int) := by omega
  have hk0 : (0 : Int) ≤ (k : Int) := by omega
  have hfl := flatB_len d
  obtain ⟨u, u0, u1, hu⟩ := pk hr (p := p + 1 + 1) (by omega) (by omega) 2
  have u1 := u1 (by omega)
  have wu : IntKind.i64.wrap (1 + u) = 1 + u := by rw [wrap_id] <;> omega
  have b1 : (1 + d.length) * 80 ≤ lim := by unfold lim; omega
  have b2 : 1 + d.length ≤ 9223372036854775807 := by omega
  have b3 : d.length * 6 ≤ d.length * 6 := by omega
  have tk : ((d.map Block.enc).flatten).take (d.length * 6) = (d.map Block.enc).flatten := List.take_of_length_le (by omega)
  obtain ⟨d', hd'⟩ : ∃ d', d' = (⟨2, 1 + u, [], ⟨0, 0, []⟩⟩ : Block) :: d := ⟨_, rfl⟩
  refine ⟨d', p + 1 + 1 + 1, by omega, by rw [hd']; exact ⟨by simp; omega, fun x hx => by rcases List.mem_cons.1 hx with rfl | hx; exact ⟨by simp, by simp, by simp⟩; exact (hd x hx).smb⟩, ?_⟩
  replace hd' := Kept.mk hd'
  have hx := Block.encLen d[k]
  have ec : (d[k]).enc = [.sc (.int .i64 (d[k]).kind), .sc (.int .i64 (d[k]).level), .sl 3 ((d[k]).text.map Sign.enc), .sc (.int .i64 (d[k]).table.rows), .sc (.int .i64 (d[k]).table.cols), .sl 5 ((d[k]).table.cells.map Cell.enc)] := rfl
  unfold encBy encB at *
  clear h0 h1 hr
  refine objC_of k138 (by simp) (by simp) (by simp [wfO, VV.underL, VV.under]) ?_
  intro X hP hm hH hn hX
  change X.n = 1 at hn
  unfold vc138
  refine SWv.seq (vwp_ok _ ?_)
  repeat' (first
    | simp only [go_sem, reduceCtorEq, reduceIte, Nat.reduceAdd, Nat.reduceEqDiff, Nat.reduceLeDiff, Nat.reduceMul, *]
    | refine gdO_bool' _ (fun _ => ?_) (fun _ => ?_)
    | refine gdO_bool _ (fun _ => ?_) (fun _ => ?_)
    | refine gdD_bool' _ (fun _ => ?_) (fun _ => ?_)
    | refine gdD_bool _ (fun _ => ?_) (fun _ => ?_)
    | refine cdO_bool' _ (fun _ => ?_) (fun _ => ?_)
    | refine cdO_bool _ (fun _ => ?_) (fun _ => ?_)
    | refine ⟨by decide, ?_⟩
    | refine ppost_t (by simp) rfl ?_)
  refine SWv.seq (vwp_ok _ ?_)
  repeat' (first
    | simp only [go_sem, reduceCtorEq, reduceIte, Nat.reduceAdd, Nat.reduceEqDiff, Nat.reduceLeDiff, Nat.reduceMul, Nat.reduceSub, encOF_ren, *]
    | refine gdO_bool' _ (fun _ => ?_) (fun _ => ?_)
    | refine gdO_bool _ (fun _ => ?_) (fun _ => ?_)
    | refine gdD_bool' _ (fun _ => ?_) (fun _ => ?_)
    | refine gdD_bool _ (fun _ => ?_) (fun _ => ?_)
    | refine cdO_bool' _ (fun _ => ?_) (fun _ => ?_)
    | refine cdO_bool _ (fun _ => ?_) (fun _ => ?_)
    | (refine callO.obj [] (h116) ?_ rfl (by decide) ?_ ?_
       · simp only [go_sem, reduceCtorEq, reduceIte, Nat.reduceAdd, Nat.reduceEqDiff, Nat.reduceLeDiff, Nat.reduceMul, Nat.reduceSub, encOF_ren, *]
       · repeat' (first | exact HIs_nil | refine HIs_cons ?_ ?_ | (simp only [go_sem, reduceCtorEq, reduceIte, Nat.reduceAdd, Nat.reduceEqDiff, Nat.reduceLeDiff, Nat.reduceMul, Nat.reduceSub, encOF_ren, *]; done)))
    | (refine callW.obj [] (h116) rfl ?_ rfl (by decide) ?_ (by simp [okInc, Disj]) ?_
       · simp only [go_sem, reduceCtorEq, reduceIte, Nat.reduceAdd, Nat.reduceEqDiff, Nat.reduceLeDiff, Nat.reduceMul, Nat.reduceSub, encOF_ren, *]
       · repeat' (first | exact HIs_nil | refine HIs_cons ?_ ?_ | (simp only [go_sem, reduceCtorEq, reduceIte, Nat.reduceAdd, Nat.reduceEqDiff, Nat.reduceLeDiff, Nat.reduceMul, Nat.reduceSub, encOF_ren, *]; done)))
    | refine ⟨by decide, ?_⟩
    | fail)
  have e0 : ((5 : Int) == 0) = false := rfl
  have e1 : ((5 : Int) == 1) = false := rfl
  have e2 : ((5 : Int) == 2) = false := rfl
  have e3 : ((5 : Int) == 3) = false := rfl
  have e4 : ((5 : Int) == 4) = false := rfl
  have e5 : ((5 : Int) == 5) = true := rfl
  refine SWv.seen hX (Vw.melt (k := 4) (cs := encOF d) (by simp only [go_sem, reduceCtorEq, reduceIte, Nat.reduceAdd, Nat.reduceEqDiff, Nat.reduceLeDiff, Nat.reduceMul]) (encOF_clo d)) ?_
  rw [frz_doc]
  refine vwp_ok _ ?_
  clear h116
  repeat' (first
    | simp only [go_sem, reduceCtorEq, reduceIte, Nat.reduceAdd, Nat.reduceEqDiff, Nat.reduceLeDiff, Nat.reduceMul, Nat.reduceSub, *]
    | refine gdO_bool' _ (fun _ => ?_) (fun _ => ?_)
    | refine gdO_bool _ (fun _ => ?_) (fun _ => ?_)
    | refine gdD_bool' _ (fun _ => ?_) (fun _ => ?_)
    | refine gdD_bool _ (fun _ => ?_) (fun _ => ?_)
    | refine cdO_bool' _ (fun _ => ?_) (fun _ => ?_)
    | refine cdO_bool _ (fun _ => ?_) (fun _ => ?_)
    | (refine callO.obj [0] (hck) ?_ rfl (by decide) ?_ ?_
       · simp only [go_sem, reduceCtorEq, reduceIte, Nat.reduceAdd, Nat.reduceEqDiff, Nat.reduceLeDiff, Nat.reduceMul, Nat.reduceSub, *]
       · repeat' (first | exact HIs_nil | refine HIs_cons ?_ ?_ | (simp only [go_sem, reduceCtorEq, reduceIte, Nat.reduceAdd, Nat.reduceEqDiff, Nat.reduceLeDiff, Nat.reduceMul, Nat.reduceSub, *]; done)))
    | (refine callW.obj [0] (hck) rfl ?_ rfl (by decide) ?_ (by simp [okInc, Disj]) ?_
       · simp only [go_sem, reduceCtorEq, reduceIte, Nat.reduceAdd, Nat.reduceEqDiff, Nat.reduceLeDiff, Nat.reduceMul, Nat.reduceSub, *]
       · repeat' (first | exact HIs_nil | refine HIs_cons ?_ ?_ | (simp only [go_sem, reduceCtorEq, reduceIte, Nat.reduceAdd, Nat.reduceEqDiff, Nat.reduceLeDiff, Nat.reduceMul, Nat.reduceSub, *]; done)))
    | (refine callO.obj [0] (hcv) ?_ rfl (by decide) ?_ ?_
       · simp only [go_sem, reduceCtorEq, reduceIte, Nat.reduceAdd, Nat.reduceEqDiff, Nat.reduceLeDiff, Nat.reduceMul, Nat.reduceSub, *]
       · repeat' (first | exact HIs_nil | refine HIs_cons ?_ ?_ | (simp only [go_sem, reduceCtorEq, reduceIte, Nat.reduceAdd, Nat.reduceEqDiff, Nat.reduceLeDiff, Nat.reduceMul, Nat.reduceSub, *]; done)))
    | (refine callW.obj [0] (hcv) rfl ?_ rfl (by decide) ?_ (by simp [okInc, Disj]) ?_
       · simp only [go_sem, reduceCtorEq, reduceIte, Nat.reduceAdd, Nat.reduceEqDiff, Nat.reduceLeDiff, Nat.reduceMul, Nat.reduceSub, *]
       · repeat' (first | exact HIs_nil | refine HIs_cons ?_ ?_ | (simp only [go_sem, reduceCtorEq, reduceIte, Nat.reduceAdd, Nat.reduceEqDiff, Nat.reduceLeDiff, Nat.reduceMul, Nat.reduceSub, *]; done)))
    | (refine callO.obj [0] (hu) ?_ rfl (by decide) ?_ ?_
       · simp only [go_sem, reduceCtorEq, reduceIte, Nat.reduceAdd, Nat.reduceEqDiff, Nat.reduceLeDiff, Nat.reduceMul, Nat.reduceSub, *]
       · repeat' (first | exact HIs_nil | refine HIs_cons ?_ ?_ | (simp only [go_sem, reduceCtorEq, reduceIte, Nat.reduceAdd, Nat.reduceEqDiff, Nat.reduceLeDiff, Nat.reduceMul, Nat.reduceSub, *]; done)))
    | (refine callW.obj [0] (hu) rfl ?_ rfl (by decide) ?_ (by simp [okInc, Disj]) ?_
       · simp only [go_sem, reduceCtorEq, reduceIte, Nat.reduceAdd, Nat.reduceEqDiff, Nat.reduceLeDiff, Nat.reduceMul, Nat.reduceSub, *]
       · repeat' (first | exact HIs_nil | refine HIs_cons ?_ ?_ | (simp only [go_sem, reduceCtorEq, reduceIte, Nat.reduceAdd, Nat.reduceEqDiff, Nat.reduceLeDiff, Nat.reduceMul, Nat.reduceSub, *]; done)))
    | refine ⟨by decide, ?_⟩
    | fail)
  refine ⟨by simp, _, by simp only [go_sem, reduceCtorEq, reduceIte, Nat.reduceAdd, Nat.reduceEqDiff, Nat.reduceLeDiff, Nat.reduceMul, resV]; rfl, ?_⟩
  refine EndV.of hn [0] _ (by simp) (by simp [tau]) (by simp) (Conv.aggOf (.cons ?_ rfl .nil)) (HConv.same (by decide) (by first | rfl | (simp only [go_sem, reduceCtorEq, reduceIte, Nat.reduceAdd, Nat.reduceEqDiff, Nat.reduceLeDiff, Nat.reduceMul, *] <;> rfl)) rfl HConv.nil)
  rw [show 1 + d.length = d'.length by rw [hd'.out]; simp; omega]
  refine frnB (by simp) (by simp only [go_sem, reduceCtorEq, reduceIte, Nat.reduceAdd, Nat.reduceEqDiff, Nat.reduceLeDiff, Nat.reduceMul]; rfl) ?_
  have e : ((d'.map Block.enc).flatten) = .sc (.int .i64 2) :: .sc (.int .i64 (1 + u)) :: .sl 3 [] :: .sc (.int .i64 0) :: .sc (.int .i64 0) :: .sl 5 [] :: (d.map Block.enc).flatten := by rw [hd'.out]; simp [Block.enc, encT, encC]
  rw [e]
  exact .one rfl (.one rfl (.cons (.nil 3) rfl (.one rfl (.one rfl (.cons (.nil 5) rfl (CellsC.same (flatB_clo _)))))))
theorem odd_6 {b : List Int} (hr : Rd b) {p : Int} {d : Doc} {k : Nat} (h0 : 0 ≤ p) (h1 : p + 50000 < 1073741824) (hd : DrD d) (hl1 : 1 ≤ d.length) (hl2 : d.length ≤ 6) (hk : k < d.length)
    (hck : ObjC prog 102 [.pt 0 0, .sc (.int .i64 d.length)] [[encBy b, .sc (.int .i64 p)]] (.sc (.int .i64 k)) [(0, [encBy b, .sc (.int .i64 (p + 1))])] 1)
    (hcv : ObjC prog 102 [.pt 0 0, .sc (.int .i64 7)] [[encBy b, .sc (.int .i64 (p + 1))]] (.sc (.int .i64 6)) [(0, [encBy b, .sc (.int .i64 (p + 1 + 1))])] 1) : OddC b p d := by
  have h116 := c116 d (hd.sm (by omega))
  have hne : ¬ d = [] := by intro h; rw [h] at hl1; simp at hl1
  unfold cdR cdH cdN at h116
  rw [if_neg hne, if_neg hne, if_neg hne] at h116
  have hkl : (k : Int) < (d.length : Int) := by omega
  have hk0 : (0 : Int) ≤ (k : Int) := by omega
  have hfl := flatB_len d
  have hk1 : (0 : Int) ≤ ((k + 1 : Nat) : Int) := by omega
  have wk : IntKind.i64.wrap ((k : Int) + 1) = ((k + 1 : Nat) : Int) := by rw [wrap_id] <;> omega
  have t0 : ((d.map Block.enc).flatten).take (k * 6) = ((d.take k).map Block.enc).flatten := by have := take_flat Block.encLen d hk (j := 0) (by omega); simpa using this
  have dr : ((d.map Block.enc).flatten).drop ((k + 1) * 6) = ((d.drop (k + 1)).map Block.enc).flatten := by have := drop_flat Block.encLen d hk (j := 6) (by omega); rw [Nat.succ_mul]; exact this
  have tk : (((d.drop (k + 1)).map Block.enc).flatten).take ((d.length - (k + 1)) * 6) = ((d.drop (k + 1)).map Block.enc).flatten := List.take_of_length_le (by rw [flatB_len, List.length_drop]; omega)
  have b1 : (k + (d.length - (k + 1))) * 80 ≤ lim := by unfold lim; omega
  have b2 : k + (d.length - (k + 1)) ≤ 9223372036854775807 := by omega
  have b3 : k ≤ d.length := by omega
  have b4 : k + 1 ≤ d.length := by omega
  have b5 : (k + 1) * 6 + (d.length - (k + 1)) * 6 ≤ d.length * 6 := by omega
  have b6 : k * 6 ≤ d.length * 6 := by omega
  obtain ⟨d', hd'⟩ : ∃ d', d' = d.take k ++ d.drop (k + 1) := ⟨_, rfl⟩
  refine ⟨d', p + 1 + 1, by omega, by rw [hd']; exact ⟨by simp; omega, fun x hx => by rcases List.mem_append.1 hx with hx | hx; exact (hd x (List.mem_of_mem_take hx)).smb; exact (hd x (List.mem_of_mem_drop hx)).smb⟩, ?_⟩
  replace hd' := Kept.mk hd'
  have hx := Block.encLen d[k]
  have ec : (d[k]).enc = [.sc (.int .i64 (d[k]).kind), .sc (.int .i64 (d[k]).level), .sl 3 ((d[k]).text.map Sign.enc), .sc (.int .i64 (d[k]).table.rows), .sc (.int .i64 (d[k]).table.cols), .sl 5 ((d[k]).table.cells.map Cell.enc)] := rfl
  unfold encBy encB at *
  clear h0 h1 hr
  refine objC_of k138 (by simp) (by simp) (by simp [wfO, VV.underL, VV.under]) ?_
  intro X hP hm hH hn hX
  change X.n = 1 at hn
  unfold vc138
  refine SWv.seq (vwp_ok _ ?_)
  repeat' (first
    | simp only [go_sem, reduceCtorEq, reduceIte, Nat.reduceAdd, Nat.reduceEqDiff, Nat.reduceLeDiff, Nat.reduceMul, *]
    | refine gdO_bool' _ (fun _ => ?_) (fun _ => ?_)
    | refine gdO_bool _ (fun _ => ?_) (fun _ => ?_)
    | refine gdD_bool' _ (fun _ => ?_) (fun _ => ?_)
    | refine gdD_bool _ (fun _ => ?_) (fun _ => ?_)
    | refine cdO_bool' _ (fun _ => ?_) (fun _ => ?_)
    | refine cdO_bool _ (fun _ => ?_) (fun _ => ?_)
    | refine ⟨by decide, ?_⟩
    | refine ppost_t (by simp) rfl ?_)
  refine SWv.seq (vwp_ok _ ?_)
  repeat' (first
    | simp only [go_sem, reduceCtorEq, reduceIte, Nat.reduceAdd, Nat.reduceEqDiff, Nat.reduceLeDiff, Nat.reduceMul, Nat.reduceSub, encOF_ren, *]
    | refine gdO_bool' _ (fun _ => ?_) (fun _ => ?_)
    | refine gdO_bool _ (fun _ => ?_) (fun _ => ?_)
    | refine gdD_bool' _ (fun _ => ?_) (fun _ => ?_)
    | refine gdD_bool _ (fun _ => ?_) (fun _ => ?_)
    | refine cdO_bool' _ (fun _ => ?_) (fun _ => ?_)
    | refine cdO_bool _ (fun _ => ?_) (fun _ => ?_)
    | (refine callO.obj [] (h116) ?_ rfl (by decide) ?_ ?_
       · simp only [go_sem, reduceCtorEq, reduceIte, Nat.reduceAdd, Nat.reduceEqDiff, Nat.reduceLeDiff, Nat.reduceMul, Nat.reduceSub, encOF_ren, *]
       · repeat' (first | exact HIs_nil | refine HIs_cons ?_ ?_ | (simp only [go_sem, reduceCtorEq, reduceIte, Nat.reduceAdd, Nat.reduceEqDiff, Nat.reduceLeDiff, Nat.reduceMul, Nat.reduceSub, encOF_ren, *]; done)))
    | (refine callW.obj [] (h116) rfl ?_ rfl (by decide) ?_ (by simp [okInc, Disj]) ?_
       · simp only [go_sem, reduceCtorEq, reduceIte, Nat.reduceAdd, Nat.reduceEqDiff, Nat.reduceLeDiff, Nat.reduceMul, Nat.reduceSub, encOF_ren, *]
       · repeat' (first | exact HIs_nil | refine HIs_cons ?_ ?_ | (simp only [go_sem, reduceCtorEq, reduceIte, Nat.reduceAdd, Nat.reduceEqDiff, Nat.reduceLeDiff, Nat.reduceMul, Nat.reduceSub, encOF_ren, *]; done)))
    | refine ⟨by decide, ?_⟩
    | fail)
  have e0 : ((6 : Int) == 0) = false := rfl
  have e1 : ((6 : Int) == 1) = false := rfl
  have e2 : ((6 : Int) == 2) = false := rfl
  have e3 : ((6 : Int) == 3) = false := rfl
  have e4 : ((6 : Int) == 4) = false := rfl
  have e5 : ((6 : Int) == 5) = false := rfl
  refine SWv.seen hX (Vw.melt (k := 4) (cs := encOF d) (by simp only [go_sem, reduceCtorEq, reduceIte, Nat.reduceAdd, Nat.reduceEqDiff, Nat.reduceLeDiff, Nat.reduceMul]) (encOF_clo d)) ?_
  rw [frz_doc]
  refine vwp_ok _ ?_
  clear h116
  repeat' (first
    | simp only [go_sem, reduceCtorEq, reduceIte, Nat.reduceAdd, Nat.reduceEqDiff, Nat.reduceLeDiff, Nat.reduceMul, Nat.reduceSub, Nat.zero_le, Nat.sub_zero, *]
    | refine gdO_bool' _ (fun _ => ?_) (fun _ => ?_)
    | refine gdO_bool _ (fun _ => ?_) (fun _ => ?_)
    | refine gdD_bool' _ (fun _ => ?_) (fun _ => ?_)
    | refine gdD_bool _ (fun _ => ?_) (fun _ => ?_)
    | refine cdO_bool' _ (fun _ => ?_) (fun _ => ?_)
    | refine cdO_bool _ (fun _ => ?_) (fun _ => ?_)
    | (refine callO.obj [0] (hck) ?_ rfl (by decide) ?_ ?_
       · simp only [go_sem, reduceCtorEq, reduceIte, Nat.reduceAdd, Nat.reduceEqDiff, Nat.reduceLeDiff, Nat.reduceMul, Nat.reduceSub, Nat.zero_le, Nat.sub_zero, *]
       · repeat' (first | exact HIs_nil | refine HIs_cons ?_ ?_ | (simp only [go_sem, reduceCtorEq, reduceIte, Nat.reduceAdd, Nat.reduceEqDiff, Nat.reduceLeDiff, Nat.reduceMul, Nat.reduceSub, Nat.zero_le, Nat.sub_zero, *]; done)))
    | (refine callW.obj [0] (hck) rfl ?_ rfl (by decide) ?_ (by simp [okInc, Disj]) ?_
       · simp only [go_sem, reduceCtorEq, reduceIte, Nat.reduceAdd, Nat.reduceEqDiff, Nat.reduceLeDiff, Nat.reduceMul, Nat.reduceSub, Nat.zero_le, Nat.sub_zero, *]
       · repeat' (first | exact HIs_nil | refine HIs_cons ?_ ?_ | (simp only [go_sem, reduceCtorEq, reduceIte, Nat.reduceAdd, Nat.reduceEqDiff, Nat.reduceLeDiff, Nat.reduceMul, Nat.reduceSub, Nat.zero_le, Nat.sub_zero, *]; done)))
    | (refine callO.obj [0] (hcv) ?_ rfl (by decide) ?_ ?_
       · simp only [go_sem, reduceCtorEq, reduceIte, Nat.reduceAdd, Nat.reduceEqDiff, Nat.reduceLeDiff, Nat.reduceMul, Nat.reduceSub, Nat.zero_le, Nat.sub_zero, *]
       · repeat' (first | exact HIs_nil | refine HIs_cons ?_ ?_ | (simp only [go_sem, reduceCtorEq, reduceIte, Nat.reduceAdd, Nat.reduceEqDiff, Nat.reduceLeDiff, Nat.reduceMul, Nat.reduceSub, Nat.zero_le, Nat.sub_zero, *]; done)))
    | (refine callW.obj [0] (hcv) rfl ?_ rfl (by decide) ?_ (by simp [okInc, Disj]) ?_
       · simp only [go_sem, reduceCtorEq, reduceIte, Nat.reduceAdd, Nat.reduceEqDiff, Nat.reduceLeDiff, Nat.reduceMul, Nat.reduceSub, Nat.zero_le, Nat.sub_zero, *]
       · repeat' (first | exact HIs_nil | refine HIs_cons ?_ ?_ | (simp only [go_sem, reduceCtorEq, reduceIte, Nat.reduceAdd, Nat.reduceEqDiff, Nat.reduceLeDiff, Nat.reduceMul, Nat.reduceSub, Nat.zero_le, Nat.sub_zero, *]; done)))
    | refine ⟨by decide, ?_⟩
    | fail)
  refine ⟨by simp, _, by simp only [go_sem, reduceCtorEq, reduceIte, Nat.reduceAdd, Nat.reduceEqDiff, Nat.reduceLeDiff, Nat.reduceMul, resV]; rfl, ?_⟩
  refine EndV.of hn [0] _ (by simp) (by simp [tau]) (by simp) (Conv.aggOf (.cons ?_ rfl .nil)) (HConv.same (by decide) (by first | rfl | (simp only [go_sem, reduceCtorEq, reduceIte, Nat.reduceAdd, Nat.reduceEqDiff, Nat.reduceLeDiff, Nat.reduceMul, *] <;> rfl)) rfl HConv.nil)
  rw [show k + (d.length - (k + 1)) = d'.length by rw [hd'.out]; simp; omega]
  refine frB (by simp) ?_
  simp only [go_sem, reduceCtorEq, reduceIte, Nat.reduceAdd, Nat.reduceEqDiff, Nat.reduceLeDiff, Nat.reduceMul]
  rw [hd'.out]
  simp
theorem odd_4 {b : List Int} (hr : Rd b) {p : Int} {d : Doc} {k : Nat} (h0 : 0 ≤ p) (h1 : p + 50000 < 1073741824) (hd : DrD d) (hl1 : 1 ≤ d.length) (hl2 : d.length ≤ 6) (hk : k < d.length)
    (hck : ObjC prog 102 [.pt 0 0, .sc (.int .i64 d.length)] [[encBy b, .sc (.int .i64 p)]] (.sc (.int .i64 k)) [(0, [encBy b, .sc (.int .i64 (p + 1))])] 1)
    (hcv : ObjC prog 102 [.pt 0 0, .sc (.int .i64 7)] [[encBy b, .sc (.int .i64 (p + 1))]] (.sc (.int .i64 4)) [(0, [encBy b, .sc (.int .i64 (p + 1 + 1))])] 1) : OddC b p d := by
  have h116 := c116 d (hd.sm (by omega))
  have hne : ¬ d = [] := by intro h; rw [h] at hl1; simp at hl1
  unfold cdR cdH cdN at h116
  rw [if_neg hne, if_neg hne, if_neg hne] at h116
  have hkl : (k : Int) < (d.length : Int) := by omega
  have hk0 : (0 : Int) ≤ (k : Int) := by omega
  have hfl := flatB_len d
  have hpk : ∀ i : Nat, ∃ v : Int, i < 60 → Pk b (p + 1 + 1 + i) 2 v := fun i => by
    by_cases hi : i < 60
    · obtain ⟨v, h⟩ := pk hr (p := p + 1 + 1 + i) (by omega) (by omega) 2
      exact ⟨v, fun _ => h⟩
    · exact ⟨0, fun h => absurd h hi⟩
  obtain ⟨V, hV⟩ := Classical.axiomOfChoice hpk
  have hVb : ∀ i, i < 60 → 0 ≤ V i ∧ V i < 2 := fun i hi => ⟨(hV i hi).1, (hV i hi).2.1 (by omega)⟩
  obtain ⟨N, hN1, hN2, hN3⟩ := first_stop (P := fun i => ¬ ((d.length : Int) + i < 8 + V i)) (9 - d.length) (by have := hVb (9 - d.length) (by omega); omega)
  have hq : ∀ i : Nat, i ≤ N → ObjC prog 102 [.pt 0 0, .sc (.int .i64 2)] [[.sl 1 (b.map fun b => [.sc (.int .u8 b)]), .sc (.int .i64 (p + 1 + 1 + i))]] (.sc (.int .i64 (V i))) [(0, [.sl 1 (b.map fun b => [.sc (.int .u8 b)]), .sc (.int .i64 (p + 1 + 1 + i + 1))])] 1 := fun i hi => (hV i (by omega)).2.2
  have hlt : ∀ i : Nat, i < N → ((d.length : Int) + i < 8 + V i) := fun i hi => Classical.not_not.1 (hN3 i hi)
  have hVN : ∀ i : Nat, i ≤ N → 0 ≤ V i ∧ V i < 2 := fun i hi => hVb i (by omega)
  clear hpk hV hVb hN3
  obtain ⟨d', hd'⟩ : ∃ d', d' = d ++ List.replicate N (⟨1, 0, [], ⟨0, 0, []⟩⟩ : Block) := ⟨_, rfl⟩
  refine ⟨d', p + 1 + 1 + N + 1, by omega, by rw [hd']; exact ⟨by simp; omega, fun x hx => by rcases List.mem_append.1 hx with hx | hx; exact (hd x hx).smb; rw [List.eq_of_mem_replicate hx]; exact ⟨by simp, by simp, by simp⟩⟩, ?_⟩
  replace hd' := Kept.mk hd'
  have hx := Block.encLen d[k]
  have ec : (d[k]).enc = [.sc (.int .i64 (d[k]).kind), .sc (.int .i64 (d[k]).level), .sl 3 ((d[k]).text.map Sign.enc), .sc (.int .i64 (d[k]).table.rows), .sc (.int .i64 (d[k]).table.cols), .sl 5 ((d[k]).table.cells.map Cell.enc)] := rfl
  unfold encBy encB at *
  clear h0 h1 hr
  refine objC_of k138 (by simp) (by simp) (by simp [wfO, VV.underL, VV.under]) ?_
  intro X hP hm hH hn hX
  change X.n = 1 at hn
  unfold vc138
  refine SWv.seq (vwp_ok _ ?_)
  repeat' (first
    | simp only [go_sem, reduceCtorEq, reduceIte, Nat.reduceAdd, Nat.reduceEqDiff, Nat.reduceLeDiff, Nat.reduceMul, *]
    | refine gdO_bool' _ (fun _ => ?_) (fun _ => ?_)
    | refine gdO_bool _ (fun _ => ?_) (fun _ => ?_)
    | refine gdD_bool' _ (fun _ => ?_) (fun _ => ?_)
    | refine gdD_bool _ (fun _ => ?_) (fun _ => ?_)
    | refine cdO_bool' _ (fun _ => ?_) (fun _ => ?_)
    | refine cdO_bool _ (fun _ => ?_) (fun _ => ?_)
    | refine ⟨by decide, ?_⟩
    | refine ppost_t (by simp) rfl ?_)
  refine SWv.seq (vwp_ok _ ?_)
  repeat' (first
    | simp only [go_sem, reduceCtorEq, reduceIte, Nat.reduceAdd, Nat.reduceEqDiff, Nat.reduceLeDiff, Nat.reduceMul, Nat.reduceSub, encOF_ren, *]
    | refine gdO_bool' _ (fun _ => ?_) (fun _ => ?_)
    | refine gdO_bool _ (fun _ => ?_) (fun _ => ?_)
    | refine gdD_bool' _ (fun _ => ?_) (fun _ => ?_)
    | refine gdD_bool _ (fun _ => ?_) (fun _ => ?_)
    | refine cdO_bool' _ (fun _ => ?_) (fun _ => ?_)
    | refine cdO_bool _ (fun _ => ?_) (fun _ => ?_)
    | (refine callO.obj [] (h116) ?_ rfl (by decide) ?_ ?_
       · simp only [go_sem, reduceCtorEq, reduceIte, Nat.reduceAdd, Nat.reduceEqDiff, Nat.reduceLeDiff, Nat.reduceMul, Nat.reduceSub, encOF_ren, *]
       · repeat' (first | exact HIs_nil | refine HIs_cons ?_ ?_ | (simp only [go_sem, reduceCtorEq, reduceIte, Nat.reduceAdd, Nat.reduceEqDiff, Nat.reduceLeDiff, Nat.reduceMul, Nat.reduceSub, encOF_ren, *]; done)))
    | (refine callW.obj [] (h116) rfl ?_ rfl (by decide) ?_ (by simp [okInc, Disj]) ?_
       · simp only [go_sem, reduceCtorEq, reduceIte, Nat.reduceAdd, Nat.reduceEqDiff, Nat.reduceLeDiff, Nat.reduceMul, Nat.reduceSub, encOF_ren, *]
       · repeat' (first | exact HIs_nil | refine HIs_cons ?_ ?_ | (simp only [go_sem, reduceCtorEq, reduceIte, Nat.reduceAdd, Nat.reduceEqDiff, Nat.reduceLeDiff, Nat.reduceMul, Nat.reduceSub, encOF_ren, *]; done)))
    | refine ⟨by decide, ?_⟩
    | fail)
  have e0 : ((4 : Int) == 0) = false := rfl
  have e1 : ((4 : Int) == 1) = false := rfl
  have e2 : ((4 : Int) == 2) = false := rfl
  have e3 : ((4 : Int) == 3) = false := rfl
  have e4 : ((4 : Int) == 4) = true := rfl
  refine SWv.seen hX (Vw.melt (k := 4) (cs := encOF d) (by simp only [go_sem, reduceCtorEq, reduceIte, Nat.reduceAdd, Nat.reduceEqDiff, Nat.reduceLeDiff, Nat.reduceMul]) (encOF_clo d)) ?_
  rw [frz_doc]
  refine vwp_ok _ ?_
  clear h116
  repeat' (first
    | simp only [go_sem, reduceCtorEq, reduceIte, Nat.reduceAdd, Nat.reduceEqDiff, Nat.reduceLeDiff, Nat.reduceMul, Nat.reduceSub, *]
    | refine gdO_bool' _ (fun _ => ?_) (fun _ => ?_)
    | refine gdO_bool _ (fun _ => ?_) (fun _ => ?_)
    | refine gdD_bool' _ (fun _ => ?_) (fun _ => ?_)
    | refine gdD_bool _ (fun _ => ?_) (fun _ => ?_)
    | refine cdO_bool' _ (fun _ => ?_) (fun _ => ?_)
    | refine cdO_bool _ (fun _ => ?_) (fun _ => ?_)
    | (refine callO.obj [0] (hck) ?_ rfl (by decide) ?_ ?_
       · simp only [go_sem, reduceCtorEq, reduceIte, Nat.reduceAdd, Nat.reduceEqDiff, Nat.reduceLeDiff, Nat.reduceMul, Nat.reduceSub, *]
       · repeat' (first | exact HIs_nil | refine HIs_cons ?_ ?_ | (simp only [go_sem, reduceCtorEq, reduceIte, Nat.reduceAdd, Nat.reduceEqDiff, Nat.reduceLeDiff, Nat.reduceMul, Nat.reduceSub, *]; done)))
    | (refine callW.obj [0] (hck) rfl ?_ rfl (by decide) ?_ (by simp [okInc, Disj]) ?_
       · simp only [go_sem, reduceCtorEq, reduceIte, Nat.reduceAdd, Nat.reduceEqDiff, Nat.reduceLeDiff, Nat.reduceMul, Nat.reduceSub, *]
       · repeat' (first | exact HIs_nil | refine HIs_cons ?_ ?_ | (simp only [go_sem, reduceCtorEq, reduceIte, Nat.reduceAdd, Nat.reduceEqDiff, Nat.reduceLeDiff, Nat.reduceMul, Nat.reduceSub, *]; done)))
    | (refine callO.obj [0] (hcv) ?_ rfl (by decide) ?_ ?_
       · simp only [go_sem, reduceCtorEq, reduceIte, Nat.reduceAdd, Nat.reduceEqDiff, Nat.reduceLeDiff, Nat.reduceMul, Nat.reduceSub, *]
       · repeat' (first | exact HIs_nil | refine HIs_cons ?_ ?_ | (simp only [go_sem, reduceCtorEq, reduceIte, Nat.reduceAdd, Nat.reduceEqDiff, Nat.reduceLeDiff, Nat.reduceMul, Nat.reduceSub, *]; done)))
    | (refine callW.obj [0] (hcv) rfl ?_ rfl (by decide) ?_ (by simp [okInc, Disj]) ?_
       · simp only [go_sem, reduceCtorEq, reduceIte, Nat.reduceAdd, Nat.reduceEqDiff, Nat.reduceLeDiff, Nat.reduceMul, Nat.reduceSub, *]
       · repeat' (first | exact HIs_nil | refine HIs_cons ?_ ?_ | (simp only [go_sem, reduceCtorEq, reduceIte, Nat.reduceAdd, Nat.reduceEqDiff, Nat.reduceLeDiff, Nat.reduceMul, Nat.reduceSub, *]; done)))
    | refine ⟨by decide, ?_⟩
    | fail)
  refine loopV hX (fun μ s H n => ∃ (i : Nat) (L : Doc), i ≤ N ∧ L = d ++ List.replicate i ⟨1, 0, [], ⟨0, 0, []⟩⟩ ∧ μ = N - i ∧ s = slotsOf [(0, .pt 0 0), (3, .pt 1 0), (4, .pt 2 0)] ∧ H = heapOf [(0, [.sl 1 (b.map fun b => [.sc (.int .u8 b)]), .sc (.int .i64 (p + 1 + 1 + i))]), (1, [.rf 3 0 L.length 6]), (2, [.sc (.slice none 0 0)]), (3, (L.map Block.enc).flatten)] ∧ n = 4) ?_
    ⟨N + 1, roundE (fun s => [0, nm (s 3), nm (s 4), 4]) (by simp only [go_sem, reduceCtorEq, reduceIte, Nat.reduceAdd, Nat.reduceEqDiff, Nat.reduceLeDiff, Nat.reduceMul, nm_pt]; rfl) (rk_of hn [(0, _), (3, _), (4, _)] _ _ ⟨0, d, by omega, by simp, rfl, rfl, rfl, rfl⟩ (by omega) (by simp) (by simp [tau]) (by simp) (by simp [hm]) ?_ ?_)⟩
  rotate_left
  · repeat' (first | exact List.forall_mem_nil _ | refine List.forall_mem_cons.2 ⟨?_, ?_⟩ | exact .toPt (by simp only [go_sem, reduceCtorEq, reduceIte, Nat.reduceAdd, Nat.reduceEqDiff, Nat.reduceLeDiff, Nat.reduceMul, *] <;> rfl) (by simp [tau]) (by simp) | exact .toRf (by simp only [go_sem, reduceCtorEq, reduceIte, Nat.reduceAdd, Nat.reduceEqDiff, Nat.reduceLeDiff, Nat.reduceMul, *] <;> rfl) (by simp [tau]) (by simp) | exact .same (by simp only [go_sem, reduceCtorEq, reduceIte, Nat.reduceAdd, Nat.reduceEqDiff, Nat.reduceLeDiff, Nat.reduceMul, *] <;> rfl) (by first | rfl | simp [VV.cloL, VV.clo, *]))
  · rw [show p + 1 + 1 + ((0 : Nat) : Int) = p + 1 + 1 by omega]
    refine HConv.same (by decide) (by first | rfl | (simp only [go_sem, reduceCtorEq, reduceIte, Nat.reduceAdd, Nat.reduceEqDiff, Nat.reduceLeDiff, Nat.reduceMul, *] <;> rfl)) rfl ?_
    refine HConv.obj (cs := [.rf 4 0 _ 6]) (by decide) (by first | rfl | (simp only [go_sem, reduceCtorEq, reduceIte, Nat.reduceAdd, Nat.reduceEqDiff, Nat.reduceLeDiff, Nat.reduceMul, *] <;> rfl)) ?_ ?_
    · repeat' (first | exact CellsC.nil | exact .nil 3 | exact .nil 5 | exact .nil 6 | (exact .toRf (by first | rfl | simp [tau]) (by simp [tau]) (by simp)) | (exact .toPt (by first | rfl | simp [tau]) (by simp [tau]) (by simp)) | refine CellsC.one rfl ?_ | refine CellsC.cons ?_ rfl ?_)
    refine HConv.same (by decide) (by first | rfl | (simp only [go_sem, reduceCtorEq, reduceIte, Nat.reduceAdd, Nat.reduceEqDiff, Nat.reduceLeDiff, Nat.reduceMul, *] <;> rfl)) rfl ?_
    exact HConv.same (by decide) (by first | rfl | (simp only [go_sem, reduceCtorEq, reduceIte, Nat.reduceAdd, Nat.reduceEqDiff, Nat.reduceLeDiff, Nat.reduceMul, *] <;> rfl)) (flatB_clo _) HConv.nil
  clear hck hcv
  rintro μ s H n ⟨i, L, hi, hL, rfl, rfl, rfl, rfl⟩
  have hLl : L.length = d.length + i := by rw [hL]; simp
  have hVi := hVN i hi
  have w1 : IntKind.i64.wrap (8 + V i) = 8 + V i := by rw [wrap_id] <;> omega
  have q1 := hq i hi
  have hfl := flatB_len L
  have b3 : (L.length + 1) * 80 ≤ lim := by unfold lim; omega
  have b4 : L.length + 1 ≤ 9223372036854775807 := by omega
  have b5 : L.length * 6 ≤ L.length * 6 := by omega
  have tk : ((L.map Block.enc).flatten).take (L.length * 6) = (L.map Block.enc).flatten := List.take_of_length_le (by omega)
  rcases Nat.lt_or_ge i N with hiN | hge
  · have g1 : decide ((L.length : Int) < 8 + V i) = true := by have := hlt i hiN; simp; omega
    have hsn : Kept (L ++ [⟨1, 0, [], ⟨0, 0, []⟩⟩] = d ++ List.replicate (i + 1) ⟨1, 0, [], ⟨0, 0, []⟩⟩) := ⟨by rw [hL, List.append_assoc, List.replicate_succ']⟩
    have hpi : Kept (p + 1 + 1 + ((i + 1 : Nat) : Int) = p + 1 + 1 + i + 1) := ⟨by omega⟩
    clear hq hlt hVN hL hLl hVi
    repeat' (first
      | simp only [go_sem, reduceCtorEq, reduceIte, Nat.reduceAdd, Nat.reduceEqDiff, Nat.reduceLeDiff, Nat.reduceMul, Nat.reduceSub, *]
      | refine gdO_bool' _ (fun _ => ?_) (fun _ => ?_)
      | refine gdO_bool _ (fun _ => ?_) (fun _ => ?_)
      | refine gdD_bool' _ (fun _ => ?_) (fun _ => ?_)
      | refine gdD_bool _ (fun _ => ?_) (fun _ => ?_)
      | refine cdO_bool' _ (fun _ => ?_) (fun _ => ?_)
      | refine cdO_bool _ (fun _ => ?_) (fun _ => ?_)
      | (refine callO.obj [0] (q1) ?_ rfl (by decide) ?_ ?_
         · simp only [go_sem, reduceCtorEq, reduceIte, Nat.reduceAdd, Nat.reduceEqDiff, Nat.reduceLeDiff, Nat.reduceMul, Nat.reduceSub, *]
         · repeat' (first | exact HIs_nil | refine HIs_cons ?_ ?_ | (simp only [go_sem, reduceCtorEq, reduceIte, Nat.reduceAdd, Nat.reduceEqDiff, Nat.reduceLeDiff, Nat.reduceMul, Nat.reduceSub, *]; done)))
      | (refine callW.obj [0] (q1) rfl ?_ rfl (by decide) ?_ (by simp [okInc, Disj]) ?_
         · simp only [go_sem, reduceCtorEq, reduceIte, Nat.reduceAdd, Nat.reduceEqDiff, Nat.reduceLeDiff, Nat.reduceMul, Nat.reduceSub, *]
         · repeat' (first | exact HIs_nil | refine HIs_cons ?_ ?_ | (simp only [go_sem, reduceCtorEq, reduceIte, Nat.reduceAdd, Nat.reduceEqDiff, Nat.reduceLeDiff, Nat.reduceMul, Nat.reduceSub, *]; done)))
      | refine ⟨by decide, ?_⟩
      | fail)
    refine roundE (fun s => [0, nm (s 3), nm (s 4), nm (s 82)]) (by simp only [go_sem, reduceCtorEq, reduceIte, Nat.reduceAdd, Nat.reduceEqDiff, Nat.reduceLeDiff, Nat.reduceMul, nm_pt, nm_rf]; rfl) (rk_of hn [(0, _), (3, _), (4, _)] _ _ ⟨i + 1, L ++ [⟨1, 0, [], ⟨0, 0, []⟩⟩], hiN, hsn.out, rfl, rfl, rfl, rfl⟩ (by omega) (by simp) (by simp [tau]) (by simp) (by simp [hm]) ?_ ?_)
    · repeat' (first | exact List.forall_mem_nil _ | refine List.forall_mem_cons.2 ⟨?_, ?_⟩ | exact .toPt (by simp only [go_sem, reduceCtorEq, reduceIte, Nat.reduceAdd, Nat.reduceEqDiff, Nat.reduceLeDiff, Nat.reduceMul, *] <;> rfl) (by simp [tau]) (by simp) | exact .toRf (by simp only [go_sem, reduceCtorEq, reduceIte, Nat.reduceAdd, Nat.reduceEqDiff, Nat.reduceLeDiff, Nat.reduceMul, *] <;> rfl) (by simp [tau]) (by simp) | exact .same (by simp only [go_sem, reduceCtorEq, reduceIte, Nat.reduceAdd, Nat.reduceEqDiff, Nat.reduceLeDiff, Nat.reduceMul, *] <;> rfl) (by first | rfl | simp [VV.cloL, VV.clo, *]))
    · rw [hpi.out, flatB_snoc, List.length_append]
      refine HConv.same (by decide) (by first | rfl | (simp only [go_sem, reduceCtorEq, reduceIte, Nat.reduceAdd, Nat.reduceEqDiff, Nat.reduceLeDiff, Nat.reduceMul, *] <;> rfl)) rfl ?_
      refine HConv.obj (cs := [.rf _ 0 _ 6]) (by decide) (by first | rfl | (simp only [go_sem, reduceCtorEq, reduceIte, Nat.reduceAdd, Nat.reduceEqDiff, Nat.reduceLeDiff, Nat.reduceMul, *] <;> rfl)) ?_ ?_
      · repeat' (first | exact CellsC.nil | exact .nil 3 | exact .nil 5 | exact .nil 6 | (exact .toRf (by first | rfl | simp [tau]) (by simp [tau]) (by simp)) | (exact .toPt (by first | rfl | simp [tau]) (by simp [tau]) (by simp)) | refine CellsC.one rfl ?_ | refine CellsC.cons ?_ rfl ?_)
      refine HConv.same (by decide) (by first | rfl | (simp only [go_sem, reduceCtorEq, reduceIte, Nat.reduceAdd, Nat.reduceEqDiff, Nat.reduceLeDiff, Nat.reduceMul, *] <;> rfl)) rfl ?_
      refine HConv.obj (cs := _ ++ [.sc (.int .i64 1), .sc (.int .i64 0), .sc (.slice none 0 0), .sc (.int .i64 0), .sc (.int .i64 0), .sc (.slice none 0 0)]) (by decide) (by first | rfl | (simp only [go_sem, reduceCtorEq, reduceIte, Nat.reduceAdd, Nat.reduceEqDiff, Nat.reduceLeDiff, Nat.reduceMul, *] <;> rfl)) ?_ HConv.nil
      exact CellsC.append (CellsC.same (flatB_clo _)) (.one rfl (.one rfl (.cons (.nil 3) rfl (.one rfl (.one rfl (.cons (.nil 5) rfl .nil))))))
  · have e : i = N := by omega
    subst e
    have g1 : decide ((L.length : Int) < 8 + V i) = false := by simp only [decide_eq_false_iff_not]; omega
    have hL2 : d' = L := by rw [hL]; exact hd'.out
    clear hq hlt hVN hLl hVi hN2 hi hge hL hd'
    subst hL2
    repeat' (first
      | simp only [go_sem, reduceCtorEq, reduceIte, Nat.reduceAdd, Nat.reduceEqDiff, Nat.reduceLeDiff, Nat.reduceMul, Nat.reduceSub, *]
      | refine gdO_bool' _ (fun _ => ?_) (fun _ => ?_)
      | refine gdO_bool _ (fun _ => ?_) (fun _ => ?_)
      | refine gdD_bool' _ (fun _ => ?_) (fun _ => ?_)
      | refine gdD_bool _ (fun _ => ?_) (fun _ => ?_)
      | refine cdO_bool' _ (fun _ => ?_) (fun _ => ?_)
      | refine cdO_bool _ (fun _ => ?_) (fun _ => ?_)
      | (refine callO.obj [0] (q1) ?_ rfl (by decide) ?_ ?_
         · simp only [go_sem, reduceCtorEq, reduceIte, Nat.reduceAdd, Nat.reduceEqDiff, Nat.reduceLeDiff, Nat.reduceMul, Nat.reduceSub, *]
         · repeat' (first | exact HIs_nil | refine HIs_cons ?_ ?_ | (simp only [go_sem, reduceCtorEq, reduceIte, Nat.reduceAdd, Nat.reduceEqDiff, Nat.reduceLeDiff, Nat.reduceMul, Nat.reduceSub, *]; done)))
      | (refine callW.obj [0] (q1) rfl ?_ rfl (by decide) ?_ (by simp [okInc, Disj]) ?_
         · simp only [go_sem, reduceCtorEq, reduceIte, Nat.reduceAdd, Nat.reduceEqDiff, Nat.reduceLeDiff, Nat.reduceMul, Nat.reduceSub, *]
         · repeat' (first | exact HIs_nil | refine HIs_cons ?_ ?_ | (simp only [go_sem, reduceCtorEq, reduceIte, Nat.reduceAdd, Nat.reduceEqDiff, Nat.reduceLeDiff, Nat.reduceMul, Nat.reduceSub, *]; done)))
      | refine ⟨by decide, ?_⟩
      | fail)
    refine ⟨by simp, _, by simp only [go_sem, reduceCtorEq, reduceIte, Nat.reduceAdd, Nat.reduceEqDiff, Nat.reduceLeDiff, Nat.reduceMul, resV]; rfl, ?_⟩
    refine EndV.of hn [0] _ (by simp) (by simp [tau]) (by simp) (Conv.aggOf (.cons (frB (by simp) (by simp only [go_sem, reduceCtorEq, reduceIte, Nat.reduceAdd, Nat.reduceEqDiff, Nat.reduceLeDiff, Nat.reduceMul])) rfl .nil)) (HConv.same (by decide) (by first | rfl | (simp only [go_sem, reduceCtorEq, reduceIte, Nat.reduceAdd, Nat.reduceEqDiff, Nat.reduceLeDiff, Nat.reduceMul, *] <;> rfl)) rfl HConv.nil)
theorem odd_2 {b : List Int} (hr : Rd b) {p : Int} {d : Doc} {k : Nat} (h0 : 0 ≤ p) (h1 : p + 50000 < 1073741824) (hd : DrD d) (hl1 : 1 ≤ d.length) (hl2 : d.length ≤ 6) (hk : k < d.length)
    (hck : ObjC prog 102 [.pt 0 0, .sc (.int .i64 d.length)] [[encBy b, .sc (.int .i64 p)]] (.sc (.int .i64 k)) [(0, [encBy b, .sc (.int .i64 (p + 1))])] 1)
    (hcv : ObjC prog 102 [.pt 0 0, .sc (.int .i64 7)] [[encBy b, .sc (.int .i64 (p + 1))]] (.sc (.int .i64 2)) [(0, [encBy b, .sc (.int .i64 (p + 1 + 1))])] 1) : OddC b p d := by
  have h116 := c116 d (hd.sm (by omega))
  have hne : ¬ d = [] := by intro h; rw [h] at hl1; simp at hl1
  unfold cdR cdH cdN at h116
  rw [if_neg hne, if_neg hne, if_neg hne] at h116
  have hkl : (k : Int) < (d.length : Int) := by omega
  have hk0 : (0 : Int) ≤ (k : Int) := by omega
  have hfl := flatB_len d
  have hdk := hd d[k] (List.getElem_mem hk)
  obtain ⟨l', pt, ⟨ht1, ht2⟩, hl', hB⟩ := c170 hr (p := p + 1 + 1) (l := d[k].text) (by omega) (by omega) hdk.2.2.1
  have hA : (encOF (d.take k)).length = k * 6 := by rw [encOF_len, List.length_take]; omega
  have hE : encOF d = encOF (d.take k) ++ (blkO d[k] ++ encOF (d.drop (k + 1))) := by
    unfold encOF
    conv => lhs; rw [← List.take_append_drop k d, List.drop_eq_getElem_cons hk, List.map_append, List.flatten_append, List.map_cons, List.flatten_cons]
  replace hE := Kept.mk hE
  obtain ⟨d', hd'⟩ : ∃ d', d' = d.set k { d[k] with text := l' } := ⟨_, rfl⟩
  refine ⟨d', pt, by omega, by rw [hd']; exact SmD.set (by omega) hd (by obtain ⟨_, _, _, h2, h3⟩ := hdk; exact ⟨by show l'.length ≤ 40; omega, by show (d[k]).table.cells.length ≤ 40; omega, fun c hc => by have := h3 c hc; omega⟩), ?_⟩
  replace hd' := Kept.mk hd'
  have hx := Block.encLen d[k]
  have ec : (d[k]).enc = [.sc (.int .i64 (d[k]).kind), .sc (.int .i64 (d[k]).level), .sl 3 ((d[k]).text.map Sign.enc), .sc (.int .i64 (d[k]).table.rows), .sc (.int .i64 (d[k]).table.cols), .sl 5 ((d[k]).table.cells.map Cell.enc)] := rfl
  unfold encBy encB at *
  clear h0 h1 hr
  refine objC_of k138 (by simp) (by simp) (by simp [wfO, VV.underL, VV.under]) ?_
  intro X hP hm hH hn hX
  change X.n = 1 at hn
  unfold vc138
  refine SWv.seq (vwp_ok _ ?_)
  repeat' (first
    | simp only [go_sem, reduceCtorEq, reduceIte, Nat.reduceAdd, Nat.reduceEqDiff, Nat.reduceLeDiff, Nat.reduceMul, *]
    | refine gdO_bool' _ (fun _ => ?_) (fun _ => ?_)
    | refine gdO_bool _ (fun _ => ?_) (fun _ => ?_)
    | refine gdD_bool' _ (fun _ => ?_) (fun _ => ?_)
    | refine gdD_bool _ (fun _ => ?_) (fun _ => ?_)
    | refine cdO_bool' _ (fun _ => ?_) (fun _ => ?_)
    | refine cdO_bool _ (fun _ => ?_) (fun _ => ?_)
    | refine ⟨by decide, ?_⟩
    | refine ppost_t (by simp) rfl ?_)
  refine SWv.seq (vwp_ok _ ?_)
  repeat' (first
    | simp only [go_sem, reduceCtorEq, reduceIte, Nat.reduceAdd, Nat.reduceEqDiff, Nat.reduceLeDiff, Nat.reduceMul, Nat.reduceSub, encOF_ren, *]
    | refine gdO_bool' _ (fun _ => ?_) (fun _ => ?_)
    | refine gdO_bool _ (fun _ => ?_) (fun _ => ?_)
    | refine gdD_bool' _ (fun _ => ?_) (fun _ => ?_)
    | refine gdD_bool _ (fun _ => ?_) (fun _ => ?_)
    | refine cdO_bool' _ (fun _ => ?_) (fun _ => ?_)
    | refine cdO_bool _ (fun _ => ?_) (fun _ => ?_)
    | (refine callO.obj [] (h116) ?_ rfl (by decide) ?_ ?_
       · simp only [go_sem, reduceCtorEq, reduceIte, Nat.reduceAdd, Nat.reduceEqDiff, Nat.reduceLeDiff, Nat.reduceMul, Nat.reduceSub, encOF_ren, *]
       · repeat' (first | exact HIs_nil | refine HIs_cons ?_ ?_ | (simp only [go_sem, reduceCtorEq, reduceIte, Nat.reduceAdd, Nat.reduceEqDiff, Nat.reduceLeDiff, Nat.reduceMul, Nat.reduceSub, encOF_ren, *]; done)))
    | (refine callW.obj [] (h116) rfl ?_ rfl (by decide) ?_ (by simp [okInc, Disj]) ?_
       · simp only [go_sem, reduceCtorEq, reduceIte, Nat.reduceAdd, Nat.reduceEqDiff, Nat.reduceLeDiff, Nat.reduceMul, Nat.reduceSub, encOF_ren, *]
       · repeat' (first | exact HIs_nil | refine HIs_cons ?_ ?_ | (simp only [go_sem, reduceCtorEq, reduceIte, Nat.reduceAdd, Nat.reduceEqDiff, Nat.reduceLeDiff, Nat.reduceMul, Nat.reduceSub, encOF_ren, *]; done)))
    | refine ⟨by decide, ?_⟩
    | fail)
  have e0 : ((2 : Int) == 0) = false := rfl
  have e1 : ((2 : Int) == 1) = false := rfl
  have e2 : ((2 : Int) == 2) = true := rfl
  obtain ⟨C4, hC4⟩ : ∃ C4, C4 = encOF (d.take k) ++ (.sc (.int .i64 d[k].kind) :: .sc (.int .i64 d[k].level) :: .rf 6 0 d[k].text.length 3 :: .sc (.int .i64 d[k].table.rows) :: .sc (.int .i64 d[k].table.cols) :: ocC d[k].table.cells :: encOF (d.drop (k + 1))) := ⟨_, rfl⟩
  have hset : (encOF d).set (k * 6 + 2) (.rf 6 0 (d[k].text.map Sign.enc).length 3) = C4 := by
    rw [hE.out, set_app hA, hC4, List.length_map]; rfl
  refine SWv.seen hX (Vw.unpack (k := 4) (j := k * 6 + 2) (z := 3) (l := d[k].text.map Sign.enc) (cs := encOF d) (by simp only [go_sem, reduceCtorEq, reduceIte, Nat.reduceAdd, Nat.reduceEqDiff, Nat.reduceLeDiff, Nat.reduceMul]) (by rw [hE.out, get_app hA]; rfl)) ?_
  rw [hset]
  refine vwp_ok _ ?_
  have t2 : C4.take (k * 6 + 2) = encOF (d.take k) ++ [.sc (.int .i64 d[k].kind), .sc (.int .i64 d[k].level)] := by rw [hC4, List.take_append, hA, List.take_of_length_le (by omega), show k * 6 + 2 - k * 6 = 2 by omega]; rfl
  have d2 : C4.drop (k * 6 + 2) = .rf 6 0 d[k].text.length 3 :: .sc (.int .i64 d[k].table.rows) :: .sc (.int .i64 d[k].table.cols) :: ocC d[k].table.cells :: encOF (d.drop (k + 1)) := by rw [hC4, List.drop_append, hA, List.drop_eq_nil_of_le (by omega), show k * 6 + 2 - k * 6 = 2 by omega]; rfl
  have d3 : C4.drop (k * 6 + 3) = .sc (.int .i64 d[k].table.rows) :: .sc (.int .i64 d[k].table.cols) :: ocC d[k].table.cells :: encOF (d.drop (k + 1)) := by rw [hC4, List.drop_append, hA, List.drop_eq_nil_of_le (by omega), show k * 6 + 3 - k * 6 = 3 by omega]; rfl
  have l3 : k * 6 + 3 ≤ C4.length := by rw [hC4, List.length_append, hA]; simp
  clear h116 hset hE hdk hC4
  repeat' (first
    | simp only [go_sem, reduceCtorEq, reduceIte, Nat.reduceAdd, Nat.reduceEqDiff, Nat.reduceLeDiff, Nat.reduceMul, Nat.reduceSub, List.getElem?_nil, *]
    | refine gdO_bool' _ (fun _ => ?_) (fun _ => ?_)
    | refine gdO_bool _ (fun _ => ?_) (fun _ => ?_)
    | refine gdD_bool' _ (fun _ => ?_) (fun _ => ?_)
    | refine gdD_bool _ (fun _ => ?_) (fun _ => ?_)
    | refine cdO_bool' _ (fun _ => ?_) (fun _ => ?_)
    | refine cdO_bool _ (fun _ => ?_) (fun _ => ?_)
    | (refine callO.obj [0] (hck) ?_ rfl (by decide) ?_ ?_
       · simp only [go_sem, reduceCtorEq, reduceIte, Nat.reduceAdd, Nat.reduceEqDiff, Nat.reduceLeDiff, Nat.reduceMul, Nat.reduceSub, List.getElem?_nil, *]
       · repeat' (first | exact HIs_nil | refine HIs_cons ?_ ?_ | (simp only [go_sem, reduceCtorEq, reduceIte, Nat.reduceAdd, Nat.reduceEqDiff, Nat.reduceLeDiff, Nat.reduceMul, Nat.reduceSub, List.getElem?_nil, *]; done)))
    | (refine callW.obj [0] (hck) rfl ?_ rfl (by decide) ?_ (by simp [okInc, Disj]) ?_
       · simp only [go_sem, reduceCtorEq, reduceIte, Nat.reduceAdd, Nat.reduceEqDiff, Nat.reduceLeDiff, Nat.reduceMul, Nat.reduceSub, List.getElem?_nil, *]
       · repeat' (first | exact HIs_nil | refine HIs_cons ?_ ?_ | (simp only [go_sem, reduceCtorEq, reduceIte, Nat.reduceAdd, Nat.reduceEqDiff, Nat.reduceLeDiff, Nat.reduceMul, Nat.reduceSub, List.getElem?_nil, *]; done)))
    | (refine callO.obj [0] (hcv) ?_ rfl (by decide) ?_ ?_
       · simp only [go_sem, reduceCtorEq, reduceIte, Nat.reduceAdd, Nat.reduceEqDiff, Nat.reduceLeDiff, Nat.reduceMul, Nat.reduceSub, List.getElem?_nil, *]
       · repeat' (first | exact HIs_nil | refine HIs_cons ?_ ?_ | (simp only [go_sem, reduceCtorEq, reduceIte, Nat.reduceAdd, Nat.reduceEqDiff, Nat.reduceLeDiff, Nat.reduceMul, Nat.reduceSub, List.getElem?_nil, *]; done)))
    | (refine callW.obj [0] (hcv) rfl ?_ rfl (by decide) ?_ (by simp [okInc, Disj]) ?_
       · simp only [go_sem, reduceCtorEq, reduceIte, Nat.reduceAdd, Nat.reduceEqDiff, Nat.reduceLeDiff, Nat.reduceMul, Nat.reduceSub, List.getElem?_nil, *]
       · repeat' (first | exact HIs_nil | refine HIs_cons ?_ ?_ | (simp only [go_sem, reduceCtorEq, reduceIte, Nat.reduceAdd, Nat.reduceEqDiff, Nat.reduceLeDiff, Nat.reduceMul, Nat.reduceSub, List.getElem?_nil, *]; done)))
    | (refine callW.obj1 [0, 6] (hB) rfl ?_ rfl (by decide) ?_ ?_ (by simp [okInc, Disj]) ?_
       · simp only [go_sem, reduceCtorEq, reduceIte, Nat.reduceAdd, Nat.reduceEqDiff, Nat.reduceLeDiff, Nat.reduceMul, Nat.reduceSub, List.getElem?_nil, *]
       · repeat' (first | exact HIs_nil | refine HIs_cons ?_ ?_ | (simp only [go_sem, reduceCtorEq, reduceIte, Nat.reduceAdd, Nat.reduceEqDiff, Nat.reduceLeDiff, Nat.reduceMul, Nat.reduceSub, List.getElem?_nil, *]; done))
       · simp only [go_sem, reduceCtorEq, reduceIte, Nat.reduceAdd, Nat.reduceEqDiff, Nat.reduceLeDiff, Nat.reduceMul, Nat.reduceSub, List.getElem?_nil, *])
    | refine ⟨by decide, ?_⟩
    | fail)
  refine ⟨by simp, _, by simp only [go_sem, reduceCtorEq, reduceIte, Nat.reduceAdd, Nat.reduceEqDiff, Nat.reduceLeDiff, Nat.reduceMul, resV]; rfl, ?_⟩
  obtain ⟨P, hP'⟩ : ∃ P, P = encOF (d.take k) ++ [VV.sc (.int .i64 d[k].kind), .sc (.int .i64 d[k].level)] := ⟨_, rfl⟩
  obtain ⟨Q, hQ'⟩ : ∃ Q, Q = VV.sc (.int .i64 d[k].table.rows) :: .sc (.int .i64 d[k].table.cols) :: ocC d[k].table.cells :: encOF (d.drop (k + 1)) := ⟨_, rfl⟩
  have hPl : P.length = k * 6 + 2 := by rw [hP', List.length_append, hA]; rfl
  rw [← hP', ← hQ']
  refine EndV.seen (Vw.pack (k := 4) (m := 29) (j := k * 6 + 2) (z := 3) (l := l'.map Sign.enc) (cs := P ++ (.rf 29 0 l'.length 3 :: Q)) (by simp only [go_sem, reduceCtorEq, reduceIte, Nat.reduceAdd, Nat.reduceEqDiff, Nat.reduceLeDiff, Nat.reduceMul]) (by rw [← hPl, List.getElem?_append_right (Nat.le_refl _)]; simp) (by simp only [go_sem, reduceCtorEq, reduceIte, Nat.reduceAdd, Nat.reduceEqDiff, Nat.reduceLeDiff, Nat.reduceMul]) (by decide) (enc_lens _) (flat_clo _)) ?_
  rw [show (P ++ (VV.rf 29 0 l'.length 3 :: Q)).set (k * 6 + 2) (.ow 3 (l'.map Sign.enc)) = P ++ (.ow 3 (l'.map Sign.enc) :: Q) by rw [← hPl, List.set_append_right _ _ (Nat.le_refl _)]; simp]
  have hPc : VV.cloL P = true := by rw [hP', mapF_clo.cloL_app, encOF_clo]; rfl
  have hQc : VV.cloL Q = true := by rw [hQ']; simp only [VV.cloL, VV.clo, ocC_clo, encOF_clo, Bool.and_self]
  refine EndV.seen (Vw.melt (k := 4) (cs := P ++ (.ow 3 (l'.map Sign.enc) :: Q)) upd_eq (by rw [mapF_clo.cloL_app, hPc]; simp only [VV.cloL, VV.clo, hQc, Bool.and_self])) ?_
  have hf : VV.frzL (P ++ (.ow 3 (l'.map Sign.enc) :: Q)) = (d'.map Block.enc).flatten := by
    have h1 : VV.frzR (l'.map Sign.enc) = l'.map Sign.enc := frzR_map (fun _ => rfl) _
    rw [hd'.out, set_flat d hk, hP', hQ']
    simp only [frzL_app, VV.frzL, VV.frz, frz_doc, frz_ocC, h1, Block.enc, encT, List.append_assoc, List.cons_append, List.nil_append]
  rw [hf]
  refine EndV.of hn [0] _ (by simp) (by simp [tau]) (by simp) (Conv.aggOf (.cons ?_ rfl .nil)) (HConv.same (by decide) (by first | rfl | (simp only [go_sem, reduceCtorEq, reduceIte, Nat.reduceAdd, Nat.reduceEqDiff, Nat.reduceLeDiff, Nat.reduceMul, *] <;> rfl)) rfl HConv.nil)
  rw [show d.length = d'.length by rw [hd'.out]; simp]
  exact frB (by simp) (by simp only [go_sem, reduceCtorEq, reduceIte, Nat.reduceAdd, Nat.reduceEqDiff, Nat.reduceLeDiff, Nat.reduceMul])
end Go.Proofs.Ytdmmhainianadaa

/- F35: some document, some place. -/
namespace Go.Proofs.Ytdmmhainianadaa
open Go.VM Go.Lim Go.Proofs.Try
attribute [local irreducible] vwp vops vstep vdr vdr1 CallP PPost SWv gdO gdD cdO optV optW optD thenV blockV behind callO callW callvO roundV
set_option linter.unusedSimpArgs false
set_option linter.unusedVariables false
/- loop.example/limner/spec.l71Some -/
def vc101 : VCode :=
(.seq (.reg [⟨(some 2), (.new [(.slice none 0 0)]), none⟩])
(.seq (.reg [⟨(some 4), (.mov (.tmp 0)), none⟩, ⟨(some 5), (.call 137 [(.tmp 4)]), none⟩, ⟨(some 3), (.new [(.slice none 0 0)]), none⟩, ⟨none, (.store 1 (.tmp 3) (.tmp 5)), none⟩])
(.seq (.seq (.reg [⟨(some 6), (.mov (.tmp 0)), none⟩, ⟨(some 7), (.call 102 [(.tmp 6), (.const (.int .i64 10))]), none⟩, ⟨(some 8), (.bin .eql .no (.tmp 7) (.const (.int .i64 0))), none⟩])
(.cond (.tmp 8) (.seq (.reg [⟨(some 9), (.mov (.tmp 0)), none⟩, ⟨(some 10), (.load true 1 (.tmp 3)), none⟩, ⟨(some 11), (.call 138 [(.tmp 9), (.tmp 10)]), none⟩, ⟨none, (.store 1 (.tmp 2) (.tmp 11)), none⟩])
 .ret)
 .skip))
(.seq (.reg [⟨(some 12), (.load true 1 (.tmp 3)), none⟩, ⟨none, (.store 1 (.tmp 2) (.tmp 12)), none⟩])
.ret))))
theorem k101 : compFn prog 101 = some (13, vc101, [.c 2 true 1]) := by kernel_rfl
/- loop.example/limner/spec.l71Place -/
def vc109 : VCode :=
(.seq (.reg [⟨(some 3), (.box (.tmp 1)), none⟩, ⟨(some 4), (.new [(.int .i64 0), (.int .i64 0), (.int .i64 0)]), none⟩])
(.seq (.seq (.reg [⟨(some 8), (.fad 0 (.tmp 3)), none⟩, ⟨(some 9), (.load false 1 (.tmp 8)), none⟩, ⟨(some 10), (.len false (.tmp 9)), none⟩, ⟨(some 11), (.bin .eql .no (.tmp 10) (.const (.int .i64 0))), none⟩, ⟨(some 12), (.mov (.tmp 11)), none⟩, ⟨(some 13), (.mov (.tmp 0)), (some (12, false))⟩, ⟨(some 14), (.call 102 [(.tmp 13), (.const (.int .i64 20))]), (some (12, false))⟩, ⟨(some 15), (.bin .eql .no (.tmp 14) (.const (.int .i64 0))), (some (12, false))⟩, ⟨(some 16), (.pick (.tmp 12) (.const (.bool true)) (.tmp 15)), none⟩])
(.cond (.tmp 16) (.seq (.reg [⟨(some 17), (.mov (.tmp 0)), none⟩, ⟨(some 18), (.call 102 [(.tmp 17), (.const (.int .i64 4))]), none⟩, ⟨(some 19), (.bin .sub .no (.tmp 18) (.const (.int .i64 1))), none⟩, ⟨(some 20), (.mov (.tmp 0)), none⟩, ⟨(some 21), (.call 102 [(.tmp 20), (.const (.int .i64 3))]), none⟩, ⟨(some 22), (.bin .sub .no (.tmp 21) (.const (.int .i64 1))), none⟩, ⟨(some 23), (.mov (.tmp 0)), none⟩, ⟨(some 24), (.call 102 [(.tmp 23), (.const (.int .i64 4))]), none⟩, ⟨(some 25), (.bin .sub .no (.tmp 24) (.const (.int .i64 1))), none⟩, ⟨(some 26), (.build [(.int .i64 0), (.int .i64 0), (.int .i64 0)] [(0, 1, (.tmp 19)), (1, 1, (.tmp 22)), (2, 1, (.tmp 25))]), none⟩, ⟨none, (.store 3 (.tmp 4) (.tmp 26)), none⟩])
 .ret)
 .skip))
(.seq (.reg [⟨(some 27), (.mov (.tmp 0)), none⟩, ⟨(some 28), (.fad 0 (.tmp 3)), none⟩, ⟨(some 29), (.load false 1 (.tmp 28)), none⟩, ⟨(some 30), (.len false (.tmp 29)), none⟩, ⟨(some 31), (.call 102 [(.tmp 27), (.tmp 30)]), none⟩, ⟨(some 32), (.build [(.int .i64 0), (.int .i64 0), (.int .i64 0)] [(0, 1, (.tmp 31))]), none⟩, ⟨(some 5), (.new [(.int .i64 0), (.int .i64 0), (.int .i64 0)]), none⟩, ⟨none, (.store 3 (.tmp 5) (.tmp 32)), none⟩])
(.seq (.reg [⟨(some 33), (.fad 0 (.tmp 3)), none⟩, ⟨(some 34), (.load false 1 (.tmp 33)), none⟩, ⟨(some 35), (.fad 0 (.tmp 5)), none⟩, ⟨(some 36), (.load false 1 (.tmp 35)), none⟩, ⟨(some 37), (.iad 6 (.tmp 34) (.tmp 36)), none⟩, ⟨(some 38), (.load true 6 (.tmp 37)), none⟩, ⟨(some 6), (.new [(.int .i64 0), (.int .i64 0), (.slice none 0 0), (.int .i64 0), (.int .i64 0), (.slice none 0 0)]), none⟩, ⟨none, (.store 6 (.tmp 6) (.tmp 38)), none⟩])
(.seq (.reg [⟨(some 39), (.fad 2 (.tmp 6)), none⟩, ⟨(some 40), (.load false 1 (.tmp 39)), none⟩, ⟨(some 41), (.len false (.tmp 40)), none⟩, ⟨(some 7), (.mov (.tmp 41)), none⟩])
(.seq (.seq (.reg [⟨(some 42), (.fad 0 (.tmp 6)), none⟩, ⟨(some 43), (.load false 1 (.tmp 42)), none⟩, ⟨(some 44), (.bin .eql .no (.tmp 43) (.const (.int .i64 3))), none⟩, ⟨(some 45), (.mov (.tmp 44)), none⟩, ⟨(some 46), (.fad 3 (.tmp 6)), (some (45, true))⟩, ⟨(some 47), (.fad 2 (.tmp 46)), (some (45, true))⟩, ⟨(some 48), (.load false 1 (.tmp 47)), (some (45, true))⟩, ⟨(some 49), (.len false (.tmp 48)), (some (45, true))⟩, ⟨(some 50), (.bin .gtr .no (.tmp 49) (.const (.int .i64 0))), (some (45, true))⟩, ⟨(some 51), (.pick (.tmp 45) (.tmp 50) (.const (.bool false))), none⟩])
(.cond (.tmp 51) (.seq (.reg [⟨(some 52), (.mov (.tmp 0)), none⟩, ⟨(some 53), (.fad 3 (.tmp 6)), none⟩, ⟨(some 54), (.fad 2 (.tmp 53)), none⟩, ⟨(some 55), (.load false 1 (.tmp 54)), none⟩, ⟨(some 56), (.len false (.tmp 55)), none⟩, ⟨(some 57), (.call 102 [(.tmp 52), (.tmp 56)]), none⟩, ⟨(some 58), (.fad 1 (.tmp 5)), none⟩, ⟨none, (.store 1 (.tmp 58) (.tmp 57)), none⟩])
 (.reg [⟨(some 59), (.fad 3 (.tmp 6)), none⟩, ⟨(some 60), (.fad 2 (.tmp 59)), none⟩, ⟨(some 61), (.load false 1 (.tmp 60)), none⟩, ⟨(some 62), (.fad 1 (.tmp 5)), none⟩, ⟨(some 63), (.load false 1 (.tmp 62)), none⟩, ⟨(some 64), (.iad 5 (.tmp 61) (.tmp 63)), none⟩, ⟨(some 65), (.fad 4 (.tmp 64)), none⟩, ⟨(some 66), (.load false 1 (.tmp 65)), none⟩, ⟨(some 67), (.len false (.tmp 66)), none⟩, ⟨(some 7), (.mov (.tmp 67)), none⟩]))
 .skip))
(.seq (.reg [⟨(some 68), (.mov (.tmp 0)), none⟩, ⟨(some 69), (.mov (.tmp 7)), none⟩, ⟨(some 70), (.bin .add .no (.tmp 69) (.const (.int .i64 1))), none⟩, ⟨(some 71), (.call 102 [(.tmp 68), (.tmp 70)]), none⟩, ⟨(some 72), (.fad 2 (.tmp 5)), none⟩, ⟨none, (.store 1 (.tmp 72) (.tmp 71)), none⟩])
(.seq (.reg [⟨(some 73), (.load true 3 (.tmp 5)), none⟩, ⟨none, (.store 3 (.tmp 4) (.tmp 73)), none⟩])
.ret))))))))
theorem k109 : compFn prog 109 = some (74, vc109, [.c 4 true 3]) := by kernel_rfl
theorem c138 {b : List Int} (hr : Rd b) {p : Int} {d : Doc} (h0 : 0 ≤ p) (h1 : p + 50000 < 1073741824) (hd : DrD d) (hl1 : 1 ≤ d.length) (hl2 : d.length ≤ 6) : OddC b p d := by
  obtain ⟨k0, k1, k2, hck⟩ := pk hr h0 (by omega) d.length
  have k2 := k2 (by omega)
  obtain ⟨k, hk⟩ : ∃ k : Nat, k0 = k := ⟨k0.toNat, by omega⟩
  subst hk
  obtain ⟨v, v1, v2, hcv⟩ := pk hr (p := p + 1) (by omega) (by omega) 7
  have v2 := v2 (by omega)
  have e : v = 0 ∨ v = 1 ∨ v = 2 ∨ v = 3 ∨ v = 4 ∨ v = 5 ∨ v = 6 := by omega
  rcases e with rfl | rfl | rfl | rfl | rfl | rfl | rfl
  · exact odd_0 hr h0 h1 hd hl1 hl2 (by omega) hck hcv
  · exact odd_1 hr h0 h1 hd hl1 hl2 (by omega) hck hcv
  · exact odd_2 hr h0 h1 hd hl1 hl2 (by omega) hck hcv
  · exact odd_3 hr h0 h1 hd hl1 hl2 (by omega) hck hcv
  · exact odd_4 hr h0 h1 hd hl1 hl2 (by omega) hck hcv
  · exact odd_5 hr h0 h1 hd hl1 hl2 (by omega) hck hcv
  · exact odd_6 hr h0 h1 hd hl1 hl2 (by omega) hck hcv
theorem c101 {b : List Int} (hr : Rd b) {p : Int} (h0 : 0 ≤ p) (h1 : p + 200000 < 1073741824) : ∃ (d : Doc) (p' : Int), (p ≤ p' ∧ p' ≤ p + 60000) ∧ SmD d ∧
    ObjC prog 101 [.pt 0 0] [[encBy b, .sc (.int .i64 p)]] (.agg [encB d]) [(0, [encBy b, .sc (.int .i64 p')])] 1 := by
  obtain ⟨d, p1, ⟨q1, q2⟩, ⟨hl1, hl2⟩, hd, hc⟩ := c137 hr h0 (by omega)
  obtain ⟨v, v1, v2, hv⟩ := pk hr (p := p1) (by omega) (by omega) 10
  obtain ⟨d', p2, ⟨q3, q4⟩, hd', hc'⟩ := c138 hr (p := p1 + 1) (d := d) (by omega) (by omega) hd hl1 hl2
  have hw : wfO [.pt 0 0] [[encBy b, .sc (.int .i64 p)]] (.agg [encB d]) [(0, [encBy b, .sc (.int .i64 (p1 + 1))])] 1 = true := by simp [wfO, VV.underL, VV.under, encB, encBy]
  have hw' : wfO [.pt 0 0] [[encBy b, .sc (.int .i64 p)]] (.agg [encB d']) [(0, [encBy b, .sc (.int .i64 p2)])] 1 = true := by simp [wfO, VV.underL, VV.under, encB, encBy]
  rcases hz : (v == 0) with _ | _
  · refine ⟨d, p1 + 1, by omega, ⟨by omega, fun x hx => (hd x hx).smb⟩, ?_⟩
    clear h0 h1 hr hd hl1 hl2 hd' hc'
    unfold encBy encB at *
    refine objC_of k101 (by simp) (by simp) hw ?_
    intro X hP hm hH hn hX
    change X.n = 1 at hn
    refine vwp_ok _ ?_
    unfold vc101
    clear hw hw'
    repeat' (first
      | simp only [go_sem, reduceCtorEq, reduceIte, Nat.reduceAdd, Nat.reduceEqDiff, Nat.reduceLeDiff, Nat.reduceMul, Nat.reduceSub, *]
      | refine gdO_bool' _ (fun _ => ?_) (fun _ => ?_)
      | refine gdO_bool _ (fun _ => ?_) (fun _ => ?_)
      | refine gdD_bool' _ (fun _ => ?_) (fun _ => ?_)
      | refine gdD_bool _ (fun _ => ?_) (fun _ => ?_)
      | refine cdO_bool' _ (fun _ => ?_) (fun _ => ?_)
      | refine cdO_bool _ (fun _ => ?_) (fun _ => ?_)
      | (refine callO.obj [0] (hc) ?_ rfl (by decide) ?_ ?_
         · simp only [go_sem, reduceCtorEq, reduceIte, Nat.reduceAdd, Nat.reduceEqDiff, Nat.reduceLeDiff, Nat.reduceMul, Nat.reduceSub, *]
         · repeat' (first | exact HIs_nil | refine HIs_cons ?_ ?_ | (simp only [go_sem, reduceCtorEq, reduceIte, Nat.reduceAdd, Nat.reduceEqDiff, Nat.reduceLeDiff, Nat.reduceMul, Nat.reduceSub, *]; done)))
      | (refine callW.obj [0] (hc) rfl ?_ rfl (by decide) ?_ (by simp [okInc, Disj]) ?_
         · simp only [go_sem, reduceCtorEq, reduceIte, Nat.reduceAdd, Nat.reduceEqDiff, Nat.reduceLeDiff, Nat.reduceMul, Nat.reduceSub, *]
         · repeat' (first | exact HIs_nil | refine HIs_cons ?_ ?_ | (simp only [go_sem, reduceCtorEq, reduceIte, Nat.reduceAdd, Nat.reduceEqDiff, Nat.reduceLeDiff, Nat.reduceMul, Nat.reduceSub, *]; done)))
      | (refine callO.obj [0] (hv) ?_ rfl (by decide) ?_ ?_
         · simp only [go_sem, reduceCtorEq, reduceIte, Nat.reduceAdd, Nat.reduceEqDiff, Nat.reduceLeDiff, Nat.reduceMul, Nat.reduceSub, *]
         · repeat' (first | exact HIs_nil | refine HIs_cons ?_ ?_ | (simp only [go_sem, reduceCtorEq, reduceIte, Nat.reduceAdd, Nat.reduceEqDiff, Nat.reduceLeDiff, Nat.reduceMul, Nat.reduceSub, *]; done)))
      | (refine callW.obj [0] (hv) rfl ?_ rfl (by decide) ?_ (by simp [okInc, Disj]) ?_
         · simp only [go_sem, reduceCtorEq, reduceIte, Nat.reduceAdd, Nat.reduceEqDiff, Nat.reduceLeDiff, Nat.reduceMul, Nat.reduceSub, *]
         · repeat' (first | exact HIs_nil | refine HIs_cons ?_ ?_ | (simp only [go_sem, reduceCtorEq, reduceIte, Nat.reduceAdd, Nat.reduceEqDiff, Nat.reduceLeDiff, Nat.reduceMul, Nat.reduceSub, *]; done)))
      | refine ⟨by decide, ?_⟩
      | fail)
    refine ⟨by simp, _, by simp only [go_sem, reduceCtorEq, reduceIte, Nat.reduceAdd, Nat.reduceEqDiff, Nat.reduceLeDiff, Nat.reduceMul, resV]; rfl, ?_⟩
    exact EndV.of hn [0] _ (by simp) (by simp [tau]) (by simp) (.same rfl rfl) (HConv.same (by decide) (by first | rfl | (simp only [go_sem, reduceCtorEq, reduceIte, Nat.reduceAdd, Nat.reduceEqDiff, Nat.reduceLeDiff, Nat.reduceMul, *] <;> rfl)) rfl HConv.nil)
  · refine ⟨d', p2, by omega, hd', ?_⟩
    clear h0 h1 hr hd hl1 hl2 hd'
    unfold encBy encB at *
    refine objC_of k101 (by simp) (by simp) hw' ?_
    intro X hP hm hH hn hX
    change X.n = 1 at hn
    refine vwp_ok _ ?_
    unfold vc101
    clear hw hw'
    repeat' (first
      | simp only [go_sem, reduceCtorEq, reduceIte, Nat.reduceAdd, Nat.reduceEqDiff, Nat.reduceLeDiff, Nat.reduceMul, Nat.reduceSub, *]
      | refine gdO_bool' _ (fun _ => ?_) (fun _ => ?_)
      | refine gdO_bool _ (fun _ => ?_) (fun _ => ?_)
      | refine gdD_bool' _ (fun _ => ?_) (fun _ => ?_)
      | refine gdD_bool _ (fun _ => ?_) (fun _ => ?_)
      | refine cdO_bool' _ (fun _ => ?_) (fun _ => ?_)
      | refine cdO_bool _ (fun _ => ?_) (fun _ => ?_)
      | (refine callO.obj [0] (hc) ?_ rfl (by decide) ?_ ?_
         · simp only [go_sem, reduceCtorEq, reduceIte, Nat.reduceAdd, Nat.reduceEqDiff, Nat.reduceLeDiff, Nat.reduceMul, Nat.reduceSub, *]
         · repeat' (first | exact HIs_nil | refine HIs_cons ?_ ?_ | (simp only [go_sem, reduceCtorEq, reduceIte, Nat.reduceAdd, Nat.reduceEqDiff, Nat.reduceLeDiff, Nat.reduceMul, Nat.reduceSub, *]; done)))
      | (refine callW.obj [0] (hc) rfl ?_ rfl (by decide) ?_ (by simp [okInc, Disj]) ?_
         · simp only [go_sem, reduceCtorEq, reduceIte, Nat.reduceAdd, Nat.reduceEqDiff, Nat.reduceLeDiff, Nat.reduceMul, Nat.reduceSub, *]
         · repeat' (first | exact HIs_nil | refine HIs_cons ?_ ?_ | (simp only [go_sem, reduceCtorEq, reduceIte, Nat.reduceAdd, Nat.reduceEqDiff, Nat.reduceLeDiff, Nat.reduceMul, Nat.reduceSub, *]; done)))
      | (refine callO.obj [0] (hv) ?_ rfl (by decide) ?_ ?_
         · simp only [go_sem, reduceCtorEq, reduceIte, Nat.reduceAdd, Nat.reduceEqDiff, Nat.reduceLeDiff, Nat.reduceMul, Nat.reduceSub, *]
         · repeat' (first | exact HIs_nil | refine HIs_cons ?_ ?_ | (simp only [go_sem, reduceCtorEq, reduceIte, Nat.reduceAdd, Nat.reduceEqDiff, Nat.reduceLeDiff, Nat.reduceMul, Nat.reduceSub, *]; done)))
      | (refine callW.obj [0] (hv) rfl ?_ rfl (by decide) ?_ (by simp [okInc, Disj]) ?_
         · simp only [go_sem, reduceCtorEq, reduceIte, Nat.reduceAdd, Nat.reduceEqDiff, Nat.reduceLeDiff, Nat.reduceMul, Nat.reduceSub, *]
         · repeat' (first | exact HIs_nil | refine HIs_cons ?_ ?_ | (simp only [go_sem, reduceCtorEq, reduceIte, Nat.reduceAdd, Nat.reduceEqDiff, Nat.reduceLeDiff, Nat.reduceMul, Nat.reduceSub, *]; done)))
      | (refine callO.obj [0] (hc') ?_ rfl (by decide) ?_ ?_
         · simp only [go_sem, reduceCtorEq, reduceIte, Nat.reduceAdd, Nat.reduceEqDiff, Nat.reduceLeDiff, Nat.reduceMul, Nat.reduceSub, *]
         · repeat' (first | exact HIs_nil | refine HIs_cons ?_ ?_ | (simp only [go_sem, reduceCtorEq, reduceIte, Nat.reduceAdd, Nat.reduceEqDiff, Nat.reduceLeDiff, Nat.reduceMul, Nat.reduceSub, *]; done)))
      | (refine callW.obj [0] (hc') rfl ?_ rfl (by decide) ?_ (by simp [okInc, Disj]) ?_
         · simp only [go_sem, reduceCtorEq, reduceIte, Nat.reduceAdd, Nat.reduceEqDiff, Nat.reduceLeDiff, Nat.reduceMul, Nat.reduceSub, *]
         · repeat' (first | exact HIs_nil | refine HIs_cons ?_ ?_ | (simp only [go_sem, reduceCtorEq, reduceIte, Nat.reduceAdd, Nat.reduceEqDiff, Nat.reduceLeDiff, Nat.reduceMul, Nat.reduceSub, *]; done)))
      | refine ⟨by decide, ?_⟩
      | fail)
    refine ⟨by simp, _, by simp only [go_sem, reduceCtorEq, reduceIte, Nat.reduceAdd, Nat.reduceEqDiff, Nat.reduceLeDiff, Nat.reduceMul, resV]; rfl, ?_⟩
    exact EndV.of hn [0] _ (by simp) (by simp [tau]) (by simp) (.same rfl rfl) (HConv.same (by decide) (by first | rfl | (simp only [go_sem, reduceCtorEq, reduceIte, Nat.reduceAdd, Nat.reduceEqDiff, Nat.reduceLeDiff, Nat.reduceMul, *] <;> rfl)) rfl HConv.nil)
def DrP (s : Spot) : Prop := (-1 ≤ s.block ∧ s.block < 1099511627776) ∧ (-1 ≤ s.cell ∧ s.cell < 1099511627776) ∧ (-1 ≤ s.pos ∧ s.pos < 1099511627776)
def PlC (b : List Int) (p : Int) (d : Doc) : Prop := ∃ (s : Spot) (p' : Int), (p ≤ p' ∧ p' ≤ p + 10) ∧ DrP s ∧ ObjC prog 109 [.pt 0 0, .agg [encB d]] [[encBy b, .sc (.int .i64 p)]] (.agg s.enc) [(0, [encBy b, .sc (.int .i64 p')])] 1
theorem c109 {b : List Int} (hr : Rd b) {p : Int} {d : Doc} (h0 : 0 ≤ p) (h1 : p + 1000 < 1073741824) (hd : docSm d) : PlC b p d := by
  obtain ⟨v, u0, u1, hv⟩ := pk hr h0 (by omega) 20
  have none3 : ∀ q, q = p ∨ q = p + 1 → ∃ v1 v2 v3 : Int, (0 ≤ v1 ∧ v1 < 4) ∧ (0 ≤ v2 ∧ v2 < 3) ∧ (0 ≤ v3 ∧ v3 < 4) ∧ Pk b q 4 v1 ∧ Pk b (q + 1) 3 v2 ∧ Pk b (q + 1 + 1) 4 v3 := fun q hq => by
    obtain ⟨v1, a1⟩ := pk hr (p := q) (by omega) (by omega) 4
    obtain ⟨v2, a2⟩ := pk hr (p := q + 1) (by omega) (by omega) 3
    obtain ⟨v3, a3⟩ := pk hr (p := q + 1 + 1) (by omega) (by omega) 4
    exact ⟨v1, v2, v3, ⟨a1.1, a1.2.1 (by omega)⟩, ⟨a2.1, a2.2.1 (by omega)⟩, ⟨a3.1, a3.2.1 (by omega)⟩, a1, a2, a3⟩
  rcases Nat.eq_zero_or_pos d.length with hz | hpos
  · obtain ⟨v1, v2, v3, b1, b2, b3, ⟨_, _, q1⟩, ⟨_, _, q2⟩, ⟨_, _, q3⟩⟩ := none3 p (.inl rfl)
    have g1 : ((d.length : Int) == 0) = true := by simp [hz]
    have w1 : IntKind.i64.wrap (v1 - 1) = v1 - 1 := by rw [wrap_id] <;> omega
    have w2 : IntKind.i64.wrap (v2 - 1) = v2 - 1 := by rw [wrap_id] <;> omega
    have w3 : IntKind.i64.wrap (v3 - 1) = v3 - 1 := by rw [wrap_id] <;> omega
    refine ⟨⟨v1 - 1, v2 - 1, v3 - 1⟩, p + 1 + 1 + 1, by omega, ⟨⟨by simp only; omega, by simp only; omega⟩, ⟨by simp only; omega, by simp only; omega⟩, ⟨by simp only; omega, by simp only; omega⟩⟩, ?_⟩
    clear none3 hv u0 u1 hz b1 b2 b3 hd h0 h1 hr
    unfold encBy encB at *
    unfold Spot.enc
    refine objC_of k109 (by simp) (by simp) (by simp [wfO, VV.underL, VV.under, Spot.enc, encBy, encB]) ?_
    intro X hP hm hH hn hX
    change X.n = 1 at hn
    refine vwp_ok _ ?_
    unfold vc109
    repeat' (first
      | simp only [go_sem, reduceCtorEq, reduceIte, Nat.reduceAdd, Nat.reduceEqDiff, Nat.reduceLeDiff, Nat.reduceMul, Nat.reduceSub, *]
      | refine gdO_bool' _ (fun _ => ?_) (fun _ => ?_)
      | refine gdO_bool _ (fun _ => ?_) (fun _ => ?_)
      | refine gdD_bool' _ (fun _ => ?_) (fun _ => ?_)
      | refine gdD_bool _ (fun _ => ?_) (fun _ => ?_)
      | refine cdO_bool' _ (fun _ => ?_) (fun _ => ?_)
      | refine cdO_bool _ (fun _ => ?_) (fun _ => ?_)
      | (refine callO.obj [0] (q1) ?_ rfl (by decide) ?_ ?_
         · simp only [go_sem, reduceCtorEq, reduceIte, Nat.reduceAdd, Nat.reduceEqDiff, Nat.reduceLeDiff, Nat.reduceMul, Nat.reduceSub, *]
         · repeat' (first | exact HIs_nil | refine HIs_cons ?_ ?_ | (simp only [go_sem, reduceCtorEq, reduceIte, Nat.reduceAdd, Nat.reduceEqDiff, Nat.reduceLeDiff, Nat.reduceMul, Nat.reduceSub, *]; done)))
      | (refine callW.obj [0] (q1) rfl ?_ rfl (by decide) ?_ (by simp [okInc, Disj]) ?_
         · simp only [go_sem, reduceCtorEq, reduceIte, Nat.reduceAdd, Nat.reduceEqDiff, Nat.reduceLeDiff, Nat.reduceMul, Nat.reduceSub, *]
         · repeat' (first | exact HIs_nil | refine HIs_cons ?_ ?_ | (simp only [go_sem, reduceCtorEq, reduceIte, Nat.reduceAdd, Nat.reduceEqDiff, Nat.reduceLeDiff, Nat.reduceMul, Nat.reduceSub, *]; done)))
      | (refine callO.obj [0] (q2) ?_ rfl (by decide) ?_ ?_
         · simp only [go_sem, reduceCtorEq, reduceIte, Nat.reduceAdd, Nat.reduceEqDiff, Nat.reduceLeDiff, Nat.reduceMul, Nat.reduceSub, *]
         · repeat' (first | exact HIs_nil | refine HIs_cons ?_ ?_ | (simp only [go_sem, reduceCtorEq, reduceIte, Nat.reduceAdd, Nat.reduceEqDiff, Nat.reduceLeDiff, Nat.reduceMul, Nat.reduceSub, *]; done)))
      | (refine callW.obj [0] (q2) rfl ?_ rfl (by decide) ?_ (by simp [okInc, Disj]) ?_
         · simp only [go_sem, reduceCtorEq, reduceIte, Nat.reduceAdd, Nat.reduceEqDiff, Nat.reduceLeDiff, Nat.reduceMul, Nat.reduceSub, *]
         · repeat' (first | exact HIs_nil | refine HIs_cons ?_ ?_ | (simp only [go_sem, reduceCtorEq, reduceIte, Nat.reduceAdd, Nat.reduceEqDiff, Nat.reduceLeDiff, Nat.reduceMul, Nat.reduceSub, *]; done)))
      | (refine callO.obj [0] (q3) ?_ rfl (by decide) ?_ ?_
         · simp only [go_sem, reduceCtorEq, reduceIte, Nat.reduceAdd, Nat.reduceEqDiff, Nat.reduceLeDiff, Nat.reduceMul, Nat.reduceSub, *]
         · repeat' (first | exact HIs_nil | refine HIs_cons ?_ ?_ | (simp only [go_sem, reduceCtorEq, reduceIte, Nat.reduceAdd, Nat.reduceEqDiff, Nat.reduceLeDiff, Nat.reduceMul, Nat.reduceSub, *]; done)))
      | (refine callW.obj [0] (q3) rfl ?_ rfl (by decide) ?_ (by simp [okInc, Disj]) ?_
         · simp only [go_sem, reduceCtorEq, reduceIte, Nat.reduceAdd, Nat.reduceEqDiff, Nat.reduceLeDiff, Nat.reduceMul, Nat.reduceSub, *]
         · repeat' (first | exact HIs_nil | refine HIs_cons ?_ ?_ | (simp only [go_sem, reduceCtorEq, reduceIte, Nat.reduceAdd, Nat.reduceEqDiff, Nat.reduceLeDiff, Nat.reduceMul, Nat.reduceSub, *]; done)))
      | refine ⟨by decide, ?_⟩
      | fail)
    refine ⟨by simp, _, by simp only [go_sem, reduceCtorEq, reduceIte, Nat.reduceAdd, Nat.reduceEqDiff, Nat.reduceLeDiff, Nat.reduceMul, resV]; rfl, ?_⟩
    exact EndV.of hn [0] _ (by simp) (by simp [tau]) (by simp) (.same rfl rfl) (HConv.same (by decide) (by first | rfl | (simp only [go_sem, reduceCtorEq, reduceIte, Nat.reduceAdd, Nat.reduceEqDiff, Nat.reduceLeDiff, Nat.reduceMul, *] <;> rfl)) rfl HConv.nil)
  have g1 : ((d.length : Int) == 0) = false := by rw [beq_eq_false_iff_ne]; omega
  rcases hv0 : (v == 0) with _ | _
  · obtain ⟨x0, y0, y1, q1⟩ := pk hr (p := p + 1) (by omega) (by omega) d.length
    have y1 := y1 (by omega)
    obtain ⟨k, hk⟩ : ∃ k : Nat, x0 = k := ⟨x0.toNat, by omega⟩
    subst hk
    have hkl : k < d.length := by omega
    have i0 : (0 : Int) ≤ (k : Int) := by omega
    have i1 : (k : Int) < (d.length : Int) := by omega
    have g4 : (d.map Block.enc).getD k [] = (d[k]).enc := getD_map hkl
    have hs := hd.2 d[k] (List.getElem_mem hkl)
    have hdl := hd.1
    generalize d[k] = x at *
    obtain ⟨kd, lv, tx, ⟨rows, cols, cells⟩⟩ := x
    obtain ⟨hs1, hs2, hs3⟩ := hs
    simp only at hs1 hs2 hs3
    have ec : (⟨kd, lv, tx, ⟨rows, cols, cells⟩⟩ : Block).enc = [.sc (.int .i64 kd), .sc (.int .i64 lv), .sl 3 (tx.map Sign.enc), .sc (.int .i64 rows), .sc (.int .i64 cols), .sl 5 (cells.map Cell.enc)] := rfl
    rw [ec] at g4
    rcases Classical.em ((kd == 3) = true ∧ 0 < cells.length) with hc | hc
    · obtain ⟨x0, z0, z1, q2⟩ := pk hr (p := p + 1 + 1) (by omega) (by omega) cells.length
      have z1 := z1 (by omega)
      obtain ⟨c, hcc⟩ : ∃ c : Nat, x0 = c := ⟨x0.toNat, by omega⟩
      subst hcc
      have hcl : c < cells.length := by omega
      have j0 : (0 : Int) ≤ (c : Int) := by omega
      have j1 : (c : Int) < (cells.length : Int) := by omega
      have g5 : (cells.map Cell.enc).getD c [] = (cells[c]).enc := getD_map hcl
      have hcs := hs3 cells[c] (List.getElem_mem hcl)
      generalize cells[c] = ce at *
      obtain ⟨c1, c2, c3, c4, c5⟩ := ce
      have hcs : c5.length < 1099511627776 := hcs
      have ee : (⟨c1, c2, c3, c4, c5⟩ : Cell).enc = [.sc (.int .i64 c1), .sc (.int .i64 c2), .sc (.int .i64 c3), .sc (.int .i64 c4), .sl 3 (c5.map Sign.enc)] := rfl
      rw [ee] at g5
      obtain ⟨w, w0, w1, q3⟩ := pk hr (p := p + 1 + 1 + 1) (by omega) (by omega) (c5.length + 1)
      have w1 := w1 (by omega)
      have wc : IntKind.i64.wrap ((c5.length : Int) + 1) = (c5.length : Int) + 1 := by rw [wrap_id] <;> omega
      have g6 := hc.1
      have g7 : decide ((cells.length : Int) > 0) = true := by simp; omega
      refine ⟨⟨k, c, w⟩, p + 1 + 1 + 1 + 1, by omega, ⟨⟨by simp only; omega, by simp only; omega⟩, ⟨by simp only; omega, by simp only; omega⟩, ⟨by simp only; omega, by simp only; omega⟩⟩, ?_⟩
      clear none3 u0 u1 hd h0 h1 hr hs1 hs2 hs3 hdl hc w0 w1 z0 z1 y0 y1
      unfold encBy encB at *
      unfold Spot.enc
      refine objC_of k109 (by simp) (by simp) (by simp [wfO, VV.underL, VV.under, Spot.enc, encBy, encB]) ?_
      intro X hP hm hH hn hX
      change X.n = 1 at hn
      refine vwp_ok _ ?_
      unfold vc109
      repeat' (first
        | simp only [go_sem, reduceCtorEq, reduceIte, Nat.reduceAdd, Nat.reduceEqDiff, Nat.reduceLeDiff, Nat.reduceMul, Nat.reduceSub, *]
        | refine gdO_bool' _ (fun _ => ?_) (fun _ => ?_)
        | refine gdO_bool _ (fun _ => ?_) (fun _ => ?_)
        | refine gdD_bool' _ (fun _ => ?_) (fun _ => ?_)
        | refine gdD_bool _ (fun _ => ?_) (fun _ => ?_)
        | refine cdO_bool' _ (fun _ => ?_) (fun _ => ?_)
        | refine cdO_bool _ (fun _ => ?_) (fun _ => ?_)
        | (refine callO.obj [0] (hv) ?_ rfl (by decide) ?_ ?_
           · simp only [go_sem, reduceCtorEq, reduceIte, Nat.reduceAdd, Nat.reduceEqDiff, Nat.reduceLeDiff, Nat.reduceMul, Nat.reduceSub, *]
           · repeat' (first | exact HIs_nil | refine HIs_cons ?_ ?_ | (simp only [go_sem, reduceCtorEq, reduceIte, Nat.reduceAdd, Nat.reduceEqDiff, Nat.reduceLeDiff, Nat.reduceMul, Nat.reduceSub, *]; done)))
        | (refine callW.obj [0] (hv) rfl ?_ rfl (by decide) ?_ (by simp [okInc, Disj]) ?_
           · simp only [go_sem, reduceCtorEq, reduceIte, Nat.reduceAdd, Nat.reduceEqDiff, Nat.reduceLeDiff, Nat.reduceMul, Nat.reduceSub, *]
           · repeat' (first | exact HIs_nil | refine HIs_cons ?_ ?_ | (simp only [go_sem, reduceCtorEq, reduceIte, Nat.reduceAdd, Nat.reduceEqDiff, Nat.reduceLeDiff, Nat.reduceMul, Nat.reduceSub, *]; done)))
        | (refine callO.obj [0] (q1) ?_ rfl (by decide) ?_ ?_
           · simp only [go_sem, reduceCtorEq, reduceIte, Nat.reduceAdd, Nat.reduceEqDiff, Nat.reduceLeDiff, Nat.reduceMul, Nat.reduceSub, *]
           · repeat' (first | exact HIs_nil | refine HIs_cons ?_ ?_ | (simp only [go_sem, reduceCtorEq, reduceIte, Nat.reduceAdd, Nat.reduceEqDiff, Nat.reduceLeDiff, Nat.reduceMul, Nat.reduceSub, *]; done)))
        | (refine callW.obj [0] (q1) rfl ?_ rfl (by decide) ?_ (by simp [okInc, Disj]) ?_
           · simp only [go_sem, reduceCtorEq, reduceIte, Nat.reduceAdd, Nat.reduceEqDiff, Nat.reduceLeDiff, Nat.reduceMul, Nat.reduceSub, *]
           · repeat' (first | exact HIs_nil | refine HIs_cons ?_ ?_ | (simp only [go_sem, reduceCtorEq, reduceIte, Nat.reduceAdd, Nat.reduceEqDiff, Nat.reduceLeDiff, Nat.reduceMul, Nat.reduceSub, *]; done)))
        | (refine callO.obj [0] (q2) ?_ rfl (by decide) ?_ ?_
           · simp only [go_sem, reduceCtorEq, reduceIte, Nat.reduceAdd, Nat.reduceEqDiff, Nat.reduceLeDiff, Nat.reduceMul, Nat.reduceSub, *]
           · repeat' (first | exact HIs_nil | refine HIs_cons ?_ ?_ | (simp only [go_sem, reduceCtorEq, reduceIte, Nat.reduceAdd, Nat.reduceEqDiff, Nat.reduceLeDiff, Nat.reduceMul, Nat.reduceSub, *]; done)))
        | (refine callW.obj [0] (q2) rfl ?_ rfl (by decide) ?_ (by simp [okInc, Disj]) ?_
           · simp only [go_sem, reduceCtorEq, reduceIte, Nat.reduceAdd, Nat.reduceEqDiff, Nat.reduceLeDiff, Nat.reduceMul, Nat.reduceSub, *]
           · repeat' (first | exact HIs_nil | refine HIs_cons ?_ ?_ | (simp only [go_sem, reduceCtorEq, reduceIte, Nat.reduceAdd, Nat.reduceEqDiff, Nat.reduceLeDiff, Nat.reduceMul, Nat.reduceSub, *]; done)))
        | (refine callO.obj [0] (q3) ?_ rfl (by decide) ?_ ?_
           · simp only [go_sem, reduceCtorEq, reduceIte, Nat.reduceAdd, Nat.reduceEqDiff, Nat.reduceLeDiff, Nat.reduceMul, Nat.reduceSub, *]
           · repeat' (first | exact HIs_nil | refine HIs_cons ?_ ?_ | (simp only [go_sem, reduceCtorEq, reduceIte, Nat.reduceAdd, Nat.reduceEqDiff, Nat.reduceLeDiff, Nat.reduceMul, Nat.reduceSub, *]; done)))
        | (refine callW.obj [0] (q3) rfl ?_ rfl (by decide) ?_ (by simp [okInc, Disj]) ?_
           · simp only [go_sem, reduceCtorEq, reduceIte, Nat.reduceAdd, Nat.reduceEqDiff, Nat.reduceLeDiff, Nat.reduceMul, Nat.reduceSub, *]
           · repeat' (first | exact HIs_nil | refine HIs_cons ?_ ?_ | (simp only [go_sem, reduceCtorEq, reduceIte, Nat.reduceAdd, Nat.reduceEqDiff, Nat.reduceLeDiff, Nat.reduceMul, Nat.reduceSub, *]; done)))
        | refine ⟨by decide, ?_⟩
        | fail)
      refine ⟨by simp, _, by simp only [go_sem, reduceCtorEq, reduceIte, Nat.reduceAdd, Nat.reduceEqDiff, Nat.reduceLeDiff, Nat.reduceMul, resV]; rfl, ?_⟩
      exact EndV.of hn [0] _ (by simp) (by simp [tau]) (by simp) (.same rfl rfl) (HConv.same (by decide) (by first | rfl | (simp only [go_sem, reduceCtorEq, reduceIte, Nat.reduceAdd, Nat.reduceEqDiff, Nat.reduceLeDiff, Nat.reduceMul, *] <;> rfl)) rfl HConv.nil)
    · obtain ⟨w, w0, w1, q3⟩ := pk hr (p := p + 1 + 1) (by omega) (by omega) (tx.length + 1)
      have w1 := w1 (by omega)
      have wc : IntKind.i64.wrap ((tx.length : Int) + 1) = (tx.length : Int) + 1 := by rw [wrap_id] <;> omega
      refine ⟨⟨k, 0, w⟩, p + 1 + 1 + 1, by omega, ⟨⟨by simp only; omega, by simp only; omega⟩, ⟨by simp only; omega, by simp only; omega⟩, ⟨by simp only; omega, by simp only; omega⟩⟩, ?_⟩
      rcases hk3 : (kd == 3) with _ | _
      · clear none3 u0 u1 hd h0 h1 hr hs1 hs2 hs3 hdl hc w0 w1 y0 y1
        unfold encBy encB at *
        unfold Spot.enc
        refine objC_of k109 (by simp) (by simp) (by simp [wfO, VV.underL, VV.under, Spot.enc, encBy, encB]) ?_
        intro X hP hm hH hn hX
        change X.n = 1 at hn
        refine vwp_ok _ ?_
        unfold vc109
        repeat' (first
          | simp only [go_sem, reduceCtorEq, reduceIte, Nat.reduceAdd, Nat.reduceEqDiff, Nat.reduceLeDiff, Nat.reduceMul, Nat.reduceSub, *]
          | refine gdO_bool' _ (fun _ => ?_) (fun _ => ?_)
          | refine gdO_bool _ (fun _ => ?_) (fun _ => ?_)
          | refine gdD_bool' _ (fun _ => ?_) (fun _ => ?_)
          | refine gdD_bool _ (fun _ => ?_) (fun _ => ?_)
          | refine cdO_bool' _ (fun _ => ?_) (fun _ => ?_)
          | refine cdO_bool _ (fun _ => ?_) (fun _ => ?_)
          | (refine callO.obj [0] (hv) ?_ rfl (by decide) ?_ ?_
             · simp only [go_sem, reduceCtorEq, reduceIte, Nat.reduceAdd, Nat.reduceEqDiff, Nat.reduceLeDiff, Nat.reduceMul, Nat.reduceSub, *]
             · repeat' (first | exact HIs_nil | refine HIs_cons ?_ ?_ | (simp only [go_sem, reduceCtorEq, reduceIte, Nat.reduceAdd, Nat.reduceEqDiff, Nat.reduceLeDiff, Nat.reduceMul, Nat.reduceSub, *]; done)))
          | (refine callW.obj [0] (hv) rfl ?_ rfl (by decide) ?_ (by simp [okInc, Disj]) ?_
             · simp only [go_sem, reduceCtorEq, reduceIte, Nat.reduceAdd, Nat.reduceEqDiff, Nat.reduceLeDiff, Nat.reduceMul, Nat.reduceSub, *]
             · repeat' (first | exact HIs_nil | refine HIs_cons ?_ ?_ | (simp only [go_sem, reduceCtorEq, reduceIte, Nat.reduceAdd, Nat.reduceEqDiff, Nat.reduceLeDiff, Nat.reduceMul, Nat.reduceSub, *]; done)))
          | (refine callO.obj [0] (q1) ?_ rfl (by decide) ?_ ?_
             · simp only [go_sem, reduceCtorEq, reduceIte, Nat.reduceAdd, Nat.reduceEqDiff, Nat.reduceLeDiff, Nat.reduceMul, Nat.reduceSub, *]
             · repeat' (first | exact HIs_nil | refine HIs_cons ?_ ?_ | (simp only [go_sem, reduceCtorEq, reduceIte, Nat.reduceAdd, Nat.reduceEqDiff, Nat.reduceLeDiff, Nat.reduceMul, Nat.reduceSub, *]; done)))
          | (refine callW.obj [0] (q1) rfl ?_ rfl (by decide) ?_ (by simp [okInc, Disj]) ?_
             · simp only [go_sem, reduceCtorEq, reduceIte, Nat.reduceAdd, Nat.reduceEqDiff, Nat.reduceLeDiff, Nat.reduceMul, Nat.reduceSub, *]
             · repeat' (first | exact HIs_nil | refine HIs_cons ?_ ?_ | (simp only [go_sem, reduceCtorEq, reduceIte, Nat.reduceAdd, Nat.reduceEqDiff, Nat.reduceLeDiff, Nat.reduceMul, Nat.reduceSub, *]; done)))
          | (refine callO.obj [0] (q3) ?_ rfl (by decide) ?_ ?_
             · simp only [go_sem, reduceCtorEq, reduceIte, Nat.reduceAdd, Nat.reduceEqDiff, Nat.reduceLeDiff, Nat.reduceMul, Nat.reduceSub, *]
             · repeat' (first | exact HIs_nil | refine HIs_cons ?_ ?_ | (simp only [go_sem, reduceCtorEq, reduceIte, Nat.reduceAdd, Nat.reduceEqDiff, Nat.reduceLeDiff, Nat.reduceMul, Nat.reduceSub, *]; done)))
          | (refine callW.obj [0] (q3) rfl ?_ rfl (by decide) ?_ (by simp [okInc, Disj]) ?_
             · simp only [go_sem, reduceCtorEq, reduceIte, Nat.reduceAdd, Nat.reduceEqDiff, Nat.reduceLeDiff, Nat.reduceMul, Nat.reduceSub, *]
             · repeat' (first | exact HIs_nil | refine HIs_cons ?_ ?_ | (simp only [go_sem, reduceCtorEq, reduceIte, Nat.reduceAdd, Nat.reduceEqDiff, Nat.reduceLeDiff, Nat.reduceMul, Nat.reduceSub, *]; done)))
          | refine ⟨by decide, ?_⟩
          | fail)
        refine ⟨by simp, _, by simp only [go_sem, reduceCtorEq, reduceIte, Nat.reduceAdd, Nat.reduceEqDiff, Nat.reduceLeDiff, Nat.reduceMul, resV]; rfl, ?_⟩
        exact EndV.of hn [0] _ (by simp) (by simp [tau]) (by simp) (.same rfl rfl) (HConv.same (by decide) (by first | rfl | (simp only [go_sem, reduceCtorEq, reduceIte, Nat.reduceAdd, Nat.reduceEqDiff, Nat.reduceLeDiff, Nat.reduceMul, *] <;> rfl)) rfl HConv.nil)
      · have g7 : decide ((cells.length : Int) > 0) = false := by
          have : ¬ 0 < cells.length := fun h => hc ⟨hk3, h⟩
          simp only [decide_eq_false_iff_not]; omega
        clear none3 u0 u1 hd h0 h1 hr hs1 hs2 hs3 hdl hc w0 w1 y0 y1
        unfold encBy encB at *
        unfold Spot.enc
        refine objC_of k109 (by simp) (by simp) (by simp [wfO, VV.underL, VV.under, Spot.enc, encBy, encB]) ?_
        intro X hP hm hH hn hX
        change X.n = 1 at hn
        refine vwp_ok _ ?_
        unfold vc109
        repeat' (first
          | simp only [go_sem, reduceCtorEq, reduceIte, Nat.reduceAdd, Nat.reduceEqDiff, Nat.reduceLeDiff, Nat.reduceMul, Nat.reduceSub, *]
          | refine gdO_bool' _ (fun _ => ?_) (fun _ => ?_)
          | refine gdO_bool _ (fun _ => ?_) (fun _ => ?_)
          | refine gdD_bool' _ (fun _ => ?_) (fun _ => ?_)
          | refine gdD_bool _ (fun _ => ?_) (fun _ => ?_)
          | refine cdO_bool' _ (fun _ => ?_) (fun _ => ?_)
          | refine cdO_bool _ (fun _ => ?_) (fun _ => ?_)
          | (refine callO.obj [0] (hv) ?_ rfl (by decide) ?_ ?_
             · simp only [go_sem, reduceCtorEq, reduceIte, Nat.reduceAdd, Nat.reduceEqDiff, Nat.reduceLeDiff, Nat.reduceMul, Nat.reduceSub, *]
             · repeat' (first | exact HIs_nil | refine HIs_cons ?_ ?_ | (simp only [go_sem, reduceCtorEq, reduceIte, Nat.reduceAdd, Nat.reduceEqDiff, Nat.reduceLeDiff, Nat.reduceMul, Nat.reduceSub, *]; done)))
          | (refine callW.obj [0] (hv) rfl ?_ rfl (by decide) ?_ (by simp [okInc, Disj]) ?_
             · simp only [go_sem, reduceCtorEq, reduceIte, Nat.reduceAdd, Nat.reduceEqDiff, Nat.reduceLeDiff, Nat.reduceMul, Nat.reduceSub, *]
             · repeat' (first | exact HIs_nil | refine HIs_cons ?_ ?_ | (simp only [go_sem, reduceCtorEq, reduceIte, Nat.reduceAdd, Nat.reduceEqDiff, Nat.reduceLeDiff, Nat.reduceMul, Nat.reduceSub, *]; done)))
          | (refine callO.obj [0] (q1) ?_ rfl (by decide) ?_ ?_
             · simp only [go_sem, reduceCtorEq, reduceIte, Nat.reduceAdd, Nat.reduceEqDiff, Nat.reduceLeDiff, Nat.reduceMul, Nat.reduceSub, *]
             · repeat' (first | exact HIs_nil | refine HIs_cons ?_ ?_ | (simp only [go_sem, reduceCtorEq, reduceIte, Nat.reduceAdd, Nat.reduceEqDiff, Nat.reduceLeDiff, Nat.reduceMul, Nat.reduceSub, *]; done)))
          | (refine callW.obj [0] (q1) rfl ?_ rfl (by decide) ?_ (by simp [okInc, Disj]) ?_
             · simp only [go_sem, reduceCtorEq, reduceIte, Nat.reduceAdd, Nat.reduceEqDiff, Nat.reduceLeDiff, Nat.reduceMul, Nat.reduceSub, *]
             · repeat' (first | exact HIs_nil | refine HIs_cons ?_ ?_ | (simp only [go_sem, reduceCtorEq, reduceIte, Nat.reduceAdd, Nat.reduceEqDiff, Nat.reduceLeDiff, Nat.reduceMul, Nat.reduceSub, *]; done)))
          | (refine callO.obj [0] (q3) ?_ rfl (by decide) ?_ ?_
             · simp only [go_sem, reduceCtorEq, reduceIte, Nat.reduceAdd, Nat.reduceEqDiff, Nat.reduceLeDiff, Nat.reduceMul, Nat.reduceSub, *]
             · repeat' (first | exact HIs_nil | refine HIs_cons ?_ ?_ | (simp only [go_sem, reduceCtorEq, reduceIte, Nat.reduceAdd, Nat.reduceEqDiff, Nat.reduceLeDiff, Nat.reduceMul, Nat.reduceSub, *]; done)))
          | (refine callW.obj [0] (q3) rfl ?_ rfl (by decide) ?_ (by simp [okInc, Disj]) ?_
             · simp only [go_sem, reduceCtorEq, reduceIte, Nat.reduceAdd, Nat.reduceEqDiff, Nat.reduceLeDiff, Nat.reduceMul, Nat.reduceSub, *]
             · repeat' (first | exact HIs_nil | refine HIs_cons ?_ ?_ | (simp only [go_sem, reduceCtorEq, reduceIte, Nat.reduceAdd, Nat.reduceEqDiff, Nat.reduceLeDiff, Nat.reduceMul, Nat.reduceSub, *]; done)))
          | refine ⟨by decide, ?_⟩
          | fail)
        refine ⟨by simp, _, by simp only [go_sem, reduceCtorEq, reduceIte, Nat.reduceAdd, Nat.reduceEqDiff, Nat.reduceLeDiff, Nat.reduceMul, resV]; rfl, ?_⟩
        exact EndV.of hn [0] _ (by simp) (by simp [tau]) (by simp) (.same rfl rfl) (HConv.same (by decide) (by first | rfl | (simp only [go_sem, reduceCtorEq, reduceIte, Nat.reduceAdd, Nat.reduceEqDiff, Nat.reduceLeDiff, Nat.reduceMul, *] <;> rfl)) rfl HConv.nil)
  · obtain ⟨v1, v2, v3, b1, b2, b3, ⟨_, _, q1⟩, ⟨_, _, q2⟩, ⟨_, _, q3⟩⟩ := none3 (p + 1) (.inr rfl)
    have w1 : IntKind.i64.wrap (v1 - 1) = v1 - 1 := by rw [wrap_id] <;> omega
    have w2 : IntKind.i64.wrap (v2 - 1) = v2 - 1 := by rw [wrap_id] <;> omega
    have w3 : IntKind.i64.wrap (v3 - 1) = v3 - 1 := by rw [wrap_id] <;> omega
    refine ⟨⟨v1 - 1, v2 - 1, v3 - 1⟩, p + 1 + 1 + 1 + 1, by omega, ⟨⟨by simp only; omega, by simp only; omega⟩, ⟨by simp only; omega, by simp only; omega⟩, ⟨by simp only; omega, by simp only; omega⟩⟩, ?_⟩
    clear none3 u0 u1 b1 b2 b3 hd h0 h1 hr
    unfold encBy encB at *
    unfold Spot.enc
    refine objC_of k109 (by simp) (by simp) (by simp [wfO, VV.underL, VV.under, Spot.enc, encBy, encB]) ?_
    intro X hP hm hH hn hX
    change X.n = 1 at hn
    refine vwp_ok _ ?_
    unfold vc109
    repeat' (first
      | simp only [go_sem, reduceCtorEq, reduceIte, Nat.reduceAdd, Nat.reduceEqDiff, Nat.reduceLeDiff, Nat.reduceMul, Nat.reduceSub, *]
      | refine gdO_bool' _ (fun _ => ?_) (fun _ => ?_)
      | refine gdO_bool _ (fun _ => ?_) (fun _ => ?_)
      | refine gdD_bool' _ (fun _ => ?_) (fun _ => ?_)
      | refine gdD_bool _ (fun _ => ?_) (fun _ => ?_)
      | refine cdO_bool' _ (fun _ => ?_) (fun _ => ?_)
      | refine cdO_bool _ (fun _ => ?_) (fun _ => ?_)
      | (refine callO.obj [0] (hv) ?_ rfl (by decide) ?_ ?_
         · simp only [go_sem, reduceCtorEq, reduceIte, Nat.reduceAdd, Nat.reduceEqDiff, Nat.reduceLeDiff, Nat.reduceMul, Nat.reduceSub, *]
         · repeat' (first | exact HIs_nil | refine HIs_cons ?_ ?_ | (simp only [go_sem, reduceCtorEq, reduceIte, Nat.reduceAdd, Nat.reduceEqDiff, Nat.reduceLeDiff, Nat.reduceMul, Nat.reduceSub, *]; done)))
      | (refine callW.obj [0] (hv) rfl ?_ rfl (by decide) ?_ (by simp [okInc, Disj]) ?_
         · simp only [go_sem, reduceCtorEq, reduceIte, Nat.reduceAdd, Nat.reduceEqDiff, Nat.reduceLeDiff, Nat.reduceMul, Nat.reduceSub, *]
         · repeat' (first | exact HIs_nil | refine HIs_cons ?_ ?_ | (simp only [go_sem, reduceCtorEq, reduceIte, Nat.reduceAdd, Nat.reduceEqDiff, Nat.reduceLeDiff, Nat.reduceMul, Nat.reduceSub, *]; done)))
      | (refine callO.obj [0] (q1) ?_ rfl (by decide) ?_ ?_
         · simp only [go_sem, reduceCtorEq, reduceIte, Nat.reduceAdd, Nat.reduceEqDiff, Nat.reduceLeDiff, Nat.reduceMul, Nat.reduceSub, *]
         · repeat' (first | exact HIs_nil | refine HIs_cons ?_ ?_ | (simp only [go_sem, reduceCtorEq, reduceIte, Nat.reduceAdd, Nat.reduceEqDiff, Nat.reduceLeDiff, Nat.reduceMul, Nat.reduceSub, *]; done)))
      | (refine callW.obj [0] (q1) rfl ?_ rfl (by decide) ?_ (by simp [okInc, Disj]) ?_
         · simp only [go_sem, reduceCtorEq, reduceIte, Nat.reduceAdd, Nat.reduceEqDiff, Nat.reduceLeDiff, Nat.reduceMul, Nat.reduceSub, *]
         · repeat' (first | exact HIs_nil | refine HIs_cons ?_ ?_ | (simp only [go_sem, reduceCtorEq, reduceIte, Nat.reduceAdd, Nat.reduceEqDiff, Nat.reduceLeDiff, Nat.reduceMul, Nat.reduceSub, *]; done)))
      | (refine callO.obj [0] (q2) ?_ rfl (by decide) ?_ ?_
         · simp only [go_sem, reduceCtorEq, reduceIte, Nat.reduceAdd, Nat.reduceEqDiff, Nat.reduceLeDiff, Nat.reduceMul, Nat.reduceSub, *]
         · repeat' (first | exact HIs_nil | refine HIs_cons ?_ ?_ | (simp only [go_sem, reduceCtorEq, reduceIte, Nat.reduceAdd, Nat.reduceEqDiff, Nat.reduceLeDiff, Nat.reduceMul, Nat.reduceSub, *]; done)))
      | (refine callW.obj [0] (q2) rfl ?_ rfl (by decide) ?_ (by simp [okInc, Disj]) ?_
         · simp only [go_sem, reduceCtorEq, reduceIte, Nat.reduceAdd, Nat.reduceEqDiff, Nat.reduceLeDiff, Nat.reduceMul, Nat.reduceSub, *]
         · repeat' (first | exact HIs_nil | refine HIs_cons ?_ ?_ | (simp only [go_sem, reduceCtorEq, reduceIte, Nat.reduceAdd, Nat.reduceEqDiff, Nat.reduceLeDiff, Nat.reduceMul, Nat.reduceSub, *]; done)))
      | (refine callO.obj [0] (q3) ?_ rfl (by decide) ?_ ?_
         · simp only [go_sem, reduceCtorEq, reduceIte, Nat.reduceAdd, Nat.reduceEqDiff, Nat.reduceLeDiff, Nat.reduceMul, Nat.reduceSub, *]
         · repeat' (first | exact HIs_nil | refine HIs_cons ?_ ?_ | (simp only [go_sem, reduceCtorEq, reduceIte, Nat.reduceAdd, Nat.reduceEqDiff, Nat.reduceLeDiff, Nat.reduceMul, Nat.reduceSub, *]; done)))
      | (refine callW.obj [0] (q3) rfl ?_ rfl (by decide) ?_ (by simp [okInc, Disj]) ?_
         · simp only [go_sem, reduceCtorEq, reduceIte, Nat.reduceAdd, Nat.reduceEqDiff, Nat.reduceLeDiff, Nat.reduceMul, Nat.reduceSub, *]
         · repeat' (first | exact HIs_nil | refine HIs_cons ?_ ?_ | (simp only [go_sem, reduceCtorEq, reduceIte, Nat.reduceAdd, Nat.reduceEqDiff, Nat.reduceLeDiff, Nat.reduceMul, Nat.reduceSub, *]; done)))
      | refine ⟨by decide, ?_⟩
      | fail)
    refine ⟨by simp, _, by simp only [go_sem, reduceCtorEq, reduceIte, Nat.reduceAdd, Nat.reduceEqDiff, Nat.reduceLeDiff, Nat.reduceMul, resV]; rfl, ?_⟩
    exact EndV.of hn [0] _ (by simp) (by simp [tau]) (by simp) (.same rfl rfl) (HConv.same (by decide) (by first | rfl | (simp only [go_sem, reduceCtorEq, reduceIte, Nat.reduceAdd, Nat.reduceEqDiff, Nat.reduceLeDiff, Nat.reduceMul, *] <;> rfl)) rfl HConv.nil)
end Go.Proofs.Ytdmmhainianadaa

/- F36: a drawn document and a place of it. -/
namespace Go.Proofs.Ytdmmhainianadaa
open Go.VM Go.Lim Go.Proofs.Try
attribute [local irreducible] vwp vops vstep vdr vdr1 CallP PPost SWv gdO gdD cdO optV optW optD thenV blockV behind callO callW callvO roundV
set_option linter.unusedSimpArgs false
set_option linter.unusedVariables false
/- loop.example/limner/spec.DrawPlaceText -/
def vc92 : VCode :=
(.seq (.reg [⟨(some 2), (.new [(.slice none 0 0)]), none⟩, ⟨(some 3), (.new [(.int .i64 0), (.int .i64 0), (.int .i64 0)]), none⟩])
(.seq (.reg [⟨(some 6), (.mov (.tmp 0)), none⟩, ⟨(some 7), (.call 100 [(.tmp 6)]), none⟩, ⟨(some 4), (.mov (.tmp 7)), none⟩])
(.seq (.reg [⟨(some 8), (.mov (.tmp 4)), none⟩, ⟨(some 9), (.call 101 [(.tmp 8)]), none⟩, ⟨(some 5), (.new [(.slice none 0 0)]), none⟩, ⟨none, (.store 1 (.tmp 5) (.tmp 9)), none⟩])
(.seq (.drw [(⟨(some 10), (.load true 1 (.tmp 5)), none⟩, []), (⟨(some 11), (.mov (.tmp 4)), none⟩, []), (⟨(some 12), (.load true 1 (.tmp 5)), none⟩, [0]), (⟨(some 13), (.call 109 [(.tmp 11), (.tmp 12)]), none⟩, [0]), (⟨none, (.store 1 (.tmp 2) (.tmp 10)), none⟩, []), (⟨none, (.store 3 (.tmp 3) (.tmp 13)), none⟩, [])])
.ret))))
theorem k92 : compFn prog 92 = some (14, vc92, [.c 2 true 1, .c 3 true 3]) := by kernel_rfl
/- loop.example/limner/spec.DrawSpotWas -/
def vc40 : VCode :=
(.seq (.reg [⟨(some 2), (.new [(.slice none 0 0)]), none⟩, ⟨(some 3), (.new [(.int .i64 0), (.int .i64 0), (.int .i64 0)]), none⟩])
(.seq (.reg [⟨(some 4), (.mov (.tmp 0)), none⟩, ⟨(some 5), (.call 92 [(.tmp 4)]), none⟩, ⟨(some 6), (.ext (.tmp 5) 0), none⟩, ⟨(some 7), (.ext (.tmp 5) 1), none⟩, ⟨none, (.store 1 (.tmp 2) (.tmp 6)), none⟩, ⟨none, (.store 3 (.tmp 3) (.tmp 7)), none⟩])
.ret))
theorem k40 : compFn prog 40 = some (8, vc40, [.c 2 true 1, .c 3 true 3]) := by kernel_rfl
def Bytes (l : List Int) : Prop := ∀ x ∈ l, 0 ≤ x ∧ x < 256
theorem Bytes.rd {l : List Int} (h : Bytes l) : Rd (l.take 2000) := ⟨fun x hx => h x (List.mem_of_mem_take hx), by rw [List.length_take]; omega⟩
def DrawDP (f : Nat) (l : List Int) : Prop := ∃ (d : Doc) (s : Spot), SmD d ∧ DrP s ∧ ObjC prog f [encBy l] [] (.tup [.agg [encB d], .agg s.enc]) [] 0
theorem c92 {l : List Int} (hl : Bytes l) : DrawDP 92 l := by
  have h100 := c100 l
  obtain ⟨d, p1, ⟨q1, q2⟩, hd, h101⟩ := c101 hl.rd (p := 0) (by omega) (by omega)
  obtain ⟨s, p2, ⟨q3, q4⟩, hs, h109⟩ := c109 hl.rd (p := p1) (d := d) (by omega) (by omega) hd.sm
  refine ⟨d, s, hd, hs, ?_⟩
  have hw : wfO [encBy l] [] (.tup [.agg [encB d], .agg s.enc]) [] 0 = true := by simp [wfO, VV.underL, VV.under, encB, encBy, Spot.enc]
  clear hd hs q1 q2 q3 q4 hl
  generalize l.take 2000 = l2 at *
  unfold encBy encB Spot.enc at *
  refine objC_of k92 (by simp) (by simp) hw ?_
  intro X hP hm hH hn hX
  change X.n = 0 at hn
  refine vwp_ok _ ?_
  unfold vc92
  clear hw
  repeat' (first
    | simp only [go_sem, reduceCtorEq, reduceIte, Nat.reduceAdd, Nat.reduceEqDiff, Nat.reduceLeDiff, Nat.reduceMul, Nat.reduceSub, *]
    | refine gdO_bool' _ (fun _ => ?_) (fun _ => ?_)
    | refine gdO_bool _ (fun _ => ?_) (fun _ => ?_)
    | refine gdD_bool' _ (fun _ => ?_) (fun _ => ?_)
    | refine gdD_bool _ (fun _ => ?_) (fun _ => ?_)
    | refine cdO_bool' _ (fun _ => ?_) (fun _ => ?_)
    | refine cdO_bool _ (fun _ => ?_) (fun _ => ?_)
    | (refine callO.obj [] (h100) ?_ rfl (by decide) ?_ ?_
       · simp only [go_sem, reduceCtorEq, reduceIte, Nat.reduceAdd, Nat.reduceEqDiff, Nat.reduceLeDiff, Nat.reduceMul, Nat.reduceSub, *]
       · repeat' (first | exact HIs_nil | refine HIs_cons ?_ ?_ | (simp only [go_sem, reduceCtorEq, reduceIte, Nat.reduceAdd, Nat.reduceEqDiff, Nat.reduceLeDiff, Nat.reduceMul, Nat.reduceSub, *]; done)))
    | (refine callW.obj [] (h100) rfl ?_ rfl (by decide) ?_ (by simp [okInc, Disj]) ?_
       · simp only [go_sem, reduceCtorEq, reduceIte, Nat.reduceAdd, Nat.reduceEqDiff, Nat.reduceLeDiff, Nat.reduceMul, Nat.reduceSub, *]
       · repeat' (first | exact HIs_nil | refine HIs_cons ?_ ?_ | (simp only [go_sem, reduceCtorEq, reduceIte, Nat.reduceAdd, Nat.reduceEqDiff, Nat.reduceLeDiff, Nat.reduceMul, Nat.reduceSub, *]; done)))
    | (refine callO.obj [3] (h101) ?_ rfl (by decide) ?_ ?_
       · simp only [go_sem, reduceCtorEq, reduceIte, Nat.reduceAdd, Nat.reduceEqDiff, Nat.reduceLeDiff, Nat.reduceMul, Nat.reduceSub, *]
       · repeat' (first | exact HIs_nil | refine HIs_cons ?_ ?_ | (simp only [go_sem, reduceCtorEq, reduceIte, Nat.reduceAdd, Nat.reduceEqDiff, Nat.reduceLeDiff, Nat.reduceMul, Nat.reduceSub, *]; done)))
    | (refine callW.obj [3] (h101) rfl ?_ rfl (by decide) ?_ (by simp [okInc, Disj]) ?_
       · simp only [go_sem, reduceCtorEq, reduceIte, Nat.reduceAdd, Nat.reduceEqDiff, Nat.reduceLeDiff, Nat.reduceMul, Nat.reduceSub, *]
       · repeat' (first | exact HIs_nil | refine HIs_cons ?_ ?_ | (simp only [go_sem, reduceCtorEq, reduceIte, Nat.reduceAdd, Nat.reduceEqDiff, Nat.reduceLeDiff, Nat.reduceMul, Nat.reduceSub, *]; done)))
    | (refine callO.obj [3] (h109) ?_ rfl (by decide) ?_ ?_
       · simp only [go_sem, reduceCtorEq, reduceIte, Nat.reduceAdd, Nat.reduceEqDiff, Nat.reduceLeDiff, Nat.reduceMul, Nat.reduceSub, *]
       · repeat' (first | exact HIs_nil | refine HIs_cons ?_ ?_ | (simp only [go_sem, reduceCtorEq, reduceIte, Nat.reduceAdd, Nat.reduceEqDiff, Nat.reduceLeDiff, Nat.reduceMul, Nat.reduceSub, *]; done)))
    | (refine callW.obj [3] (h109) rfl ?_ rfl (by decide) ?_ (by simp [okInc, Disj]) ?_
       · simp only [go_sem, reduceCtorEq, reduceIte, Nat.reduceAdd, Nat.reduceEqDiff, Nat.reduceLeDiff, Nat.reduceMul, Nat.reduceSub, *]
       · repeat' (first | exact HIs_nil | refine HIs_cons ?_ ?_ | (simp only [go_sem, reduceCtorEq, reduceIte, Nat.reduceAdd, Nat.reduceEqDiff, Nat.reduceLeDiff, Nat.reduceMul, Nat.reduceSub, *]; done)))
    | refine ⟨by decide, ?_⟩
    | fail)
  refine ⟨by simp, _, by simp only [go_sem, reduceCtorEq, reduceIte, Nat.reduceAdd, Nat.reduceEqDiff, Nat.reduceLeDiff, Nat.reduceMul, resV]; rfl, ?_⟩
  exact EndV.of hn [] _ (by simp) (by simp) (by simp) (.same rfl rfl) HConv.nil
theorem c40 {l : List Int} (hl : Bytes l) : DrawDP 40 l := by
  obtain ⟨d, s, hd, hs, h⟩ := c92 hl
  refine ⟨d, s, hd, hs, ?_⟩
  have hw : wfO [encBy l] [] (.tup [.agg [encB d], .agg s.enc]) [] 0 = true := by simp [wfO, VV.underL, VV.under, encB, encBy, Spot.enc]
  clear hd hs hl
  unfold encBy encB Spot.enc at *
  refine objC_of k40 (by simp) (by simp) hw ?_
  intro X hP hm hH hn hX
  change X.n = 0 at hn
  refine vwp_ok _ ?_
  unfold vc40
  clear hw
  repeat' (first
    | simp only [go_sem, reduceCtorEq, reduceIte, Nat.reduceAdd, Nat.reduceEqDiff, Nat.reduceLeDiff, Nat.reduceMul, Nat.reduceSub, *]
    | refine gdO_bool' _ (fun _ => ?_) (fun _ => ?_)
    | refine gdO_bool _ (fun _ => ?_) (fun _ => ?_)
    | refine gdD_bool' _ (fun _ => ?_) (fun _ => ?_)
    | refine gdD_bool _ (fun _ => ?_) (fun _ => ?_)
    | refine cdO_bool' _ (fun _ => ?_) (fun _ => ?_)
    | refine cdO_bool _ (fun _ => ?_) (fun _ => ?_)
    | (refine callO.obj [] (h) ?_ rfl (by decide) ?_ ?_
       · simp only [go_sem, reduceCtorEq, reduceIte, Nat.reduceAdd, Nat.reduceEqDiff, Nat.reduceLeDiff, Nat.reduceMul, Nat.reduceSub, *]
       · repeat' (first | exact HIs_nil | refine HIs_cons ?_ ?_ | (simp only [go_sem, reduceCtorEq, reduceIte, Nat.reduceAdd, Nat.reduceEqDiff, Nat.reduceLeDiff, Nat.reduceMul, Nat.reduceSub, *]; done)))
    | (refine callW.obj [] (h) rfl ?_ rfl (by decide) ?_ (by simp [okInc, Disj]) ?_
       · simp only [go_sem, reduceCtorEq, reduceIte, Nat.reduceAdd, Nat.reduceEqDiff, Nat.reduceLeDiff, Nat.reduceMul, Nat.reduceSub, *]
       · repeat' (first | exact HIs_nil | refine HIs_cons ?_ ?_ | (simp only [go_sem, reduceCtorEq, reduceIte, Nat.reduceAdd, Nat.reduceEqDiff, Nat.reduceLeDiff, Nat.reduceMul, Nat.reduceSub, *]; done)))
    | refine ⟨by decide, ?_⟩
    | fail)
  refine ⟨by simp, _, by simp only [go_sem, reduceCtorEq, reduceIte, Nat.reduceAdd, Nat.reduceEqDiff, Nat.reduceLeDiff, Nat.reduceMul, resV]; rfl, ?_⟩
  exact EndV.of hn [] _ (by simp) (by simp) (by simp) (.same rfl rfl) HConv.nil
end Go.Proofs.Ytdmmhainianadaa

/- F37: places stay in order. -/
namespace Go.Proofs.Ytdmmhainianadaa
open Go.VM Go.Lim Go.Proofs.Try
attribute [local irreducible] vwp vops vstep vdr vdr1 CallP PPost SWv gdO gdD cdO optV optW optD thenV blockV behind callO callW callvO roundV
set_option linter.unusedSimpArgs false
set_option linter.unusedVariables false
/- loop.example/limner/laws.FnSpotOrder -/
def vc5 : VCode :=
(.seq (.reg [⟨(some 2), (.mov (.const (.bool false))), none⟩])
(.seq (.seq (.reg [⟨(some 8), (.mov (.tmp 0)), none⟩, ⟨(some 9), (.len false (.tmp 8)), none⟩, ⟨(some 10), (.bin .gtr .no (.tmp 9) (.const (.int .i64 1048576))), none⟩])
(.cond (.tmp 10) (.seq (.reg [⟨(some 2), (.mov (.const (.bool true))), none⟩])
 .ret)
 .skip))
(.seq (.reg [⟨(some 12), (.mov (.tmp 0)), none⟩, ⟨(some 13), (.call 40 [(.tmp 12)]), none⟩, ⟨(some 11), (.mov (.tmp 13)), none⟩, ⟨(some 14), (.ext (.tmp 11) 0), none⟩, ⟨(some 15), (.ext (.tmp 11) 1), none⟩, ⟨(some 3), (.new [(.slice none 0 0)]), none⟩, ⟨(some 4), (.new [(.int .i64 0), (.int .i64 0), (.int .i64 0)]), none⟩, ⟨none, (.store 1 (.tmp 3) (.tmp 14)), none⟩, ⟨none, (.store 3 (.tmp 4) (.tmp 15)), none⟩])
(.seq (.reg [⟨(some 16), (.load true 1 (.tmp 3)), none⟩, ⟨(some 17), (.load true 3 (.tmp 4)), none⟩, ⟨(some 18), (.call 39 [(.tmp 16), (.tmp 17)]), none⟩, ⟨(some 5), (.new [(.int .i64 0), (.int .i64 0), (.int .i64 0)]), none⟩, ⟨none, (.store 3 (.tmp 5) (.tmp 18)), none⟩])
(.seq (.seq (.drw [(⟨(some 19), (.load true 3 (.tmp 5)), none⟩, []), (⟨(some 20), (.load true 1 (.tmp 3)), none⟩, [0]), (⟨(some 21), (.load true 3 (.tmp 4)), none⟩, [0, 1]), (⟨(some 22), (.call 38 [(.tmp 20), (.tmp 21)]), none⟩, [0]), (⟨(some 23), (.bin .neq (.st [(0, 1), (1, 1), (2, 1)]) (.tmp 19) (.tmp 22)), none⟩, []), (⟨(some 24), (.mov (.tmp 23)), none⟩, []), (⟨(some 25), (.load true 1 (.tmp 3)), (some (24, false))⟩, []), (⟨(some 26), (.load true 3 (.tmp 4)), (some (24, false))⟩, [6]), (⟨(some 27), (.call 41 [(.tmp 25), (.tmp 26)]), (some (24, false))⟩, []), (⟨(some 28), (.un .not (.tmp 27)), (some (24, false))⟩, []), (⟨(some 29), (.pick (.tmp 24) (.const (.bool true)) (.tmp 28)), none⟩, [])])
(.cond (.tmp 29) (.seq (.drw [(⟨(some 30), (.load true 3 (.tmp 5)), none⟩, []), (⟨(some 31), (.load true 1 (.tmp 3)), none⟩, [0]), (⟨(some 32), (.load true 3 (.tmp 4)), none⟩, [0, 1]), (⟨(some 33), (.call 38 [(.tmp 31), (.tmp 32)]), none⟩, [0]), (⟨(some 34), (.bin .eql (.st [(0, 1), (1, 1), (2, 1)]) (.tmp 30) (.tmp 33)), none⟩, []), (⟨(some 2), (.mov (.tmp 34)), none⟩, [])])
 .ret)
 .skip))
(.seq (.seq (.reg [⟨(some 6), (.mov (.const (.int .i64 0))), none⟩])
(.block 0 (.loop (.seq (.seq (.reg [⟨(some 35), (.mov (.tmp 6)), none⟩, ⟨(some 36), (.fad 2 (.tmp 4)), none⟩, ⟨(some 37), (.load false 1 (.tmp 36)), none⟩, ⟨(some 38), (.bin .lss .no (.tmp 35) (.tmp 37)), none⟩])
  (.cond (.tmp 38) .skip
   (.exit 0)))
  (.seq (.block 1 (.seq (.reg [⟨(some 41), (.fad 0 (.tmp 4)), none⟩, ⟨(some 42), (.load false 1 (.tmp 41)), none⟩, ⟨(some 43), (.fad 1 (.tmp 4)), none⟩, ⟨(some 44), (.load false 1 (.tmp 43)), none⟩, ⟨(some 45), (.mov (.tmp 6)), none⟩, ⟨(some 46), (.build [(.int .i64 0), (.int .i64 0), (.int .i64 0)] [(0, 1, (.tmp 42)), (1, 1, (.tmp 44)), (2, 1, (.tmp 45))]), none⟩, ⟨(some 7), (.new [(.int .i64 0), (.int .i64 0), (.int .i64 0)]), none⟩, ⟨none, (.store 3 (.tmp 7) (.tmp 46)), none⟩])
   (.seq (.drw [(⟨(some 47), (.load true 1 (.tmp 3)), none⟩, []), (⟨(some 48), (.load true 3 (.tmp 7)), none⟩, [0]), (⟨(some 49), (.call 39 [(.tmp 47), (.tmp 48)]), none⟩, []), (⟨(some 50), (.fld false 2 1 (.tmp 49)), none⟩, []), (⟨(some 51), (.fad 2 (.tmp 5)), none⟩, []), (⟨(some 52), (.load false 1 (.tmp 51)), none⟩, [0, 1, 2]), (⟨(some 53), (.bin .gtr .no (.tmp 50) (.tmp 52)), none⟩, []), (⟨(some 54), (.mov (.tmp 53)), none⟩, []), (⟨(some 55), (.load true 1 (.tmp 3)), (some (54, false))⟩, []), (⟨(some 56), (.load true 3 (.tmp 7)), (some (54, false))⟩, [8]), (⟨(some 57), (.call 35 [(.tmp 55), (.tmp 56)]), (some (54, false))⟩, []), (⟨(some 58), (.fld false 2 1 (.tmp 57)), (some (54, false))⟩, []), (⟨(some 59), (.load true 1 (.tmp 3)), (some (54, false))⟩, [8, 9, 10]), (⟨(some 60), (.load true 3 (.tmp 4)), (some (54, false))⟩, [8, 9, 10, 12]), (⟨(some 61), (.call 35 [(.tmp 59), (.tmp 60)]), (some (54, false))⟩, []), (⟨(some 62), (.fld false 2 1 (.tmp 61)), (some (54, false))⟩, []), (⟨(some 63), (.bin .gtr .no (.tmp 58) (.tmp 62)), (some (54, false))⟩, []), (⟨(some 64), (.pick (.tmp 54) (.const (.bool true)) (.tmp 63)), none⟩, [])])
   (.cond (.tmp 64) (.seq (.reg [⟨(some 2), (.mov (.const (.bool false))), none⟩])
    .ret)
    .skip))))
  (.reg [⟨(some 39), (.mov (.tmp 6)), none⟩, ⟨(some 40), (.bin .add .no (.tmp 39) (.const (.int .i64 1))), none⟩, ⟨(some 6), (.mov (.tmp 40)), none⟩]))))))
(.seq (.reg [⟨(some 2), (.mov (.const (.bool true))), none⟩])
.ret)))))))
theorem k5 : compFn prog 5 = some (65, vc5, [.t 2]) := by kernel_rfl
theorem textOk_take {t : Text} (h : textOk t = true) (i : Nat) : textOk (t.take i) = true := by
  simp only [textOk, Bool.and_eq_true, decide_eq_true_eq, List.all_eq_true] at h ⊢
  exact ⟨by rw [List.length_take]; omega, fun x hx => h.2 x (List.mem_of_mem_take hx)⟩
theorem textBy_mono (f : Sign → Bool) {t : Text} (ht : textOk t = true) {i j : Nat} (h : i ≤ j) : (textBy f (t.take i)).length ≤ (textBy f (t.take j)).length := by
  have e : t.take i = (t.take j).take i := by rw [List.take_take, Nat.min_eq_left h]
  have e2 : t.take j = (t.take j).take i ++ (t.take j).drop i := (List.take_append_drop i _).symm
  unfold textBy
  rw [textOk_take ht, textOk_take ht, if_pos rfl, if_pos rfl, e]
  conv => rhs; rw [e2]
  unfold bytesBy
  simp only [List.filter_append, List.map_append, List.length_append]
  omega
theorem block_text {b : Block} (h : blockOk tableOk b = true) (c : Int) : textOk (textAtB b c) = true := by
  unfold blockOk at h
  unfold textAtB
  split at h
  · rename_i hk
    rw [if_neg (by simp at hk; simp [hk])]
    simp only [Bool.and_eq_true] at h
    exact h.1.2
  · split at h
    · rename_i hk
      rw [if_neg (by simp at hk; simp [hk])]
      simp only [Bool.and_eq_true] at h
      exact h.1.2
    · split at h
      · rename_i hk
        rw [if_pos hk]
        simp only [Bool.and_eq_true] at h
        have ht := h.2
        simp only [tableOk, form, Bool.and_eq_true, List.all_eq_true, List.mem_range] at ht
        rcases Nat.lt_or_ge c.toNat b.table.cells.length with hl | hl
        · have := ht.1.2 c.toNat hl
          simp only [okAt, cellW, Bool.and_eq_true] at this
          exact this.1.2
        · rw [List.getD_eq_getElem?_getD, List.getElem?_eq_none hl]; rfl
      · cases h
theorem place_text {d : Doc} {s : Spot} (h : placeOk docOk d s = true) : textOk (textAtB (blkAt d s) s.cell) = true := by
  simp only [placeOk, docOk, Bool.and_eq_true, List.all_eq_true, List.mem_range] at h
  have hd := h.1.1.1.2
  unfold blkAt
  rcases Nat.lt_or_ge s.block.toNat d.length with hl | hl
  · have := hd _ hl
    simp only [docAt, Bool.and_eq_true] at this
    exact block_text this.1 _
  · rw [List.getD_eq_getElem?_getD, List.getElem?_eq_none hl]; rfl
theorem spot_mono (f : Sign → Bool) (d : Doc) (s : Spot) (h : placeOk docOk d s = true) {i : Nat} (hi : (i : Int) ≤ s.pos) : (spotBy f docOk d ⟨s.block, s.cell, i⟩).pos ≤ (spotBy f docOk d s).pos := by
  have ht := place_text h
  have e : (spotBy f docOk d s).pos = ((textBy f ((textAtB (blkAt d s) s.cell).take s.pos.toNat)).length : Int) := by rw [spotBy, if_pos h]
  rw [e, spotBy]
  split
  · have := textBy_mono f ht (i := i) (j := s.pos.toNat) (by omega)
    show ((textBy f ((textAtB (blkAt d s) s.cell).take (Int.toNat (i : Int)))).length : Int) ≤ _
    rw [Int.toNat_natCast]
    omega
  · show (0 : Int) ≤ _
    omega
theorem place_pos {d : Doc} {s : Spot} (h : placeOk docOk d s = true) : 0 ≤ s.pos := by
  simp only [placeOk, within, Bool.and_eq_true, decide_eq_true_eq] at h
  exact h.2.1
theorem c5 {l : List Int} (hl : Bytes l) (hll : l.length < 9223372036854775808) : PureC prog 5 [encBy l] (.sc (.bool true)) := by
  rcases Nat.lt_or_ge 1048576 l.length with hb | hb
  · have g1 : decide ((l.length : Int) > 1048576) = true := by simp; omega
    unfold encBy
    refine pureC_of k5 (by first | rfl | simp [VV.cloL, VV.clo, *]) (by first | rfl | simp [VV.cloL, VV.clo, *]) (by simp) ?_
    intro X hP hm hH hn hX
    refine vwp_ok _ ?_
    unfold vc5
    repeat' (first
      | simp only [go_sem, reduceCtorEq, reduceIte, Nat.reduceAdd, Nat.reduceEqDiff, Nat.reduceLeDiff, Nat.reduceMul, *]
      | refine gdO_bool' _ (fun _ => ?_) (fun _ => ?_)
      | refine gdO_bool _ (fun _ => ?_) (fun _ => ?_)
      | refine gdD_bool' _ (fun _ => ?_) (fun _ => ?_)
      | refine gdD_bool _ (fun _ => ?_) (fun _ => ?_)
      | refine cdO_bool' _ (fun _ => ?_) (fun _ => ?_)
      | refine cdO_bool _ (fun _ => ?_) (fun _ => ?_)
      | refine ⟨by decide, ?_⟩
      | refine ppost_t (by simp) rfl ?_)
  have g1 : decide ((l.length : Int) > 1048576) = false := by simp; omega
  obtain ⟨d, s, hd, hs, h40⟩ := c40 hl
  have h38 := fun p => c38 d p
  have h39 := fun p => c39 d p hd.sm
  have h35 := fun p => c35 d p hd.sm
  have h41 := fun p => c41 d p
  rw [docOk_fun] at h39 h35
  have hm1 := fun (h : placeOk docOk d s = true) (i : Nat) (hi : (i : Int) ≤ s.pos) => spot_mono wasB d s h hi
  have hm2 := fun (h : placeOk docOk d s = true) (i : Nat) (hi : (i : Int) ≤ s.pos) => spot_mono nowB d s h hi
  have hp := place_pos (d := d) (s := s)
  generalize spotBy wasB docOk d = SW at *
  generalize spotBy nowB docOk d = SN at *
  generalize placeOk docOk d = PO at *
  obtain ⟨s1, s2, s3⟩ := s
  have hW := h39 ⟨s1, s2, s3⟩
  have hV := h38 ⟨s1, s2, s3⟩
  have hNs := h35 ⟨s1, s2, s3⟩
  have hO := h41 ⟨s1, s2, s3⟩
  have hWi := fun i : Nat => h39 ⟨s1, s2, i⟩
  have hNi := fun i : Nat => h35 ⟨s1, s2, i⟩
  have hr3 := hs.2.2
  clear h38 h39 h35 h41 hd hs
  unfold encBy encB Spot.enc at *
  cases hPO : PO ⟨s1, s2, s3⟩ with
  | false =>
    rw [hPO] at hO
    clear hm1 hm2 hp hb hl
    refine pureC_of k5 (by first | rfl | simp [VV.cloL, VV.clo, *]) (by first | rfl | simp [VV.cloL, VV.clo, *]) (by simp) ?_
    intro X hP hm hH hn hX
    refine vwp_ok _ ?_
    unfold vc5
    repeat' (first
      | simp only [go_sem, reduceCtorEq, reduceIte, Nat.reduceAdd, Nat.reduceEqDiff, Nat.reduceLeDiff, Nat.reduceMul, Nat.reduceSub, beq_self_eq_true, eqCells, eqCell, neg, *]
      | refine gdO_bool' _ (fun _ => ?_) (fun _ => ?_)
      | refine gdO_bool _ (fun _ => ?_) (fun _ => ?_)
      | refine gdD_bool' _ (fun _ => ?_) (fun _ => ?_)
      | refine gdD_bool _ (fun _ => ?_) (fun _ => ?_)
      | refine cdO_bool' _ (fun _ => ?_) (fun _ => ?_)
      | refine cdO_bool _ (fun _ => ?_) (fun _ => ?_)
      | refine callO.pure (by first | exact hW | exact hV | exact hO) ?_
      | refine callW.pure (by first | exact hW | exact hV | exact hO) ?_
      | (refine callO.obj [] (h40) ?_ rfl (by decide) ?_ ?_
         · simp only [go_sem, reduceCtorEq, reduceIte, Nat.reduceAdd, Nat.reduceEqDiff, Nat.reduceLeDiff, Nat.reduceMul, Nat.reduceSub, beq_self_eq_true, eqCells, eqCell, neg, *]
         · repeat' (first | exact HIs_nil | refine HIs_cons ?_ ?_ | (simp only [go_sem, reduceCtorEq, reduceIte, Nat.reduceAdd, Nat.reduceEqDiff, Nat.reduceLeDiff, Nat.reduceMul, Nat.reduceSub, beq_self_eq_true, eqCells, eqCell, neg, *]; done)))
      | (refine callW.obj [] (h40) rfl ?_ rfl (by decide) ?_ (by simp [okInc, Disj]) ?_
         · simp only [go_sem, reduceCtorEq, reduceIte, Nat.reduceAdd, Nat.reduceEqDiff, Nat.reduceLeDiff, Nat.reduceMul, Nat.reduceSub, beq_self_eq_true, eqCells, eqCell, neg, *]
         · repeat' (first | exact HIs_nil | refine HIs_cons ?_ ?_ | (simp only [go_sem, reduceCtorEq, reduceIte, Nat.reduceAdd, Nat.reduceEqDiff, Nat.reduceLeDiff, Nat.reduceMul, Nat.reduceSub, beq_self_eq_true, eqCells, eqCell, neg, *]; done)))
      | refine ⟨by decide, ?_⟩
      | refine ppost_t (by simp) rfl ?_)
  | true =>
    rw [hPO] at hO
    obtain ⟨m, hm⟩ : ∃ m : Nat, s3 = m := ⟨s3.toNat, by have := hp hPO; simp only at this; omega⟩
    subst hm
    have hm1' : ∀ i : Nat, i ≤ m → decide ((SW ⟨s1, s2, i⟩).pos > (SW ⟨s1, s2, m⟩).pos) = false := fun i hi => by
      have := hm1 hPO i (by simp only; omega)
      simp only at this
      simp only [decide_eq_false_iff_not]; omega
    have hm2' : ∀ i : Nat, i ≤ m → decide ((SN ⟨s1, s2, i⟩).pos > (SN ⟨s1, s2, m⟩).pos) = false := fun i hi => by
      have := hm2 hPO i (by simp only; omega)
      simp only at this
      simp only [decide_eq_false_iff_not]; omega
    have hmb : m < 1099511627776 := by have := hr3.2; simp only at this; omega
    clear hm1 hm2 hp hb hl hr3 hPO
    refine pureC_of k5 (by first | rfl | simp [VV.cloL, VV.clo, *]) (by first | rfl | simp [VV.cloL, VV.clo, *]) (by simp) ?_
    intro X hP hm hH hn hX
    refine vwp_ok _ ?_
    unfold vc5
    repeat' (first
      | simp only [go_sem, reduceCtorEq, reduceIte, Nat.reduceAdd, Nat.reduceEqDiff, Nat.reduceLeDiff, Nat.reduceMul, Nat.reduceSub, beq_self_eq_true, eqCells, eqCell, neg, *]
      | refine gdO_bool' _ (fun _ => ?_) (fun _ => ?_)
      | refine gdO_bool _ (fun _ => ?_) (fun _ => ?_)
      | refine gdD_bool' _ (fun _ => ?_) (fun _ => ?_)
      | refine gdD_bool _ (fun _ => ?_) (fun _ => ?_)
      | refine cdO_bool' _ (fun _ => ?_) (fun _ => ?_)
      | refine cdO_bool _ (fun _ => ?_) (fun _ => ?_)
      | refine callO.pure (by first | exact hW | exact hV | exact hO) ?_
      | refine callW.pure (by first | exact hW | exact hV | exact hO) ?_
      | (refine callO.obj [] (h40) ?_ rfl (by decide) ?_ ?_
         · simp only [go_sem, reduceCtorEq, reduceIte, Nat.reduceAdd, Nat.reduceEqDiff, Nat.reduceLeDiff, Nat.reduceMul, Nat.reduceSub, beq_self_eq_true, eqCells, eqCell, neg, *]
         · repeat' (first | exact HIs_nil | refine HIs_cons ?_ ?_ | (simp only [go_sem, reduceCtorEq, reduceIte, Nat.reduceAdd, Nat.reduceEqDiff, Nat.reduceLeDiff, Nat.reduceMul, Nat.reduceSub, beq_self_eq_true, eqCells, eqCell, neg, *]; done)))
      | (refine callW.obj [] (h40) rfl ?_ rfl (by decide) ?_ (by simp [okInc, Disj]) ?_
         · simp only [go_sem, reduceCtorEq, reduceIte, Nat.reduceAdd, Nat.reduceEqDiff, Nat.reduceLeDiff, Nat.reduceMul, Nat.reduceSub, beq_self_eq_true, eqCells, eqCell, neg, *]
         · repeat' (first | exact HIs_nil | refine HIs_cons ?_ ?_ | (simp only [go_sem, reduceCtorEq, reduceIte, Nat.reduceAdd, Nat.reduceEqDiff, Nat.reduceLeDiff, Nat.reduceMul, Nat.reduceSub, beq_self_eq_true, eqCells, eqCell, neg, *]; done)))
      | refine ⟨by decide, ?_⟩
      | refine ppost_t (by simp) rfl ?_)
    refine loopV hX (fun μ s H n => ∃ i : Nat, i ≤ m ∧ μ = m - i ∧ s = slotsOf [(3, .pt 0 0), (4, .pt 1 0), (5, .pt 2 0), (6, .sc (.int .i64 i))] ∧ H = heapOf [(0, [.sl 6 (d.map Block.enc)]), (1, [.sc (.int .i64 s1), .sc (.int .i64 s2), .sc (.int .i64 m)]), (2, [.sc (.int .i64 (SW ⟨s1, s2, m⟩).block), .sc (.int .i64 (SW ⟨s1, s2, m⟩).cell), .sc (.int .i64 (SW ⟨s1, s2, m⟩).pos)])] ∧ n = 3) ?_
      ⟨m + 1, roundE (fun s => [nm (s 3), nm (s 4), nm (s 5)]) (by simp only [go_sem, reduceCtorEq, reduceIte, Nat.reduceAdd, Nat.reduceEqDiff, Nat.reduceLeDiff, Nat.reduceMul, nm_pt]; rfl) (rk_of hn [(3, _), (4, _), (5, _), (6, _)] _ _ ⟨0, by omega, rfl, rfl, rfl, rfl⟩ (by omega) (by simp) (by simp) (by simp) (by simp [hm]) ?_ ?_)⟩
    rotate_left
    · repeat' (first | exact List.forall_mem_nil _ | refine List.forall_mem_cons.2 ⟨?_, ?_⟩ | exact .toPt (by simp only [go_sem, reduceCtorEq, reduceIte, Nat.reduceAdd, Nat.reduceEqDiff, Nat.reduceLeDiff, Nat.reduceMul, *] <;> rfl) (by simp [tau]) (by simp) | exact .toRf (by simp only [go_sem, reduceCtorEq, reduceIte, Nat.reduceAdd, Nat.reduceEqDiff, Nat.reduceLeDiff, Nat.reduceMul, *] <;> rfl) (by simp [tau]) (by simp) | exact .same (by simp only [go_sem, reduceCtorEq, reduceIte, Nat.reduceAdd, Nat.reduceEqDiff, Nat.reduceLeDiff, Nat.reduceMul, *] <;> rfl) (by first | rfl | simp [VV.cloL, VV.clo, *]))
    · repeat' (first | exact HConv.nil | refine HConv.same (by decide) (by first | rfl | (simp only [go_sem, reduceCtorEq, reduceIte, Nat.reduceAdd, Nat.reduceEqDiff, Nat.reduceLeDiff, Nat.reduceMul, *] <;> rfl)) (by first | rfl | simp [VV.cloL, VV.clo, *]) ?_)
    rintro μ s H n ⟨i, hi, rfl, rfl, rfl, rfl⟩
    rcases Nat.lt_or_ge i m with hlt | hge
    · have g2 := lt_dec hlt
      have w0 : IntKind.i64.wrap ((i : Int) + 1) = ((i + 1 : Nat) : Int) := by rw [wrap_id] <;> omega
      have hWi' := hWi i
      have hNi' := hNi i
      have k1 := hm1' i hi
      have k2 := hm2' i hi
      clear hm1' hm2' hWi hNi h40
      repeat' (first
        | simp only [go_sem, reduceCtorEq, reduceIte, Nat.reduceAdd, Nat.reduceEqDiff, Nat.reduceLeDiff, Nat.reduceMul, Nat.reduceSub, *]
        | refine gdO_bool' _ (fun _ => ?_) (fun _ => ?_)
        | refine gdO_bool _ (fun _ => ?_) (fun _ => ?_)
        | refine gdD_bool' _ (fun _ => ?_) (fun _ => ?_)
        | refine gdD_bool _ (fun _ => ?_) (fun _ => ?_)
        | refine cdO_bool' _ (fun _ => ?_) (fun _ => ?_)
        | refine cdO_bool _ (fun _ => ?_) (fun _ => ?_)
        | refine callO.pure (by first | exact hWi' | exact hNi' | exact hNs) ?_
        | refine callW.pure (by first | exact hWi' | exact hNi' | exact hNs) ?_
        | refine ⟨by decide, ?_⟩
        | fail)
      refine roundE (fun s => [nm (s 3), nm (s 4), nm (s 5)]) (by simp only [go_sem, reduceCtorEq, reduceIte, Nat.reduceAdd, Nat.reduceEqDiff, Nat.reduceLeDiff, Nat.reduceMul, nm_pt]; rfl) (rk_of hn [(3, _), (4, _), (5, _), (6, _)] _ _ ⟨i + 1, hlt, rfl, rfl, rfl, rfl⟩ (by omega) (by simp) (by simp) (by simp) (by simp [hm]) ?_ ?_)
      · repeat' (first | exact List.forall_mem_nil _ | refine List.forall_mem_cons.2 ⟨?_, ?_⟩ | exact .toPt (by simp only [go_sem, reduceCtorEq, reduceIte, Nat.reduceAdd, Nat.reduceEqDiff, Nat.reduceLeDiff, Nat.reduceMul, *] <;> rfl) (by simp [tau]) (by simp) | exact .toRf (by simp only [go_sem, reduceCtorEq, reduceIte, Nat.reduceAdd, Nat.reduceEqDiff, Nat.reduceLeDiff, Nat.reduceMul, *] <;> rfl) (by simp [tau]) (by simp) | exact .same (by simp only [go_sem, reduceCtorEq, reduceIte, Nat.reduceAdd, Nat.reduceEqDiff, Nat.reduceLeDiff, Nat.reduceMul, *] <;> rfl) (by first | rfl | simp [VV.cloL, VV.clo, *]))
      · repeat' (first | exact HConv.nil | refine HConv.same (by decide) (by first | rfl | (simp only [go_sem, reduceCtorEq, reduceIte, Nat.reduceAdd, Nat.reduceEqDiff, Nat.reduceLeDiff, Nat.reduceMul, *] <;> rfl)) (by first | rfl | simp [VV.cloL, VV.clo, *]) ?_)
    · have e : i = m := by omega
      subst e
      have g2 : decide (((i : Nat) : Int) < ((i : Nat) : Int)) = false := by simp
      clear hm1' hm2' hWi hNi h40
      repeat' (first
        | simp only [go_sem, reduceCtorEq, reduceIte, Nat.reduceAdd, Nat.reduceEqDiff, Nat.reduceLeDiff, Nat.reduceMul, *]
        | refine gdO_bool' _ (fun _ => ?_) (fun _ => ?_)
        | refine gdO_bool _ (fun _ => ?_) (fun _ => ?_)
        | refine gdD_bool' _ (fun _ => ?_) (fun _ => ?_)
        | refine gdD_bool _ (fun _ => ?_) (fun _ => ?_)
        | refine cdO_bool' _ (fun _ => ?_) (fun _ => ?_)
        | refine cdO_bool _ (fun _ => ?_) (fun _ => ?_)
        | refine ⟨by decide, ?_⟩
        | refine ppost_t (by simp) rfl ?_)
theorem bytes_of {l : List Int} (h : ∀ b ∈ l, (Lit.int .u8 b).wf = true) : Bytes l := fun x hx => by
  have h := h x hx
  have h : IntKind.u8.min ≤ x ∧ x ≤ IntKind.u8.max := by simpa [Lit.wf] using h
  have e : IntKind.u8.min = 0 := by decide
  have e2 : IntKind.u8.max = 255 := by decide
  omega
end Go.Proofs.Ytdmmhainianadaa

/- The program's dear closed facts. -/
namespace Go.Proofs.Ytdmmhainianadaa.Fx
open Go.VM
def nums : List Nat := [104, 97, 114, 110, 101, 115, 115, 32, 49, 55, 49, 100, 98, 98, 99, 99, 101, 101, 97, 48, 101, 53, 49, 100, 100, 54, 99, 99, 97, 49, 57, 55, 52, 57, 102, 49, 53, 97, 56, 57, 54, 55, 54, 52, 100, 57, 97, 100, 50, 55, 57, 99, 98, 98, 56, 54, 100, 56, 48, 100, 56, 50, 50, 97, 101, 97, 49, 57, 51, 49, 51, 51, 32, 99, 117, 116, 32, 97, 116, 32, 108, 111, 111, 112, 46, 101, 120, 97, 109, 112, 108, 101, 47, 108, 105, 109, 110, 101, 114, 47, 108, 97, 119, 115, 46, 70, 110, 69, 120, 97, 99, 116, 83, 112, 111, 116, 78, 111, 119, 32, 108, 111, 111, 112, 46, 101, 120, 97, 109, 112, 108, 101, 47, 108, 105, 109, 110, 101, 114, 47, 108, 97, 119, 115, 46, 70, 110, 69, 120, 97, 99, 116, 83, 112, 111, 116, 87, 97, 115, 32, 108, 111, 111, 112, 46, 101, 120, 97, 109, 112, 108, 101, 47, 108, 105, 109, 110, 101, 114, 47, 108, 97, 119, 115, 46, 70, 110, 83, 112, 111, 116, 79, 114, 100, 101, 114, 32, 108, 111, 111, 112, 46, 101, 120, 97, 109, 112, 108, 101, 47, 108, 105, 109, 110, 101, 114, 47, 108, 97, 119, 115, 46, 70, 110, 69, 120, 97, 99, 116, 83, 112, 111, 116, 82, 97, 119, 32, 108, 111, 111, 112, 46, 101, 120, 97, 109, 112, 108, 101, 47, 108, 105, 109, 110, 101, 114, 47, 108, 97, 119, 115, 46, 70, 110, 69, 120, 97, 99, 116, 83, 117, 103, 66, 121, 32, 108, 111, 111, 112, 46, 101, 120, 97, 109, 112, 108, 101, 47, 108, 105, 109, 110, 101, 114, 47, 108, 97, 119, 115, 46, 70, 110, 83, 117, 103, 84, 117, 114, 110, 32, 108, 111, 111, 112, 46, 101, 120, 97, 109, 112, 108, 101, 47, 108, 105, 109, 110, 101, 114, 47, 108, 97, 119, 115, 46, 70, 110, 83, 117, 103, 70, 111, 114, 109, 32, 108, 111, 111, 112, 46, 101, 120, 97, 109, 112, 108, 101, 47, 108, 105, 109, 110, 101, 114, 47, 108, 97, 119, 115, 46, 70, 110, 83, 117, 103, 84, 97, 107, 101, 87, 97, 115, 32, 108, 111, 111, 112, 46, 101, 120, 97, 109, 112, 108, 101, 47, 108, 105, 109, 110, 101, 114, 47, 108, 97, 119, 115, 46, 70, 110, 83, 117, 103, 79, 117, 116, 84, 119, 105, 99, 101, 32, 108, 111, 111, 112, 46, 101, 120, 97, 109, 112, 108, 101, 47, 108, 105, 109, 110, 101, 114, 47, 108, 97, 119, 115, 46, 70, 110, 83, 112, 111, 116, 82, 97, 119, 32, 108, 111, 111, 112, 46, 101, 120, 97, 109, 112, 108, 101, 47, 108, 105, 109, 110, 101, 114, 47, 108, 97, 119, 115, 46, 70, 110, 83, 117, 103, 80, 108, 97, 105, 110, 32, 108, 111, 111, 112, 46, 101, 120, 97, 109, 112, 108, 101, 47, 108, 105, 109, 110, 101, 114, 47, 108, 97, 119, 115, 46, 70, 110, 83, 112, 111, 116, 69, 110, 100, 32, 108, 111, 111, 112, 46, 101, 120, 97, 109, 112, 108, 101, 47, 108, 105, 109, 110, 101, 114, 47, 108, 97, 119, 115, 46, 70, 110, 83, 117, 103, 66, 121, 32, 108, 111, 111, 112, 46, 101, 120, 97, 109, 112, 108, 101, 47, 108, 105, 109, 110, 101, 114, 47, 108, 97, 119, 115, 46, 70, 110, 83, 117, 103, 78, 111, 119, 32, 108, 111, 111, 112, 46, 101, 120, 97, 109, 112, 108, 101, 47, 108, 105, 109, 110, 101, 114, 47, 108, 97, 119, 115, 46, 70, 110, 83, 112, 111, 116, 78, 111, 119, 32, 108, 111, 111, 112, 46, 101, 120, 97, 109, 112, 108, 101, 47, 108, 105, 109, 110, 101, 114, 47, 108, 97, 119, 115, 46, 70, 110, 83, 117, 103, 84, 97, 107, 101, 32, 108, 111, 111, 112, 46, 101, 120, 97, 109, 112, 108, 101, 47, 108, 105, 109, 110, 101, 114, 47, 108, 97, 119, 115, 46, 70, 110, 83, 117, 103, 68, 114, 111, 112, 32, 108, 111, 111, 112, 46, 101, 120, 97, 109, 112, 108, 101, 47, 108, 105, 109, 110, 101, 114, 47, 108, 97, 119, 115, 46, 70, 110, 69, 120, 97, 99, 116, 83, 117, 103, 79, 117, 116, 32, 108, 111, 111, 112, 46, 101, 120, 97, 109, 112, 108, 101, 47, 108, 105, 109, 110, 101, 114, 47, 108, 97, 119, 115, 46, 70, 110, 69, 120, 97, 99, 116, 83, 117, 103, 68, 114, 111, 112, 32, 108, 111, 111, 112, 46, 101, 120, 97, 109, 112, 108, 101, 47, 108, 105, 109, 110, 101, 114, 47, 108, 97, 119, 115, 46, 70, 110, 69, 120, 97, 99, 116, 83, 117, 103, 84, 97, 107, 101, 32, 108, 111, 111, 112, 46, 101, 120, 97, 109, 112, 108, 101, 47, 108, 105, 109, 110, 101, 114, 47, 108, 97, 119, 115, 46, 70, 110, 83, 112, 111, 116, 80, 108, 97, 105, 110, 32, 108, 111, 111, 112, 46, 101, 120, 97, 109, 112, 108, 101, 47, 108, 105, 109, 110, 101, 114, 47, 108, 97, 119, 115, 46, 70, 110, 69, 120, 97, 99, 116, 83, 117, 103, 78, 111, 119, 32, 108, 111, 111, 112, 46, 101, 120, 97, 109, 112, 108, 101, 47, 108, 105, 109, 110, 101, 114, 47, 108, 97, 119, 115, 46, 70, 110, 69, 120, 97, 99, 116, 83, 117, 103, 87, 97, 115, 32, 108, 111, 111, 112, 46, 101, 120, 97, 109, 112, 108, 101, 47, 108, 105, 109, 110, 101, 114, 47, 108, 97, 119, 115, 46, 70, 110, 83, 117, 103, 79, 117, 116, 32, 108, 111, 111, 112, 46, 101, 120, 97, 109, 112, 108, 101, 47, 108, 105, 109, 110, 101, 114, 47, 108, 97, 119, 115, 46, 70, 110, 83, 117, 103, 73, 110, 65, 116, 32, 108, 111, 111, 112, 46, 101, 120, 97, 109, 112, 108, 101, 47, 108, 105, 109, 110, 101, 114, 47, 108, 97, 119, 115, 46, 70, 110, 83, 117, 103, 79, 119, 110, 32, 108, 111, 111, 112, 46, 101, 120, 97, 109, 112, 108, 101, 47, 108, 105, 109, 110, 101, 114, 47, 108, 97, 119, 115, 46, 70, 110, 83, 117, 103, 66, 97, 99, 107, 32, 108, 111, 111, 112, 46, 101, 120, 97, 109, 112, 108, 101, 47, 108, 105, 109, 110, 101, 114, 47, 108, 97, 119, 115, 46, 70, 110, 83, 117, 103, 87, 104, 111]
theorem order : Try.prog.initOrder = String.ofList (nums.map Char.ofNat) := by kernel_rfl
theorem orderL : Try.prog.initOrder.toList = nums.map Char.ofNat := by rw [order, String.toList_ofList]
theorem head : behindMainWord (wordsSigns Try.prog.initOrder.toList) = "cut".toList :: wordsSigns ((nums.map Char.ofNat).drop 77) := by
  rw [orderL]
  exact head_cut (by kernel_rfl) (by kernel_rfl) (by kernel_rfl) (by kernel_rfl)
theorem lays : Try.prog.laysLater = false := by kernel_rfl
theorem bears : Try.prog.bearsReflect = false := by kernel_rfl
theorem door : Try.prog.doorFits [] = true := by kernel_rfl
theorem enters : Try.prog.mayEnter = true := mayEnter_of head lays bears door
theorem finals : Try.prog.liftsFinal = false := liftsFinal_of head
theorem make : Try.prog.make = some .cut := make_of head
theorem own : ownKnob Try.prog.godebug = none := by kernel_rfl
theorem laidOut : laidOutB Try.prog = true := by kernel_rfl
end Go.Proofs.Ytdmmhainianadaa.Fx
