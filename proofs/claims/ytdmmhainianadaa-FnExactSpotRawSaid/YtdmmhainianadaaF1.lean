/- F14: where a place is now, and was, as the reference tells it. -/
import Derived.Test.YtdmmhainianadaaProg
import Derived.Test.YtdmmhainianadaaRows
import Derived.Test.YtdmmhainianadaaV0
import Derived.Test.YtdmmhainianadaaV1
import Derived.Test.YtdmmhainianadaaF0
set_option linter.unusedSimpArgs false
set_option linter.unusedVariables false
namespace Go.Proofs.Ytdmmhainianadaa
open Go.VM Go.Lim Go.Proofs.Try
attribute [local irreducible] vwp vops vstep vdr vdr1 CallP PPost SWv gdO gdD cdO optV optW optD thenV blockV behind callO callW callvO roundV
set_option linter.unusedSimpArgs false
set_option linter.unusedVariables false
theorem c38 (d : Doc) (p : Spot) : PureC prog 38 [.agg [encB d], .agg p.enc] (.agg (spotBy wasB docOk d p).enc) := by
  have h41 := c41 d p
  have h86 := c86 d p
  cases hb : placeOk docOk d p with
  | false =>
    rw [hb] at h41
    have e : spotBy wasB docOk d p = ⟨0, 0, 0⟩ := by rw [spotBy, hb]; rfl
    rw [e]
    clear hb e h86
    unfold Spot.enc encB at *
    refine pureC_of k38 (by first | rfl | simp [VV.cloL, VV.clo, *]) (by first | rfl | simp [VV.cloL, VV.clo, *]) (by simp) ?_
    intro X hP hm hH hn hX
    refine vwp_ok _ ?_
    unfold vc38
    repeat' (first
      | simp only [go_sem, reduceCtorEq, reduceIte, Nat.reduceAdd, Nat.reduceEqDiff, Nat.reduceLeDiff, Nat.reduceMul, *]
      | refine gdO_bool' _ (fun _ => ?_) (fun _ => ?_)
      | refine gdO_bool _ (fun _ => ?_) (fun _ => ?_)
      | refine gdD_bool' _ (fun _ => ?_) (fun _ => ?_)
      | refine gdD_bool _ (fun _ => ?_) (fun _ => ?_)
      | refine cdO_bool' _ (fun _ => ?_) (fun _ => ?_)
      | refine cdO_bool _ (fun _ => ?_) (fun _ => ?_)
      | refine callO.pure (by first | exact h41) ?_
      | refine callW.pure (by first | exact h41) ?_
      | refine ⟨by decide, ?_⟩
      | fail)
    exact ppost_c (by simp) (by simp only [go_sem, reduceCtorEq, reduceIte, Nat.reduceAdd, Nat.reduceEqDiff, Nat.reduceLeDiff, Nat.reduceMul]; rfl) (by simp only [go_sem, reduceCtorEq, reduceIte, Nat.reduceAdd, Nat.reduceEqDiff, Nat.reduceLeDiff, Nat.reduceMul]; rfl) rfl rfl rfl
  | true =>
    rw [hb] at h41 h86
    rw [if_pos rfl] at h86
    have hpos := hb
    simp only [placeOk, Bool.and_eq_true] at hpos
    have hp := hpos.2
    simp only [within, Bool.and_eq_true, decide_eq_true_eq] at hp
    have e : spotBy wasB docOk d p = ⟨p.block, p.cell, ((textBy wasB ((textAtB (blkAt d p) p.cell).take p.pos.toNat)).length : Int)⟩ := by rw [spotBy, if_pos hb]
    rw [e]
    clear e hb hpos
    generalize textAtB (blkAt d p) p.cell = tx at *
    have h90 := c90 (tx.take p.pos.toNat)
    obtain ⟨q, hq⟩ : ∃ q : Nat, p.pos = q := ⟨p.pos.toNat, by omega⟩
    rw [hq, Int.toNat_natCast] at h90 ⊢
    rw [hq] at hp
    have g1 : (0 : Int) ≤ (q : Int) := by omega
    have g2 : q ≤ tx.length := by omega
    have g3 : 0 ≤ q := Nat.zero_le q
    have hsz := strOf_size (textBy wasB (tx.take q))
    unfold encT strV at h90
    rw [List.map_take] at h90
    unfold Spot.enc encB encT at *
    simp only [hq] at h41 h86 ⊢
    generalize textBy wasB (tx.take q) = res at *
    refine pureC_of k38 (by first | rfl | simp [VV.cloL, VV.clo, *]) (by first | rfl | simp [VV.cloL, VV.clo, *]) (by simp) ?_
    intro X hP hm hH hn hX
    refine vwp_ok _ ?_
    unfold vc38
    repeat' (first
      | simp only [go_sem, reduceCtorEq, reduceIte, Nat.reduceAdd, Nat.reduceEqDiff, Nat.reduceLeDiff, Nat.reduceMul, *]
      | refine gdO_bool' _ (fun _ => ?_) (fun _ => ?_)
      | refine gdO_bool _ (fun _ => ?_) (fun _ => ?_)
      | refine gdD_bool' _ (fun _ => ?_) (fun _ => ?_)
      | refine gdD_bool _ (fun _ => ?_) (fun _ => ?_)
      | refine cdO_bool' _ (fun _ => ?_) (fun _ => ?_)
      | refine cdO_bool _ (fun _ => ?_) (fun _ => ?_)
      | refine callO.pure (by first | exact h41 | exact h86 | exact h90) ?_
      | refine callW.pure (by first | exact h41 | exact h86 | exact h90) ?_
      | refine ⟨by decide, ?_⟩
      | fail)
    exact ppost_c (by simp) (by simp only [go_sem, reduceCtorEq, reduceIte, Nat.reduceAdd, Nat.reduceEqDiff, Nat.reduceLeDiff, Nat.reduceMul]; rfl) (by simp only [go_sem, reduceCtorEq, reduceIte, Nat.reduceAdd, Nat.reduceEqDiff, Nat.reduceLeDiff, Nat.reduceMul]; rfl) rfl (by simp only [List.take, List.drop, hsz]) rfl
theorem c32 (d : Doc) (p : Spot) : PureC prog 32 [.agg [encB d], .agg p.enc] (.agg (spotBy nowB docOk d p).enc) := by
  have h41 := c41 d p
  have h86 := c86 d p
  cases hb : placeOk docOk d p with
  | false =>
    rw [hb] at h41
    have e : spotBy nowB docOk d p = ⟨0, 0, 0⟩ := by rw [spotBy, hb]; rfl
    rw [e]
    clear hb e h86
    unfold Spot.enc encB at *
    refine pureC_of k32 (by first | rfl | simp [VV.cloL, VV.clo, *]) (by first | rfl | simp [VV.cloL, VV.clo, *]) (by simp) ?_
    intro X hP hm hH hn hX
    refine vwp_ok _ ?_
    unfold vc32
    repeat' (first
      | simp only [go_sem, reduceCtorEq, reduceIte, Nat.reduceAdd, Nat.reduceEqDiff, Nat.reduceLeDiff, Nat.reduceMul, *]
      | refine gdO_bool' _ (fun _ => ?_) (fun _ => ?_)
      | refine gdO_bool _ (fun _ => ?_) (fun _ => ?_)
      | refine gdD_bool' _ (fun _ => ?_) (fun _ => ?_)
      | refine gdD_bool _ (fun _ => ?_) (fun _ => ?_)
      | refine cdO_bool' _ (fun _ => ?_) (fun _ => ?_)
      | refine cdO_bool _ (fun _ => ?_) (fun _ => ?_)
      | refine callO.pure (by first | exact h41) ?_
      | refine callW.pure (by first | exact h41) ?_
      | refine ⟨by decide, ?_⟩
      | fail)
    exact ppost_c (by simp) (by simp only [go_sem, reduceCtorEq, reduceIte, Nat.reduceAdd, Nat.reduceEqDiff, Nat.reduceLeDiff, Nat.reduceMul]; rfl) (by simp only [go_sem, reduceCtorEq, reduceIte, Nat.reduceAdd, Nat.reduceEqDiff, Nat.reduceLeDiff, Nat.reduceMul]; rfl) rfl rfl rfl
  | true =>
    rw [hb] at h41 h86
    rw [if_pos rfl] at h86
    have hpos := hb
    simp only [placeOk, Bool.and_eq_true] at hpos
    have hp := hpos.2
    simp only [within, Bool.and_eq_true, decide_eq_true_eq] at hp
    have e : spotBy nowB docOk d p = ⟨p.block, p.cell, ((textBy nowB ((textAtB (blkAt d p) p.cell).take p.pos.toNat)).length : Int)⟩ := by rw [spotBy, if_pos hb]
    rw [e]
    clear e hb hpos
    generalize textAtB (blkAt d p) p.cell = tx at *
    have h85 := c85 (tx.take p.pos.toNat)
    obtain ⟨q, hq⟩ : ∃ q : Nat, p.pos = q := ⟨p.pos.toNat, by omega⟩
    rw [hq, Int.toNat_natCast] at h85 ⊢
    rw [hq] at hp
    have g1 : (0 : Int) ≤ (q : Int) := by omega
    have g2 : q ≤ tx.length := by omega
    have g3 : 0 ≤ q := Nat.zero_le q
    have hsz := strOf_size (textBy nowB (tx.take q))
    unfold encT strV at h85
    rw [List.map_take] at h85
    unfold Spot.enc encB encT at *
    simp only [hq] at h41 h86 ⊢
    generalize textBy nowB (tx.take q) = res at *
    refine pureC_of k32 (by first | rfl | simp [VV.cloL, VV.clo, *]) (by first | rfl | simp [VV.cloL, VV.clo, *]) (by simp) ?_
    intro X hP hm hH hn hX
    refine vwp_ok _ ?_
    unfold vc32
    repeat' (first
      | simp only [go_sem, reduceCtorEq, reduceIte, Nat.reduceAdd, Nat.reduceEqDiff, Nat.reduceLeDiff, Nat.reduceMul, *]
      | refine gdO_bool' _ (fun _ => ?_) (fun _ => ?_)
      | refine gdO_bool _ (fun _ => ?_) (fun _ => ?_)
      | refine gdD_bool' _ (fun _ => ?_) (fun _ => ?_)
      | refine gdD_bool _ (fun _ => ?_) (fun _ => ?_)
      | refine cdO_bool' _ (fun _ => ?_) (fun _ => ?_)
      | refine cdO_bool _ (fun _ => ?_) (fun _ => ?_)
      | refine callO.pure (by first | exact h41 | exact h86 | exact h85) ?_
      | refine callW.pure (by first | exact h41 | exact h86 | exact h85) ?_
      | refine ⟨by decide, ?_⟩
      | fail)
    exact ppost_c (by simp) (by simp only [go_sem, reduceCtorEq, reduceIte, Nat.reduceAdd, Nat.reduceEqDiff, Nat.reduceLeDiff, Nat.reduceMul]; rfl) (by simp only [go_sem, reduceCtorEq, reduceIte, Nat.reduceAdd, Nat.reduceEqDiff, Nat.reduceLeDiff, Nat.reduceMul]; rfl) rfl (by simp only [List.take, List.drop, hsz]) rfl
end Go.Proofs.Ytdmmhainianadaa

/- F15: where a place is now, and was, as the program tells it. -/
namespace Go.Proofs.Ytdmmhainianadaa
open Go.VM Go.Lim Go.Proofs.Try
attribute [local irreducible] vwp vops vstep vdr vdr1 CallP PPost SWv gdO gdD cdO optV optW optD thenV blockV behind callO callW callvO roundV
set_option linter.unusedSimpArgs false
set_option linter.unusedVariables false
theorem getD_in {α : Type} {l : List α} {i : Nat} {x : α} : l.getD i x ∈ l ∨ l.getD i x = x := by
  rw [List.getD_eq_getElem?_getD]
  cases h : l[i]? with
  | none => right; rfl
  | some y => left; exact List.mem_of_getElem? h
theorem txt_sm {d : Doc} (p : Spot) (hs : docSm d) : (textAtB (blkAt d p) p.cell).length < 1099511627776 := by
  have hb : (blkAt d p).sm := by
    rcases getD_in (l := d) (i := p.block.toNat) (x := noBlock) with h | h
    · exact hs.2 _ h
    · unfold blkAt; rw [h]; exact ⟨by decide, by decide, fun c hc => by simp [noBlock] at hc⟩
  unfold textAtB
  split
  · rcases getD_in (l := (blkAt d p).table.cells) (i := p.cell.toNat) (x := noCell) with h | h
    · exact hb.2.2 _ h
    · rw [h]; decide
  · exact hb.1
theorem c39 (d : Doc) (p : Spot) (hs : docSm d) : PureC prog 39 [.agg [encB d], .agg p.enc] (.agg (spotBy wasB docOkI d p).enc) := by
  have h41 := c62 d p hs
  cases hb : placeOk docOkI d p with
  | false =>
    rw [hb] at h41
    have e : spotBy wasB docOkI d p = ⟨0, 0, 0⟩ := by rw [spotBy, hb]; rfl
    rw [e]
    clear hb e
    unfold Spot.enc encB at *
    refine pureC_of k39 (by first | rfl | simp [VV.cloL, VV.clo, *]) (by first | rfl | simp [VV.cloL, VV.clo, *]) (by simp) ?_
    intro X hP hm hH hn hX
    refine vwp_ok _ ?_
    unfold vc39
    repeat' (first
      | simp only [go_sem, reduceCtorEq, reduceIte, Nat.reduceAdd, Nat.reduceEqDiff, Nat.reduceLeDiff, Nat.reduceMul, *]
      | refine gdO_bool' _ (fun _ => ?_) (fun _ => ?_)
      | refine gdO_bool _ (fun _ => ?_) (fun _ => ?_)
      | refine gdD_bool' _ (fun _ => ?_) (fun _ => ?_)
      | refine gdD_bool _ (fun _ => ?_) (fun _ => ?_)
      | refine cdO_bool' _ (fun _ => ?_) (fun _ => ?_)
      | refine cdO_bool _ (fun _ => ?_) (fun _ => ?_)
      | refine callO.pure (by first | exact h41) ?_
      | refine callW.pure (by first | exact h41) ?_
      | refine ⟨by decide, ?_⟩
      | fail)
    exact ppost_c (by simp) (by simp only [go_sem, reduceCtorEq, reduceIte, Nat.reduceAdd, Nat.reduceEqDiff, Nat.reduceLeDiff, Nat.reduceMul]; rfl) (by simp only [go_sem, reduceCtorEq, reduceIte, Nat.reduceAdd, Nat.reduceEqDiff, Nat.reduceLeDiff, Nat.reduceMul]; rfl) rfl rfl rfl
  | true =>
    rw [hb] at h41
    have hpos := hb
    simp only [placeOk, Bool.and_eq_true] at hpos
    have hp := hpos.2
    simp only [within, Bool.and_eq_true, decide_eq_true_eq] at hp
    obtain ⟨rest, hrc, h86⟩ := c88 d p hs (by rw [Bool.and_eq_true]; exact ⟨hpos.1.1.2, hpos.1.2⟩)
    have e : spotBy wasB docOkI d p = ⟨p.block, p.cell, ((textBy wasB ((textAtB (blkAt d p) p.cell).take p.pos.toNat)).length : Int)⟩ := by rw [spotBy, if_pos hb]
    have hsm := txt_sm p hs
    rw [e]
    clear e hb hpos
    generalize textAtB (blkAt d p) p.cell = tx at *
    have h90 := c91 (tx.take p.pos.toNat) (by rw [List.length_take]; omega)
    obtain ⟨q, hq⟩ : ∃ q : Nat, p.pos = q := ⟨p.pos.toNat, by omega⟩
    rw [hq, Int.toNat_natCast] at h90 ⊢
    rw [hq] at hp
    have g1 : (0 : Int) ≤ (q : Int) := by omega
    have g2 : q ≤ tx.length := by omega
    have g3 : 0 ≤ q := Nat.zero_le q
    have hsz := strOf_size (textBy wasB (tx.take q))
    unfold encT strV at h90
    rw [List.map_take] at h90
    unfold Spot.enc encB encT at *
    simp only [hq] at h41 h86 ⊢
    generalize textBy wasB (tx.take q) = res at *
    refine pureC_of k39 (by first | rfl | simp [VV.cloL, VV.clo, *]) (by first | rfl | simp [VV.cloL, VV.clo, *]) (by simp) ?_
    intro X hP hm hH hn hX
    refine vwp_ok _ ?_
    unfold vc39
    repeat' (first
      | simp only [go_sem, reduceCtorEq, reduceIte, Nat.reduceAdd, Nat.reduceEqDiff, Nat.reduceLeDiff, Nat.reduceMul, *]
      | refine gdO_bool' _ (fun _ => ?_) (fun _ => ?_)
      | refine gdO_bool _ (fun _ => ?_) (fun _ => ?_)
      | refine gdD_bool' _ (fun _ => ?_) (fun _ => ?_)
      | refine gdD_bool _ (fun _ => ?_) (fun _ => ?_)
      | refine cdO_bool' _ (fun _ => ?_) (fun _ => ?_)
      | refine cdO_bool _ (fun _ => ?_) (fun _ => ?_)
      | refine callO.pure (by first | exact h41 | exact h86 | exact h90) ?_
      | refine callW.pure (by first | exact h41 | exact h86 | exact h90) ?_
      | refine ⟨by decide, ?_⟩
      | fail)
    exact ppost_c (by simp) (by simp only [go_sem, reduceCtorEq, reduceIte, Nat.reduceAdd, Nat.reduceEqDiff, Nat.reduceLeDiff, Nat.reduceMul]; rfl) (by simp only [go_sem, reduceCtorEq, reduceIte, Nat.reduceAdd, Nat.reduceEqDiff, Nat.reduceLeDiff, Nat.reduceMul]; rfl) rfl (by simp only [List.take, List.drop, hsz]) rfl
theorem c35 (d : Doc) (p : Spot) (hs : docSm d) : PureC prog 35 [.agg [encB d], .agg p.enc] (.agg (spotBy nowB docOkI d p).enc) := by
  have h41 := c62 d p hs
  cases hb : placeOk docOkI d p with
  | false =>
    rw [hb] at h41
    have e : spotBy nowB docOkI d p = ⟨0, 0, 0⟩ := by rw [spotBy, hb]; rfl
    rw [e]
    clear hb e
    unfold Spot.enc encB at *
    refine pureC_of k35 (by first | rfl | simp [VV.cloL, VV.clo, *]) (by first | rfl | simp [VV.cloL, VV.clo, *]) (by simp) ?_
    intro X hP hm hH hn hX
    refine vwp_ok _ ?_
    unfold vc35
    repeat' (first
      | simp only [go_sem, reduceCtorEq, reduceIte, Nat.reduceAdd, Nat.reduceEqDiff, Nat.reduceLeDiff, Nat.reduceMul, *]
      | refine gdO_bool' _ (fun _ => ?_) (fun _ => ?_)
      | refine gdO_bool _ (fun _ => ?_) (fun _ => ?_)
      | refine gdD_bool' _ (fun _ => ?_) (fun _ => ?_)
      | refine gdD_bool _ (fun _ => ?_) (fun _ => ?_)
      | refine cdO_bool' _ (fun _ => ?_) (fun _ => ?_)
      | refine cdO_bool _ (fun _ => ?_) (fun _ => ?_)
      | refine callO.pure (by first | exact h41) ?_
      | refine callW.pure (by first | exact h41) ?_
      | refine ⟨by decide, ?_⟩
      | fail)
    exact ppost_c (by simp) (by simp only [go_sem, reduceCtorEq, reduceIte, Nat.reduceAdd, Nat.reduceEqDiff, Nat.reduceLeDiff, Nat.reduceMul]; rfl) (by simp only [go_sem, reduceCtorEq, reduceIte, Nat.reduceAdd, Nat.reduceEqDiff, Nat.reduceLeDiff, Nat.reduceMul]; rfl) rfl rfl rfl
  | true =>
    rw [hb] at h41
    have hpos := hb
    simp only [placeOk, Bool.and_eq_true] at hpos
    have hp := hpos.2
    simp only [within, Bool.and_eq_true, decide_eq_true_eq] at hp
    obtain ⟨rest, hrc, h86⟩ := c88 d p hs (by rw [Bool.and_eq_true]; exact ⟨hpos.1.1.2, hpos.1.2⟩)
    have e : spotBy nowB docOkI d p = ⟨p.block, p.cell, ((textBy nowB ((textAtB (blkAt d p) p.cell).take p.pos.toNat)).length : Int)⟩ := by rw [spotBy, if_pos hb]
    have hsm := txt_sm p hs
    rw [e]
    clear e hb hpos
    generalize textAtB (blkAt d p) p.cell = tx at *
    have h90 := c78 (tx.take p.pos.toNat) (by rw [List.length_take]; omega)
    obtain ⟨q, hq⟩ : ∃ q : Nat, p.pos = q := ⟨p.pos.toNat, by omega⟩
    rw [hq, Int.toNat_natCast] at h90 ⊢
    rw [hq] at hp
    have g1 : (0 : Int) ≤ (q : Int) := by omega
    have g2 : q ≤ tx.length := by omega
    have g3 : 0 ≤ q := Nat.zero_le q
    have hsz := strOf_size (textBy nowB (tx.take q))
    unfold encT strV at h90
    rw [List.map_take] at h90
    unfold Spot.enc encB encT at *
    simp only [hq] at h41 h86 ⊢
    generalize textBy nowB (tx.take q) = res at *
    refine pureC_of k35 (by first | rfl | simp [VV.cloL, VV.clo, *]) (by first | rfl | simp [VV.cloL, VV.clo, *]) (by simp) ?_
    intro X hP hm hH hn hX
    refine vwp_ok _ ?_
    unfold vc35
    repeat' (first
      | simp only [go_sem, reduceCtorEq, reduceIte, Nat.reduceAdd, Nat.reduceEqDiff, Nat.reduceLeDiff, Nat.reduceMul, *]
      | refine gdO_bool' _ (fun _ => ?_) (fun _ => ?_)
      | refine gdO_bool _ (fun _ => ?_) (fun _ => ?_)
      | refine gdD_bool' _ (fun _ => ?_) (fun _ => ?_)
      | refine gdD_bool _ (fun _ => ?_) (fun _ => ?_)
      | refine cdO_bool' _ (fun _ => ?_) (fun _ => ?_)
      | refine cdO_bool _ (fun _ => ?_) (fun _ => ?_)
      | refine callO.pure (by first | exact h41 | exact h86 | exact h90) ?_
      | refine callW.pure (by first | exact h41 | exact h86 | exact h90) ?_
      | refine ⟨by decide, ?_⟩
      | fail)
    exact ppost_c (by simp) (by simp only [go_sem, reduceCtorEq, reduceIte, Nat.reduceAdd, Nat.reduceEqDiff, Nat.reduceLeDiff, Nat.reduceMul]; rfl) (by simp only [go_sem, reduceCtorEq, reduceIte, Nat.reduceAdd, Nat.reduceEqDiff, Nat.reduceLeDiff, Nat.reduceMul]; rfl) rfl (by simp only [List.take, List.drop, hsz]) rfl
end Go.Proofs.Ytdmmhainianadaa

/- F16: the laws' helpers: sizes, copies, comparisons. -/
namespace Go.Proofs.Ytdmmhainianadaa
open Go.VM Go.Lim Go.Proofs.Try
attribute [local irreducible] vwp vops vstep vdr vdr1 CallP PPost SWv gdO gdD cdO optV optW optD thenV blockV behind callO callW callvO roundV
set_option linter.unusedSimpArgs false
set_option linter.unusedVariables false
/- loop.example/limner/laws.toPlace -/
def vc34 : VCode :=
(.seq (.reg [⟨(some 1), (.box (.tmp 0)), none⟩, ⟨(some 2), (.new [(.int .i64 0), (.int .i64 0), (.int .i64 0)]), none⟩])
(.seq (.reg [⟨(some 3), (.new [(.int .i64 0), (.int .i64 0), (.int .i64 0)]), none⟩])
(.seq (.reg [⟨(some 4), (.fad 0 (.tmp 1)), none⟩, ⟨(some 5), (.load false 1 (.tmp 4)), none⟩, ⟨(some 6), (.fad 0 (.tmp 3)), none⟩, ⟨none, (.store 1 (.tmp 6) (.tmp 5)), none⟩])
(.seq (.reg [⟨(some 7), (.fad 1 (.tmp 1)), none⟩, ⟨(some 8), (.load false 1 (.tmp 7)), none⟩, ⟨(some 9), (.fad 1 (.tmp 3)), none⟩, ⟨none, (.store 1 (.tmp 9) (.tmp 8)), none⟩])
(.seq (.reg [⟨(some 10), (.fad 2 (.tmp 1)), none⟩, ⟨(some 11), (.load false 1 (.tmp 10)), none⟩, ⟨(some 12), (.fad 2 (.tmp 3)), none⟩, ⟨none, (.store 1 (.tmp 12) (.tmp 11)), none⟩])
(.seq (.reg [⟨(some 13), (.load true 3 (.tmp 3)), none⟩, ⟨none, (.store 3 (.tmp 2) (.tmp 13)), none⟩])
.ret))))))
theorem k34 : compFn prog 34 = some (14, vc34, [.c 2 true 3]) := by kernel_rfl
/- loop.example/limner/laws.eqPlace -/
def vc36 : VCode :=
(.seq (.reg [⟨(some 2), (.box (.tmp 0)), none⟩, ⟨(some 3), (.box (.tmp 1)), none⟩, ⟨(some 4), (.mov (.const (.bool false))), none⟩])
(.seq (.seq (.reg [⟨(some 5), (.fad 0 (.tmp 2)), none⟩, ⟨(some 6), (.load false 1 (.tmp 5)), none⟩, ⟨(some 7), (.fad 0 (.tmp 3)), none⟩, ⟨(some 8), (.load false 1 (.tmp 7)), none⟩, ⟨(some 9), (.bin .neq .no (.tmp 6) (.tmp 8)), none⟩])
(.cond (.tmp 9) (.seq (.reg [⟨(some 4), (.mov (.const (.bool false))), none⟩])
 .ret)
 .skip))
(.seq (.seq (.reg [⟨(some 10), (.fad 1 (.tmp 2)), none⟩, ⟨(some 11), (.load false 1 (.tmp 10)), none⟩, ⟨(some 12), (.fad 1 (.tmp 3)), none⟩, ⟨(some 13), (.load false 1 (.tmp 12)), none⟩, ⟨(some 14), (.bin .neq .no (.tmp 11) (.tmp 13)), none⟩])
(.cond (.tmp 14) (.seq (.reg [⟨(some 4), (.mov (.const (.bool false))), none⟩])
 .ret)
 .skip))
(.seq (.seq (.reg [⟨(some 15), (.fad 2 (.tmp 2)), none⟩, ⟨(some 16), (.load false 1 (.tmp 15)), none⟩, ⟨(some 17), (.fad 2 (.tmp 3)), none⟩, ⟨(some 18), (.load false 1 (.tmp 17)), none⟩, ⟨(some 19), (.bin .neq .no (.tmp 16) (.tmp 18)), none⟩])
(.cond (.tmp 19) (.seq (.reg [⟨(some 4), (.mov (.const (.bool false))), none⟩])
 .ret)
 .skip))
(.seq (.reg [⟨(some 4), (.mov (.const (.bool true))), none⟩])
.ret)))))
theorem k36 : compFn prog 36 = some (20, vc36, [.t 4]) := by kernel_rfl
/- loop.example/limner/laws.toSign -/
def vc189 : VCode :=
(.seq (.reg [⟨(some 1), (.box (.tmp 0)), none⟩, ⟨(some 2), (.new [(.int .u8 0), (.int .i64 0), (.int .i64 0)]), none⟩])
(.seq (.reg [⟨(some 3), (.new [(.int .u8 0), (.int .i64 0), (.int .i64 0)]), none⟩])
(.seq (.reg [⟨(some 4), (.fad 0 (.tmp 1)), none⟩, ⟨(some 5), (.load false 1 (.tmp 4)), none⟩, ⟨(some 6), (.fad 0 (.tmp 3)), none⟩, ⟨none, (.store 1 (.tmp 6) (.tmp 5)), none⟩])
(.seq (.reg [⟨(some 7), (.fad 1 (.tmp 1)), none⟩, ⟨(some 8), (.load false 1 (.tmp 7)), none⟩, ⟨(some 9), (.fad 1 (.tmp 3)), none⟩, ⟨none, (.store 1 (.tmp 9) (.tmp 8)), none⟩])
(.seq (.reg [⟨(some 10), (.fad 2 (.tmp 1)), none⟩, ⟨(some 11), (.load false 1 (.tmp 10)), none⟩, ⟨(some 12), (.fad 2 (.tmp 3)), none⟩, ⟨none, (.store 1 (.tmp 12) (.tmp 11)), none⟩])
(.seq (.reg [⟨(some 13), (.load true 3 (.tmp 3)), none⟩, ⟨none, (.store 3 (.tmp 2) (.tmp 13)), none⟩])
.ret))))))
theorem k189 : compFn prog 189 = some (14, vc189, [.c 2 true 3]) := by kernel_rfl
/- loop.example/limner/laws.eqSign -/
def vc191 : VCode :=
(.seq (.reg [⟨(some 2), (.box (.tmp 0)), none⟩, ⟨(some 3), (.box (.tmp 1)), none⟩, ⟨(some 4), (.mov (.const (.bool false))), none⟩])
(.seq (.seq (.reg [⟨(some 5), (.fad 0 (.tmp 2)), none⟩, ⟨(some 6), (.load false 1 (.tmp 5)), none⟩, ⟨(some 7), (.fad 0 (.tmp 3)), none⟩, ⟨(some 8), (.load false 1 (.tmp 7)), none⟩, ⟨(some 9), (.bin .neq .no (.tmp 6) (.tmp 8)), none⟩])
(.cond (.tmp 9) (.seq (.reg [⟨(some 4), (.mov (.const (.bool false))), none⟩])
 .ret)
 .skip))
(.seq (.seq (.reg [⟨(some 10), (.fad 1 (.tmp 2)), none⟩, ⟨(some 11), (.load false 1 (.tmp 10)), none⟩, ⟨(some 12), (.fad 1 (.tmp 3)), none⟩, ⟨(some 13), (.load false 1 (.tmp 12)), none⟩, ⟨(some 14), (.bin .neq .no (.tmp 11) (.tmp 13)), none⟩])
(.cond (.tmp 14) (.seq (.reg [⟨(some 4), (.mov (.const (.bool false))), none⟩])
 .ret)
 .skip))
(.seq (.seq (.reg [⟨(some 15), (.fad 2 (.tmp 2)), none⟩, ⟨(some 16), (.load false 1 (.tmp 15)), none⟩, ⟨(some 17), (.fad 2 (.tmp 3)), none⟩, ⟨(some 18), (.load false 1 (.tmp 17)), none⟩, ⟨(some 19), (.bin .neq .no (.tmp 16) (.tmp 18)), none⟩])
(.cond (.tmp 19) (.seq (.reg [⟨(some 4), (.mov (.const (.bool false))), none⟩])
 .ret)
 .skip))
(.seq (.reg [⟨(some 4), (.mov (.const (.bool true))), none⟩])
.ret)))))
theorem k191 : compFn prog 191 = some (20, vc191, [.t 4]) := by kernel_rfl
theorem c34 (p : Spot) : PureC prog 34 [.agg p.enc] (.agg p.enc) := by
  unfold Spot.enc
  refine pureC_of k34 (by first | rfl | simp [VV.cloL, VV.clo, *]) (by first | rfl | simp [VV.cloL, VV.clo, *]) (by simp) ?_
  intro X hP hm hH hn hX
  refine vwp_ok _ ?_
  unfold vc34
  repeat' (first
    | simp only [go_sem, reduceCtorEq, reduceIte, Nat.reduceAdd, Nat.reduceEqDiff, Nat.reduceLeDiff, Nat.reduceMul, *]
    | refine gdO_bool' _ (fun _ => ?_) (fun _ => ?_)
    | refine gdO_bool _ (fun _ => ?_) (fun _ => ?_)
    | refine gdD_bool' _ (fun _ => ?_) (fun _ => ?_)
    | refine gdD_bool _ (fun _ => ?_) (fun _ => ?_)
    | refine cdO_bool' _ (fun _ => ?_) (fun _ => ?_)
    | refine cdO_bool _ (fun _ => ?_) (fun _ => ?_)
    | refine ⟨by decide, ?_⟩
    | fail)
  exact ppost_c (by simp) (by simp only [go_sem, reduceCtorEq, reduceIte, Nat.reduceAdd, Nat.reduceEqDiff, Nat.reduceLeDiff, Nat.reduceMul]; rfl) (by simp only [go_sem, reduceCtorEq, reduceIte, Nat.reduceAdd, Nat.reduceEqDiff, Nat.reduceLeDiff, Nat.reduceMul]; rfl) rfl rfl rfl
theorem c189 (x : Sign) : PureC prog 189 [.agg x.enc] (.agg x.enc) := by
  unfold Sign.enc
  refine pureC_of k189 (by first | rfl | simp [VV.cloL, VV.clo, *]) (by first | rfl | simp [VV.cloL, VV.clo, *]) (by simp) ?_
  intro X hP hm hH hn hX
  refine vwp_ok _ ?_
  unfold vc189
  repeat' (first
    | simp only [go_sem, reduceCtorEq, reduceIte, Nat.reduceAdd, Nat.reduceEqDiff, Nat.reduceLeDiff, Nat.reduceMul, *]
    | refine gdO_bool' _ (fun _ => ?_) (fun _ => ?_)
    | refine gdO_bool _ (fun _ => ?_) (fun _ => ?_)
    | refine gdD_bool' _ (fun _ => ?_) (fun _ => ?_)
    | refine gdD_bool _ (fun _ => ?_) (fun _ => ?_)
    | refine cdO_bool' _ (fun _ => ?_) (fun _ => ?_)
    | refine cdO_bool _ (fun _ => ?_) (fun _ => ?_)
    | refine ⟨by decide, ?_⟩
    | fail)
  exact ppost_c (by simp) (by simp only [go_sem, reduceCtorEq, reduceIte, Nat.reduceAdd, Nat.reduceEqDiff, Nat.reduceLeDiff, Nat.reduceMul]; rfl) (by simp only [go_sem, reduceCtorEq, reduceIte, Nat.reduceAdd, Nat.reduceEqDiff, Nat.reduceLeDiff, Nat.reduceMul]; rfl) rfl rfl rfl
theorem c36 (a b : Spot) : PureC prog 36 [.agg a.enc, .agg b.enc] (.sc (.bool (a.block == b.block && a.cell == b.cell && a.pos == b.pos))) := by
  unfold Spot.enc
  refine pureC_of k36 (by first | rfl | simp [VV.cloL, VV.clo, *]) (by first | rfl | simp [VV.cloL, VV.clo, *]) (by simp) ?_
  intro X hP hm hH hn hX
  refine vwp_ok _ ?_
  unfold vc36
  repeat' (first
    | simp only [go_sem, reduceCtorEq, reduceIte, Nat.reduceAdd, Nat.reduceEqDiff, Nat.reduceLeDiff, Nat.reduceMul, *]
    | refine gdO_bool' _ (fun _ => ?_) (fun _ => ?_)
    | refine gdO_bool _ (fun _ => ?_) (fun _ => ?_)
    | refine gdD_bool' _ (fun _ => ?_) (fun _ => ?_)
    | refine gdD_bool _ (fun _ => ?_) (fun _ => ?_)
    | refine cdO_bool' _ (fun _ => ?_) (fun _ => ?_)
    | refine cdO_bool _ (fun _ => ?_) (fun _ => ?_)
    | refine ⟨by decide, ?_⟩
    | refine ppost_t (by simp) rfl ?_)
  all_goals simp only [*, Bool.true_and, Bool.false_and, Bool.and_true, Bool.and_false]
theorem c191 (a b : Sign) : PureC prog 191 [.agg a.enc, .agg b.enc] (.sc (.bool (a.byte == b.byte && a.inn == b.inn && a.out == b.out))) := by
  unfold Sign.enc
  refine pureC_of k191 (by first | rfl | simp [VV.cloL, VV.clo, *]) (by first | rfl | simp [VV.cloL, VV.clo, *]) (by simp) ?_
  intro X hP hm hH hn hX
  refine vwp_ok _ ?_
  unfold vc191
  repeat' (first
    | simp only [go_sem, reduceCtorEq, reduceIte, Nat.reduceAdd, Nat.reduceEqDiff, Nat.reduceLeDiff, Nat.reduceMul, *]
    | refine gdO_bool' _ (fun _ => ?_) (fun _ => ?_)
    | refine gdO_bool _ (fun _ => ?_) (fun _ => ?_)
    | refine gdD_bool' _ (fun _ => ?_) (fun _ => ?_)
    | refine gdD_bool _ (fun _ => ?_) (fun _ => ?_)
    | refine cdO_bool' _ (fun _ => ?_) (fun _ => ?_)
    | refine cdO_bool _ (fun _ => ?_) (fun _ => ?_)
    | refine ⟨by decide, ?_⟩
    | refine ppost_t (by simp) rfl ?_)
  all_goals simp only [*, Bool.true_and, Bool.false_and, Bool.and_true, Bool.and_false]
end Go.Proofs.Ytdmmhainianadaa

/- F17: the laws' copies. -/
namespace Go.Proofs.Ytdmmhainianadaa
open Go.VM Go.Lim Go.Proofs.Try
attribute [local irreducible] vwp vops vstep vdr vdr1 CallP PPost SWv gdO gdD cdO optV optW optD thenV blockV behind callO callW callvO roundV
set_option linter.unusedSimpArgs false
set_option linter.unusedVariables false
/- loop.example/limner/laws.toSignS -/
def vc165 : VCode :=
(.seq (.reg [⟨(some 2), (.mov (.const (.slice none 0 0))), none⟩])
(.seq (.reg [⟨(some 5), (.mov (.tmp 0)), none⟩, ⟨(some 6), (.len false (.tmp 5)), none⟩, ⟨(some 7), (.mks 3 24 [(.int .u8 0), (.int .i64 0), (.int .i64 0)] (.tmp 6)), none⟩, ⟨(some 3), (.mov (.tmp 7)), none⟩])
(.seq (.seq (.reg [⟨(some 4), (.mov (.const (.int .i64 0))), none⟩])
(.block 0 (.loop (.seq (.seq (.reg [⟨(some 8), (.mov (.tmp 4)), none⟩, ⟨(some 9), (.mov (.tmp 0)), none⟩, ⟨(some 10), (.len false (.tmp 9)), none⟩, ⟨(some 11), (.bin .lss .no (.tmp 8) (.tmp 10)), none⟩])
  (.cond (.tmp 11) .skip
   (.exit 0)))
  (.seq (.block 1 (.reg [⟨(some 14), (.mov (.tmp 3)), none⟩, ⟨(some 15), (.mov (.tmp 4)), none⟩, ⟨(some 16), (.mov (.tmp 0)), none⟩, ⟨(some 17), (.mov (.tmp 4)), none⟩, ⟨(some 18), (.iad 3 (.tmp 16) (.tmp 17)), none⟩, ⟨(some 19), (.load true 3 (.tmp 18)), none⟩, ⟨(some 20), (.call 189 [(.tmp 19)]), none⟩, ⟨(some 21), (.iad 3 (.tmp 14) (.tmp 15)), none⟩, ⟨none, (.store 3 (.tmp 21) (.tmp 20)), none⟩]))
  (.reg [⟨(some 12), (.mov (.tmp 4)), none⟩, ⟨(some 13), (.bin .add .no (.tmp 12) (.const (.int .i64 1))), none⟩, ⟨(some 4), (.mov (.tmp 13)), none⟩]))))))
(.seq (.reg [⟨(some 22), (.mov (.tmp 3)), none⟩, ⟨(some 2), (.mov (.tmp 22)), none⟩])
.ret))))
theorem k165 : compFn prog 165 = some (23, vc165, [.t 2]) := by kernel_rfl
def zS : List VV := [.sc (.int .u8 0), .sc (.int .i64 0), .sc (.int .i64 0)]
theorem rep_clo {zs : List VV} (h : VV.cloL zs = true) : ∀ n, VV.cloL (List.replicate n zs).flatten = true
  | 0 => rfl
  | n + 1 => by rw [List.replicate_succ, List.flatten_cons, cloL_append, h, rep_clo h n]; rfl
theorem map_clo {α : Type} {enc : α → List VV} (h : ∀ x, VV.cloL (enc x) = true) : ∀ l : List α, VV.cloL (l.map enc).flatten = true
  | [] => rfl
  | x :: l => by rw [List.map_cons, List.flatten_cons, cloL_append, h, map_clo h l]; rfl
theorem filled_clo {α : Type} {enc : α → List VV} {zs : List VV} (h : ∀ x, VV.cloL (enc x) = true) (hz : VV.cloL zs = true) (l : List α) (i : Nat) : VV.cloL (filled enc zs l i) = true := by
  rw [filled, cloL_append, map_clo h, rep_clo hz]; rfl
theorem c165 (l : Text) (hs : l.length < 1048577) : PureC prog 165 [encT l] (encT l) := by
  have h0 : (0 : Int) ≤ (l.length : Int) ∧ (l.length : Int) * ((24 : Nat) : Int) ≤ 281474976710656 ∧ (l.length : Int) ≤ 9223372036854775807 := by omega
  unfold encT
  refine pureC_of k165 (by first | rfl | simp [VV.cloL, VV.clo, *]) (by first | rfl | simp [VV.cloL, VV.clo, *]) (by simp) ?_
  intro X hP hm hH hn hX
  refine vwp_ok _ ?_
  unfold vc165
  repeat' (first
    | simp only [go_sem, reduceCtorEq, reduceIte, Nat.reduceAdd, Nat.reduceEqDiff, Nat.reduceLeDiff, Nat.reduceMul, *]
    | refine gdO_bool' _ (fun _ => ?_) (fun _ => ?_)
    | refine gdO_bool _ (fun _ => ?_) (fun _ => ?_)
    | refine gdD_bool' _ (fun _ => ?_) (fun _ => ?_)
    | refine gdD_bool _ (fun _ => ?_) (fun _ => ?_)
    | refine cdO_bool' _ (fun _ => ?_) (fun _ => ?_)
    | refine cdO_bool _ (fun _ => ?_) (fun _ => ?_)
    | refine ⟨by decide, ?_⟩
    | refine ppost_t (by simp) rfl ?_)
  refine loopV hX (fun μ s H n => ∃ i : Nat, i ≤ l.length ∧ μ = l.length - i ∧ s = slotsOf [(0, .sl 3 (l.map Sign.enc)), (3, .rf 0 0 l.length 3), (4, .sc (.int .i64 i))] ∧ H = heapOf [(0, filled Sign.enc zS l i)] ∧ n = 1) ?_
    ⟨l.length + 1, roundV_of hH hn [3] [(0, _), (3, _), (4, _)] [(0, _)] _ ⟨0, by simp, rfl, rfl, rfl, rfl⟩ (by simp) (by simp) (by simp [hm]) ?_ ?_⟩
  rotate_left
  · repeat' (first | exact List.forall_mem_nil _ | refine List.forall_mem_cons.2 ⟨?_, ?_⟩ | exact .toPt (by simp only [go_sem, reduceCtorEq, reduceIte, Nat.reduceAdd, Nat.reduceEqDiff, Nat.reduceLeDiff, Nat.reduceMul, *] <;> rfl) (by simp [tau]) (by simp) | exact .toRf (by simp only [go_sem, reduceCtorEq, reduceIte, Nat.reduceAdd, Nat.reduceEqDiff, Nat.reduceLeDiff, Nat.reduceMul, *] <;> rfl) (by simp [tau]) (by simp) | exact .same (by simp only [go_sem, reduceCtorEq, reduceIte, Nat.reduceAdd, Nat.reduceEqDiff, Nat.reduceLeDiff, Nat.reduceMul, *] <;> rfl) (by first | rfl | simp [VV.cloL, VV.clo, *]))
  · refine HConv.same (by decide) ?_ (filled_clo (fun _ => rfl) rfl l 0) HConv.nil
    rw [filled_zero]; rfl
  rintro μ s H n ⟨i, hi, rfl, rfl, rfl, rfl⟩
  rcases Nat.lt_or_ge i l.length with hlt | hge
  · have g1 := lt_dec hlt
    have g2 : (0 : Int) ≤ (i : Int) := by omega
    have g3 : (i : Int) < (l.length : Int) := by omega
    have g4 : (l.map Sign.enc).getD i [] = (l[i]).enc := getD_map hlt
    have g5 : IntKind.i64.wrap ((i : Int) + 1) = ((i + 1 : Nat) : Int) := by rw [wrap_id] <;> omega
    have k1 := filled_store (enc := Sign.enc) (zs := zS) (z := 3) rfl (fun _ => rfl) hlt
    have k2 := filled_len (enc := Sign.enc) (zs := zS) (z := 3) rfl (fun _ => rfl) hi
    have k3 : i * 3 + 3 ≤ l.length * 3 := by omega
    have h189 := c189 l[i]
    generalize l[i] = x at *
    have ex : x.enc = [.sc (.int .u8 x.byte), .sc (.int .i64 x.inn), .sc (.int .i64 x.out)] := rfl
    rw [ex] at h189 k1
    repeat' (first
      | simp only [go_sem, reduceCtorEq, reduceIte, Nat.reduceAdd, Nat.reduceEqDiff, Nat.reduceLeDiff, Nat.reduceMul, *]
      | refine gdO_bool' _ (fun _ => ?_) (fun _ => ?_)
      | refine gdO_bool _ (fun _ => ?_) (fun _ => ?_)
      | refine gdD_bool' _ (fun _ => ?_) (fun _ => ?_)
      | refine gdD_bool _ (fun _ => ?_) (fun _ => ?_)
      | refine cdO_bool' _ (fun _ => ?_) (fun _ => ?_)
      | refine cdO_bool _ (fun _ => ?_) (fun _ => ?_)
      | refine callO.pure (by first | exact h189) ?_
      | refine callW.pure (by first | exact h189) ?_
      | refine ⟨by decide, ?_⟩
      | refine ppost_t (by simp) rfl ?_)
    refine roundV_of hH hn [0] [(0, _), (3, _), (4, _)] [(0, _)] _ ⟨i + 1, hlt, rfl, rfl, rfl, rfl⟩ (by omega) (by simp) (by simp [hm]) ?_ ?_
    · repeat' (first | exact List.forall_mem_nil _ | refine List.forall_mem_cons.2 ⟨?_, ?_⟩ | exact .toPt (by simp only [go_sem, reduceCtorEq, reduceIte, Nat.reduceAdd, Nat.reduceEqDiff, Nat.reduceLeDiff, Nat.reduceMul, *] <;> rfl) (by simp [tau]) (by simp) | exact .toRf (by simp only [go_sem, reduceCtorEq, reduceIte, Nat.reduceAdd, Nat.reduceEqDiff, Nat.reduceLeDiff, Nat.reduceMul, *] <;> rfl) (by simp [tau]) (by simp) | exact .same (by simp only [go_sem, reduceCtorEq, reduceIte, Nat.reduceAdd, Nat.reduceEqDiff, Nat.reduceLeDiff, Nat.reduceMul, *] <;> rfl) (by first | rfl | simp [VV.cloL, VV.clo, *]))
    · refine HConv.same (by decide) ?_ (filled_clo (fun _ => rfl) rfl l (i + 1)) HConv.nil
      rw [← k1]; rfl
  · have g1 := ge_dec hge
    repeat' (first
      | simp only [go_sem, reduceCtorEq, reduceIte, Nat.reduceAdd, Nat.reduceEqDiff, Nat.reduceLeDiff, Nat.reduceMul, *]
      | refine gdO_bool' _ (fun _ => ?_) (fun _ => ?_)
      | refine gdO_bool _ (fun _ => ?_) (fun _ => ?_)
      | refine gdD_bool' _ (fun _ => ?_) (fun _ => ?_)
      | refine gdD_bool _ (fun _ => ?_) (fun _ => ?_)
      | refine cdO_bool' _ (fun _ => ?_) (fun _ => ?_)
      | refine cdO_bool _ (fun _ => ?_) (fun _ => ?_)
      | refine ⟨by decide, ?_⟩
      | fail)
    refine ppost_rf (by simp) (by simp only [go_sem, reduceCtorEq, reduceIte, Nat.reduceAdd, Nat.reduceEqDiff, Nat.reduceLeDiff, Nat.reduceMul]; rfl) (by simp only [go_sem, reduceCtorEq, reduceIte, Nat.reduceAdd, Nat.reduceEqDiff, Nat.reduceLeDiff, Nat.reduceMul]; rfl) (by simp) ?_ (enc_lens l) (flat_clo l)
    rw [List.drop_zero, filled_all hge, List.take_of_length_le]
    rw [flat_len]
    exact Nat.le_refl _
end Go.Proofs.Ytdmmhainianadaa

/- F18: the laws' copies of cells, tables, blocks, documents. -/
namespace Go.Proofs.Ytdmmhainianadaa
open Go.VM Go.Lim Go.Proofs.Try
attribute [local irreducible] vwp vops vstep vdr vdr1 CallP PPost SWv gdO gdD cdO optV optW optD thenV blockV behind callO callW callvO roundV
set_option linter.unusedSimpArgs false
set_option linter.unusedVariables false
/- loop.example/limner/laws.toCell -/
def vc206 : VCode :=
(.seq (.reg [⟨(some 1), (.box (.tmp 0)), none⟩, ⟨(some 2), (.new [(.int .i64 0), (.int .i64 0), (.int .i64 0), (.int .i64 0), (.slice none 0 0)]), none⟩])
(.seq (.reg [⟨(some 3), (.new [(.int .i64 0), (.int .i64 0), (.int .i64 0), (.int .i64 0), (.slice none 0 0)]), none⟩])
(.seq (.reg [⟨(some 4), (.fad 0 (.tmp 1)), none⟩, ⟨(some 5), (.load false 1 (.tmp 4)), none⟩, ⟨(some 6), (.fad 0 (.tmp 3)), none⟩, ⟨none, (.store 1 (.tmp 6) (.tmp 5)), none⟩])
(.seq (.reg [⟨(some 7), (.fad 1 (.tmp 1)), none⟩, ⟨(some 8), (.load false 1 (.tmp 7)), none⟩, ⟨(some 9), (.fad 1 (.tmp 3)), none⟩, ⟨none, (.store 1 (.tmp 9) (.tmp 8)), none⟩])
(.seq (.reg [⟨(some 10), (.fad 2 (.tmp 1)), none⟩, ⟨(some 11), (.load false 1 (.tmp 10)), none⟩, ⟨(some 12), (.fad 2 (.tmp 3)), none⟩, ⟨none, (.store 1 (.tmp 12) (.tmp 11)), none⟩])
(.seq (.reg [⟨(some 13), (.fad 3 (.tmp 1)), none⟩, ⟨(some 14), (.load false 1 (.tmp 13)), none⟩, ⟨(some 15), (.fad 3 (.tmp 3)), none⟩, ⟨none, (.store 1 (.tmp 15) (.tmp 14)), none⟩])
(.seq (.reg [⟨(some 16), (.fad 4 (.tmp 1)), none⟩, ⟨(some 17), (.load false 1 (.tmp 16)), none⟩, ⟨(some 18), (.call 165 [(.tmp 17)]), none⟩, ⟨(some 19), (.fad 4 (.tmp 3)), none⟩, ⟨none, (.store 1 (.tmp 19) (.tmp 18)), none⟩])
(.seq (.reg [⟨(some 20), (.load true 5 (.tmp 3)), none⟩, ⟨none, (.store 5 (.tmp 2) (.tmp 20)), none⟩])
.ret))))))))
theorem k206 : compFn prog 206 = some (21, vc206, [.c 2 true 5]) := by kernel_rfl
/- loop.example/limner/laws.toCellS -/
def vc190 : VCode :=
(.seq (.reg [⟨(some 2), (.mov (.const (.slice none 0 0))), none⟩])
(.seq (.reg [⟨(some 5), (.mov (.tmp 0)), none⟩, ⟨(some 6), (.len false (.tmp 5)), none⟩, ⟨(some 7), (.mks 5 56 [(.int .i64 0), (.int .i64 0), (.int .i64 0), (.int .i64 0), (.slice none 0 0)] (.tmp 6)), none⟩, ⟨(some 3), (.mov (.tmp 7)), none⟩])
(.seq (.seq (.reg [⟨(some 4), (.mov (.const (.int .i64 0))), none⟩])
(.block 0 (.loop (.seq (.seq (.reg [⟨(some 8), (.mov (.tmp 4)), none⟩, ⟨(some 9), (.mov (.tmp 0)), none⟩, ⟨(some 10), (.len false (.tmp 9)), none⟩, ⟨(some 11), (.bin .lss .no (.tmp 8) (.tmp 10)), none⟩])
  (.cond (.tmp 11) .skip
   (.exit 0)))
  (.seq (.block 1 (.reg [⟨(some 14), (.mov (.tmp 3)), none⟩, ⟨(some 15), (.mov (.tmp 4)), none⟩, ⟨(some 16), (.mov (.tmp 0)), none⟩, ⟨(some 17), (.mov (.tmp 4)), none⟩, ⟨(some 18), (.iad 5 (.tmp 16) (.tmp 17)), none⟩, ⟨(some 19), (.load true 5 (.tmp 18)), none⟩, ⟨(some 20), (.call 206 [(.tmp 19)]), none⟩, ⟨(some 21), (.iad 5 (.tmp 14) (.tmp 15)), none⟩, ⟨none, (.store 5 (.tmp 21) (.tmp 20)), none⟩]))
  (.reg [⟨(some 12), (.mov (.tmp 4)), none⟩, ⟨(some 13), (.bin .add .no (.tmp 12) (.const (.int .i64 1))), none⟩, ⟨(some 4), (.mov (.tmp 13)), none⟩]))))))
(.seq (.reg [⟨(some 22), (.mov (.tmp 3)), none⟩, ⟨(some 2), (.mov (.tmp 22)), none⟩])
.ret))))
theorem k190 : compFn prog 190 = some (23, vc190, [.t 2]) := by kernel_rfl
/- loop.example/limner/laws.toTable -/
def vc166 : VCode :=
(.seq (.reg [⟨(some 1), (.box (.tmp 0)), none⟩, ⟨(some 2), (.new [(.int .i64 0), (.int .i64 0), (.slice none 0 0)]), none⟩])
(.seq (.reg [⟨(some 3), (.new [(.int .i64 0), (.int .i64 0), (.slice none 0 0)]), none⟩])
(.seq (.reg [⟨(some 4), (.fad 0 (.tmp 1)), none⟩, ⟨(some 5), (.load false 1 (.tmp 4)), none⟩, ⟨(some 6), (.fad 0 (.tmp 3)), none⟩, ⟨none, (.store 1 (.tmp 6) (.tmp 5)), none⟩])
(.seq (.reg [⟨(some 7), (.fad 1 (.tmp 1)), none⟩, ⟨(some 8), (.load false 1 (.tmp 7)), none⟩, ⟨(some 9), (.fad 1 (.tmp 3)), none⟩, ⟨none, (.store 1 (.tmp 9) (.tmp 8)), none⟩])
(.seq (.reg [⟨(some 10), (.fad 2 (.tmp 1)), none⟩, ⟨(some 11), (.load false 1 (.tmp 10)), none⟩, ⟨(some 12), (.call 190 [(.tmp 11)]), none⟩, ⟨(some 13), (.fad 2 (.tmp 3)), none⟩, ⟨none, (.store 1 (.tmp 13) (.tmp 12)), none⟩])
(.seq (.reg [⟨(some 14), (.load true 3 (.tmp 3)), none⟩, ⟨none, (.store 3 (.tmp 2) (.tmp 14)), none⟩])
.ret))))))
theorem k166 : compFn prog 166 = some (15, vc166, [.c 2 true 3]) := by kernel_rfl
/- loop.example/limner/laws.toBlock -/
def vc131 : VCode :=
(.seq (.reg [⟨(some 1), (.box (.tmp 0)), none⟩, ⟨(some 2), (.new [(.int .i64 0), (.int .i64 0), (.slice none 0 0), (.int .i64 0), (.int .i64 0), (.slice none 0 0)]), none⟩])
(.seq (.reg [⟨(some 3), (.new [(.int .i64 0), (.int .i64 0), (.slice none 0 0), (.int .i64 0), (.int .i64 0), (.slice none 0 0)]), none⟩])
(.seq (.reg [⟨(some 4), (.fad 0 (.tmp 1)), none⟩, ⟨(some 5), (.load false 1 (.tmp 4)), none⟩, ⟨(some 6), (.fad 0 (.tmp 3)), none⟩, ⟨none, (.store 1 (.tmp 6) (.tmp 5)), none⟩])
(.seq (.reg [⟨(some 7), (.fad 1 (.tmp 1)), none⟩, ⟨(some 8), (.load false 1 (.tmp 7)), none⟩, ⟨(some 9), (.fad 1 (.tmp 3)), none⟩, ⟨none, (.store 1 (.tmp 9) (.tmp 8)), none⟩])
(.seq (.reg [⟨(some 10), (.fad 2 (.tmp 1)), none⟩, ⟨(some 11), (.load false 1 (.tmp 10)), none⟩, ⟨(some 12), (.call 165 [(.tmp 11)]), none⟩, ⟨(some 13), (.fad 2 (.tmp 3)), none⟩, ⟨none, (.store 1 (.tmp 13) (.tmp 12)), none⟩])
(.seq (.reg [⟨(some 14), (.fad 3 (.tmp 1)), none⟩, ⟨(some 15), (.load true 3 (.tmp 14)), none⟩, ⟨(some 16), (.call 166 [(.tmp 15)]), none⟩, ⟨(some 17), (.fad 3 (.tmp 3)), none⟩, ⟨none, (.store 3 (.tmp 17) (.tmp 16)), none⟩])
(.seq (.reg [⟨(some 18), (.load true 6 (.tmp 3)), none⟩, ⟨none, (.store 6 (.tmp 2) (.tmp 18)), none⟩])
.ret)))))))
theorem k131 : compFn prog 131 = some (19, vc131, [.c 2 true 6]) := by kernel_rfl
/- loop.example/limner/laws.toBlockS -/
def vc87 : VCode :=
(.seq (.reg [⟨(some 2), (.mov (.const (.slice none 0 0))), none⟩])
(.seq (.reg [⟨(some 5), (.mov (.tmp 0)), none⟩, ⟨(some 6), (.len false (.tmp 5)), none⟩, ⟨(some 7), (.mks 6 80 [(.int .i64 0), (.int .i64 0), (.slice none 0 0), (.int .i64 0), (.int .i64 0), (.slice none 0 0)] (.tmp 6)), none⟩, ⟨(some 3), (.mov (.tmp 7)), none⟩])
(.seq (.seq (.reg [⟨(some 4), (.mov (.const (.int .i64 0))), none⟩])
(.block 0 (.loop (.seq (.seq (.reg [⟨(some 8), (.mov (.tmp 4)), none⟩, ⟨(some 9), (.mov (.tmp 0)), none⟩, ⟨(some 10), (.len false (.tmp 9)), none⟩, ⟨(some 11), (.bin .lss .no (.tmp 8) (.tmp 10)), none⟩])
  (.cond (.tmp 11) .skip
   (.exit 0)))
  (.seq (.block 1 (.reg [⟨(some 14), (.mov (.tmp 3)), none⟩, ⟨(some 15), (.mov (.tmp 4)), none⟩, ⟨(some 16), (.mov (.tmp 0)), none⟩, ⟨(some 17), (.mov (.tmp 4)), none⟩, ⟨(some 18), (.iad 6 (.tmp 16) (.tmp 17)), none⟩, ⟨(some 19), (.load true 6 (.tmp 18)), none⟩, ⟨(some 20), (.call 131 [(.tmp 19)]), none⟩, ⟨(some 21), (.iad 6 (.tmp 14) (.tmp 15)), none⟩, ⟨none, (.store 6 (.tmp 21) (.tmp 20)), none⟩]))
  (.reg [⟨(some 12), (.mov (.tmp 4)), none⟩, ⟨(some 13), (.bin .add .no (.tmp 12) (.const (.int .i64 1))), none⟩, ⟨(some 4), (.mov (.tmp 13)), none⟩]))))))
(.seq (.reg [⟨(some 22), (.mov (.tmp 3)), none⟩, ⟨(some 2), (.mov (.tmp 22)), none⟩])
.ret))))
theorem k87 : compFn prog 87 = some (23, vc87, [.t 2]) := by kernel_rfl
/- loop.example/limner/laws.toDoc -/
def vc33 : VCode :=
(.seq (.reg [⟨(some 1), (.box (.tmp 0)), none⟩, ⟨(some 2), (.new [(.slice none 0 0)]), none⟩])
(.seq (.reg [⟨(some 3), (.new [(.slice none 0 0)]), none⟩])
(.seq (.reg [⟨(some 4), (.fad 0 (.tmp 1)), none⟩, ⟨(some 5), (.load false 1 (.tmp 4)), none⟩, ⟨(some 6), (.call 87 [(.tmp 5)]), none⟩, ⟨(some 7), (.fad 0 (.tmp 3)), none⟩, ⟨none, (.store 1 (.tmp 7) (.tmp 6)), none⟩])
(.seq (.reg [⟨(some 8), (.load true 1 (.tmp 3)), none⟩, ⟨none, (.store 1 (.tmp 2) (.tmp 8)), none⟩])
.ret))))
theorem k33 : compFn prog 33 = some (9, vc33, [.c 2 true 1]) := by kernel_rfl
def Cell.ti (c : Cell) : Prop := c.text.length < 1048577
def Table.ti (t : Table) : Prop := t.cells.length < 1048577 ∧ ∀ c ∈ t.cells, c.text.length < 1048577
def Block.ti (b : Block) : Prop := b.text.length < 1048577 ∧ b.table.cells.length < 1048577 ∧ ∀ c ∈ b.table.cells, c.text.length < 1048577
def docTi (d : Doc) : Prop := d.length < 1048577 ∧ ∀ b ∈ d, b.text.length < 1048577 ∧ b.table.cells.length < 1048577 ∧ ∀ c ∈ b.table.cells, c.text.length < 1048577
theorem c206 (c : Cell) (hs : c.text.length < 1048577) : PureC prog 206 [.agg c.enc] (.agg c.enc) := by
  have h := c165 c.text hs
  unfold Cell.enc encT at *
  refine pureC_of k206 (by first | rfl | simp [VV.cloL, VV.clo, *]) (by first | rfl | simp [VV.cloL, VV.clo, *]) (by simp) ?_
  intro X hP hm hH hn hX
  refine vwp_ok _ ?_
  unfold vc206
  repeat' (first
    | simp only [go_sem, reduceCtorEq, reduceIte, Nat.reduceAdd, Nat.reduceEqDiff, Nat.reduceLeDiff, Nat.reduceMul, *]
    | refine gdO_bool' _ (fun _ => ?_) (fun _ => ?_)
    | refine gdO_bool _ (fun _ => ?_) (fun _ => ?_)
    | refine gdD_bool' _ (fun _ => ?_) (fun _ => ?_)
    | refine gdD_bool _ (fun _ => ?_) (fun _ => ?_)
    | refine cdO_bool' _ (fun _ => ?_) (fun _ => ?_)
    | refine cdO_bool _ (fun _ => ?_) (fun _ => ?_)
    | refine callO.pure (by first | exact h) ?_
    | refine callW.pure (by first | exact h) ?_
    | refine ⟨by decide, ?_⟩
    | fail)
  exact ppost_c (by simp) (by simp only [go_sem, reduceCtorEq, reduceIte, Nat.reduceAdd, Nat.reduceEqDiff, Nat.reduceLeDiff, Nat.reduceMul]; rfl) (by simp only [go_sem, reduceCtorEq, reduceIte, Nat.reduceAdd, Nat.reduceEqDiff, Nat.reduceLeDiff, Nat.reduceMul]; rfl) rfl rfl rfl
def zC : List VV := [.sc (.int .i64 0), .sc (.int .i64 0), .sc (.int .i64 0), .sc (.int .i64 0), .sc (.slice none 0 0)]
theorem c190 (l : List Cell) (hs : l.length < 1048577) (ht : ∀ c ∈ l, c.text.length < 1048577) : PureC prog 190 [encC l] (encC l) := by
  have h0 : (0 : Int) ≤ (l.length : Int) ∧ (l.length : Int) * ((56 : Nat) : Int) ≤ 281474976710656 ∧ (l.length : Int) ≤ 9223372036854775807 := by omega
  unfold encC
  refine pureC_of k190 (by first | rfl | simp [VV.cloL, VV.clo, *]) (by first | rfl | simp [VV.cloL, VV.clo, *]) (by simp) ?_
  intro X hP hm hH hn hX
  refine vwp_ok _ ?_
  unfold vc190
  repeat' (first
    | simp only [go_sem, reduceCtorEq, reduceIte, Nat.reduceAdd, Nat.reduceEqDiff, Nat.reduceLeDiff, Nat.reduceMul, *]
    | refine gdO_bool' _ (fun _ => ?_) (fun _ => ?_)
    | refine gdO_bool _ (fun _ => ?_) (fun _ => ?_)
    | refine gdD_bool' _ (fun _ => ?_) (fun _ => ?_)
    | refine gdD_bool _ (fun _ => ?_) (fun _ => ?_)
    | refine cdO_bool' _ (fun _ => ?_) (fun _ => ?_)
    | refine cdO_bool _ (fun _ => ?_) (fun _ => ?_)
    | refine ⟨by decide, ?_⟩
    | refine ppost_t (by simp) rfl ?_)
  refine loopV hX (fun μ s H n => ∃ i : Nat, i ≤ l.length ∧ μ = l.length - i ∧ s = slotsOf [(0, .sl 5 (l.map Cell.enc)), (3, .rf 0 0 l.length 5), (4, .sc (.int .i64 i))] ∧ H = heapOf [(0, filled Cell.enc zC l i)] ∧ n = 1) ?_
    ⟨l.length + 1, roundV_of hH hn [3] [(0, _), (3, _), (4, _)] [(0, _)] _ ⟨0, by simp, rfl, rfl, rfl, rfl⟩ (by simp) (by simp) (by simp [hm]) ?_ ?_⟩
  rotate_left
  · repeat' (first | exact List.forall_mem_nil _ | refine List.forall_mem_cons.2 ⟨?_, ?_⟩ | exact .toPt (by simp only [go_sem, reduceCtorEq, reduceIte, Nat.reduceAdd, Nat.reduceEqDiff, Nat.reduceLeDiff, Nat.reduceMul, *] <;> rfl) (by simp [tau]) (by simp) | exact .toRf (by simp only [go_sem, reduceCtorEq, reduceIte, Nat.reduceAdd, Nat.reduceEqDiff, Nat.reduceLeDiff, Nat.reduceMul, *] <;> rfl) (by simp [tau]) (by simp) | exact .same (by simp only [go_sem, reduceCtorEq, reduceIte, Nat.reduceAdd, Nat.reduceEqDiff, Nat.reduceLeDiff, Nat.reduceMul, *] <;> rfl) (by first | rfl | simp [VV.cloL, VV.clo, *]))
  · refine HConv.same (by decide) ?_ (filled_clo (fun _ => rfl) rfl l 0) HConv.nil
    rw [filled_zero]; rfl
  rintro μ s H n ⟨i, hi, rfl, rfl, rfl, rfl⟩
  rcases Nat.lt_or_ge i l.length with hlt | hge
  · have g1 := lt_dec hlt
    have g2 : (0 : Int) ≤ (i : Int) := by omega
    have g3 : (i : Int) < (l.length : Int) := by omega
    have g4 : (l.map Cell.enc).getD i [] = (l[i]).enc := getD_map hlt
    have g5 : IntKind.i64.wrap ((i : Int) + 1) = ((i + 1 : Nat) : Int) := by rw [wrap_id] <;> omega
    have k1 := filled_store (enc := Cell.enc) (zs := zC) (z := 5) rfl (fun _ => rfl) hlt
    have k2 := filled_len (enc := Cell.enc) (zs := zC) (z := 5) rfl (fun _ => rfl) hi
    have k3 : i * 5 + 5 ≤ l.length * 5 := by omega
    have h189 := c206 l[i] (ht _ (List.getElem_mem hlt))
    generalize l[i] = x at *
    have ex : x.enc = [.sc (.int .i64 x.row), .sc (.int .i64 x.col), .sc (.int .i64 x.down), .sc (.int .i64 x.right), .sl 3 (x.text.map Sign.enc)] := rfl
    rw [ex] at h189 k1
    clear ht
    repeat' (first
      | simp only [go_sem, reduceCtorEq, reduceIte, Nat.reduceAdd, Nat.reduceEqDiff, Nat.reduceLeDiff, Nat.reduceMul, *]
      | refine gdO_bool' _ (fun _ => ?_) (fun _ => ?_)
      | refine gdO_bool _ (fun _ => ?_) (fun _ => ?_)
      | refine gdD_bool' _ (fun _ => ?_) (fun _ => ?_)
      | refine gdD_bool _ (fun _ => ?_) (fun _ => ?_)
      | refine cdO_bool' _ (fun _ => ?_) (fun _ => ?_)
      | refine cdO_bool _ (fun _ => ?_) (fun _ => ?_)
      | refine callO.pure (by first | exact h189) ?_
      | refine callW.pure (by first | exact h189) ?_
      | refine ⟨by decide, ?_⟩
      | refine ppost_t (by simp) rfl ?_)
    refine roundV_of hH hn [0] [(0, _), (3, _), (4, _)] [(0, _)] _ ⟨i + 1, hlt, rfl, rfl, rfl, rfl⟩ (by omega) (by simp) (by simp [hm]) ?_ ?_
    · repeat' (first | exact List.forall_mem_nil _ | refine List.forall_mem_cons.2 ⟨?_, ?_⟩ | exact .toPt (by simp only [go_sem, reduceCtorEq, reduceIte, Nat.reduceAdd, Nat.reduceEqDiff, Nat.reduceLeDiff, Nat.reduceMul, *] <;> rfl) (by simp [tau]) (by simp) | exact .toRf (by simp only [go_sem, reduceCtorEq, reduceIte, Nat.reduceAdd, Nat.reduceEqDiff, Nat.reduceLeDiff, Nat.reduceMul, *] <;> rfl) (by simp [tau]) (by simp) | exact .same (by simp only [go_sem, reduceCtorEq, reduceIte, Nat.reduceAdd, Nat.reduceEqDiff, Nat.reduceLeDiff, Nat.reduceMul, *] <;> rfl) (by first | rfl | simp [VV.cloL, VV.clo, *]))
    · refine HConv.same (by decide) ?_ (filled_clo (fun _ => rfl) rfl l (i + 1)) HConv.nil
      rw [← k1]; rfl
  · have g1 := ge_dec hge
    repeat' (first
      | simp only [go_sem, reduceCtorEq, reduceIte, Nat.reduceAdd, Nat.reduceEqDiff, Nat.reduceLeDiff, Nat.reduceMul, *]
      | refine gdO_bool' _ (fun _ => ?_) (fun _ => ?_)
      | refine gdO_bool _ (fun _ => ?_) (fun _ => ?_)
      | refine gdD_bool' _ (fun _ => ?_) (fun _ => ?_)
      | refine gdD_bool _ (fun _ => ?_) (fun _ => ?_)
      | refine cdO_bool' _ (fun _ => ?_) (fun _ => ?_)
      | refine cdO_bool _ (fun _ => ?_) (fun _ => ?_)
      | refine ⟨by decide, ?_⟩
      | fail)
    refine ppost_rf (by simp) (by simp only [go_sem, reduceCtorEq, reduceIte, Nat.reduceAdd, Nat.reduceEqDiff, Nat.reduceLeDiff, Nat.reduceMul]; rfl) (by simp only [go_sem, reduceCtorEq, reduceIte, Nat.reduceAdd, Nat.reduceEqDiff, Nat.reduceLeDiff, Nat.reduceMul]; rfl) (by simp) ?_ (by intro r hr; obtain ⟨x, _, rfl⟩ := List.mem_map.1 hr; rfl) (map_clo (fun _ => rfl) l)
    rw [List.drop_zero, filled_all hge, List.take_of_length_le]
    rw [flatten_len (z := 5) (fun _ => rfl)]
    exact Nat.le_refl _
theorem c166 (t : Table) (hs : t.cells.length < 1048577) (ht : ∀ c ∈ t.cells, c.text.length < 1048577) : PureC prog 166 [.agg t.enc] (.agg t.enc) := by
  have h := c190 t.cells hs ht
  unfold Table.enc encC at *
  refine pureC_of k166 (by first | rfl | simp [VV.cloL, VV.clo, *]) (by first | rfl | simp [VV.cloL, VV.clo, *]) (by simp) ?_
  intro X hP hm hH hn hX
  refine vwp_ok _ ?_
  unfold vc166
  repeat' (first
    | simp only [go_sem, reduceCtorEq, reduceIte, Nat.reduceAdd, Nat.reduceEqDiff, Nat.reduceLeDiff, Nat.reduceMul, *]
    | refine gdO_bool' _ (fun _ => ?_) (fun _ => ?_)
    | refine gdO_bool _ (fun _ => ?_) (fun _ => ?_)
    | refine gdD_bool' _ (fun _ => ?_) (fun _ => ?_)
    | refine gdD_bool _ (fun _ => ?_) (fun _ => ?_)
    | refine cdO_bool' _ (fun _ => ?_) (fun _ => ?_)
    | refine cdO_bool _ (fun _ => ?_) (fun _ => ?_)
    | refine callO.pure (by first | exact h) ?_
    | refine callW.pure (by first | exact h) ?_
    | refine ⟨by decide, ?_⟩
    | fail)
  exact ppost_c (by simp) (by simp only [go_sem, reduceCtorEq, reduceIte, Nat.reduceAdd, Nat.reduceEqDiff, Nat.reduceLeDiff, Nat.reduceMul]; rfl) (by simp only [go_sem, reduceCtorEq, reduceIte, Nat.reduceAdd, Nat.reduceEqDiff, Nat.reduceLeDiff, Nat.reduceMul]; rfl) rfl rfl rfl
theorem c131 (b : Block) (hs : b.text.length < 1048577 ∧ b.table.cells.length < 1048577 ∧ ∀ c ∈ b.table.cells, c.text.length < 1048577) : PureC prog 131 [.agg b.enc] (.agg b.enc) := by
  have h := c165 b.text hs.1
  have h' := c166 b.table hs.2.1 hs.2.2
  unfold Block.enc encT encC
  unfold Table.enc encC at h'
  unfold encT at h
  clear hs
  refine pureC_of k131 (by first | rfl | simp [VV.cloL, VV.clo, *]) (by first | rfl | simp [VV.cloL, VV.clo, *]) (by simp) ?_
  intro X hP hm hH hn hX
  refine vwp_ok _ ?_
  unfold vc131
  repeat' (first
    | simp only [go_sem, reduceCtorEq, reduceIte, Nat.reduceAdd, Nat.reduceEqDiff, Nat.reduceLeDiff, Nat.reduceMul, *]
    | refine gdO_bool' _ (fun _ => ?_) (fun _ => ?_)
    | refine gdO_bool _ (fun _ => ?_) (fun _ => ?_)
    | refine gdD_bool' _ (fun _ => ?_) (fun _ => ?_)
    | refine gdD_bool _ (fun _ => ?_) (fun _ => ?_)
    | refine cdO_bool' _ (fun _ => ?_) (fun _ => ?_)
    | refine cdO_bool _ (fun _ => ?_) (fun _ => ?_)
    | refine callO.pure (by first | exact h | exact h') ?_
    | refine callW.pure (by first | exact h | exact h') ?_
    | refine ⟨by decide, ?_⟩
    | fail)
  exact ppost_c (by simp) (by simp only [go_sem, reduceCtorEq, reduceIte, Nat.reduceAdd, Nat.reduceEqDiff, Nat.reduceLeDiff, Nat.reduceMul]; rfl) (by simp only [go_sem, reduceCtorEq, reduceIte, Nat.reduceAdd, Nat.reduceEqDiff, Nat.reduceLeDiff, Nat.reduceMul]; rfl) rfl rfl rfl
def zB : List VV := [.sc (.int .i64 0), .sc (.int .i64 0), .sc (.slice none 0 0), .sc (.int .i64 0), .sc (.int .i64 0), .sc (.slice none 0 0)]
theorem c87 (l : Doc) (hs : l.length < 1048577) (ht : ∀ b ∈ l, b.text.length < 1048577 ∧ b.table.cells.length < 1048577 ∧ ∀ c ∈ b.table.cells, c.text.length < 1048577) : PureC prog 87 [encB l] (encB l) := by
  have h0 : (0 : Int) ≤ (l.length : Int) ∧ (l.length : Int) * ((80 : Nat) : Int) ≤ 281474976710656 ∧ (l.length : Int) ≤ 9223372036854775807 := by omega
  unfold encB
  refine pureC_of k87 (by first | rfl | simp [VV.cloL, VV.clo, *]) (by first | rfl | simp [VV.cloL, VV.clo, *]) (by simp) ?_
  intro X hP hm hH hn hX
  refine vwp_ok _ ?_
  unfold vc87
  repeat' (first
    | simp only [go_sem, reduceCtorEq, reduceIte, Nat.reduceAdd, Nat.reduceEqDiff, Nat.reduceLeDiff, Nat.reduceMul, *]
    | refine gdO_bool' _ (fun _ => ?_) (fun _ => ?_)
    | refine gdO_bool _ (fun _ => ?_) (fun _ => ?_)
    | refine gdD_bool' _ (fun _ => ?_) (fun _ => ?_)
    | refine gdD_bool _ (fun _ => ?_) (fun _ => ?_)
    | refine cdO_bool' _ (fun _ => ?_) (fun _ => ?_)
    | refine cdO_bool _ (fun _ => ?_) (fun _ => ?_)
    | refine ⟨by decide, ?_⟩
    | refine ppost_t (by simp) rfl ?_)
  refine loopV hX (fun μ s H n => ∃ i : Nat, i ≤ l.length ∧ μ = l.length - i ∧ s = slotsOf [(0, .sl 6 (l.map Block.enc)), (3, .rf 0 0 l.length 6), (4, .sc (.int .i64 i))] ∧ H = heapOf [(0, filled Block.enc zB l i)] ∧ n = 1) ?_
    ⟨l.length + 1, roundV_of hH hn [3] [(0, _), (3, _), (4, _)] [(0, _)] _ ⟨0, by simp, rfl, rfl, rfl, rfl⟩ (by simp) (by simp) (by simp [hm]) ?_ ?_⟩
  rotate_left
  · repeat' (first | exact List.forall_mem_nil _ | refine List.forall_mem_cons.2 ⟨?_, ?_⟩ | exact .toPt (by simp only [go_sem, reduceCtorEq, reduceIte, Nat.reduceAdd, Nat.reduceEqDiff, Nat.reduceLeDiff, Nat.reduceMul, *] <;> rfl) (by simp [tau]) (by simp) | exact .toRf (by simp only [go_sem, reduceCtorEq, reduceIte, Nat.reduceAdd, Nat.reduceEqDiff, Nat.reduceLeDiff, Nat.reduceMul, *] <;> rfl) (by simp [tau]) (by simp) | exact .same (by simp only [go_sem, reduceCtorEq, reduceIte, Nat.reduceAdd, Nat.reduceEqDiff, Nat.reduceLeDiff, Nat.reduceMul, *] <;> rfl) (by first | rfl | simp [VV.cloL, VV.clo, *]))
  · refine HConv.same (by decide) ?_ (filled_clo (fun _ => rfl) rfl l 0) HConv.nil
    rw [filled_zero]; rfl
  rintro μ s H n ⟨i, hi, rfl, rfl, rfl, rfl⟩
  rcases Nat.lt_or_ge i l.length with hlt | hge
  · have g1 := lt_dec hlt
    have g2 : (0 : Int) ≤ (i : Int) := by omega
    have g3 : (i : Int) < (l.length : Int) := by omega
    have g4 : (l.map Block.enc).getD i [] = (l[i]).enc := getD_map hlt
    have g5 : IntKind.i64.wrap ((i : Int) + 1) = ((i + 1 : Nat) : Int) := by rw [wrap_id] <;> omega
    have k1 := filled_store (enc := Block.enc) (zs := zB) (z := 6) rfl (fun _ => rfl) hlt
    have k2 := filled_len (enc := Block.enc) (zs := zB) (z := 6) rfl (fun _ => rfl) hi
    have k3 : i * 6 + 6 ≤ l.length * 6 := by omega
    have h189 := c131 l[i] (ht _ (List.getElem_mem hlt))
    generalize l[i] = x at *
    have ex : x.enc = [.sc (.int .i64 x.kind), .sc (.int .i64 x.level), .sl 3 (x.text.map Sign.enc), .sc (.int .i64 x.table.rows), .sc (.int .i64 x.table.cols), .sl 5 (x.table.cells.map Cell.enc)] := rfl
    rw [ex] at h189 k1
    clear ht
    repeat' (first
      | simp only [go_sem, reduceCtorEq, reduceIte, Nat.reduceAdd, Nat.reduceEqDiff, Nat.reduceLeDiff, Nat.reduceMul, *]
      | refine gdO_bool' _ (fun _ => ?_) (fun _ => ?_)
      | refine gdO_bool _ (fun _ => ?_) (fun _ => ?_)
      | refine gdD_bool' _ (fun _ => ?_) (fun _ => ?_)
      | refine gdD_bool _ (fun _ => ?_) (fun _ => ?_)
      | refine cdO_bool' _ (fun _ => ?_) (fun _ => ?_)
      | refine cdO_bool _ (fun _ => ?_) (fun _ => ?_)
      | refine callO.pure (by first | exact h189) ?_
      | refine callW.pure (by first | exact h189) ?_
      | refine ⟨by decide, ?_⟩
      | refine ppost_t (by simp) rfl ?_)
    refine roundV_of hH hn [0] [(0, _), (3, _), (4, _)] [(0, _)] _ ⟨i + 1, hlt, rfl, rfl, rfl, rfl⟩ (by omega) (by simp) (by simp [hm]) ?_ ?_
    · repeat' (first | exact List.forall_mem_nil _ | refine List.forall_mem_cons.2 ⟨?_, ?_⟩ | exact .toPt (by simp only [go_sem, reduceCtorEq, reduceIte, Nat.reduceAdd, Nat.reduceEqDiff, Nat.reduceLeDiff, Nat.reduceMul, *] <;> rfl) (by simp [tau]) (by simp) | exact .toRf (by simp only [go_sem, reduceCtorEq, reduceIte, Nat.reduceAdd, Nat.reduceEqDiff, Nat.reduceLeDiff, Nat.reduceMul, *] <;> rfl) (by simp [tau]) (by simp) | exact .same (by simp only [go_sem, reduceCtorEq, reduceIte, Nat.reduceAdd, Nat.reduceEqDiff, Nat.reduceLeDiff, Nat.reduceMul, *] <;> rfl) (by first | rfl | simp [VV.cloL, VV.clo, *]))
    · refine HConv.same (by decide) ?_ (filled_clo (fun _ => rfl) rfl l (i + 1)) HConv.nil
      rw [← k1]; rfl
  · have g1 := ge_dec hge
    repeat' (first
      | simp only [go_sem, reduceCtorEq, reduceIte, Nat.reduceAdd, Nat.reduceEqDiff, Nat.reduceLeDiff, Nat.reduceMul, *]
      | refine gdO_bool' _ (fun _ => ?_) (fun _ => ?_)
      | refine gdO_bool _ (fun _ => ?_) (fun _ => ?_)
      | refine gdD_bool' _ (fun _ => ?_) (fun _ => ?_)
      | refine gdD_bool _ (fun _ => ?_) (fun _ => ?_)
      | refine cdO_bool' _ (fun _ => ?_) (fun _ => ?_)
      | refine cdO_bool _ (fun _ => ?_) (fun _ => ?_)
      | refine ⟨by decide, ?_⟩
      | fail)
    refine ppost_rf (by simp) (by simp only [go_sem, reduceCtorEq, reduceIte, Nat.reduceAdd, Nat.reduceEqDiff, Nat.reduceLeDiff, Nat.reduceMul]; rfl) (by simp only [go_sem, reduceCtorEq, reduceIte, Nat.reduceAdd, Nat.reduceEqDiff, Nat.reduceLeDiff, Nat.reduceMul]; rfl) (by simp) ?_ (by intro r hr; obtain ⟨x, _, rfl⟩ := List.mem_map.1 hr; rfl) (map_clo (fun _ => rfl) l)
    rw [List.drop_zero, filled_all hge, List.take_of_length_le]
    rw [flatten_len (z := 6) (fun _ => rfl)]
    exact Nat.le_refl _
theorem c33 (d : Doc) (hs : docTi d) : PureC prog 33 [.agg [encB d]] (.agg [encB d]) := by
  have h := c87 d hs.1 hs.2
  unfold encB at *
  clear hs
  refine pureC_of k33 (by first | rfl | simp [VV.cloL, VV.clo, *]) (by first | rfl | simp [VV.cloL, VV.clo, *]) (by simp) ?_
  intro X hP hm hH hn hX
  refine vwp_ok _ ?_
  unfold vc33
  repeat' (first
    | simp only [go_sem, reduceCtorEq, reduceIte, Nat.reduceAdd, Nat.reduceEqDiff, Nat.reduceLeDiff, Nat.reduceMul, *]
    | refine gdO_bool' _ (fun _ => ?_) (fun _ => ?_)
    | refine gdO_bool _ (fun _ => ?_) (fun _ => ?_)
    | refine gdD_bool' _ (fun _ => ?_) (fun _ => ?_)
    | refine gdD_bool _ (fun _ => ?_) (fun _ => ?_)
    | refine cdO_bool' _ (fun _ => ?_) (fun _ => ?_)
    | refine cdO_bool _ (fun _ => ?_) (fun _ => ?_)
    | refine callO.pure (by first | exact h) ?_
    | refine callW.pure (by first | exact h) ?_
    | refine ⟨by decide, ?_⟩
    | fail)
  exact ppost_c (by simp) (by simp only [go_sem, reduceCtorEq, reduceIte, Nat.reduceAdd, Nat.reduceEqDiff, Nat.reduceLeDiff, Nat.reduceMul]; rfl) (by simp only [go_sem, reduceCtorEq, reduceIte, Nat.reduceAdd, Nat.reduceEqDiff, Nat.reduceLeDiff, Nat.reduceMul]; rfl) rfl rfl rfl
end Go.Proofs.Ytdmmhainianadaa

/- F19: the laws' sizes. -/
namespace Go.Proofs.Ytdmmhainianadaa
open Go.VM Go.Lim Go.Proofs.Try
attribute [local irreducible] vwp vops vstep vdr vdr1 CallP PPost SWv gdO gdD cdO optV optW optD thenV blockV behind callO callW callvO roundV
set_option linter.unusedSimpArgs false
set_option linter.unusedVariables false
/- loop.example/limner/laws.szSignS -/
def vc162 : VCode :=
(.seq (.reg [⟨(some 4), (.mov (.const (.int .i64 0))), none⟩])
(.seq (.reg [⟨(some 5), (.mov (.tmp 1)), none⟩, ⟨(some 6), (.mov (.tmp 0)), none⟩, ⟨(some 7), (.len false (.tmp 6)), none⟩, ⟨(some 8), (.bin .sub .no (.tmp 5) (.tmp 7)), none⟩, ⟨(some 1), (.mov (.tmp 8)), none⟩])
(.seq (.seq (.reg [⟨(some 9), (.mov (.tmp 1)), none⟩, ⟨(some 10), (.bin .lss .no (.tmp 9) (.const (.int .i64 0))), none⟩])
(.cond (.tmp 10) (.seq (.reg [⟨(some 4), (.mov (.const (.int .i64 (-1)))), none⟩])
 .ret)
 .skip))
(.seq (.reg [⟨(some 11), (.mov (.tmp 1)), none⟩, ⟨(some 4), (.mov (.tmp 11)), none⟩])
.ret))))
theorem k162 : compFn prog 162 = some (12, vc162, [.t 4]) := by kernel_rfl
/- loop.example/limner/laws.szCell -/
def vc205 : VCode :=
(.seq (.reg [⟨(some 2), (.box (.tmp 0)), none⟩, ⟨(some 4), (.mov (.const (.int .i64 0))), none⟩])
(.seq (.reg [⟨(some 5), (.fad 4 (.tmp 2)), none⟩, ⟨(some 6), (.load false 1 (.tmp 5)), none⟩, ⟨(some 7), (.mov (.tmp 1)), none⟩, ⟨(some 8), (.call 162 [(.tmp 6), (.tmp 7)]), none⟩, ⟨(some 1), (.mov (.tmp 8)), none⟩])
(.seq (.seq (.reg [⟨(some 9), (.mov (.tmp 1)), none⟩, ⟨(some 10), (.bin .lss .no (.tmp 9) (.const (.int .i64 0))), none⟩])
(.cond (.tmp 10) (.seq (.reg [⟨(some 4), (.mov (.const (.int .i64 (-1)))), none⟩])
 .ret)
 .skip))
(.seq (.reg [⟨(some 11), (.mov (.tmp 1)), none⟩, ⟨(some 4), (.mov (.tmp 11)), none⟩])
.ret))))
theorem k205 : compFn prog 205 = some (12, vc205, [.t 4]) := by kernel_rfl
/- loop.example/limner/laws.szCellS -/
def vc188 : VCode :=
(.seq (.reg [⟨(some 4), (.mov (.const (.int .i64 0))), none⟩])
(.seq (.reg [⟨(some 6), (.mov (.tmp 1)), none⟩, ⟨(some 7), (.mov (.tmp 0)), none⟩, ⟨(some 8), (.len false (.tmp 7)), none⟩, ⟨(some 9), (.bin .sub .no (.tmp 6) (.tmp 8)), none⟩, ⟨(some 1), (.mov (.tmp 9)), none⟩])
(.seq (.seq (.reg [⟨(some 10), (.mov (.tmp 1)), none⟩, ⟨(some 11), (.bin .lss .no (.tmp 10) (.const (.int .i64 0))), none⟩])
(.cond (.tmp 11) (.seq (.reg [⟨(some 4), (.mov (.const (.int .i64 (-1)))), none⟩])
 .ret)
 .skip))
(.seq (.seq (.reg [⟨(some 5), (.mov (.const (.int .i64 0))), none⟩])
(.block 0 (.loop (.seq (.seq (.reg [⟨(some 12), (.mov (.tmp 5)), none⟩, ⟨(some 13), (.mov (.tmp 0)), none⟩, ⟨(some 14), (.len false (.tmp 13)), none⟩, ⟨(some 15), (.bin .lss .no (.tmp 12) (.tmp 14)), none⟩])
  (.cond (.tmp 15) .skip
   (.exit 0)))
  (.seq (.block 1 (.seq (.reg [⟨(some 18), (.mov (.tmp 0)), none⟩, ⟨(some 19), (.mov (.tmp 5)), none⟩, ⟨(some 20), (.iad 5 (.tmp 18) (.tmp 19)), none⟩, ⟨(some 21), (.load true 5 (.tmp 20)), none⟩, ⟨(some 22), (.mov (.tmp 1)), none⟩, ⟨(some 23), (.call 205 [(.tmp 21), (.tmp 22)]), none⟩, ⟨(some 1), (.mov (.tmp 23)), none⟩])
   (.seq (.reg [⟨(some 24), (.mov (.tmp 1)), none⟩, ⟨(some 25), (.bin .lss .no (.tmp 24) (.const (.int .i64 0))), none⟩])
   (.cond (.tmp 25) (.seq (.reg [⟨(some 4), (.mov (.const (.int .i64 (-1)))), none⟩])
    .ret)
    .skip))))
  (.reg [⟨(some 16), (.mov (.tmp 5)), none⟩, ⟨(some 17), (.bin .add .no (.tmp 16) (.const (.int .i64 1))), none⟩, ⟨(some 5), (.mov (.tmp 17)), none⟩]))))))
(.seq (.reg [⟨(some 26), (.mov (.tmp 1)), none⟩, ⟨(some 4), (.mov (.tmp 26)), none⟩])
.ret)))))
theorem k188 : compFn prog 188 = some (27, vc188, [.t 4]) := by kernel_rfl
/- loop.example/limner/laws.szTable -/
def vc163 : VCode :=
(.seq (.reg [⟨(some 2), (.box (.tmp 0)), none⟩, ⟨(some 4), (.mov (.const (.int .i64 0))), none⟩])
(.seq (.reg [⟨(some 5), (.fad 2 (.tmp 2)), none⟩, ⟨(some 6), (.load false 1 (.tmp 5)), none⟩, ⟨(some 7), (.mov (.tmp 1)), none⟩, ⟨(some 8), (.call 188 [(.tmp 6), (.tmp 7)]), none⟩, ⟨(some 1), (.mov (.tmp 8)), none⟩])
(.seq (.seq (.reg [⟨(some 9), (.mov (.tmp 1)), none⟩, ⟨(some 10), (.bin .lss .no (.tmp 9) (.const (.int .i64 0))), none⟩])
(.cond (.tmp 10) (.seq (.reg [⟨(some 4), (.mov (.const (.int .i64 (-1)))), none⟩])
 .ret)
 .skip))
(.seq (.reg [⟨(some 11), (.mov (.tmp 1)), none⟩, ⟨(some 4), (.mov (.tmp 11)), none⟩])
.ret))))
theorem k163 : compFn prog 163 = some (12, vc163, [.t 4]) := by kernel_rfl
/- loop.example/limner/laws.szBlock -/
def vc129 : VCode :=
(.seq (.reg [⟨(some 2), (.box (.tmp 0)), none⟩, ⟨(some 4), (.mov (.const (.int .i64 0))), none⟩])
(.seq (.reg [⟨(some 5), (.fad 2 (.tmp 2)), none⟩, ⟨(some 6), (.load false 1 (.tmp 5)), none⟩, ⟨(some 7), (.mov (.tmp 1)), none⟩, ⟨(some 8), (.call 162 [(.tmp 6), (.tmp 7)]), none⟩, ⟨(some 1), (.mov (.tmp 8)), none⟩])
(.seq (.seq (.reg [⟨(some 9), (.mov (.tmp 1)), none⟩, ⟨(some 10), (.bin .lss .no (.tmp 9) (.const (.int .i64 0))), none⟩])
(.cond (.tmp 10) (.seq (.reg [⟨(some 4), (.mov (.const (.int .i64 (-1)))), none⟩])
 .ret)
 .skip))
(.seq (.reg [⟨(some 11), (.fad 3 (.tmp 2)), none⟩, ⟨(some 12), (.load true 3 (.tmp 11)), none⟩, ⟨(some 13), (.mov (.tmp 1)), none⟩, ⟨(some 14), (.call 163 [(.tmp 12), (.tmp 13)]), none⟩, ⟨(some 1), (.mov (.tmp 14)), none⟩])
(.seq (.seq (.reg [⟨(some 15), (.mov (.tmp 1)), none⟩, ⟨(some 16), (.bin .lss .no (.tmp 15) (.const (.int .i64 0))), none⟩])
(.cond (.tmp 16) (.seq (.reg [⟨(some 4), (.mov (.const (.int .i64 (-1)))), none⟩])
 .ret)
 .skip))
(.seq (.reg [⟨(some 17), (.mov (.tmp 1)), none⟩, ⟨(some 4), (.mov (.tmp 17)), none⟩])
.ret))))))
theorem k129 : compFn prog 129 = some (18, vc129, [.t 4]) := by kernel_rfl
/- loop.example/limner/laws.szBlockS -/
def vc84 : VCode :=
(.seq (.reg [⟨(some 4), (.mov (.const (.int .i64 0))), none⟩])
(.seq (.reg [⟨(some 6), (.mov (.tmp 1)), none⟩, ⟨(some 7), (.mov (.tmp 0)), none⟩, ⟨(some 8), (.len false (.tmp 7)), none⟩, ⟨(some 9), (.bin .sub .no (.tmp 6) (.tmp 8)), none⟩, ⟨(some 1), (.mov (.tmp 9)), none⟩])
(.seq (.seq (.reg [⟨(some 10), (.mov (.tmp 1)), none⟩, ⟨(some 11), (.bin .lss .no (.tmp 10) (.const (.int .i64 0))), none⟩])
(.cond (.tmp 11) (.seq (.reg [⟨(some 4), (.mov (.const (.int .i64 (-1)))), none⟩])
 .ret)
 .skip))
(.seq (.seq (.reg [⟨(some 5), (.mov (.const (.int .i64 0))), none⟩])
(.block 0 (.loop (.seq (.seq (.reg [⟨(some 12), (.mov (.tmp 5)), none⟩, ⟨(some 13), (.mov (.tmp 0)), none⟩, ⟨(some 14), (.len false (.tmp 13)), none⟩, ⟨(some 15), (.bin .lss .no (.tmp 12) (.tmp 14)), none⟩])
  (.cond (.tmp 15) .skip
   (.exit 0)))
  (.seq (.block 1 (.seq (.reg [⟨(some 18), (.mov (.tmp 0)), none⟩, ⟨(some 19), (.mov (.tmp 5)), none⟩, ⟨(some 20), (.iad 6 (.tmp 18) (.tmp 19)), none⟩, ⟨(some 21), (.load true 6 (.tmp 20)), none⟩, ⟨(some 22), (.mov (.tmp 1)), none⟩, ⟨(some 23), (.call 129 [(.tmp 21), (.tmp 22)]), none⟩, ⟨(some 1), (.mov (.tmp 23)), none⟩])
   (.seq (.reg [⟨(some 24), (.mov (.tmp 1)), none⟩, ⟨(some 25), (.bin .lss .no (.tmp 24) (.const (.int .i64 0))), none⟩])
   (.cond (.tmp 25) (.seq (.reg [⟨(some 4), (.mov (.const (.int .i64 (-1)))), none⟩])
    .ret)
    .skip))))
  (.reg [⟨(some 16), (.mov (.tmp 5)), none⟩, ⟨(some 17), (.bin .add .no (.tmp 16) (.const (.int .i64 1))), none⟩, ⟨(some 5), (.mov (.tmp 17)), none⟩]))))))
(.seq (.reg [⟨(some 26), (.mov (.tmp 1)), none⟩, ⟨(some 4), (.mov (.tmp 26)), none⟩])
.ret)))))
theorem k84 : compFn prog 84 = some (27, vc84, [.t 4]) := by kernel_rfl
/- loop.example/limner/laws.szDoc -/
def vc31 : VCode :=
(.seq (.reg [⟨(some 2), (.box (.tmp 0)), none⟩, ⟨(some 4), (.mov (.const (.int .i64 0))), none⟩])
(.seq (.reg [⟨(some 5), (.fad 0 (.tmp 2)), none⟩, ⟨(some 6), (.load false 1 (.tmp 5)), none⟩, ⟨(some 7), (.mov (.tmp 1)), none⟩, ⟨(some 8), (.call 84 [(.tmp 6), (.tmp 7)]), none⟩, ⟨(some 1), (.mov (.tmp 8)), none⟩])
(.seq (.seq (.reg [⟨(some 9), (.mov (.tmp 1)), none⟩, ⟨(some 10), (.bin .lss .no (.tmp 9) (.const (.int .i64 0))), none⟩])
(.cond (.tmp 10) (.seq (.reg [⟨(some 4), (.mov (.const (.int .i64 (-1)))), none⟩])
 .ret)
 .skip))
(.seq (.reg [⟨(some 11), (.mov (.tmp 1)), none⟩, ⟨(some 4), (.mov (.tmp 11)), none⟩])
.ret))))
theorem k31 : compFn prog 31 = some (12, vc31, [.t 4]) := by kernel_rfl
def cutI (n : Int) : Int := if decide (n < 0) = true then -1 else n
theorem c162 (l : Text) (left : Int) (h0 : 0 ≤ left) (h1 : left ≤ 1048576) (hs : l.length < 9223372036854775808) : PureC prog 162 [encT l, .sc (.int .i64 left)] (.sc (.int .i64 (cutI (left - l.length)))) := by
  have w : IntKind.i64.wrap (left - (l.length : Int)) = left - l.length := wrap_id (by omega) (by omega)
  unfold encT
  refine pureC_of k162 (by first | rfl | simp [VV.cloL, VV.clo, *]) (by first | rfl | simp [VV.cloL, VV.clo, *]) (by simp) ?_
  intro X hP hm hH hn hX
  refine vwp_ok _ ?_
  unfold vc162
  repeat' (first
    | simp only [go_sem, reduceCtorEq, reduceIte, Nat.reduceAdd, Nat.reduceEqDiff, Nat.reduceLeDiff, Nat.reduceMul, *]
    | refine gdO_bool' _ (fun _ => ?_) (fun _ => ?_)
    | refine gdO_bool _ (fun _ => ?_) (fun _ => ?_)
    | refine gdD_bool' _ (fun _ => ?_) (fun _ => ?_)
    | refine gdD_bool _ (fun _ => ?_) (fun _ => ?_)
    | refine cdO_bool' _ (fun _ => ?_) (fun _ => ?_)
    | refine cdO_bool _ (fun _ => ?_) (fun _ => ?_)
    | refine ⟨by decide, ?_⟩
    | refine ppost_t (by simp) rfl ?_)
  all_goals simp only [cutI, *, if_true, if_false, Bool.false_eq_true]
theorem cut_cut (n : Int) : cutI (cutI n) = cutI n := by unfold cutI; simp only [decide_eq_true_eq]; (repeat' split) <;> omega
theorem c205 (c : Cell) (left : Int) (h0 : 0 ≤ left) (h1 : left ≤ 1048576) (hs : c.text.length < 9223372036854775808) : PureC prog 205 [.agg c.enc, .sc (.int .i64 left)] (.sc (.int .i64 (cutI (left - c.text.length)))) := by
  have h := c162 c.text left h0 h1 hs
  have e := cut_cut (left - c.text.length)
  rw [← e]
  generalize cutI (left - c.text.length) = r at *
  unfold Cell.enc encT at *
  clear e
  refine pureC_of k205 (by first | rfl | simp [VV.cloL, VV.clo, *]) (by first | rfl | simp [VV.cloL, VV.clo, *]) (by simp) ?_
  intro X hP hm hH hn hX
  refine vwp_ok _ ?_
  unfold vc205
  repeat' (first
    | simp only [go_sem, reduceCtorEq, reduceIte, Nat.reduceAdd, Nat.reduceEqDiff, Nat.reduceLeDiff, Nat.reduceMul, *]
    | refine gdO_bool' _ (fun _ => ?_) (fun _ => ?_)
    | refine gdO_bool _ (fun _ => ?_) (fun _ => ?_)
    | refine gdD_bool' _ (fun _ => ?_) (fun _ => ?_)
    | refine gdD_bool _ (fun _ => ?_) (fun _ => ?_)
    | refine cdO_bool' _ (fun _ => ?_) (fun _ => ?_)
    | refine cdO_bool _ (fun _ => ?_) (fun _ => ?_)
    | refine callO.pure (by first | exact h) ?_
    | refine callW.pure (by first | exact h) ?_
    | refine ⟨by decide, ?_⟩
    | refine ppost_t (by simp) rfl ?_)
  all_goals simp only [cutI, *, if_true, if_false, Bool.false_eq_true]
theorem sum_take_le {α : Type} (f : α → Nat) : ∀ (l : List α) (i : Nat), ((l.take i).map f).sum ≤ (l.map f).sum
  | [], i => by simp
  | x :: l, 0 => by simp
  | x :: l, i + 1 => by simp only [List.take_succ_cons, List.map_cons, List.sum_cons]; have := sum_take_le f l i; omega
theorem sum_take_succ {α : Type} (f : α → Nat) {l : List α} {i : Nat} (h : i < l.length) : ((l.take (i + 1)).map f).sum = ((l.take i).map f).sum + f l[i] := by
  rw [List.take_succ_eq_append_getElem h, List.map_append, List.sum_append]; simp
def wC (l : List Cell) : Nat := l.length + (l.map fun c => c.text.length).sum
theorem cutI_neg {n : Int} (h : n < 0) : cutI n = -1 := by simp [cutI, h]
theorem cutI_pos {n : Int} (h : 0 ≤ n) : cutI n = n := by simp [cutI]; omega
theorem c188 (l : List Cell) (left : Int) (h0 : 0 ≤ left) (h1 : left ≤ 1048576) (hs : l.length < 9223372036854775808) (ht : ∀ c ∈ l, c.text.length < 9223372036854775808) : PureC prog 188 [encC l, .sc (.int .i64 left)] (.sc (.int .i64 (cutI (left - wC l)))) := by
  have w : IntKind.i64.wrap (left - (l.length : Int)) = left - l.length := wrap_id (by omega) (by omega)
  unfold encC
  rcases Int.lt_or_le (left - l.length) 0 with hneg | hpos
  · have e : cutI (left - wC l) = -1 := cutI_neg (by unfold wC; omega)
    have g : decide (left - (l.length : Int) < 0) = true := by simp; omega
    refine pureC_of k188 (by first | rfl | simp [VV.cloL, VV.clo, *]) (by first | rfl | simp [VV.cloL, VV.clo, *]) (by simp) ?_
    intro X hP hm hH hn hX
    refine vwp_ok _ ?_
    unfold vc188
    repeat' (first
      | simp only [go_sem, reduceCtorEq, reduceIte, Nat.reduceAdd, Nat.reduceEqDiff, Nat.reduceLeDiff, Nat.reduceMul, *]
      | refine gdO_bool' _ (fun _ => ?_) (fun _ => ?_)
      | refine gdO_bool _ (fun _ => ?_) (fun _ => ?_)
      | refine gdD_bool' _ (fun _ => ?_) (fun _ => ?_)
      | refine gdD_bool _ (fun _ => ?_) (fun _ => ?_)
      | refine cdO_bool' _ (fun _ => ?_) (fun _ => ?_)
      | refine cdO_bool _ (fun _ => ?_) (fun _ => ?_)
      | refine ⟨by decide, ?_⟩
      | refine ppost_t (by simp) rfl ?_)
  · have g : decide (left - (l.length : Int) < 0) = false := by simp; omega
    refine pureC_of k188 (by first | rfl | simp [VV.cloL, VV.clo, *]) (by first | rfl | simp [VV.cloL, VV.clo, *]) (by simp) ?_
    intro X hP hm hH hn hX
    refine vwp_ok _ ?_
    unfold vc188
    repeat' (first
      | simp only [go_sem, reduceCtorEq, reduceIte, Nat.reduceAdd, Nat.reduceEqDiff, Nat.reduceLeDiff, Nat.reduceMul, *]
      | refine gdO_bool' _ (fun _ => ?_) (fun _ => ?_)
      | refine gdO_bool _ (fun _ => ?_) (fun _ => ?_)
      | refine gdD_bool' _ (fun _ => ?_) (fun _ => ?_)
      | refine gdD_bool _ (fun _ => ?_) (fun _ => ?_)
      | refine cdO_bool' _ (fun _ => ?_) (fun _ => ?_)
      | refine cdO_bool _ (fun _ => ?_) (fun _ => ?_)
      | refine ⟨by decide, ?_⟩
      | refine ppost_t (by simp) rfl ?_)
    refine loopV hX (fun μ s H n => ∃ (i : Nat) (v : Int), i ≤ l.length ∧ v = left - l.length - ((l.take i).map fun c => c.text.length).sum ∧ 0 ≤ v ∧ μ = l.length - i ∧ s = slotsOf [(0, .sl 5 (l.map Cell.enc)), (1, .sc (.int .i64 v)), (5, .sc (.int .i64 i))] ∧ H = H0 ∧ n = 0) ?_
      ⟨l.length + 1, roundV_of hH hn [] [(0, _), (1, _), (5, _)] [] _ ⟨0, left - l.length, by simp, by simp, hpos, rfl, rfl, rfl, rfl⟩ (by simp) (by simp) (by simp [hm]) ?_ HConv.nil⟩
    rotate_left
    · repeat' (first | exact List.forall_mem_nil _ | refine List.forall_mem_cons.2 ⟨?_, ?_⟩ | exact .toPt (by simp only [go_sem, reduceCtorEq, reduceIte, Nat.reduceAdd, Nat.reduceEqDiff, Nat.reduceLeDiff, Nat.reduceMul, *] <;> rfl) (by simp [tau]) (by simp) | exact .toRf (by simp only [go_sem, reduceCtorEq, reduceIte, Nat.reduceAdd, Nat.reduceEqDiff, Nat.reduceLeDiff, Nat.reduceMul, *] <;> rfl) (by simp [tau]) (by simp) | exact .same (by simp only [go_sem, reduceCtorEq, reduceIte, Nat.reduceAdd, Nat.reduceEqDiff, Nat.reduceLeDiff, Nat.reduceMul, *] <;> rfl) (by first | rfl | simp [VV.cloL, VV.clo, *]))
    rintro μ s H n ⟨i, v, hi, hv, hv0, rfl, rfl, rfl, rfl⟩
    rcases Nat.lt_or_ge i l.length with hlt | hge
    · have g1 := lt_dec hlt
      have g2 : (0 : Int) ≤ (i : Int) := by omega
      have g3 : (i : Int) < (l.length : Int) := by omega
      have g5 : IntKind.i64.wrap ((i : Int) + 1) = ((i + 1 : Nat) : Int) := by rw [wrap_id] <;> omega
      have g4 : (l.map Cell.enc).getD i [] = (l[i]).enc := getD_map hlt
      have hsucc := sum_take_succ (fun c : Cell => c.text.length) hlt
      have hle := sum_take_le (fun c : Cell => c.text.length) l (i + 1)
      have h205 := c205 l[i] v hv0 (by omega) (ht _ (List.getElem_mem hlt))
      have hbad : v - (l[i]).text.length < 0 → cutI (left - wC l) = -1 := fun h => cutI_neg (by unfold wC; omega)
      have hnext : left - l.length - ((l.take (i + 1)).map fun c => c.text.length).sum = v - (l[i]).text.length := by omega
      generalize l[i] = c at *
      clear hsucc hle ht hv
      rcases Int.lt_or_le (v - c.text.length) 0 with hn' | hp'
      · rw [cutI_neg hn'] at h205
        have k1 : decide ((-1 : Int) < 0) = true := by decide
        have e := hbad hn'
        clear hbad hnext
        repeat' (first
          | simp only [go_sem, reduceCtorEq, reduceIte, Nat.reduceAdd, Nat.reduceEqDiff, Nat.reduceLeDiff, Nat.reduceMul, Cell.encLen, Cell.encTake, *]
          | refine gdO_bool' _ (fun _ => ?_) (fun _ => ?_)
          | refine gdO_bool _ (fun _ => ?_) (fun _ => ?_)
          | refine gdD_bool' _ (fun _ => ?_) (fun _ => ?_)
          | refine gdD_bool _ (fun _ => ?_) (fun _ => ?_)
          | refine cdO_bool' _ (fun _ => ?_) (fun _ => ?_)
          | refine cdO_bool _ (fun _ => ?_) (fun _ => ?_)
          | refine callO.pure (by first | exact h205) ?_
          | refine callW.pure (by first | exact h205) ?_
          | refine ⟨by decide, ?_⟩
          | refine ppost_t (by simp) rfl ?_)
      · rw [cutI_pos hp'] at h205
        have k1 : decide (v - (c.text.length : Int) < 0) = false := by simp; omega
        clear hbad
        repeat' (first
          | simp only [go_sem, reduceCtorEq, reduceIte, Nat.reduceAdd, Nat.reduceEqDiff, Nat.reduceLeDiff, Nat.reduceMul, Cell.encLen, Cell.encTake, *]
          | refine gdO_bool' _ (fun _ => ?_) (fun _ => ?_)
          | refine gdO_bool _ (fun _ => ?_) (fun _ => ?_)
          | refine gdD_bool' _ (fun _ => ?_) (fun _ => ?_)
          | refine gdD_bool _ (fun _ => ?_) (fun _ => ?_)
          | refine cdO_bool' _ (fun _ => ?_) (fun _ => ?_)
          | refine cdO_bool _ (fun _ => ?_) (fun _ => ?_)
          | refine callO.pure (by first | exact h205) ?_
          | refine callW.pure (by first | exact h205) ?_
          | refine ⟨by decide, ?_⟩
          | refine ppost_t (by simp) rfl ?_)
        refine roundV_of hH hn [] [(0, _), (1, _), (5, _)] [] _ ⟨i + 1, v - c.text.length, hlt, hnext.symm, hp', rfl, rfl, rfl, rfl⟩ (by omega) (by simp) (by simp [hm]) ?_ HConv.nil
        clear hnext
        repeat' (first | exact List.forall_mem_nil _ | refine List.forall_mem_cons.2 ⟨?_, ?_⟩ | exact .toPt (by simp only [go_sem, reduceCtorEq, reduceIte, Nat.reduceAdd, Nat.reduceEqDiff, Nat.reduceLeDiff, Nat.reduceMul, *] <;> rfl) (by simp [tau]) (by simp) | exact .toRf (by simp only [go_sem, reduceCtorEq, reduceIte, Nat.reduceAdd, Nat.reduceEqDiff, Nat.reduceLeDiff, Nat.reduceMul, *] <;> rfl) (by simp [tau]) (by simp) | exact .same (by simp only [go_sem, reduceCtorEq, reduceIte, Nat.reduceAdd, Nat.reduceEqDiff, Nat.reduceLeDiff, Nat.reduceMul, *] <;> rfl) (by first | rfl | simp [VV.cloL, VV.clo, *]))
    · have g1 := ge_dec hge
      have e : cutI (left - wC l) = v := by
        rw [List.take_of_length_le hge] at hv
        rw [cutI_pos (by unfold wC; omega)]; unfold wC; omega
      clear hv
      repeat' (first
        | simp only [go_sem, reduceCtorEq, reduceIte, Nat.reduceAdd, Nat.reduceEqDiff, Nat.reduceLeDiff, Nat.reduceMul, *]
        | refine gdO_bool' _ (fun _ => ?_) (fun _ => ?_)
        | refine gdO_bool _ (fun _ => ?_) (fun _ => ?_)
        | refine gdD_bool' _ (fun _ => ?_) (fun _ => ?_)
        | refine gdD_bool _ (fun _ => ?_) (fun _ => ?_)
        | refine cdO_bool' _ (fun _ => ?_) (fun _ => ?_)
        | refine cdO_bool _ (fun _ => ?_) (fun _ => ?_)
        | refine ⟨by decide, ?_⟩
        | refine ppost_t (by simp) rfl ?_)
theorem c163 (t : Table) (left : Int) (h0 : 0 ≤ left) (h1 : left ≤ 1048576) (hs : t.cells.length < 9223372036854775808) (ht : ∀ c ∈ t.cells, c.text.length < 9223372036854775808) : PureC prog 163 [.agg t.enc, .sc (.int .i64 left)] (.sc (.int .i64 (cutI (left - wC t.cells)))) := by
  have h := c188 t.cells left h0 h1 hs ht
  have e := cut_cut (left - wC t.cells)
  rw [← e]
  generalize cutI (left - wC t.cells) = r at *
  unfold Table.enc encC at *
  clear e ht
  refine pureC_of k163 (by first | rfl | simp [VV.cloL, VV.clo, *]) (by first | rfl | simp [VV.cloL, VV.clo, *]) (by simp) ?_
  intro X hP hm hH hn hX
  refine vwp_ok _ ?_
  unfold vc163
  repeat' (first
    | simp only [go_sem, reduceCtorEq, reduceIte, Nat.reduceAdd, Nat.reduceEqDiff, Nat.reduceLeDiff, Nat.reduceMul, *]
    | refine gdO_bool' _ (fun _ => ?_) (fun _ => ?_)
    | refine gdO_bool _ (fun _ => ?_) (fun _ => ?_)
    | refine gdD_bool' _ (fun _ => ?_) (fun _ => ?_)
    | refine gdD_bool _ (fun _ => ?_) (fun _ => ?_)
    | refine cdO_bool' _ (fun _ => ?_) (fun _ => ?_)
    | refine cdO_bool _ (fun _ => ?_) (fun _ => ?_)
    | refine callO.pure (by first | exact h) ?_
    | refine callW.pure (by first | exact h) ?_
    | refine ⟨by decide, ?_⟩
    | refine ppost_t (by simp) rfl ?_)
  all_goals simp only [cutI, *, if_true, if_false, Bool.false_eq_true]
def wB (b : Block) : Nat := b.text.length + wC b.table.cells
theorem c129 (b : Block) (left : Int) (h0 : 0 ≤ left) (h1 : left ≤ 1048576) (hs : b.text.length < 9223372036854775808) (hs' : b.table.cells.length < 9223372036854775808) (ht : ∀ c ∈ b.table.cells, c.text.length < 9223372036854775808) :
    PureC prog 129 [.agg b.enc, .sc (.int .i64 left)] (.sc (.int .i64 (cutI (left - wB b)))) := by
  have h := c162 b.text left h0 h1 hs
  rcases Int.lt_or_le (left - b.text.length) 0 with hneg | hpos
  · rw [cutI_neg hneg] at h
    have e : cutI (left - wB b) = -1 := cutI_neg (by unfold wB; omega)
    have k1 : decide ((-1 : Int) < 0) = true := by decide
    unfold Block.enc encT encC at *
    clear ht
    refine pureC_of k129 (by first | rfl | simp [VV.cloL, VV.clo, *]) (by first | rfl | simp [VV.cloL, VV.clo, *]) (by simp) ?_
    intro X hP hm hH hn hX
    refine vwp_ok _ ?_
    unfold vc129
    repeat' (first
      | simp only [go_sem, reduceCtorEq, reduceIte, Nat.reduceAdd, Nat.reduceEqDiff, Nat.reduceLeDiff, Nat.reduceMul, *]
      | refine gdO_bool' _ (fun _ => ?_) (fun _ => ?_)
      | refine gdO_bool _ (fun _ => ?_) (fun _ => ?_)
      | refine gdD_bool' _ (fun _ => ?_) (fun _ => ?_)
      | refine gdD_bool _ (fun _ => ?_) (fun _ => ?_)
      | refine cdO_bool' _ (fun _ => ?_) (fun _ => ?_)
      | refine cdO_bool _ (fun _ => ?_) (fun _ => ?_)
      | refine callO.pure (by first | exact h) ?_
      | refine callW.pure (by first | exact h) ?_
      | refine ⟨by decide, ?_⟩
      | refine ppost_t (by simp) rfl ?_)
  · rw [cutI_pos hpos] at h
    have h' := c163 b.table (left - b.text.length) hpos (by omega) hs' ht
    have e0 : left - (b.text.length : Int) - wC b.table.cells = left - wB b := by unfold wB; omega
    rw [e0] at h'
    have k1 : decide (left - (b.text.length : Int) < 0) = false := by simp; omega
    have e := cut_cut (left - wB b)
    rw [← e]
    generalize cutI (left - wB b) = r at *
    unfold Block.enc encT encC
    unfold encT at h
    unfold Table.enc encC at h'
    clear e ht e0
    refine pureC_of k129 (by first | rfl | simp [VV.cloL, VV.clo, *]) (by first | rfl | simp [VV.cloL, VV.clo, *]) (by simp) ?_
    intro X hP hm hH hn hX
    refine vwp_ok _ ?_
    unfold vc129
    repeat' (first
      | simp only [go_sem, reduceCtorEq, reduceIte, Nat.reduceAdd, Nat.reduceEqDiff, Nat.reduceLeDiff, Nat.reduceMul, *]
      | refine gdO_bool' _ (fun _ => ?_) (fun _ => ?_)
      | refine gdO_bool _ (fun _ => ?_) (fun _ => ?_)
      | refine gdD_bool' _ (fun _ => ?_) (fun _ => ?_)
      | refine gdD_bool _ (fun _ => ?_) (fun _ => ?_)
      | refine cdO_bool' _ (fun _ => ?_) (fun _ => ?_)
      | refine cdO_bool _ (fun _ => ?_) (fun _ => ?_)
      | refine callO.pure (by first | exact h | exact h') ?_
      | refine callW.pure (by first | exact h | exact h') ?_
      | refine ⟨by decide, ?_⟩
      | refine ppost_t (by simp) rfl ?_)
    all_goals simp only [cutI, *, if_true, if_false, Bool.false_eq_true]
def wD (l : Doc) : Nat := l.length + (l.map fun c => wB c).sum
theorem c84 (l : Doc) (left : Int) (h0 : 0 ≤ left) (h1 : left ≤ 1048576) (hs : l.length < 9223372036854775808) (ht : ∀ b ∈ l, b.text.length < 9223372036854775808 ∧ b.table.cells.length < 9223372036854775808 ∧ ∀ c ∈ b.table.cells, c.text.length < 9223372036854775808) : PureC prog 84 [encB l, .sc (.int .i64 left)] (.sc (.int .i64 (cutI (left - wD l)))) := by
  have w : IntKind.i64.wrap (left - (l.length : Int)) = left - l.length := wrap_id (by omega) (by omega)
  unfold encB
  rcases Int.lt_or_le (left - l.length) 0 with hneg | hpos
  · have e : cutI (left - wD l) = -1 := cutI_neg (by unfold wD; omega)
    have g : decide (left - (l.length : Int) < 0) = true := by simp; omega
    refine pureC_of k84 (by first | rfl | simp [VV.cloL, VV.clo, *]) (by first | rfl | simp [VV.cloL, VV.clo, *]) (by simp) ?_
    intro X hP hm hH hn hX
    refine vwp_ok _ ?_
    unfold vc84
    repeat' (first
      | simp only [go_sem, reduceCtorEq, reduceIte, Nat.reduceAdd, Nat.reduceEqDiff, Nat.reduceLeDiff, Nat.reduceMul, *]
      | refine gdO_bool' _ (fun _ => ?_) (fun _ => ?_)
      | refine gdO_bool _ (fun _ => ?_) (fun _ => ?_)
      | refine gdD_bool' _ (fun _ => ?_) (fun _ => ?_)
      | refine gdD_bool _ (fun _ => ?_) (fun _ => ?_)
      | refine cdO_bool' _ (fun _ => ?_) (fun _ => ?_)
      | refine cdO_bool _ (fun _ => ?_) (fun _ => ?_)
      | refine ⟨by decide, ?_⟩
      | refine ppost_t (by simp) rfl ?_)
  · have g : decide (left - (l.length : Int) < 0) = false := by simp; omega
    refine pureC_of k84 (by first | rfl | simp [VV.cloL, VV.clo, *]) (by first | rfl | simp [VV.cloL, VV.clo, *]) (by simp) ?_
    intro X hP hm hH hn hX
    refine vwp_ok _ ?_
    unfold vc84
    repeat' (first
      | simp only [go_sem, reduceCtorEq, reduceIte, Nat.reduceAdd, Nat.reduceEqDiff, Nat.reduceLeDiff, Nat.reduceMul, *]
      | refine gdO_bool' _ (fun _ => ?_) (fun _ => ?_)
      | refine gdO_bool _ (fun _ => ?_) (fun _ => ?_)
      | refine gdD_bool' _ (fun _ => ?_) (fun _ => ?_)
      | refine gdD_bool _ (fun _ => ?_) (fun _ => ?_)
      | refine cdO_bool' _ (fun _ => ?_) (fun _ => ?_)
      | refine cdO_bool _ (fun _ => ?_) (fun _ => ?_)
      | refine ⟨by decide, ?_⟩
      | refine ppost_t (by simp) rfl ?_)
    refine loopV hX (fun μ s H n => ∃ (i : Nat) (v : Int), i ≤ l.length ∧ v = left - l.length - ((l.take i).map fun c => wB c).sum ∧ 0 ≤ v ∧ μ = l.length - i ∧ s = slotsOf [(0, .sl 6 (l.map Block.enc)), (1, .sc (.int .i64 v)), (5, .sc (.int .i64 i))] ∧ H = H0 ∧ n = 0) ?_
      ⟨l.length + 1, roundV_of hH hn [] [(0, _), (1, _), (5, _)] [] _ ⟨0, left - l.length, by simp, by simp, hpos, rfl, rfl, rfl, rfl⟩ (by simp) (by simp) (by simp [hm]) ?_ HConv.nil⟩
    rotate_left
    · repeat' (first | exact List.forall_mem_nil _ | refine List.forall_mem_cons.2 ⟨?_, ?_⟩ | exact .toPt (by simp only [go_sem, reduceCtorEq, reduceIte, Nat.reduceAdd, Nat.reduceEqDiff, Nat.reduceLeDiff, Nat.reduceMul, *] <;> rfl) (by simp [tau]) (by simp) | exact .toRf (by simp only [go_sem, reduceCtorEq, reduceIte, Nat.reduceAdd, Nat.reduceEqDiff, Nat.reduceLeDiff, Nat.reduceMul, *] <;> rfl) (by simp [tau]) (by simp) | exact .same (by simp only [go_sem, reduceCtorEq, reduceIte, Nat.reduceAdd, Nat.reduceEqDiff, Nat.reduceLeDiff, Nat.reduceMul, *] <;> rfl) (by first | rfl | simp [VV.cloL, VV.clo, *]))
    rintro μ s H n ⟨i, v, hi, hv, hv0, rfl, rfl, rfl, rfl⟩
    rcases Nat.lt_or_ge i l.length with hlt | hge
    · have g1 := lt_dec hlt
      have g2 : (0 : Int) ≤ (i : Int) := by omega
      have g3 : (i : Int) < (l.length : Int) := by omega
      have g5 : IntKind.i64.wrap ((i : Int) + 1) = ((i + 1 : Nat) : Int) := by rw [wrap_id] <;> omega
      have g4 : (l.map Block.enc).getD i [] = (l[i]).enc := getD_map hlt
      have hsucc := sum_take_succ (fun c : Block => wB c) hlt
      have hle := sum_take_le (fun c : Block => wB c) l (i + 1)
      have h205 := c129 l[i] v hv0 (by omega) (ht _ (List.getElem_mem hlt)).1 (ht _ (List.getElem_mem hlt)).2.1 (ht _ (List.getElem_mem hlt)).2.2
      have hbad : v - wB l[i] < 0 → cutI (left - wD l) = -1 := fun h => cutI_neg (by unfold wD; omega)
      have hnext : left - l.length - ((l.take (i + 1)).map fun c => wB c).sum = v - wB l[i] := by omega
      generalize l[i] = c at *
      clear hsucc hle ht hv
      rcases Int.lt_or_le (v - wB c) 0 with hn' | hp'
      · rw [cutI_neg hn'] at h205
        have k1 : decide ((-1 : Int) < 0) = true := by decide
        have e := hbad hn'
        clear hbad hnext
        repeat' (first
          | simp only [go_sem, reduceCtorEq, reduceIte, Nat.reduceAdd, Nat.reduceEqDiff, Nat.reduceLeDiff, Nat.reduceMul, Block.encLen, Block.encTake, *]
          | refine gdO_bool' _ (fun _ => ?_) (fun _ => ?_)
          | refine gdO_bool _ (fun _ => ?_) (fun _ => ?_)
          | refine gdD_bool' _ (fun _ => ?_) (fun _ => ?_)
          | refine gdD_bool _ (fun _ => ?_) (fun _ => ?_)
          | refine cdO_bool' _ (fun _ => ?_) (fun _ => ?_)
          | refine cdO_bool _ (fun _ => ?_) (fun _ => ?_)
          | refine callO.pure (by first | exact h205) ?_
          | refine callW.pure (by first | exact h205) ?_
          | refine ⟨by decide, ?_⟩
          | refine ppost_t (by simp) rfl ?_)
      · rw [cutI_pos hp'] at h205
        have k1 : decide (v - (wB c : Int) < 0) = false := by simp; omega
        clear hbad
        repeat' (first
          | simp only [go_sem, reduceCtorEq, reduceIte, Nat.reduceAdd, Nat.reduceEqDiff, Nat.reduceLeDiff, Nat.reduceMul, Block.encLen, Block.encTake, *]
          | refine gdO_bool' _ (fun _ => ?_) (fun _ => ?_)
          | refine gdO_bool _ (fun _ => ?_) (fun _ => ?_)
          | refine gdD_bool' _ (fun _ => ?_) (fun _ => ?_)
          | refine gdD_bool _ (fun _ => ?_) (fun _ => ?_)
          | refine cdO_bool' _ (fun _ => ?_) (fun _ => ?_)
          | refine cdO_bool _ (fun _ => ?_) (fun _ => ?_)
          | refine callO.pure (by first | exact h205) ?_
          | refine callW.pure (by first | exact h205) ?_
          | refine ⟨by decide, ?_⟩
          | refine ppost_t (by simp) rfl ?_)
        refine roundV_of hH hn [] [(0, _), (1, _), (5, _)] [] _ ⟨i + 1, v - wB c, hlt, hnext.symm, hp', rfl, rfl, rfl, rfl⟩ (by omega) (by simp) (by simp [hm]) ?_ HConv.nil
        clear hnext
        repeat' (first | exact List.forall_mem_nil _ | refine List.forall_mem_cons.2 ⟨?_, ?_⟩ | exact .toPt (by simp only [go_sem, reduceCtorEq, reduceIte, Nat.reduceAdd, Nat.reduceEqDiff, Nat.reduceLeDiff, Nat.reduceMul, *] <;> rfl) (by simp [tau]) (by simp) | exact .toRf (by simp only [go_sem, reduceCtorEq, reduceIte, Nat.reduceAdd, Nat.reduceEqDiff, Nat.reduceLeDiff, Nat.reduceMul, *] <;> rfl) (by simp [tau]) (by simp) | exact .same (by simp only [go_sem, reduceCtorEq, reduceIte, Nat.reduceAdd, Nat.reduceEqDiff, Nat.reduceLeDiff, Nat.reduceMul, *] <;> rfl) (by first | rfl | simp [VV.cloL, VV.clo, *]))
    · have g1 := ge_dec hge
      have e : cutI (left - wD l) = v := by
        rw [List.take_of_length_le hge] at hv
        rw [cutI_pos (by unfold wD; omega)]; unfold wD; omega
      clear hv
      repeat' (first
        | simp only [go_sem, reduceCtorEq, reduceIte, Nat.reduceAdd, Nat.reduceEqDiff, Nat.reduceLeDiff, Nat.reduceMul, *]
        | refine gdO_bool' _ (fun _ => ?_) (fun _ => ?_)
        | refine gdO_bool _ (fun _ => ?_) (fun _ => ?_)
        | refine gdD_bool' _ (fun _ => ?_) (fun _ => ?_)
        | refine gdD_bool _ (fun _ => ?_) (fun _ => ?_)
        | refine cdO_bool' _ (fun _ => ?_) (fun _ => ?_)
        | refine cdO_bool _ (fun _ => ?_) (fun _ => ?_)
        | refine ⟨by decide, ?_⟩
        | refine ppost_t (by simp) rfl ?_)
theorem c31 (d : Doc) (left : Int) (h0 : 0 ≤ left) (h1 : left ≤ 1048576) (hs : d.length < 9223372036854775808) (ht : ∀ b ∈ d, b.text.length < 9223372036854775808 ∧ b.table.cells.length < 9223372036854775808 ∧ ∀ c ∈ b.table.cells, c.text.length < 9223372036854775808) :
    PureC prog 31 [.agg [encB d], .sc (.int .i64 left)] (.sc (.int .i64 (cutI (left - wD d)))) := by
  have h := c84 d left h0 h1 hs ht
  have e := cut_cut (left - wD d)
  rw [← e]
  generalize cutI (left - wD d) = r at *
  unfold encB at *
  clear e ht
  refine pureC_of k31 (by first | rfl | simp [VV.cloL, VV.clo, *]) (by first | rfl | simp [VV.cloL, VV.clo, *]) (by simp) ?_
  intro X hP hm hH hn hX
  refine vwp_ok _ ?_
  unfold vc31
  repeat' (first
    | simp only [go_sem, reduceCtorEq, reduceIte, Nat.reduceAdd, Nat.reduceEqDiff, Nat.reduceLeDiff, Nat.reduceMul, *]
    | refine gdO_bool' _ (fun _ => ?_) (fun _ => ?_)
    | refine gdO_bool _ (fun _ => ?_) (fun _ => ?_)
    | refine gdD_bool' _ (fun _ => ?_) (fun _ => ?_)
    | refine gdD_bool _ (fun _ => ?_) (fun _ => ?_)
    | refine cdO_bool' _ (fun _ => ?_) (fun _ => ?_)
    | refine cdO_bool _ (fun _ => ?_) (fun _ => ?_)
    | refine callO.pure (by first | exact h) ?_
    | refine callW.pure (by first | exact h) ?_
    | refine ⟨by decide, ?_⟩
    | refine ppost_t (by simp) rfl ?_)
  all_goals simp only [cutI, *, if_true, if_false, Bool.false_eq_true]
end Go.Proofs.Ytdmmhainianadaa

/- F20: the laws' comparisons, of a thing with itself. -/
namespace Go.Proofs.Ytdmmhainianadaa
open Go.VM Go.Lim Go.Proofs.Try
attribute [local irreducible] vwp vops vstep vdr vdr1 CallP PPost SWv gdO gdD cdO optV optW optD thenV blockV behind callO callW callvO roundV
set_option linter.unusedSimpArgs false
set_option linter.unusedVariables false
/- loop.example/limner/laws.eqSignS -/
def vc167 : VCode :=
(.seq (.reg [⟨(some 4), (.mov (.const (.bool false))), none⟩])
(.seq (.seq (.reg [⟨(some 6), (.mov (.tmp 0)), none⟩, ⟨(some 7), (.len false (.tmp 6)), none⟩, ⟨(some 8), (.mov (.tmp 1)), none⟩, ⟨(some 9), (.len false (.tmp 8)), none⟩, ⟨(some 10), (.bin .neq .no (.tmp 7) (.tmp 9)), none⟩])
(.cond (.tmp 10) (.seq (.reg [⟨(some 4), (.mov (.const (.bool false))), none⟩])
 .ret)
 .skip))
(.seq (.seq (.reg [⟨(some 5), (.mov (.const (.int .i64 0))), none⟩])
(.block 0 (.loop (.seq (.seq (.reg [⟨(some 11), (.mov (.tmp 5)), none⟩, ⟨(some 12), (.mov (.tmp 0)), none⟩, ⟨(some 13), (.len false (.tmp 12)), none⟩, ⟨(some 14), (.bin .lss .no (.tmp 11) (.tmp 13)), none⟩])
  (.cond (.tmp 14) .skip
   (.exit 0)))
  (.seq (.block 1 (.seq (.drw [(⟨(some 17), (.mov (.tmp 0)), none⟩, []), (⟨(some 18), (.mov (.tmp 5)), none⟩, []), (⟨(some 19), (.iad 3 (.tmp 17) (.tmp 18)), none⟩, []), (⟨(some 20), (.load true 3 (.tmp 19)), none⟩, []), (⟨(some 21), (.mov (.tmp 1)), none⟩, []), (⟨(some 22), (.mov (.tmp 5)), none⟩, []), (⟨(some 23), (.iad 3 (.tmp 21) (.tmp 22)), none⟩, []), (⟨(some 24), (.load true 3 (.tmp 23)), none⟩, [3]), (⟨(some 25), (.call 191 [(.tmp 20), (.tmp 24)]), none⟩, []), (⟨(some 26), (.un .not (.tmp 25)), none⟩, [])])
   (.cond (.tmp 26) (.seq (.reg [⟨(some 4), (.mov (.const (.bool false))), none⟩])
    .ret)
    .skip)))
  (.reg [⟨(some 15), (.mov (.tmp 5)), none⟩, ⟨(some 16), (.bin .add .no (.tmp 15) (.const (.int .i64 1))), none⟩, ⟨(some 5), (.mov (.tmp 16)), none⟩]))))))
(.seq (.reg [⟨(some 4), (.mov (.const (.bool true))), none⟩])
.ret))))
theorem k167 : compFn prog 167 = some (27, vc167, [.t 4]) := by kernel_rfl
/- loop.example/limner/laws.eqCell -/
def vc207 : VCode :=
(.seq (.reg [⟨(some 2), (.box (.tmp 0)), none⟩, ⟨(some 3), (.box (.tmp 1)), none⟩, ⟨(some 4), (.mov (.const (.bool false))), none⟩])
(.seq (.seq (.reg [⟨(some 5), (.fad 0 (.tmp 2)), none⟩, ⟨(some 6), (.load false 1 (.tmp 5)), none⟩, ⟨(some 7), (.fad 0 (.tmp 3)), none⟩, ⟨(some 8), (.load false 1 (.tmp 7)), none⟩, ⟨(some 9), (.bin .neq .no (.tmp 6) (.tmp 8)), none⟩])
(.cond (.tmp 9) (.seq (.reg [⟨(some 4), (.mov (.const (.bool false))), none⟩])
 .ret)
 .skip))
(.seq (.seq (.reg [⟨(some 10), (.fad 1 (.tmp 2)), none⟩, ⟨(some 11), (.load false 1 (.tmp 10)), none⟩, ⟨(some 12), (.fad 1 (.tmp 3)), none⟩, ⟨(some 13), (.load false 1 (.tmp 12)), none⟩, ⟨(some 14), (.bin .neq .no (.tmp 11) (.tmp 13)), none⟩])
(.cond (.tmp 14) (.seq (.reg [⟨(some 4), (.mov (.const (.bool false))), none⟩])
 .ret)
 .skip))
(.seq (.seq (.reg [⟨(some 15), (.fad 2 (.tmp 2)), none⟩, ⟨(some 16), (.load false 1 (.tmp 15)), none⟩, ⟨(some 17), (.fad 2 (.tmp 3)), none⟩, ⟨(some 18), (.load false 1 (.tmp 17)), none⟩, ⟨(some 19), (.bin .neq .no (.tmp 16) (.tmp 18)), none⟩])
(.cond (.tmp 19) (.seq (.reg [⟨(some 4), (.mov (.const (.bool false))), none⟩])
 .ret)
 .skip))
(.seq (.seq (.reg [⟨(some 20), (.fad 3 (.tmp 2)), none⟩, ⟨(some 21), (.load false 1 (.tmp 20)), none⟩, ⟨(some 22), (.fad 3 (.tmp 3)), none⟩, ⟨(some 23), (.load false 1 (.tmp 22)), none⟩, ⟨(some 24), (.bin .neq .no (.tmp 21) (.tmp 23)), none⟩])
(.cond (.tmp 24) (.seq (.reg [⟨(some 4), (.mov (.const (.bool false))), none⟩])
 .ret)
 .skip))
(.seq (.seq (.reg [⟨(some 25), (.fad 4 (.tmp 2)), none⟩, ⟨(some 26), (.load false 1 (.tmp 25)), none⟩, ⟨(some 27), (.fad 4 (.tmp 3)), none⟩, ⟨(some 28), (.load false 1 (.tmp 27)), none⟩, ⟨(some 29), (.call 167 [(.tmp 26), (.tmp 28)]), none⟩, ⟨(some 30), (.un .not (.tmp 29)), none⟩])
(.cond (.tmp 30) (.seq (.reg [⟨(some 4), (.mov (.const (.bool false))), none⟩])
 .ret)
 .skip))
(.seq (.reg [⟨(some 4), (.mov (.const (.bool true))), none⟩])
.ret)))))))
theorem k207 : compFn prog 207 = some (31, vc207, [.t 4]) := by kernel_rfl
/- loop.example/limner/laws.eqCellS -/
def vc192 : VCode :=
(.seq (.reg [⟨(some 4), (.mov (.const (.bool false))), none⟩])
(.seq (.seq (.reg [⟨(some 6), (.mov (.tmp 0)), none⟩, ⟨(some 7), (.len false (.tmp 6)), none⟩, ⟨(some 8), (.mov (.tmp 1)), none⟩, ⟨(some 9), (.len false (.tmp 8)), none⟩, ⟨(some 10), (.bin .neq .no (.tmp 7) (.tmp 9)), none⟩])
(.cond (.tmp 10) (.seq (.reg [⟨(some 4), (.mov (.const (.bool false))), none⟩])
 .ret)
 .skip))
(.seq (.seq (.reg [⟨(some 5), (.mov (.const (.int .i64 0))), none⟩])
(.block 0 (.loop (.seq (.seq (.reg [⟨(some 11), (.mov (.tmp 5)), none⟩, ⟨(some 12), (.mov (.tmp 0)), none⟩, ⟨(some 13), (.len false (.tmp 12)), none⟩, ⟨(some 14), (.bin .lss .no (.tmp 11) (.tmp 13)), none⟩])
  (.cond (.tmp 14) .skip
   (.exit 0)))
  (.seq (.block 1 (.seq (.drw [(⟨(some 17), (.mov (.tmp 0)), none⟩, []), (⟨(some 18), (.mov (.tmp 5)), none⟩, []), (⟨(some 19), (.iad 5 (.tmp 17) (.tmp 18)), none⟩, []), (⟨(some 20), (.load true 5 (.tmp 19)), none⟩, []), (⟨(some 21), (.mov (.tmp 1)), none⟩, []), (⟨(some 22), (.mov (.tmp 5)), none⟩, []), (⟨(some 23), (.iad 5 (.tmp 21) (.tmp 22)), none⟩, []), (⟨(some 24), (.load true 5 (.tmp 23)), none⟩, [3]), (⟨(some 25), (.call 207 [(.tmp 20), (.tmp 24)]), none⟩, []), (⟨(some 26), (.un .not (.tmp 25)), none⟩, [])])
   (.cond (.tmp 26) (.seq (.reg [⟨(some 4), (.mov (.const (.bool false))), none⟩])
    .ret)
    .skip)))
  (.reg [⟨(some 15), (.mov (.tmp 5)), none⟩, ⟨(some 16), (.bin .add .no (.tmp 15) (.const (.int .i64 1))), none⟩, ⟨(some 5), (.mov (.tmp 16)), none⟩]))))))
(.seq (.reg [⟨(some 4), (.mov (.const (.bool true))), none⟩])
.ret))))
theorem k192 : compFn prog 192 = some (27, vc192, [.t 4]) := by kernel_rfl
/- loop.example/limner/laws.eqTable -/
def vc168 : VCode :=
(.seq (.reg [⟨(some 2), (.box (.tmp 0)), none⟩, ⟨(some 3), (.box (.tmp 1)), none⟩, ⟨(some 4), (.mov (.const (.bool false))), none⟩])
(.seq (.seq (.reg [⟨(some 5), (.fad 0 (.tmp 2)), none⟩, ⟨(some 6), (.load false 1 (.tmp 5)), none⟩, ⟨(some 7), (.fad 0 (.tmp 3)), none⟩, ⟨(some 8), (.load false 1 (.tmp 7)), none⟩, ⟨(some 9), (.bin .neq .no (.tmp 6) (.tmp 8)), none⟩])
(.cond (.tmp 9) (.seq (.reg [⟨(some 4), (.mov (.const (.bool false))), none⟩])
 .ret)
 .skip))
(.seq (.seq (.reg [⟨(some 10), (.fad 1 (.tmp 2)), none⟩, ⟨(some 11), (.load false 1 (.tmp 10)), none⟩, ⟨(some 12), (.fad 1 (.tmp 3)), none⟩, ⟨(some 13), (.load false 1 (.tmp 12)), none⟩, ⟨(some 14), (.bin .neq .no (.tmp 11) (.tmp 13)), none⟩])
(.cond (.tmp 14) (.seq (.reg [⟨(some 4), (.mov (.const (.bool false))), none⟩])
 .ret)
 .skip))
(.seq (.seq (.reg [⟨(some 15), (.fad 2 (.tmp 2)), none⟩, ⟨(some 16), (.load false 1 (.tmp 15)), none⟩, ⟨(some 17), (.fad 2 (.tmp 3)), none⟩, ⟨(some 18), (.load false 1 (.tmp 17)), none⟩, ⟨(some 19), (.call 192 [(.tmp 16), (.tmp 18)]), none⟩, ⟨(some 20), (.un .not (.tmp 19)), none⟩])
(.cond (.tmp 20) (.seq (.reg [⟨(some 4), (.mov (.const (.bool false))), none⟩])
 .ret)
 .skip))
(.seq (.reg [⟨(some 4), (.mov (.const (.bool true))), none⟩])
.ret)))))
theorem k168 : compFn prog 168 = some (21, vc168, [.t 4]) := by kernel_rfl
/- loop.example/limner/laws.eqBlock -/
def vc132 : VCode :=
(.seq (.reg [⟨(some 2), (.box (.tmp 0)), none⟩, ⟨(some 3), (.box (.tmp 1)), none⟩, ⟨(some 4), (.mov (.const (.bool false))), none⟩])
(.seq (.seq (.reg [⟨(some 5), (.fad 0 (.tmp 2)), none⟩, ⟨(some 6), (.load false 1 (.tmp 5)), none⟩, ⟨(some 7), (.fad 0 (.tmp 3)), none⟩, ⟨(some 8), (.load false 1 (.tmp 7)), none⟩, ⟨(some 9), (.bin .neq .no (.tmp 6) (.tmp 8)), none⟩])
(.cond (.tmp 9) (.seq (.reg [⟨(some 4), (.mov (.const (.bool false))), none⟩])
 .ret)
 .skip))
(.seq (.seq (.reg [⟨(some 10), (.fad 1 (.tmp 2)), none⟩, ⟨(some 11), (.load false 1 (.tmp 10)), none⟩, ⟨(some 12), (.fad 1 (.tmp 3)), none⟩, ⟨(some 13), (.load false 1 (.tmp 12)), none⟩, ⟨(some 14), (.bin .neq .no (.tmp 11) (.tmp 13)), none⟩])
(.cond (.tmp 14) (.seq (.reg [⟨(some 4), (.mov (.const (.bool false))), none⟩])
 .ret)
 .skip))
(.seq (.seq (.reg [⟨(some 15), (.fad 2 (.tmp 2)), none⟩, ⟨(some 16), (.load false 1 (.tmp 15)), none⟩, ⟨(some 17), (.fad 2 (.tmp 3)), none⟩, ⟨(some 18), (.load false 1 (.tmp 17)), none⟩, ⟨(some 19), (.call 167 [(.tmp 16), (.tmp 18)]), none⟩, ⟨(some 20), (.un .not (.tmp 19)), none⟩])
(.cond (.tmp 20) (.seq (.reg [⟨(some 4), (.mov (.const (.bool false))), none⟩])
 .ret)
 .skip))
(.seq (.seq (.reg [⟨(some 21), (.fad 3 (.tmp 2)), none⟩, ⟨(some 22), (.load true 3 (.tmp 21)), none⟩, ⟨(some 23), (.fad 3 (.tmp 3)), none⟩, ⟨(some 24), (.load true 3 (.tmp 23)), none⟩, ⟨(some 25), (.call 168 [(.tmp 22), (.tmp 24)]), none⟩, ⟨(some 26), (.un .not (.tmp 25)), none⟩])
(.cond (.tmp 26) (.seq (.reg [⟨(some 4), (.mov (.const (.bool false))), none⟩])
 .ret)
 .skip))
(.seq (.reg [⟨(some 4), (.mov (.const (.bool true))), none⟩])
.ret))))))
theorem k132 : compFn prog 132 = some (27, vc132, [.t 4]) := by kernel_rfl
/- loop.example/limner/laws.eqBlockS -/
def vc89 : VCode :=
(.seq (.reg [⟨(some 4), (.mov (.const (.bool false))), none⟩])
(.seq (.seq (.reg [⟨(some 6), (.mov (.tmp 0)), none⟩, ⟨(some 7), (.len false (.tmp 6)), none⟩, ⟨(some 8), (.mov (.tmp 1)), none⟩, ⟨(some 9), (.len false (.tmp 8)), none⟩, ⟨(some 10), (.bin .neq .no (.tmp 7) (.tmp 9)), none⟩])
(.cond (.tmp 10) (.seq (.reg [⟨(some 4), (.mov (.const (.bool false))), none⟩])
 .ret)
 .skip))
(.seq (.seq (.reg [⟨(some 5), (.mov (.const (.int .i64 0))), none⟩])
(.block 0 (.loop (.seq (.seq (.reg [⟨(some 11), (.mov (.tmp 5)), none⟩, ⟨(some 12), (.mov (.tmp 0)), none⟩, ⟨(some 13), (.len false (.tmp 12)), none⟩, ⟨(some 14), (.bin .lss .no (.tmp 11) (.tmp 13)), none⟩])
  (.cond (.tmp 14) .skip
   (.exit 0)))
  (.seq (.block 1 (.seq (.drw [(⟨(some 17), (.mov (.tmp 0)), none⟩, []), (⟨(some 18), (.mov (.tmp 5)), none⟩, []), (⟨(some 19), (.iad 6 (.tmp 17) (.tmp 18)), none⟩, []), (⟨(some 20), (.load true 6 (.tmp 19)), none⟩, []), (⟨(some 21), (.mov (.tmp 1)), none⟩, []), (⟨(some 22), (.mov (.tmp 5)), none⟩, []), (⟨(some 23), (.iad 6 (.tmp 21) (.tmp 22)), none⟩, []), (⟨(some 24), (.load true 6 (.tmp 23)), none⟩, [3]), (⟨(some 25), (.call 132 [(.tmp 20), (.tmp 24)]), none⟩, []), (⟨(some 26), (.un .not (.tmp 25)), none⟩, [])])
   (.cond (.tmp 26) (.seq (.reg [⟨(some 4), (.mov (.const (.bool false))), none⟩])
    .ret)
    .skip)))
  (.reg [⟨(some 15), (.mov (.tmp 5)), none⟩, ⟨(some 16), (.bin .add .no (.tmp 15) (.const (.int .i64 1))), none⟩, ⟨(some 5), (.mov (.tmp 16)), none⟩]))))))
(.seq (.reg [⟨(some 4), (.mov (.const (.bool true))), none⟩])
.ret))))
theorem k89 : compFn prog 89 = some (27, vc89, [.t 4]) := by kernel_rfl
/- loop.example/limner/laws.eqDoc -/
def vc37 : VCode :=
(.seq (.reg [⟨(some 2), (.box (.tmp 0)), none⟩, ⟨(some 3), (.box (.tmp 1)), none⟩, ⟨(some 4), (.mov (.const (.bool false))), none⟩])
(.seq (.seq (.reg [⟨(some 5), (.fad 0 (.tmp 2)), none⟩, ⟨(some 6), (.load false 1 (.tmp 5)), none⟩, ⟨(some 7), (.fad 0 (.tmp 3)), none⟩, ⟨(some 8), (.load false 1 (.tmp 7)), none⟩, ⟨(some 9), (.call 89 [(.tmp 6), (.tmp 8)]), none⟩, ⟨(some 10), (.un .not (.tmp 9)), none⟩])
(.cond (.tmp 10) (.seq (.reg [⟨(some 4), (.mov (.const (.bool false))), none⟩])
 .ret)
 .skip))
(.seq (.reg [⟨(some 4), (.mov (.const (.bool true))), none⟩])
.ret)))
theorem k37 : compFn prog 37 = some (11, vc37, [.t 4]) := by kernel_rfl
theorem c167 (l : Text) (hs : l.length < 4611686018427387904) : PureC prog 167 [encT l, encT l] (.sc (.bool true)) := by
  unfold encT
  refine pureC_of k167 (by first | rfl | simp [VV.cloL, VV.clo, *]) (by first | rfl | simp [VV.cloL, VV.clo, *]) (by simp) ?_
  intro X hP hm hH hn hX
  refine vwp_ok _ ?_
  unfold vc167
  repeat' (first
    | simp only [go_sem, reduceCtorEq, reduceIte, Nat.reduceAdd, Nat.reduceEqDiff, Nat.reduceLeDiff, Nat.reduceMul, beq_self_eq_true, *]
    | refine gdO_bool' _ (fun _ => ?_) (fun _ => ?_)
    | refine gdO_bool _ (fun _ => ?_) (fun _ => ?_)
    | refine gdD_bool' _ (fun _ => ?_) (fun _ => ?_)
    | refine gdD_bool _ (fun _ => ?_) (fun _ => ?_)
    | refine cdO_bool' _ (fun _ => ?_) (fun _ => ?_)
    | refine cdO_bool _ (fun _ => ?_) (fun _ => ?_)
    | refine ⟨by decide, ?_⟩
    | refine ppost_t (by simp) rfl ?_)
  refine loopV hX (fun μ s H n => ∃ i : Nat, i ≤ l.length ∧ μ = l.length - i ∧ s = slotsOf [(0, .sl 3 (l.map Sign.enc)), (1, .sl 3 (l.map Sign.enc)), (5, .sc (.int .i64 i))] ∧ H = H0 ∧ n = 0) ?_
    ⟨l.length + 1, roundV_of hH hn [] [(0, _), (1, _), (5, _)] [] _ ⟨0, by simp, rfl, rfl, rfl, rfl⟩ (by simp) (by simp) (by simp [hm]) ?_ HConv.nil⟩
  rotate_left
  · repeat' (first | exact List.forall_mem_nil _ | refine List.forall_mem_cons.2 ⟨?_, ?_⟩ | exact .toPt (by simp only [go_sem, reduceCtorEq, reduceIte, Nat.reduceAdd, Nat.reduceEqDiff, Nat.reduceLeDiff, Nat.reduceMul, *] <;> rfl) (by simp [tau]) (by simp) | exact .toRf (by simp only [go_sem, reduceCtorEq, reduceIte, Nat.reduceAdd, Nat.reduceEqDiff, Nat.reduceLeDiff, Nat.reduceMul, *] <;> rfl) (by simp [tau]) (by simp) | exact .same (by simp only [go_sem, reduceCtorEq, reduceIte, Nat.reduceAdd, Nat.reduceEqDiff, Nat.reduceLeDiff, Nat.reduceMul, *] <;> rfl) (by first | rfl | simp [VV.cloL, VV.clo, *]))
  rintro μ s H n ⟨i, hi, rfl, rfl, rfl, rfl⟩
  rcases Nat.lt_or_ge i l.length with hlt | hge
  · have g1 := lt_dec hlt
    have g2 : (0 : Int) ≤ (i : Int) := by omega
    have g3 : (i : Int) < (l.length : Int) := by omega
    have g5 : IntKind.i64.wrap ((i : Int) + 1) = ((i + 1 : Nat) : Int) := by rw [wrap_id] <;> omega
    have g4 : (l.map Sign.enc).getD i [] = (l[i]).enc := getD_map hlt
    have h := c191 l[i] l[i]
    simp only [beq_self_eq_true, Bool.and_self] at h
    generalize l[i] = c at *
    repeat' (first
      | simp only [go_sem, reduceCtorEq, reduceIte, Nat.reduceAdd, Nat.reduceEqDiff, Nat.reduceLeDiff, Nat.reduceMul, Sign.encLen, Sign.encTake, *]
      | refine gdO_bool' _ (fun _ => ?_) (fun _ => ?_)
      | refine gdO_bool _ (fun _ => ?_) (fun _ => ?_)
      | refine gdD_bool' _ (fun _ => ?_) (fun _ => ?_)
      | refine gdD_bool _ (fun _ => ?_) (fun _ => ?_)
      | refine cdO_bool' _ (fun _ => ?_) (fun _ => ?_)
      | refine cdO_bool _ (fun _ => ?_) (fun _ => ?_)
      | refine callO.pure (by first | exact h) ?_
      | refine callW.pure (by first | exact h) ?_
      | refine ⟨by decide, ?_⟩
      | refine ppost_t (by simp) rfl ?_)
    refine roundV_of hH hn [] [(0, _), (1, _), (5, _)] [] _ ⟨i + 1, hlt, rfl, rfl, rfl, rfl⟩ (by omega) (by simp) (by simp [hm]) ?_ HConv.nil
    repeat' (first | exact List.forall_mem_nil _ | refine List.forall_mem_cons.2 ⟨?_, ?_⟩ | exact .toPt (by simp only [go_sem, reduceCtorEq, reduceIte, Nat.reduceAdd, Nat.reduceEqDiff, Nat.reduceLeDiff, Nat.reduceMul, *] <;> rfl) (by simp [tau]) (by simp) | exact .toRf (by simp only [go_sem, reduceCtorEq, reduceIte, Nat.reduceAdd, Nat.reduceEqDiff, Nat.reduceLeDiff, Nat.reduceMul, *] <;> rfl) (by simp [tau]) (by simp) | exact .same (by simp only [go_sem, reduceCtorEq, reduceIte, Nat.reduceAdd, Nat.reduceEqDiff, Nat.reduceLeDiff, Nat.reduceMul, *] <;> rfl) (by first | rfl | simp [VV.cloL, VV.clo, *]))
  · have g1 := ge_dec hge
    repeat' (first
      | simp only [go_sem, reduceCtorEq, reduceIte, Nat.reduceAdd, Nat.reduceEqDiff, Nat.reduceLeDiff, Nat.reduceMul, *]
      | refine gdO_bool' _ (fun _ => ?_) (fun _ => ?_)
      | refine gdO_bool _ (fun _ => ?_) (fun _ => ?_)
      | refine gdD_bool' _ (fun _ => ?_) (fun _ => ?_)
      | refine gdD_bool _ (fun _ => ?_) (fun _ => ?_)
      | refine cdO_bool' _ (fun _ => ?_) (fun _ => ?_)
      | refine cdO_bool _ (fun _ => ?_) (fun _ => ?_)
      | refine ⟨by decide, ?_⟩
      | refine ppost_t (by simp) rfl ?_)
theorem c207 (c : Cell) (hs : c.text.length < 4611686018427387904) : PureC prog 207 [.agg c.enc, .agg c.enc] (.sc (.bool true)) := by
  have h := c167 c.text hs
  unfold Cell.enc encT at *
  refine pureC_of k207 (by first | rfl | simp [VV.cloL, VV.clo, *]) (by first | rfl | simp [VV.cloL, VV.clo, *]) (by simp) ?_
  intro X hP hm hH hn hX
  refine vwp_ok _ ?_
  unfold vc207
  repeat' (first
    | simp only [go_sem, reduceCtorEq, reduceIte, Nat.reduceAdd, Nat.reduceEqDiff, Nat.reduceLeDiff, Nat.reduceMul, beq_self_eq_true, *]
    | refine gdO_bool' _ (fun _ => ?_) (fun _ => ?_)
    | refine gdO_bool _ (fun _ => ?_) (fun _ => ?_)
    | refine gdD_bool' _ (fun _ => ?_) (fun _ => ?_)
    | refine gdD_bool _ (fun _ => ?_) (fun _ => ?_)
    | refine cdO_bool' _ (fun _ => ?_) (fun _ => ?_)
    | refine cdO_bool _ (fun _ => ?_) (fun _ => ?_)
    | refine callO.pure (by first | exact h) ?_
    | refine callW.pure (by first | exact h) ?_
    | refine ⟨by decide, ?_⟩
    | refine ppost_t (by simp) rfl ?_)
theorem c192 (l : List Cell) (hs : l.length < 4611686018427387904) (ht : ∀ c ∈ l, c.text.length < 4611686018427387904) : PureC prog 192 [encC l, encC l] (.sc (.bool true)) := by
  unfold encC
  refine pureC_of k192 (by first | rfl | simp [VV.cloL, VV.clo, *]) (by first | rfl | simp [VV.cloL, VV.clo, *]) (by simp) ?_
  intro X hP hm hH hn hX
  refine vwp_ok _ ?_
  unfold vc192
  repeat' (first
    | simp only [go_sem, reduceCtorEq, reduceIte, Nat.reduceAdd, Nat.reduceEqDiff, Nat.reduceLeDiff, Nat.reduceMul, beq_self_eq_true, *]
    | refine gdO_bool' _ (fun _ => ?_) (fun _ => ?_)
    | refine gdO_bool _ (fun _ => ?_) (fun _ => ?_)
    | refine gdD_bool' _ (fun _ => ?_) (fun _ => ?_)
    | refine gdD_bool _ (fun _ => ?_) (fun _ => ?_)
    | refine cdO_bool' _ (fun _ => ?_) (fun _ => ?_)
    | refine cdO_bool _ (fun _ => ?_) (fun _ => ?_)
    | refine ⟨by decide, ?_⟩
    | refine ppost_t (by simp) rfl ?_)
  refine loopV hX (fun μ s H n => ∃ i : Nat, i ≤ l.length ∧ μ = l.length - i ∧ s = slotsOf [(0, .sl 5 (l.map Cell.enc)), (1, .sl 5 (l.map Cell.enc)), (5, .sc (.int .i64 i))] ∧ H = H0 ∧ n = 0) ?_
    ⟨l.length + 1, roundV_of hH hn [] [(0, _), (1, _), (5, _)] [] _ ⟨0, by simp, rfl, rfl, rfl, rfl⟩ (by simp) (by simp) (by simp [hm]) ?_ HConv.nil⟩
  rotate_left
  · repeat' (first | exact List.forall_mem_nil _ | refine List.forall_mem_cons.2 ⟨?_, ?_⟩ | exact .toPt (by simp only [go_sem, reduceCtorEq, reduceIte, Nat.reduceAdd, Nat.reduceEqDiff, Nat.reduceLeDiff, Nat.reduceMul, *] <;> rfl) (by simp [tau]) (by simp) | exact .toRf (by simp only [go_sem, reduceCtorEq, reduceIte, Nat.reduceAdd, Nat.reduceEqDiff, Nat.reduceLeDiff, Nat.reduceMul, *] <;> rfl) (by simp [tau]) (by simp) | exact .same (by simp only [go_sem, reduceCtorEq, reduceIte, Nat.reduceAdd, Nat.reduceEqDiff, Nat.reduceLeDiff, Nat.reduceMul, *] <;> rfl) (by first | rfl | simp [VV.cloL, VV.clo, *]))
  rintro μ s H n ⟨i, hi, rfl, rfl, rfl, rfl⟩
  rcases Nat.lt_or_ge i l.length with hlt | hge
  · have g1 := lt_dec hlt
    have g2 : (0 : Int) ≤ (i : Int) := by omega
    have g3 : (i : Int) < (l.length : Int) := by omega
    have g5 : IntKind.i64.wrap ((i : Int) + 1) = ((i + 1 : Nat) : Int) := by rw [wrap_id] <;> omega
    have g4 : (l.map Cell.enc).getD i [] = (l[i]).enc := getD_map hlt
    have h := c207 l[i] (ht _ (List.getElem_mem hlt))
    generalize l[i] = c at *
    repeat' (first
      | simp only [go_sem, reduceCtorEq, reduceIte, Nat.reduceAdd, Nat.reduceEqDiff, Nat.reduceLeDiff, Nat.reduceMul, Cell.encLen, Cell.encTake, *]
      | refine gdO_bool' _ (fun _ => ?_) (fun _ => ?_)
      | refine gdO_bool _ (fun _ => ?_) (fun _ => ?_)
      | refine gdD_bool' _ (fun _ => ?_) (fun _ => ?_)
      | refine gdD_bool _ (fun _ => ?_) (fun _ => ?_)
      | refine cdO_bool' _ (fun _ => ?_) (fun _ => ?_)
      | refine cdO_bool _ (fun _ => ?_) (fun _ => ?_)
      | refine callO.pure (by first | exact h) ?_
      | refine callW.pure (by first | exact h) ?_
      | refine ⟨by decide, ?_⟩
      | refine ppost_t (by simp) rfl ?_)
    refine roundV_of hH hn [] [(0, _), (1, _), (5, _)] [] _ ⟨i + 1, hlt, rfl, rfl, rfl, rfl⟩ (by omega) (by simp) (by simp [hm]) ?_ HConv.nil
    repeat' (first | exact List.forall_mem_nil _ | refine List.forall_mem_cons.2 ⟨?_, ?_⟩ | exact .toPt (by simp only [go_sem, reduceCtorEq, reduceIte, Nat.reduceAdd, Nat.reduceEqDiff, Nat.reduceLeDiff, Nat.reduceMul, *] <;> rfl) (by simp [tau]) (by simp) | exact .toRf (by simp only [go_sem, reduceCtorEq, reduceIte, Nat.reduceAdd, Nat.reduceEqDiff, Nat.reduceLeDiff, Nat.reduceMul, *] <;> rfl) (by simp [tau]) (by simp) | exact .same (by simp only [go_sem, reduceCtorEq, reduceIte, Nat.reduceAdd, Nat.reduceEqDiff, Nat.reduceLeDiff, Nat.reduceMul, *] <;> rfl) (by first | rfl | simp [VV.cloL, VV.clo, *]))
  · have g1 := ge_dec hge
    repeat' (first
      | simp only [go_sem, reduceCtorEq, reduceIte, Nat.reduceAdd, Nat.reduceEqDiff, Nat.reduceLeDiff, Nat.reduceMul, *]
      | refine gdO_bool' _ (fun _ => ?_) (fun _ => ?_)
      | refine gdO_bool _ (fun _ => ?_) (fun _ => ?_)
      | refine gdD_bool' _ (fun _ => ?_) (fun _ => ?_)
      | refine gdD_bool _ (fun _ => ?_) (fun _ => ?_)
      | refine cdO_bool' _ (fun _ => ?_) (fun _ => ?_)
      | refine cdO_bool _ (fun _ => ?_) (fun _ => ?_)
      | refine ⟨by decide, ?_⟩
      | refine ppost_t (by simp) rfl ?_)
theorem c168 (t : Table) (hs : t.cells.length < 4611686018427387904) (ht : ∀ c ∈ t.cells, c.text.length < 4611686018427387904) : PureC prog 168 [.agg t.enc, .agg t.enc] (.sc (.bool true)) := by
  have h := c192 t.cells hs ht
  unfold Table.enc encC at *
  clear ht
  refine pureC_of k168 (by first | rfl | simp [VV.cloL, VV.clo, *]) (by first | rfl | simp [VV.cloL, VV.clo, *]) (by simp) ?_
  intro X hP hm hH hn hX
  refine vwp_ok _ ?_
  unfold vc168
  repeat' (first
    | simp only [go_sem, reduceCtorEq, reduceIte, Nat.reduceAdd, Nat.reduceEqDiff, Nat.reduceLeDiff, Nat.reduceMul, beq_self_eq_true, *]
    | refine gdO_bool' _ (fun _ => ?_) (fun _ => ?_)
    | refine gdO_bool _ (fun _ => ?_) (fun _ => ?_)
    | refine gdD_bool' _ (fun _ => ?_) (fun _ => ?_)
    | refine gdD_bool _ (fun _ => ?_) (fun _ => ?_)
    | refine cdO_bool' _ (fun _ => ?_) (fun _ => ?_)
    | refine cdO_bool _ (fun _ => ?_) (fun _ => ?_)
    | refine callO.pure (by first | exact h) ?_
    | refine callW.pure (by first | exact h) ?_
    | refine ⟨by decide, ?_⟩
    | refine ppost_t (by simp) rfl ?_)
theorem c132 (b : Block) (hs : b.text.length < 4611686018427387904 ∧ b.table.cells.length < 4611686018427387904 ∧ ∀ c ∈ b.table.cells, c.text.length < 4611686018427387904) : PureC prog 132 [.agg b.enc, .agg b.enc] (.sc (.bool true)) := by
  have h := c167 b.text hs.1
  have h' := c168 b.table hs.2.1 hs.2.2
  unfold Block.enc encT encC
  unfold encT at h
  unfold Table.enc encC at h'
  clear hs
  refine pureC_of k132 (by first | rfl | simp [VV.cloL, VV.clo, *]) (by first | rfl | simp [VV.cloL, VV.clo, *]) (by simp) ?_
  intro X hP hm hH hn hX
  refine vwp_ok _ ?_
  unfold vc132
  repeat' (first
    | simp only [go_sem, reduceCtorEq, reduceIte, Nat.reduceAdd, Nat.reduceEqDiff, Nat.reduceLeDiff, Nat.reduceMul, beq_self_eq_true, *]
    | refine gdO_bool' _ (fun _ => ?_) (fun _ => ?_)
    | refine gdO_bool _ (fun _ => ?_) (fun _ => ?_)
    | refine gdD_bool' _ (fun _ => ?_) (fun _ => ?_)
    | refine gdD_bool _ (fun _ => ?_) (fun _ => ?_)
    | refine cdO_bool' _ (fun _ => ?_) (fun _ => ?_)
    | refine cdO_bool _ (fun _ => ?_) (fun _ => ?_)
    | refine callO.pure (by first | exact h | exact h') ?_
    | refine callW.pure (by first | exact h | exact h') ?_
    | refine ⟨by decide, ?_⟩
    | refine ppost_t (by simp) rfl ?_)
theorem c89 (l : Doc) (hs : l.length < 4611686018427387904) (ht : ∀ b ∈ l, b.text.length < 4611686018427387904 ∧ b.table.cells.length < 4611686018427387904 ∧ ∀ c ∈ b.table.cells, c.text.length < 4611686018427387904) : PureC prog 89 [encB l, encB l] (.sc (.bool true)) := by
  unfold encB
  refine pureC_of k89 (by first | rfl | simp [VV.cloL, VV.clo, *]) (by first | rfl | simp [VV.cloL, VV.clo, *]) (by simp) ?_
  intro X hP hm hH hn hX
  refine vwp_ok _ ?_
  unfold vc89
  repeat' (first
    | simp only [go_sem, reduceCtorEq, reduceIte, Nat.reduceAdd, Nat.reduceEqDiff, Nat.reduceLeDiff, Nat.reduceMul, beq_self_eq_true, *]
    | refine gdO_bool' _ (fun _ => ?_) (fun _ => ?_)
    | refine gdO_bool _ (fun _ => ?_) (fun _ => ?_)
    | refine gdD_bool' _ (fun _ => ?_) (fun _ => ?_)
    | refine gdD_bool _ (fun _ => ?_) (fun _ => ?_)
    | refine cdO_bool' _ (fun _ => ?_) (fun _ => ?_)
    | refine cdO_bool _ (fun _ => ?_) (fun _ => ?_)
    | refine ⟨by decide, ?_⟩
    | refine ppost_t (by simp) rfl ?_)
  refine loopV hX (fun μ s H n => ∃ i : Nat, i ≤ l.length ∧ μ = l.length - i ∧ s = slotsOf [(0, .sl 6 (l.map Block.enc)), (1, .sl 6 (l.map Block.enc)), (5, .sc (.int .i64 i))] ∧ H = H0 ∧ n = 0) ?_
    ⟨l.length + 1, roundV_of hH hn [] [(0, _), (1, _), (5, _)] [] _ ⟨0, by simp, rfl, rfl, rfl, rfl⟩ (by simp) (by simp) (by simp [hm]) ?_ HConv.nil⟩
  rotate_left
  · repeat' (first | exact List.forall_mem_nil _ | refine List.forall_mem_cons.2 ⟨?_, ?_⟩ | exact .toPt (by simp only [go_sem, reduceCtorEq, reduceIte, Nat.reduceAdd, Nat.reduceEqDiff, Nat.reduceLeDiff, Nat.reduceMul, *] <;> rfl) (by simp [tau]) (by simp) | exact .toRf (by simp only [go_sem, reduceCtorEq, reduceIte, Nat.reduceAdd, Nat.reduceEqDiff, Nat.reduceLeDiff, Nat.reduceMul, *] <;> rfl) (by simp [tau]) (by simp) | exact .same (by simp only [go_sem, reduceCtorEq, reduceIte, Nat.reduceAdd, Nat.reduceEqDiff, Nat.reduceLeDiff, Nat.reduceMul, *] <;> rfl) (by first | rfl | simp [VV.cloL, VV.clo, *]))
  rintro μ s H n ⟨i, hi, rfl, rfl, rfl, rfl⟩
  rcases Nat.lt_or_ge i l.length with hlt | hge
  · have g1 := lt_dec hlt
    have g2 : (0 : Int) ≤ (i : Int) := by omega
    have g3 : (i : Int) < (l.length : Int) := by omega
    have g5 : IntKind.i64.wrap ((i : Int) + 1) = ((i + 1 : Nat) : Int) := by rw [wrap_id] <;> omega
    have g4 : (l.map Block.enc).getD i [] = (l[i]).enc := getD_map hlt
    have h := c132 l[i] (ht _ (List.getElem_mem hlt))
    generalize l[i] = c at *
    repeat' (first
      | simp only [go_sem, reduceCtorEq, reduceIte, Nat.reduceAdd, Nat.reduceEqDiff, Nat.reduceLeDiff, Nat.reduceMul, Block.encLen, Block.encTake, *]
      | refine gdO_bool' _ (fun _ => ?_) (fun _ => ?_)
      | refine gdO_bool _ (fun _ => ?_) (fun _ => ?_)
      | refine gdD_bool' _ (fun _ => ?_) (fun _ => ?_)
      | refine gdD_bool _ (fun _ => ?_) (fun _ => ?_)
      | refine cdO_bool' _ (fun _ => ?_) (fun _ => ?_)
      | refine cdO_bool _ (fun _ => ?_) (fun _ => ?_)
      | refine callO.pure (by first | exact h) ?_
      | refine callW.pure (by first | exact h) ?_
      | refine ⟨by decide, ?_⟩
      | refine ppost_t (by simp) rfl ?_)
    refine roundV_of hH hn [] [(0, _), (1, _), (5, _)] [] _ ⟨i + 1, hlt, rfl, rfl, rfl, rfl⟩ (by omega) (by simp) (by simp [hm]) ?_ HConv.nil
    repeat' (first | exact List.forall_mem_nil _ | refine List.forall_mem_cons.2 ⟨?_, ?_⟩ | exact .toPt (by simp only [go_sem, reduceCtorEq, reduceIte, Nat.reduceAdd, Nat.reduceEqDiff, Nat.reduceLeDiff, Nat.reduceMul, *] <;> rfl) (by simp [tau]) (by simp) | exact .toRf (by simp only [go_sem, reduceCtorEq, reduceIte, Nat.reduceAdd, Nat.reduceEqDiff, Nat.reduceLeDiff, Nat.reduceMul, *] <;> rfl) (by simp [tau]) (by simp) | exact .same (by simp only [go_sem, reduceCtorEq, reduceIte, Nat.reduceAdd, Nat.reduceEqDiff, Nat.reduceLeDiff, Nat.reduceMul, *] <;> rfl) (by first | rfl | simp [VV.cloL, VV.clo, *]))
  · have g1 := ge_dec hge
    repeat' (first
      | simp only [go_sem, reduceCtorEq, reduceIte, Nat.reduceAdd, Nat.reduceEqDiff, Nat.reduceLeDiff, Nat.reduceMul, *]
      | refine gdO_bool' _ (fun _ => ?_) (fun _ => ?_)
      | refine gdO_bool _ (fun _ => ?_) (fun _ => ?_)
      | refine gdD_bool' _ (fun _ => ?_) (fun _ => ?_)
      | refine gdD_bool _ (fun _ => ?_) (fun _ => ?_)
      | refine cdO_bool' _ (fun _ => ?_) (fun _ => ?_)
      | refine cdO_bool _ (fun _ => ?_) (fun _ => ?_)
      | refine ⟨by decide, ?_⟩
      | refine ppost_t (by simp) rfl ?_)
theorem c37 (d : Doc) (hs : d.length < 4611686018427387904) (ht : ∀ b ∈ d, b.text.length < 4611686018427387904 ∧ b.table.cells.length < 4611686018427387904 ∧ ∀ c ∈ b.table.cells, c.text.length < 4611686018427387904) : PureC prog 37 [.agg [encB d], .agg [encB d]] (.sc (.bool true)) := by
  have h := c89 d hs ht
  unfold encB at *
  clear ht
  refine pureC_of k37 (by first | rfl | simp [VV.cloL, VV.clo, *]) (by first | rfl | simp [VV.cloL, VV.clo, *]) (by simp) ?_
  intro X hP hm hH hn hX
  refine vwp_ok _ ?_
  unfold vc37
  repeat' (first
    | simp only [go_sem, reduceCtorEq, reduceIte, Nat.reduceAdd, Nat.reduceEqDiff, Nat.reduceLeDiff, Nat.reduceMul, *]
    | refine gdO_bool' _ (fun _ => ?_) (fun _ => ?_)
    | refine gdO_bool _ (fun _ => ?_) (fun _ => ?_)
    | refine gdD_bool' _ (fun _ => ?_) (fun _ => ?_)
    | refine gdD_bool _ (fun _ => ?_) (fun _ => ?_)
    | refine cdO_bool' _ (fun _ => ?_) (fun _ => ?_)
    | refine cdO_bool _ (fun _ => ?_) (fun _ => ?_)
    | refine callO.pure (by first | exact h) ?_
    | refine callW.pure (by first | exact h) ?_
    | refine ⟨by decide, ?_⟩
    | refine ppost_t (by simp) rfl ?_)
end Go.Proofs.Ytdmmhainianadaa

/- L1: both say the same of tables. -/
namespace Go.Lim
theorem sum_add {f g : Nat → Nat} : ∀ (n : Nat), ((List.range n).map fun i => f i + g i).sum = ((List.range n).map f).sum + ((List.range n).map g).sum
  | 0 => rfl
  | n + 1 => by simp only [List.range_succ, List.map_append, List.sum_append, List.map_cons, List.map_nil, List.sum_cons, List.sum_nil, sum_add n]; omega
theorem sum_zero : ∀ (n : Nat), ((List.range n).map fun _ => 0).sum = 0
  | 0 => rfl
  | n + 1 => by simp only [List.range_succ, List.map_append, List.sum_append, List.map_cons, List.map_nil, List.sum_cons, List.sum_nil, sum_zero n, Nat.add_zero]
theorem sum_congr {f g : Nat → Nat} {n : Nat} (h : ∀ i, i < n → f i = g i) : ((List.range n).map f).sum = ((List.range n).map g).sum := by
  congr 1
  exact List.map_congr_left fun i hi => h i (List.mem_range.1 hi)
/-- How many of 0..R-1 lie in a row of k from a. -/
theorem sum_ivl (a k v : Nat) : ∀ (R : Nat), ((List.range R).map fun i => if a ≤ i ∧ i < a + k then v else 0).sum = (min R (a + k) - min R a) * v
  | 0 => by simp
  | R + 1 => by
    simp only [List.range_succ, List.map_append, List.sum_append, List.map_cons, List.map_nil, List.sum_cons, List.sum_nil, sum_ivl a k v R]
    by_cases h : a ≤ R ∧ R < a + k
    · rw [if_pos h, show min (R + 1) (a + k) - min (R + 1) a = (min R (a + k) - min R a) + 1 by omega, Nat.add_mul]; omega
    · rw [if_neg h, show min (R + 1) (a + k) - min (R + 1) a = min R (a + k) - min R a by omega]; omega
def sq (R C : Nat) (f : Nat → Nat → Nat) : Nat := ((List.range R).map fun r => ((List.range C).map fun c => f r c).sum).sum
theorem sq_add {R C : Nat} {f g : Nat → Nat → Nat} : sq R C (fun r c => f r c + g r c) = sq R C f + sq R C g := by
  unfold sq
  rw [← sum_add]
  exact sum_congr fun r _ => sum_add C
theorem sum_le {f g : Nat → Nat} : ∀ (n : Nat), (∀ i, i < n → f i ≤ g i) → ((List.range n).map f).sum ≤ ((List.range n).map g).sum
  | 0, _ => by simp
  | n + 1, h => by
    simp only [List.range_succ, List.map_append, List.sum_append, List.map_cons, List.map_nil, List.sum_cons, List.sum_nil]
    have h1 := sum_le n fun i hi => h i (by omega)
    have h2 := h n (by omega)
    omega
theorem sum_lt {f g : Nat → Nat} : ∀ (n : Nat), (∀ i, i < n → f i ≤ g i) → (∃ i, i < n ∧ f i < g i) → ((List.range n).map f).sum < ((List.range n).map g).sum
  | 0, _, ⟨i, hi, _⟩ => by omega
  | n + 1, h, ⟨i, hi, hlt⟩ => by
    simp only [List.range_succ, List.map_append, List.sum_append, List.map_cons, List.map_nil, List.sum_cons, List.sum_nil]
    have h2 := h n (by omega)
    by_cases e : i = n
    · subst e
      have h1 := sum_le i fun j hj => h j (by omega)
      omega
    · have h1 := sum_lt n (fun j hj => h j (by omega)) ⟨i, by omega, hlt⟩
      omega
theorem sum_const (v : Nat) : ∀ (n : Nat), ((List.range n).map fun _ => v).sum = n * v
  | 0 => by simp
  | n + 1 => by simp only [List.range_succ, List.map_append, List.sum_append, List.map_cons, List.map_nil, List.sum_cons, List.sum_nil, sum_const v n, Nat.add_mul]; omega
theorem sq_one (R C : Nat) : sq R C (fun _ _ => 1) = R * C := by
  unfold sq
  simp only [sum_const, Nat.mul_one]
theorem sq_congr {R C : Nat} {f g : Nat → Nat → Nat} (h : ∀ r c, r < R → c < C → f r c = g r c) : sq R C f = sq R C g :=
  sum_congr fun r hr => sum_congr fun c hc => h r c hr hc
/-- Ones, where no less and as many in all. -/
theorem sq_ones {R C : Nat} {f : Nat → Nat → Nat} (h : ∀ r c, r < R → c < C → 1 ≤ f r c) (hs : sq R C f = R * C) : ∀ r c, r < R → c < C → f r c = 1 := by
  intro r c hr hc
  have h1 := h r c hr hc
  by_cases e : f r c = 1
  · exact e
  · exfalso
    have : sq R C (fun _ _ => 1) < sq R C f := sum_lt R (fun i hi => sum_le C fun j hj => h i j hi hj) ⟨r, hr, sum_lt C (fun j hj => h r j hr hj) ⟨c, hc, by show 1 < f r c; omega⟩⟩
    rw [sq_one, hs] at this
    omega
def inB (R C : Nat) (c : Cell) : Prop := 0 ≤ c.row ∧ c.row < R ∧ 0 ≤ c.col ∧ c.col < C ∧ 1 ≤ c.down ∧ c.row + c.down ≤ R ∧ 1 ≤ c.right ∧ c.col + c.right ≤ C
theorem has_in {R C : Nat} (hR : R ≤ 5) (hC : C ≤ 5) {c : Cell} (h : inB R C c) (r k : Nat) :
    has c r k = decide ((c.row.toNat ≤ r ∧ r < c.row.toNat + c.down.toNat) ∧ (c.col.toNat ≤ k ∧ k < c.col.toNat + c.right.toNat)) := by
  obtain ⟨h1, h2, h3, h4, h5, h6, h7, h8⟩ := h
  unfold has
  rw [wrap_id (by omega) (by omega), wrap_id (by omega) (by omega), Bool.eq_iff_iff]
  simp only [Bool.and_eq_true, decide_eq_true_eq]
  omega
theorem sq_cell {R C : Nat} (hR : R ≤ 5) (hC : C ≤ 5) {c : Cell} (h : inB R C c) : sq R C (fun r k => if has c r k = true then 1 else 0) = c.down.toNat * c.right.toNat := by
  have e : sq R C (fun r k => if has c r k = true then 1 else 0) = ((List.range R).map fun r => if c.row.toNat ≤ r ∧ r < c.row.toNat + c.down.toNat then c.right.toNat else 0).sum := by
    refine sum_congr fun r hr => ?_
    by_cases hrow : c.row.toNat ≤ r ∧ r < c.row.toNat + c.down.toNat
    · rw [if_pos hrow]
      have e2 := sum_ivl c.col.toNat c.right.toNat 1 C
      have e3 : (min C (c.col.toNat + c.right.toNat) - min C c.col.toNat) * 1 = c.right.toNat := by
        obtain ⟨h1, h2, h3, h4, h5, h6, h7, h8⟩ := h
        omega
      rw [e3] at e2
      rw [← e2]
      refine sum_congr fun k hk => ?_
      show (if has c r k = true then 1 else 0) = _
      rw [has_in hR hC h]
      simp only [hrow, and_self, true_and, decide_eq_true_eq]
    · rw [if_neg hrow]
      refine Eq.trans (sum_congr (g := fun _ => 0) fun k hk => ?_) (sum_zero C)
      show (if has c r k = true then 1 else 0) = _
      rw [has_in hR hC h]
      simp only [hrow, false_and, decide_false, Bool.false_eq_true, if_false]
  rw [e, sum_ivl]
  obtain ⟨h1, h2, h3, h4, h5, h6, h7, h8⟩ := h
  rw [show min R (c.row.toNat + c.down.toNat) - min R c.row.toNat = c.down.toNat by omega]
theorem sq_cnt {R C : Nat} (hR : R ≤ 5) (hC : C ≤ 5) : ∀ (l : List Cell), (∀ c ∈ l, inB R C c) → ((sq R C fun r k => cnt l r k : Nat) : Int) = area l ∧ (l.length : Int) ≤ area l
  | [], _ => by
    have : sq R C (fun r k => cnt [] r k) = 0 := by
      unfold sq
      rw [← sum_zero R]
      exact sum_congr fun r _ => sum_zero C
    rw [this]
    exact ⟨rfl, by simp [area]⟩
  | c :: l, h => by
    obtain ⟨ih1, ih2⟩ := sq_cnt hR hC l fun d hd => h d (by simp [hd])
    have hc := h c (by simp)
    have e : sq R C (fun r k => cnt (c :: l) r k) = sq R C (fun r k => (if has c r k = true then 1 else 0) + cnt l r k) := by
      refine sq_congr fun r k _ _ => ?_
      unfold cnt
      rw [List.filter_cons]
      by_cases hp : has c r k = true
      · simp only [hp, if_true, List.length_cons]; omega
      · simp only [hp, if_false, Bool.false_eq_true]; omega
    have ea : area (c :: l) = c.down * c.right + area l := by simp [area]
    have hm : ((c.down.toNat * c.right.toNat : Nat) : Int) = c.down * c.right := by
      obtain ⟨_, _, _, _, h5, _, h7, _⟩ := hc
      rw [Int.natCast_mul, Int.toNat_of_nonneg (by omega), Int.toNat_of_nonneg (by omega)]
    have h1 : 1 ≤ c.down * c.right := by
      obtain ⟨h1, h2, h3, h4, h5, h6, h7, h8⟩ := hc
      exact (mul_bound (by omega) (by omega) (by omega) (by omega)).1
    rw [e, sq_add, sq_cell hR hC hc, ea, List.length_cons]
    constructor
    · push_cast at ih1 hm ⊢
      omega
    · push_cast
      omega
theorem cellW_inB {t : Table} {c : Cell} (hR : within t.rows 1 5 = true) (hC : within t.cols 1 5 = true) (h : cellW t c = true) : inB t.rows.toNat t.cols.toNat c := by
  have := cellW_bounds hR hC h
  obtain ⟨h1, _, _⟩ := within_nat hR
  obtain ⟨h2, _, _⟩ := within_nat hC
  unfold inB
  omega
theorem cnt_pos (l : List Cell) (r k : Int) : (decide (idxOf (fun x => has x r k) l < 0) = false) ↔ 1 ≤ cnt l r k := by
  unfold idxOf cnt
  cases h : l.any fun x => has x r k with
  | true =>
    simp only [if_true]
    obtain ⟨x, hx, hp⟩ := List.any_eq_true.1 h
    constructor
    · intro _
      exact List.length_pos_of_mem (List.mem_filter.2 ⟨hx, hp⟩)
    · intro _; simp
  | false =>
    simp only [Bool.false_eq_true, if_false]
    have : (l.filter fun c => has c r k) = [] := by
      rw [List.filter_eq_nil_iff]
      intro x hx
      have := (List.any_eq_false.1 h) x hx
      simpa using this
    rw [this]
    simp
theorem all_cellW {t : Table} (h : (List.range t.cells.length).all (okAt t) = true) : ∀ c ∈ t.cells, cellW t c = true := by
  intro c hc
  obtain ⟨i, hi, rfl⟩ := List.getElem_of_mem hc
  have := List.all_eq_true.1 h i (List.mem_range.2 hi)
  simp only [okAt, getD_eq hi, Bool.and_eq_true] at this
  exact this.1
theorem tableOk_eq (t : Table) : tableOkI t = tableOk t := by
  cases hR : within t.rows 1 5 with
  | false => simp only [tableOkI, tableOk, form, hR, Bool.false_and]
  | true =>
  cases hC : within t.cols 1 5 with
  | false => simp only [tableOkI, tableOk, form, hR, hC, Bool.false_and, Bool.and_false]
  | true =>
  cases hA : (List.range t.cells.length).all (okAt t) with
  | false => simp only [tableOkI, tableOk, form, hA, Bool.false_and, Bool.and_false]
  | true =>
    obtain ⟨e1, _, hR5⟩ := within_nat hR
    obtain ⟨e2, _, hC5⟩ := within_nat hC
    have hin : ∀ c ∈ t.cells, inB t.rows.toNat t.cols.toNat c := fun c hc => cellW_inB hR hC (all_cellW hA c hc)
    obtain ⟨hs, hl⟩ := sq_cnt hR5 hC5 t.cells hin
    have hmul : ((t.rows.toNat * t.cols.toNat : Nat) : Int) = t.rows * t.cols := by rw [Int.natCast_mul, ← e1, ← e2]
    rw [Bool.eq_iff_iff]
    simp only [tableOkI, tableOk, form, hR, hC, hA, Bool.true_and, Bool.and_true, Bool.and_eq_true, decide_eq_true_eq, List.all_eq_true, List.mem_range, beq_iff_eq, seenRow, rowOk, seenSq, sqOk, Bool.not_eq_true']
    constructor
    · rintro ⟨h1, h2⟩
      have hone := sq_ones (f := fun r k => cnt t.cells r k) (fun r k hr hk => (cnt_pos t.cells r k).1 (h1 r hr k hk)) (by omega)
      refine ⟨?_, fun r hr k hk => hone r k hr hk⟩
      have : t.rows.toNat * t.cols.toNat ≤ 5 * 5 := Nat.mul_le_mul hR5 hC5
      omega
    · rintro ⟨_, h2⟩
      have : sq t.rows.toNat t.cols.toNat (fun r k => cnt t.cells r k) = t.rows.toNat * t.cols.toNat := by
        rw [← sq_one]
        exact sq_congr fun r k hr hk => h2 r hr k hk
      exact ⟨fun r hr k hk => (cnt_pos t.cells r k).2 (by rw [h2 r hr k hk]; exact Nat.le_refl _), by omega⟩
end Go.Lim

/- L2: both say the same of documents and places. -/
namespace Go.Lim
theorem blockOk_eq (b : Block) : blockOk tableOkI b = blockOk tableOk b := by
  unfold blockOk
  rw [tableOk_eq]
theorem blockOk_lvl {b : Block} (h : blockOk tableOk b = true) : 0 ≤ b.level ∧ b.level ≤ 3 ∧ ((b.kind == 2) = false → b.level = 0) := by
  unfold blockOk at h
  split at h
  · simp only [Bool.and_eq_true, beq_iff_eq] at h
    exact ⟨by omega, by omega, fun _ => h.1.1⟩
  · split at h
    · rename_i h2
      simp only [Bool.and_eq_true, within, decide_eq_true_eq] at h
      exact ⟨h.1.1.1, h.1.1.2, fun e => by rw [h2] at e; exact absurd e (by simp)⟩
    · split at h
      · simp only [Bool.and_eq_true, beq_iff_eq] at h
        exact ⟨by omega, by omega, fun _ => h.1.1⟩
      · simp at h
theorem docAt_eq {d : Doc} {i : Nat} (hp : i = 0 ∨ blockOk tableOk (d.getD (i - 1) noBlock) = true) : docAtI d i = docAt d i := by
  unfold docAtI docAt
  rw [blockOk_eq]
  cases hb : blockOk tableOk (d.getD i noBlock) with
  | false => rfl
  | true =>
    obtain ⟨h1, h2, h3⟩ := blockOk_lvl hb
    simp only [Bool.true_and]
    have hm : mostAt d i = IntKind.i64.wrap (aheadAt d i + 1) ∧ 0 ≤ mostAt d i := by
      unfold mostAt aheadAt
      by_cases h0 : (i == 0) = true
      · simp only [h0, if_true]; exact ⟨rfl, by decide⟩
      · simp only [h0, Bool.false_eq_true, if_false]
        by_cases hk : ((d.getD (i - 1) noBlock).kind == 2) = true
        · simp only [hk, if_true, true_and]
          have hp := hp.resolve_left (by simpa using h0)
          obtain ⟨g1, g2, _⟩ := blockOk_lvl hp
          rw [wrap_id (by omega) (by omega)]
          omega
        · simp only [hk, Bool.false_eq_true, if_false]; exact ⟨rfl, by decide⟩
    rw [← hm.1]
    cases hk : (d.getD i noBlock).kind == 2 with
    | true => simp
    | false =>
      have := h3 hk
      simp only [Bool.false_and, Bool.not_false, Bool.not_eq_true', decide_eq_false_iff_not]
      omega
theorem docOk_eq (d : Doc) : docOkI d = docOk d := by
  unfold docOkI docOk
  rw [Bool.and_comm]
  congr 1
  rw [Bool.eq_iff_iff]
  simp only [List.all_eq_true, List.mem_range]
  constructor
  · intro h i hi
    rw [← docAt_eq]
    · exact h i hi
    · by_cases h0 : i = 0
      · exact .inl h0
      · right
        have := h (i - 1) (by omega)
        simp only [docAtI, Bool.and_eq_true, blockOk_eq] at this
        exact this.1
  · intro h i hi
    rw [docAt_eq]
    · exact h i hi
    · by_cases h0 : i = 0
      · exact .inl h0
      · right
        have := h (i - 1) (by omega)
        simp only [docAt, Bool.and_eq_true] at this
        exact this.1
theorem docOk_fun : docOkI = docOk := funext docOk_eq
end Go.Lim

/- G: arguments that fit the documents' shapes are documents. -/
namespace Go.Lim
open Go.VM
theorem rows_list {α : Type} {enc : α → List VV} {Q : α → Prop} : ∀ {rows : List (List VV)}, (∀ r ∈ rows, ∃ x, r = enc x ∧ Q x) → ∃ l : List α, rows = l.map enc ∧ ∀ x ∈ l, Q x
  | [], _ => ⟨[], rfl, fun x h => by simp at h⟩
  | r :: rows, h => by
    obtain ⟨x, rfl, hx⟩ := h r (by simp)
    obtain ⟨l, rfl, hl⟩ := rows_list (rows := rows) fun q hq => h q (by simp [hq])
    exact ⟨x :: l, rfl, fun y hy => (List.mem_cons.1 hy).elim (fun e => e ▸ hx) (hl y)⟩
def shSign : Sh := .st [.int .u8, .int .i64, .int .i64]
def shCell : Sh := .st [.int .i64, .int .i64, .int .i64, .int .i64, .sl 3 shSign]
def shTable : Sh := .st [.int .i64, .int .i64, .sl 5 shCell]
def shBlock : Sh := .st [.int .i64, .int .i64, .sl 3 shSign, shTable]
def shDoc : Sh := .st [.sl 6 shBlock]
def shSpot : Sh := .st [.int .i64, .int .i64, .int .i64]
def int64 (n : Int) : Prop := -9223372036854775808 ≤ n ∧ n < 9223372036854775808
theorem wf_i64 {n : Int} (h : (Lit.int .i64 n).wf = true) : int64 n := by
  have h : IntKind.i64.min ≤ n ∧ n ≤ 9223372036854775807 := by simpa [Lit.wf] using h
  have e : IntKind.i64.min = -9223372036854775808 := by decide
  unfold int64
  omega
theorem fits_int {k : IntKind} {xs : List VV} (h : Fits (.int k) xs) : ∃ n, xs = [.sc (.int k n)] ∧ (Lit.int k n).wf = true := by simpa only [Fits] using h
theorem fits_sl {z : Nat} {e : Sh} {xs : List VV} (h : Fits (.sl z e) xs) : ∃ rows : List (List VV), xs = [.sl z rows] ∧ rows.length ≤ maxLen ∧ ∀ r ∈ rows, r.length = z ∧ Fits e r := by simpa only [Fits] using h
theorem fits_sign {xs : List VV} (h : Fits shSign xs) : ∃ x : Sign, xs = x.enc := by
  simp only [shSign, Fits, FitsL] at h
  obtain ⟨_, _, rfl, ⟨a, rfl, _⟩, _, _, rfl, ⟨b, rfl, _⟩, _, _, rfl, ⟨c, rfl, _⟩, rfl⟩ := h
  exact ⟨⟨a, b, c⟩, rfl⟩
theorem fits_text {xs : List VV} (h : Fits (.sl 3 shSign) xs) : ∃ l : Text, xs = [encT l] ∧ l.length < 9223372036854775808 := by
  obtain ⟨rows, rfl, hl, hr⟩ := fits_sl h
  obtain ⟨l, rfl, _⟩ := rows_list (enc := Sign.enc) (Q := fun _ => True) fun r hr' => (fits_sign (hr r hr').2).imp fun x hx => ⟨hx, trivial⟩
  refine ⟨l, rfl, ?_⟩
  simp only [List.length_map, maxLen] at hl
  omega
theorem fits_cell {xs : List VV} (h : Fits shCell xs) : ∃ x : Cell, xs = x.enc ∧ x.text.length < 9223372036854775808 := by
  simp only [shCell, Fits, FitsL] at h
  obtain ⟨_, _, rfl, ⟨a, rfl, _⟩, _, _, rfl, ⟨b, rfl, _⟩, _, _, rfl, ⟨c, rfl, _⟩, _, _, rfl, ⟨d, rfl, _⟩, ys, _, rfl, ht, rfl⟩ := h
  obtain ⟨l, rfl, hl⟩ := fits_text (xs := ys) (by simpa only [Fits] using ht)
  exact ⟨⟨a, b, c, d, l⟩, rfl, hl⟩
theorem fits_cells {xs : List VV} (h : Fits (.sl 5 shCell) xs) : ∃ l : List Cell, xs = [encC l] ∧ l.length < 9223372036854775808 ∧ ∀ c ∈ l, c.text.length < 9223372036854775808 := by
  obtain ⟨rows, rfl, hl, hr⟩ := fits_sl h
  obtain ⟨l, rfl, hq⟩ := rows_list (enc := Cell.enc) (Q := fun c => c.text.length < 9223372036854775808) fun r hr' => fits_cell (hr r hr').2
  refine ⟨l, rfl, ?_, hq⟩
  simp only [List.length_map, maxLen] at hl
  omega
theorem fits_block {xs : List VV} (h : Fits shBlock xs) : ∃ x : Block, xs = x.enc ∧ x.text.length < 9223372036854775808 ∧ x.table.cells.length < 9223372036854775808 ∧ ∀ c ∈ x.table.cells, c.text.length < 9223372036854775808 := by
  simp only [shBlock, shTable, Fits, FitsL] at h
  obtain ⟨_, _, rfl, ⟨a, rfl, _⟩, _, _, rfl, ⟨b, rfl, _⟩, ys, _, rfl, ht, _, _, rfl, ⟨_, _, rfl, ⟨c, rfl, _⟩, _, _, rfl, ⟨d, rfl, _⟩, zs, _, rfl, hc, rfl⟩, rfl⟩ := h
  obtain ⟨l, rfl, hl⟩ := fits_text (xs := ys) (by simpa only [Fits] using ht)
  obtain ⟨cs, rfl, h1, h2⟩ := fits_cells (xs := zs) (by simpa only [Fits] using hc)
  exact ⟨⟨a, b, l, ⟨c, d, cs⟩⟩, rfl, hl, h1, h2⟩
def docLen (d : Doc) : Prop := d.length < 9223372036854775808 ∧ ∀ b ∈ d, b.text.length < 9223372036854775808 ∧ b.table.cells.length < 9223372036854775808 ∧ ∀ c ∈ b.table.cells, c.text.length < 9223372036854775808
theorem fits_doc {xs : List VV} (h : Fits shDoc xs) : ∃ d : Doc, xs = [encB d] ∧ docLen d := by
  simp only [shDoc, Fits, FitsL] at h
  obtain ⟨ys, _, rfl, hr, rfl⟩ := h
  obtain ⟨rows, rfl, hl, hr⟩ := fits_sl (xs := ys) (by simpa only [Fits] using hr)
  obtain ⟨d, rfl, hq⟩ := rows_list (enc := Block.enc) (Q := fun x => x.text.length < 9223372036854775808 ∧ x.table.cells.length < 9223372036854775808 ∧ ∀ c ∈ x.table.cells, c.text.length < 9223372036854775808) fun r hr' => fits_block (hr r hr').2
  refine ⟨d, rfl, ?_, hq⟩
  simp only [List.length_map, maxLen] at hl
  omega
theorem fits_spot {xs : List VV} (h : Fits shSpot xs) : ∃ p : Spot, xs = p.enc ∧ int64 p.block ∧ int64 p.cell ∧ int64 p.pos := by
  simp only [shSpot, Fits, FitsL] at h
  obtain ⟨_, _, rfl, ⟨a, rfl, h1⟩, _, _, rfl, ⟨b, rfl, h2⟩, _, _, rfl, ⟨c, rfl, h3⟩, rfl⟩ := h
  exact ⟨⟨a, b, c⟩, rfl, wf_i64 h1, wf_i64 h2, wf_i64 h3⟩
def encBy (l : List Int) : VV := .sl 1 (l.map fun b => [.sc (.int .u8 b)])
theorem fits_bytes {xs : List VV} (h : Fits (.sl 1 (.int .u8)) xs) : ∃ l : List Int, xs = [encBy l] ∧ l.length < 9223372036854775808 ∧ ∀ b ∈ l, (Lit.int .u8 b).wf = true := by
  obtain ⟨rows, rfl, hl, hr⟩ := fits_sl h
  obtain ⟨l, rfl, hq⟩ := rows_list (enc := fun b => [VV.sc (.int .u8 b)]) (Q := fun b => (Lit.int .u8 b).wf = true) fun r hr' => fits_int (hr r hr').2
  refine ⟨l, rfl, ?_, hq⟩
  simp only [List.length_map, maxLen] at hl
  omega
end Go.Lim

/- F21: the laws on where a place is now, and was. -/
namespace Go.Proofs.Ytdmmhainianadaa
open Go.VM Go.Lim Go.Proofs.Try
attribute [local irreducible] vwp vops vstep vdr vdr1 CallP PPost SWv gdO gdD cdO optV optW optD thenV blockV behind callO callW callvO roundV
set_option linter.unusedSimpArgs false
set_option linter.unusedVariables false
/- loop.example/limner/laws.FnExactSpotNow -/
def vc3 : VCode :=
(.seq (.reg [⟨(some 2), (.box (.tmp 0)), none⟩, ⟨(some 3), (.box (.tmp 1)), none⟩, ⟨(some 4), (.mov (.const (.bool false))), none⟩])
(.seq (.reg [⟨(some 5), (.mov (.const (.int .i64 1048576))), none⟩])
(.seq (.reg [⟨(some 9), (.load true 1 (.tmp 2)), none⟩, ⟨(some 10), (.mov (.tmp 5)), none⟩, ⟨(some 11), (.call 31 [(.tmp 9), (.tmp 10)]), none⟩, ⟨(some 5), (.mov (.tmp 11)), none⟩])
(.seq (.seq (.reg [⟨(some 12), (.mov (.tmp 5)), none⟩, ⟨(some 13), (.bin .lss .no (.tmp 12) (.const (.int .i64 0))), none⟩])
(.cond (.tmp 13) (.seq (.reg [⟨(some 4), (.mov (.const (.bool true))), none⟩])
 .ret)
 .skip))
(.seq (.drw [(⟨(some 14), (.load true 1 (.tmp 2)), none⟩, []), (⟨(some 15), (.call 33 [(.tmp 14)]), none⟩, []), (⟨(some 16), (.load true 3 (.tmp 3)), none⟩, [0, 1]), (⟨(some 17), (.call 34 [(.tmp 16)]), none⟩, []), (⟨(some 18), (.call 32 [(.tmp 15), (.tmp 17)]), none⟩, []), (⟨(some 6), (.new [(.int .i64 0), (.int .i64 0), (.int .i64 0)]), none⟩, [0, 1, 2, 3, 4]), (⟨none, (.store 3 (.tmp 6) (.tmp 18)), none⟩, [])])
(.seq (.reg [⟨(some 19), (.load true 1 (.tmp 2)), none⟩, ⟨(some 20), (.call 33 [(.tmp 19)]), none⟩, ⟨(some 7), (.new [(.slice none 0 0)]), none⟩, ⟨none, (.store 1 (.tmp 7) (.tmp 20)), none⟩])
(.seq (.drw [(⟨(some 21), (.load true 1 (.tmp 7)), none⟩, []), (⟨(some 22), (.load true 3 (.tmp 3)), none⟩, [0]), (⟨(some 23), (.call 34 [(.tmp 22)]), none⟩, [0]), (⟨(some 24), (.call 35 [(.tmp 21), (.tmp 23)]), none⟩, []), (⟨(some 8), (.new [(.int .i64 0), (.int .i64 0), (.int .i64 0)]), none⟩, [0, 1, 2, 3]), (⟨none, (.store 3 (.tmp 8) (.tmp 24)), none⟩, [])])
(.seq (.seq (.reg [⟨(some 25), (.load true 3 (.tmp 8)), none⟩, ⟨(some 26), (.load true 3 (.tmp 6)), none⟩, ⟨(some 27), (.call 36 [(.tmp 25), (.tmp 26)]), none⟩, ⟨(some 28), (.un .not (.tmp 27)), none⟩])
(.cond (.tmp 28) (.seq (.reg [⟨(some 4), (.mov (.const (.bool false))), none⟩])
 .ret)
 .skip))
(.seq (.seq (.drw [(⟨(some 29), (.load true 1 (.tmp 7)), none⟩, []), (⟨(some 30), (.load true 1 (.tmp 2)), none⟩, [0]), (⟨(some 31), (.call 33 [(.tmp 30)]), none⟩, [0]), (⟨(some 32), (.call 37 [(.tmp 29), (.tmp 31)]), none⟩, []), (⟨(some 33), (.un .not (.tmp 32)), none⟩, [])])
(.cond (.tmp 33) (.seq (.reg [⟨(some 4), (.mov (.const (.bool false))), none⟩])
 .ret)
 .skip))
(.seq (.reg [⟨(some 4), (.mov (.const (.bool true))), none⟩])
.ret))))))))))
theorem k3 : compFn prog 3 = some (34, vc3, [.t 4]) := by kernel_rfl
/- loop.example/limner/laws.FnExactSpotWas -/
def vc4 : VCode :=
(.seq (.reg [⟨(some 2), (.box (.tmp 0)), none⟩, ⟨(some 3), (.box (.tmp 1)), none⟩, ⟨(some 4), (.mov (.const (.bool false))), none⟩])
(.seq (.reg [⟨(some 5), (.mov (.const (.int .i64 1048576))), none⟩])
(.seq (.reg [⟨(some 9), (.load true 1 (.tmp 2)), none⟩, ⟨(some 10), (.mov (.tmp 5)), none⟩, ⟨(some 11), (.call 31 [(.tmp 9), (.tmp 10)]), none⟩, ⟨(some 5), (.mov (.tmp 11)), none⟩])
(.seq (.seq (.reg [⟨(some 12), (.mov (.tmp 5)), none⟩, ⟨(some 13), (.bin .lss .no (.tmp 12) (.const (.int .i64 0))), none⟩])
(.cond (.tmp 13) (.seq (.reg [⟨(some 4), (.mov (.const (.bool true))), none⟩])
 .ret)
 .skip))
(.seq (.drw [(⟨(some 14), (.load true 1 (.tmp 2)), none⟩, []), (⟨(some 15), (.call 33 [(.tmp 14)]), none⟩, []), (⟨(some 16), (.load true 3 (.tmp 3)), none⟩, [0, 1]), (⟨(some 17), (.call 34 [(.tmp 16)]), none⟩, []), (⟨(some 18), (.call 38 [(.tmp 15), (.tmp 17)]), none⟩, []), (⟨(some 6), (.new [(.int .i64 0), (.int .i64 0), (.int .i64 0)]), none⟩, [0, 1, 2, 3, 4]), (⟨none, (.store 3 (.tmp 6) (.tmp 18)), none⟩, [])])
(.seq (.reg [⟨(some 19), (.load true 1 (.tmp 2)), none⟩, ⟨(some 20), (.call 33 [(.tmp 19)]), none⟩, ⟨(some 7), (.new [(.slice none 0 0)]), none⟩, ⟨none, (.store 1 (.tmp 7) (.tmp 20)), none⟩])
(.seq (.drw [(⟨(some 21), (.load true 1 (.tmp 7)), none⟩, []), (⟨(some 22), (.load true 3 (.tmp 3)), none⟩, [0]), (⟨(some 23), (.call 34 [(.tmp 22)]), none⟩, [0]), (⟨(some 24), (.call 39 [(.tmp 21), (.tmp 23)]), none⟩, []), (⟨(some 8), (.new [(.int .i64 0), (.int .i64 0), (.int .i64 0)]), none⟩, [0, 1, 2, 3]), (⟨none, (.store 3 (.tmp 8) (.tmp 24)), none⟩, [])])
(.seq (.seq (.reg [⟨(some 25), (.load true 3 (.tmp 8)), none⟩, ⟨(some 26), (.load true 3 (.tmp 6)), none⟩, ⟨(some 27), (.call 36 [(.tmp 25), (.tmp 26)]), none⟩, ⟨(some 28), (.un .not (.tmp 27)), none⟩])
(.cond (.tmp 28) (.seq (.reg [⟨(some 4), (.mov (.const (.bool false))), none⟩])
 .ret)
 .skip))
(.seq (.seq (.drw [(⟨(some 29), (.load true 1 (.tmp 7)), none⟩, []), (⟨(some 30), (.load true 1 (.tmp 2)), none⟩, [0]), (⟨(some 31), (.call 33 [(.tmp 30)]), none⟩, [0]), (⟨(some 32), (.call 37 [(.tmp 29), (.tmp 31)]), none⟩, []), (⟨(some 33), (.un .not (.tmp 32)), none⟩, [])])
(.cond (.tmp 33) (.seq (.reg [⟨(some 4), (.mov (.const (.bool false))), none⟩])
 .ret)
 .skip))
(.seq (.reg [⟨(some 4), (.mov (.const (.bool true))), none⟩])
.ret))))))))))
theorem k4 : compFn prog 4 = some (34, vc4, [.t 4]) := by kernel_rfl
theorem sum_mem_le {α : Type} (f : α → Nat) : ∀ {l : List α} {x : α}, x ∈ l → f x ≤ (l.map f).sum
  | y :: l, x, h => by
    simp only [List.map_cons, List.sum_cons]
    rcases List.mem_cons.1 h with rfl | h
    · omega
    · have := sum_mem_le f h; omega
theorem wD_ti {d : Doc} (h : wD d ≤ 1048576) : docTi d := by
  unfold wD at h
  refine ⟨by omega, fun b hb => ?_⟩
  have h1 := sum_mem_le (fun c => wB c) hb
  simp only [wB, wC] at h1 h
  refine ⟨by omega, by omega, fun c hc => ?_⟩
  have h2 := sum_mem_le (fun c : Cell => c.text.length) hc
  omega
theorem ti_sm {d : Doc} (h : docTi d) : docSm d := by
  refine ⟨by have := h.1; omega, fun b hb => ?_⟩
  obtain ⟨h1, h2, h3⟩ := h.2 b hb
  exact ⟨by omega, by omega, fun c hc => by have := h3 c hc; unfold Cell.sm; omega⟩
theorem ti_62 {d : Doc} (h : docTi d) : d.length < 4611686018427387904 ∧ ∀ b ∈ d, b.text.length < 4611686018427387904 ∧ b.table.cells.length < 4611686018427387904 ∧ ∀ c ∈ b.table.cells, c.text.length < 4611686018427387904 := by
  refine ⟨by have := h.1; omega, fun b hb => ?_⟩
  obtain ⟨h1, h2, h3⟩ := h.2 b hb
  exact ⟨by omega, by omega, fun c hc => by have := h3 c hc; omega⟩
theorem c3 (d : Doc) (p : Spot) (hd : docLen d) : PureC prog 3 [.agg [encB d], .agg p.enc] (.sc (.bool true)) := by
  have h31 := c31 d 1048576 (by omega) (by omega) hd.1 hd.2
  rcases Nat.lt_or_ge 1048576 (wD d) with hbig | hsm
  · rw [cutI_neg (by omega)] at h31
    have k1 : decide ((-1 : Int) < 0) = true := by decide
    unfold encB at *
    unfold Spot.enc
    clear hd
    refine pureC_of k3 (by first | rfl | simp [VV.cloL, VV.clo, *]) (by first | rfl | simp [VV.cloL, VV.clo, *]) (by simp) ?_
    intro X hP hm hH hn hX
    refine vwp_ok _ ?_
    unfold vc3
    repeat' (first
      | simp only [go_sem, reduceCtorEq, reduceIte, Nat.reduceAdd, Nat.reduceEqDiff, Nat.reduceLeDiff, Nat.reduceMul, *]
      | refine gdO_bool' _ (fun _ => ?_) (fun _ => ?_)
      | refine gdO_bool _ (fun _ => ?_) (fun _ => ?_)
      | refine gdD_bool' _ (fun _ => ?_) (fun _ => ?_)
      | refine gdD_bool _ (fun _ => ?_) (fun _ => ?_)
      | refine cdO_bool' _ (fun _ => ?_) (fun _ => ?_)
      | refine cdO_bool _ (fun _ => ?_) (fun _ => ?_)
      | refine callO.pure (by first | exact h31) ?_
      | refine callW.pure (by first | exact h31) ?_
      | refine ⟨by decide, ?_⟩
      | refine ppost_t (by simp) rfl ?_)
  · rw [cutI_pos (by omega)] at h31
    have hti := wD_ti hsm
    have k1 : decide (1048576 - (wD d : Int) < 0) = false := by simp; omega
    have h33 := c33 d hti
    have h34 := c34 p
    have h32 := c32 d p
    have h35 := c35 d p (ti_sm hti)
    rw [docOk_fun] at h35
    have h36 := c36 (spotBy nowB docOk d p) (spotBy nowB docOk d p)
    simp only [beq_self_eq_true, Bool.and_self] at h36
    have h37 := c37 d (ti_62 hti).1 (ti_62 hti).2
    generalize spotBy nowB docOk d p = q at *
    unfold encB Spot.enc at *
    clear hd hti hsm
    refine pureC_of k3 (by first | rfl | simp [VV.cloL, VV.clo, *]) (by first | rfl | simp [VV.cloL, VV.clo, *]) (by simp) ?_
    intro X hP hm hH hn hX
    refine vwp_ok _ ?_
    unfold vc3
    repeat' (first
      | simp only [go_sem, reduceCtorEq, reduceIte, Nat.reduceAdd, Nat.reduceEqDiff, Nat.reduceLeDiff, Nat.reduceMul, *]
      | refine gdO_bool' _ (fun _ => ?_) (fun _ => ?_)
      | refine gdO_bool _ (fun _ => ?_) (fun _ => ?_)
      | refine gdD_bool' _ (fun _ => ?_) (fun _ => ?_)
      | refine gdD_bool _ (fun _ => ?_) (fun _ => ?_)
      | refine cdO_bool' _ (fun _ => ?_) (fun _ => ?_)
      | refine cdO_bool _ (fun _ => ?_) (fun _ => ?_)
      | refine callO.pure (by first | exact h31 | exact h33 | exact h34 | exact h32 | exact h35 | exact h36 | exact h37) ?_
      | refine callW.pure (by first | exact h31 | exact h33 | exact h34 | exact h32 | exact h35 | exact h36 | exact h37) ?_
      | refine ⟨by decide, ?_⟩
      | refine ppost_t (by simp) rfl ?_)
theorem c4 (d : Doc) (p : Spot) (hd : docLen d) : PureC prog 4 [.agg [encB d], .agg p.enc] (.sc (.bool true)) := by
  have h31 := c31 d 1048576 (by omega) (by omega) hd.1 hd.2
  rcases Nat.lt_or_ge 1048576 (wD d) with hbig | hsm
  · rw [cutI_neg (by omega)] at h31
    have k1 : decide ((-1 : Int) < 0) = true := by decide
    unfold encB at *
    unfold Spot.enc
    clear hd
    refine pureC_of k4 (by first | rfl | simp [VV.cloL, VV.clo, *]) (by first | rfl | simp [VV.cloL, VV.clo, *]) (by simp) ?_
    intro X hP hm hH hn hX
    refine vwp_ok _ ?_
    unfold vc4
    repeat' (first
      | simp only [go_sem, reduceCtorEq, reduceIte, Nat.reduceAdd, Nat.reduceEqDiff, Nat.reduceLeDiff, Nat.reduceMul, *]
      | refine gdO_bool' _ (fun _ => ?_) (fun _ => ?_)
      | refine gdO_bool _ (fun _ => ?_) (fun _ => ?_)
      | refine gdD_bool' _ (fun _ => ?_) (fun _ => ?_)
      | refine gdD_bool _ (fun _ => ?_) (fun _ => ?_)
      | refine cdO_bool' _ (fun _ => ?_) (fun _ => ?_)
      | refine cdO_bool _ (fun _ => ?_) (fun _ => ?_)
      | refine callO.pure (by first | exact h31) ?_
      | refine callW.pure (by first | exact h31) ?_
      | refine ⟨by decide, ?_⟩
      | refine ppost_t (by simp) rfl ?_)
  · rw [cutI_pos (by omega)] at h31
    have hti := wD_ti hsm
    have k1 : decide (1048576 - (wD d : Int) < 0) = false := by simp; omega
    have h33 := c33 d hti
    have h34 := c34 p
    have h32 := c38 d p
    have h35 := c39 d p (ti_sm hti)
    rw [docOk_fun] at h35
    have h36 := c36 (spotBy wasB docOk d p) (spotBy wasB docOk d p)
    simp only [beq_self_eq_true, Bool.and_self] at h36
    have h37 := c37 d (ti_62 hti).1 (ti_62 hti).2
    generalize spotBy wasB docOk d p = q at *
    unfold encB Spot.enc at *
    clear hd hti hsm
    refine pureC_of k4 (by first | rfl | simp [VV.cloL, VV.clo, *]) (by first | rfl | simp [VV.cloL, VV.clo, *]) (by simp) ?_
    intro X hP hm hH hn hX
    refine vwp_ok _ ?_
    unfold vc4
    repeat' (first
      | simp only [go_sem, reduceCtorEq, reduceIte, Nat.reduceAdd, Nat.reduceEqDiff, Nat.reduceLeDiff, Nat.reduceMul, *]
      | refine gdO_bool' _ (fun _ => ?_) (fun _ => ?_)
      | refine gdO_bool _ (fun _ => ?_) (fun _ => ?_)
      | refine gdD_bool' _ (fun _ => ?_) (fun _ => ?_)
      | refine gdD_bool _ (fun _ => ?_) (fun _ => ?_)
      | refine cdO_bool' _ (fun _ => ?_) (fun _ => ?_)
      | refine cdO_bool _ (fun _ => ?_) (fun _ => ?_)
      | refine callO.pure (by first | exact h31 | exact h33 | exact h34 | exact h32 | exact h35 | exact h36 | exact h37) ?_
      | refine callW.pure (by first | exact h31 | exact h33 | exact h34 | exact h32 | exact h35 | exact h36 | exact h37) ?_
      | refine ⟨by decide, ?_⟩
      | refine ppost_t (by simp) rfl ?_)
end Go.Proofs.Ytdmmhainianadaa

/- F22: the least place that is a place now; the law on it. -/
namespace Go.Proofs.Ytdmmhainianadaa
open Go.VM Go.Lim Go.Proofs.Try
attribute [local irreducible] vwp vops vstep vdr vdr1 CallP PPost SWv gdO gdD cdO optV optW optD thenV blockV behind callO callW callvO roundV
set_option linter.unusedSimpArgs false
set_option linter.unusedVariables false
/- loop.example/limner/spec.SpotRaw -/
def vc42 : VCode :=
(.seq (.reg [⟨(some 2), (.box (.tmp 0)), none⟩, ⟨(some 3), (.box (.tmp 1)), none⟩, ⟨(some 4), (.new [(.int .i64 0), (.int .i64 0), (.int .i64 0)]), none⟩, ⟨(some 5), (.mov (.const (.bool false))), none⟩])
(.seq (.reg [⟨(some 9), (.fad 2 (.tmp 3)), none⟩, ⟨(some 10), (.load false 1 (.tmp 9)), none⟩, ⟨(some 6), (.mov (.tmp 10)), none⟩])
(.seq (.reg [⟨(some 11), (.fad 2 (.tmp 3)), none⟩, ⟨none, (.store 1 (.tmp 11) (.const (.int .i64 0))), none⟩])
(.seq (.seq (.reg [⟨(some 12), (.load true 1 (.tmp 2)), none⟩, ⟨(some 13), (.load true 3 (.tmp 3)), none⟩, ⟨(some 14), (.call 41 [(.tmp 12), (.tmp 13)]), none⟩, ⟨(some 15), (.un .not (.tmp 14)), none⟩])
(.cond (.tmp 15) (.seq (.reg [⟨(some 16), (.build [(.int .i64 0), (.int .i64 0), (.int .i64 0)] []), none⟩, ⟨none, (.store 3 (.tmp 4) (.tmp 16)), none⟩, ⟨(some 5), (.mov (.const (.bool false))), none⟩])
 .ret)
 .skip))
(.seq (.seq (.reg [⟨(some 7), (.mov (.const (.int .i64 0))), none⟩])
(.block 0 (.loop (.seq (.seq (.reg [⟨(some 17), (.mov (.tmp 7)), none⟩, ⟨(some 18), (.load true 1 (.tmp 2)), none⟩, ⟨(some 19), (.load true 3 (.tmp 3)), none⟩, ⟨(some 20), (.call 86 [(.tmp 18), (.tmp 19)]), none⟩, ⟨(some 21), (.len false (.tmp 20)), none⟩, ⟨(some 22), (.bin .leq .no (.tmp 17) (.tmp 21)), none⟩])
  (.cond (.tmp 22) .skip
   (.exit 0)))
  (.seq (.block 1 (.seq (.reg [⟨(some 25), (.fad 0 (.tmp 3)), none⟩, ⟨(some 26), (.load false 1 (.tmp 25)), none⟩, ⟨(some 27), (.fad 1 (.tmp 3)), none⟩, ⟨(some 28), (.load false 1 (.tmp 27)), none⟩, ⟨(some 29), (.mov (.tmp 7)), none⟩, ⟨(some 30), (.build [(.int .i64 0), (.int .i64 0), (.int .i64 0)] [(0, 1, (.tmp 26)), (1, 1, (.tmp 28)), (2, 1, (.tmp 29))]), none⟩, ⟨(some 8), (.new [(.int .i64 0), (.int .i64 0), (.int .i64 0)]), none⟩, ⟨none, (.store 3 (.tmp 8) (.tmp 30)), none⟩])
   (.seq (.reg [⟨(some 31), (.load true 1 (.tmp 2)), none⟩, ⟨(some 32), (.load true 3 (.tmp 8)), none⟩, ⟨(some 33), (.call 32 [(.tmp 31), (.tmp 32)]), none⟩, ⟨(some 34), (.fld false 2 1 (.tmp 33)), none⟩, ⟨(some 35), (.mov (.tmp 6)), none⟩, ⟨(some 36), (.bin .eql .no (.tmp 34) (.tmp 35)), none⟩])
   (.cond (.tmp 36) (.seq (.reg [⟨(some 37), (.load true 3 (.tmp 8)), none⟩, ⟨none, (.store 3 (.tmp 4) (.tmp 37)), none⟩, ⟨(some 5), (.mov (.const (.bool true))), none⟩])
    .ret)
    .skip))))
  (.reg [⟨(some 23), (.mov (.tmp 7)), none⟩, ⟨(some 24), (.bin .add .no (.tmp 23) (.const (.int .i64 1))), none⟩, ⟨(some 7), (.mov (.tmp 24)), none⟩]))))))
(.seq (.reg [⟨(some 38), (.build [(.int .i64 0), (.int .i64 0), (.int .i64 0)] []), none⟩, ⟨none, (.store 3 (.tmp 4) (.tmp 38)), none⟩, ⟨(some 5), (.mov (.const (.bool false))), none⟩])
.ret))))))
theorem k42 : compFn prog 42 = some (39, vc42, [.c 4 true 3, .t 5]) := by kernel_rfl
/- loop.example/limner/impl.SpotRaw -/
def vc43 : VCode :=
(.seq (.reg [⟨(some 2), (.box (.tmp 0)), none⟩, ⟨(some 3), (.box (.tmp 1)), none⟩, ⟨(some 4), (.new [(.int .i64 0), (.int .i64 0), (.int .i64 0)]), none⟩, ⟨(some 5), (.mov (.const (.bool false))), none⟩])
(.seq (.seq (.reg [⟨(some 6), (.mov (.const (.int .i64 0))), none⟩])
(.block 0 (.loop (.seq (.seq (.reg [⟨(some 8), (.mov (.tmp 6)), none⟩, ⟨(some 9), (.bin .leq .no (.tmp 8) (.const (.int .i64 24))), none⟩])
  (.cond (.tmp 9) .skip
   (.exit 0)))
  (.seq (.block 1 (.seq (.reg [⟨(some 12), (.fad 0 (.tmp 3)), none⟩, ⟨(some 13), (.load false 1 (.tmp 12)), none⟩, ⟨(some 14), (.fad 1 (.tmp 3)), none⟩, ⟨(some 15), (.load false 1 (.tmp 14)), none⟩, ⟨(some 16), (.mov (.tmp 6)), none⟩, ⟨(some 17), (.build [(.int .i64 0), (.int .i64 0), (.int .i64 0)] [(0, 1, (.tmp 13)), (1, 1, (.tmp 15)), (2, 1, (.tmp 16))]), none⟩, ⟨(some 7), (.new [(.int .i64 0), (.int .i64 0), (.int .i64 0)]), none⟩, ⟨none, (.store 3 (.tmp 7) (.tmp 17)), none⟩])
   (.seq (.drw [(⟨(some 18), (.load true 1 (.tmp 2)), none⟩, []), (⟨(some 19), (.load true 3 (.tmp 7)), none⟩, [0]), (⟨(some 20), (.call 62 [(.tmp 18), (.tmp 19)]), none⟩, []), (⟨(some 21), (.mov (.tmp 20)), none⟩, []), (⟨(some 22), (.load true 1 (.tmp 2)), (some (21, true))⟩, []), (⟨(some 23), (.load true 3 (.tmp 7)), (some (21, true))⟩, [4]), (⟨(some 24), (.call 35 [(.tmp 22), (.tmp 23)]), (some (21, true))⟩, []), (⟨(some 25), (.load true 3 (.tmp 3)), (some (21, true))⟩, [4, 5, 6]), (⟨(some 26), (.bin .eql (.st [(0, 1), (1, 1), (2, 1)]) (.tmp 24) (.tmp 25)), (some (21, true))⟩, []), (⟨(some 27), (.pick (.tmp 21) (.tmp 26) (.const (.bool false))), none⟩, [])])
   (.cond (.tmp 27) (.seq (.reg [⟨(some 28), (.load true 3 (.tmp 7)), none⟩, ⟨none, (.store 3 (.tmp 4) (.tmp 28)), none⟩, ⟨(some 5), (.mov (.const (.bool true))), none⟩])
    .ret)
    .skip))))
  (.reg [⟨(some 10), (.mov (.tmp 6)), none⟩, ⟨(some 11), (.bin .add .no (.tmp 10) (.const (.int .i64 1))), none⟩, ⟨(some 6), (.mov (.tmp 11)), none⟩]))))))
(.seq (.reg [⟨(some 29), (.build [(.int .i64 0), (.int .i64 0), (.int .i64 0)] []), none⟩, ⟨none, (.store 3 (.tmp 4) (.tmp 29)), none⟩, ⟨(some 5), (.mov (.const (.bool false))), none⟩])
.ret)))
theorem k43 : compFn prog 43 = some (30, vc43, [.c 4 true 3, .t 5]) := by kernel_rfl
/- loop.example/limner/laws.FnExactSpotRaw -/
def vc6 : VCode :=
(.seq (.reg [⟨(some 2), (.box (.tmp 0)), none⟩, ⟨(some 3), (.box (.tmp 1)), none⟩, ⟨(some 4), (.mov (.const (.bool false))), none⟩])
(.seq (.reg [⟨(some 5), (.mov (.const (.int .i64 1048576))), none⟩])
(.seq (.reg [⟨(some 11), (.load true 1 (.tmp 2)), none⟩, ⟨(some 12), (.mov (.tmp 5)), none⟩, ⟨(some 13), (.call 31 [(.tmp 11), (.tmp 12)]), none⟩, ⟨(some 5), (.mov (.tmp 13)), none⟩])
(.seq (.seq (.reg [⟨(some 14), (.mov (.tmp 5)), none⟩, ⟨(some 15), (.bin .lss .no (.tmp 14) (.const (.int .i64 0))), none⟩])
(.cond (.tmp 15) (.seq (.reg [⟨(some 4), (.mov (.const (.bool true))), none⟩])
 .ret)
 .skip))
(.seq (.drw [(⟨(some 17), (.load true 1 (.tmp 2)), none⟩, []), (⟨(some 18), (.call 33 [(.tmp 17)]), none⟩, []), (⟨(some 19), (.load true 3 (.tmp 3)), none⟩, [0, 1]), (⟨(some 20), (.call 34 [(.tmp 19)]), none⟩, []), (⟨(some 21), (.call 42 [(.tmp 18), (.tmp 20)]), none⟩, []), (⟨(some 16), (.mov (.tmp 21)), none⟩, []), (⟨(some 22), (.ext (.tmp 16) 0), none⟩, []), (⟨(some 23), (.ext (.tmp 16) 1), none⟩, []), (⟨(some 6), (.new [(.int .i64 0), (.int .i64 0), (.int .i64 0)]), none⟩, [0, 1, 2, 3, 4]), (⟨none, (.store 3 (.tmp 6) (.tmp 22)), none⟩, []), (⟨(some 7), (.mov (.tmp 23)), none⟩, [])])
(.seq (.reg [⟨(some 24), (.load true 1 (.tmp 2)), none⟩, ⟨(some 25), (.call 33 [(.tmp 24)]), none⟩, ⟨(some 8), (.new [(.slice none 0 0)]), none⟩, ⟨none, (.store 1 (.tmp 8) (.tmp 25)), none⟩])
(.seq (.drw [(⟨(some 27), (.load true 1 (.tmp 8)), none⟩, []), (⟨(some 28), (.load true 3 (.tmp 3)), none⟩, [0]), (⟨(some 29), (.call 34 [(.tmp 28)]), none⟩, [0]), (⟨(some 30), (.call 43 [(.tmp 27), (.tmp 29)]), none⟩, []), (⟨(some 26), (.mov (.tmp 30)), none⟩, []), (⟨(some 31), (.ext (.tmp 26) 0), none⟩, []), (⟨(some 32), (.ext (.tmp 26) 1), none⟩, []), (⟨(some 9), (.new [(.int .i64 0), (.int .i64 0), (.int .i64 0)]), none⟩, [0, 1, 2, 3]), (⟨none, (.store 3 (.tmp 9) (.tmp 31)), none⟩, []), (⟨(some 10), (.mov (.tmp 32)), none⟩, [])])
(.seq (.seq (.reg [⟨(some 33), (.load true 3 (.tmp 9)), none⟩, ⟨(some 34), (.load true 3 (.tmp 6)), none⟩, ⟨(some 35), (.call 36 [(.tmp 33), (.tmp 34)]), none⟩, ⟨(some 36), (.un .not (.tmp 35)), none⟩, ⟨(some 37), (.mov (.tmp 36)), none⟩, ⟨(some 38), (.mov (.tmp 10)), (some (37, false))⟩, ⟨(some 39), (.mov (.tmp 7)), (some (37, false))⟩, ⟨(some 40), (.bin .neq .bool (.tmp 38) (.tmp 39)), (some (37, false))⟩, ⟨(some 41), (.pick (.tmp 37) (.const (.bool true)) (.tmp 40)), none⟩])
(.cond (.tmp 41) (.seq (.reg [⟨(some 4), (.mov (.const (.bool false))), none⟩])
 .ret)
 .skip))
(.seq (.seq (.drw [(⟨(some 42), (.load true 1 (.tmp 8)), none⟩, []), (⟨(some 43), (.load true 1 (.tmp 2)), none⟩, [0]), (⟨(some 44), (.call 33 [(.tmp 43)]), none⟩, [0]), (⟨(some 45), (.call 37 [(.tmp 42), (.tmp 44)]), none⟩, []), (⟨(some 46), (.un .not (.tmp 45)), none⟩, [])])
(.cond (.tmp 46) (.seq (.reg [⟨(some 4), (.mov (.const (.bool false))), none⟩])
 .ret)
 .skip))
(.seq (.reg [⟨(some 4), (.mov (.const (.bool true))), none⟩])
.ret))))))))))
theorem k6 : compFn prog 6 = some (47, vc6, [.t 4]) := by kernel_rfl
theorem find_at {t : Nat → Bool} {n i : Nat} (hi : i < n) (h : ∀ j, j < i → t j = false) (hp : t i = true) : (List.range n).find? t = some i := by
  rw [List.find?_eq_some_iff_getElem]
  refine ⟨hp, i, by simpa using hi, by simp, fun j hj => ?_⟩
  simp [h j hj]
theorem find_none {t : Nat → Bool} {n i : Nat} (hi : n ≤ i) (h : ∀ j, j < i → t j = false) : (List.range n).find? t = none := by
  rw [List.find?_eq_none]
  intro x hx
  rw [List.mem_range] at hx
  simp [h x (by omega)]
def resAt (p : Spot) : Option Nat → Spot × Bool
  | some i => (⟨p.block, p.cell, i⟩, true)
  | none => (⟨0, 0, 0⟩, false)
def rawT (d : Doc) (p : Spot) (i : Nat) : Bool := (spotBy nowB docOk d ⟨p.block, p.cell, i⟩).pos == p.pos
def rawLen (d : Doc) (p : Spot) : Nat := (textAtB (blkAt d p) p.cell).length
def rawS (d : Doc) (p : Spot) : Spot × Bool := if placeOk docOk d ⟨p.block, p.cell, 0⟩ = true then resAt p ((List.range (rawLen d p + 1)).find? (rawT d p)) else (⟨0, 0, 0⟩, false)
def rawI1 (d : Doc) (p : Spot) (i : Nat) : Bool := placeOk docOk d ⟨p.block, p.cell, i⟩ && ((spotBy nowB docOk d ⟨p.block, p.cell, i⟩).block == p.block && (spotBy nowB docOk d ⟨p.block, p.cell, i⟩).cell == p.cell && (spotBy nowB docOk d ⟨p.block, p.cell, i⟩).pos == p.pos)
def rawI (d : Doc) (p : Spot) : Spot × Bool := resAt p ((List.range 25).find? (rawI1 d p))
theorem placeOk_len {d : Doc} {p : Spot} (hb : placeOk docOk d p = true) : rawLen d p ≤ 24 := by
  simp only [placeOk, Bool.and_eq_true] at hb
  obtain ⟨⟨⟨h1, h2⟩, h3⟩, _⟩ := hb
  have hl := docOk_len h1
  obtain ⟨i, hi, hlt⟩ := within_idx (by omega) h2
  have ebk : blkAt d p = d[i] := by rw [blkAt, hi, Int.toNat_natCast, getD_eq hlt]
  have hok := docOk_blk h1 hlt
  unfold rawLen
  rw [ebk] at h3 ⊢
  refine textOk_len (blk_text hok fun hk => ?_)
  simp only [cellIn, hk, if_true] at h3
  obtain ⟨j, hj, hjl⟩ := within_idx (by have := blk_cells hok hk; omega) h3
  omega
theorem c42 (d : Doc) (p : Spot) : PureC prog 42 [.agg [encB d], .agg p.enc] (.tup [.agg (rawS d p).1.enc, .sc (.bool (rawS d p).2)]) := by
  have h41 := c41 d ⟨p.block, p.cell, 0⟩
  have h86 := c86 d ⟨p.block, p.cell, 0⟩
  have h32 := fun i : Nat => c32 d ⟨p.block, p.cell, i⟩
  cases hb : placeOk docOk d ⟨p.block, p.cell, 0⟩ with
  | false =>
    rw [hb] at h41
    have e : rawS d p = (⟨0, 0, 0⟩, false) := by rw [rawS, hb]; rfl
    rw [e]
    clear hb e h86 h32
    unfold Spot.enc encB at *
    refine pureC_of k42 (by first | rfl | simp [VV.cloL, VV.clo, *]) (by first | rfl | simp [VV.cloL, VV.clo, *]) (by simp) ?_
    intro X hP hm hH hn hX
    refine vwp_ok _ ?_
    unfold vc42
    repeat' (first
      | simp only [go_sem, reduceCtorEq, reduceIte, Nat.reduceAdd, Nat.reduceEqDiff, Nat.reduceLeDiff, Nat.reduceMul, *]
      | refine gdO_bool' _ (fun _ => ?_) (fun _ => ?_)
      | refine gdO_bool _ (fun _ => ?_) (fun _ => ?_)
      | refine gdD_bool' _ (fun _ => ?_) (fun _ => ?_)
      | refine gdD_bool _ (fun _ => ?_) (fun _ => ?_)
      | refine cdO_bool' _ (fun _ => ?_) (fun _ => ?_)
      | refine cdO_bool _ (fun _ => ?_) (fun _ => ?_)
      | refine callO.pure (by first | exact h41) ?_
      | refine callW.pure (by first | exact h41) ?_
      | refine ⟨by decide, ?_⟩
      | fail)
    exact ppost_l (by simp) (by simp only [go_sem, reduceCtorEq, reduceIte, Nat.reduceAdd, Nat.reduceEqDiff, Nat.reduceLeDiff, Nat.reduceMul, resV]; rfl) rfl rfl
  | true =>
    rw [hb] at h41 h86
    rw [if_pos rfl] at h86
    have hlen : rawLen d p ≤ 24 := placeOk_len (p := ⟨p.block, p.cell, 0⟩) hb
    have hfound : ∀ i : Nat, i < rawLen d p + 1 → (∀ j, j < i → rawT d p j = false) → rawT d p i = true → rawS d p = (⟨p.block, p.cell, i⟩, true) := fun i h1 h2 h3 => by rw [rawS, if_pos hb, find_at h1 h2 h3]; rfl
    have hno : ∀ i : Nat, rawLen d p + 1 ≤ i → (∀ j, j < i → rawT d p j = false) → rawS d p = (⟨0, 0, 0⟩, false) := fun i h1 h2 => by rw [rawS, if_pos hb, find_none h1 h2]; rfl
    have eT : ∀ i : Nat, ((spotBy nowB docOk d ⟨p.block, p.cell, i⟩).pos == p.pos) = rawT d p i := fun _ => rfl
    have eL : textAtB (blkAt d ⟨p.block, p.cell, 0⟩) p.cell = textAtB (blkAt d p) p.cell := rfl
    rw [eL] at h86
    have htl : (textAtB (blkAt d p) p.cell).length = rawLen d p := rfl
    generalize textAtB (blkAt d p) p.cell = tx at *
    generalize rawLen d p = len at *
    generalize rawT d p = T at *
    generalize rawS d p = R at *
    clear hb eL
    unfold Spot.enc encB encT at *
    refine pureC_of k42 (by first | rfl | simp [VV.cloL, VV.clo, *]) (by first | rfl | simp [VV.cloL, VV.clo, *]) (by simp) ?_
    intro X hP hm hH hn hX
    refine vwp_ok _ ?_
    unfold vc42
    repeat' (first
      | simp only [go_sem, reduceCtorEq, reduceIte, Nat.reduceAdd, Nat.reduceEqDiff, Nat.reduceLeDiff, Nat.reduceMul, *]
      | refine gdO_bool' _ (fun _ => ?_) (fun _ => ?_)
      | refine gdO_bool _ (fun _ => ?_) (fun _ => ?_)
      | refine gdD_bool' _ (fun _ => ?_) (fun _ => ?_)
      | refine gdD_bool _ (fun _ => ?_) (fun _ => ?_)
      | refine cdO_bool' _ (fun _ => ?_) (fun _ => ?_)
      | refine cdO_bool _ (fun _ => ?_) (fun _ => ?_)
      | refine callO.pure (by first | exact h41) ?_
      | refine callW.pure (by first | exact h41) ?_
      | refine ⟨by decide, ?_⟩
      | refine ppost_t (by simp) rfl ?_)
    refine loopV hX (fun μ s H n => ∃ i : Nat, i ≤ len + 1 ∧ (∀ j, j < i → T j = false) ∧ μ = len + 1 - i ∧ s = slotsOf [(2, .pt 0 0), (3, .pt 1 0), (4, .pt 2 0), (5, .sc (.bool false)), (6, .sc (.int .i64 p.pos)), (7, .sc (.int .i64 i))] ∧ H = heapOf [(0, [.sl 6 (d.map Block.enc)]), (1, [.sc (.int .i64 p.block), .sc (.int .i64 p.cell), .sc (.int .i64 0)]), (2, [.sc (.int .i64 0), .sc (.int .i64 0), .sc (.int .i64 0)])] ∧ n = 3) ?_
      ⟨len + 2, roundV_of hH hn [0, 1, 2] [(2, _), (3, _), (4, _), (5, _), (6, _), (7, _)] [(0, _), (1, _), (2, _)] _ ⟨0, by simp, by simp, rfl, rfl, rfl, rfl⟩ (by omega) (by simp) (by simp [hm]) ?_ ?_⟩
    rotate_left
    · repeat' (first | exact List.forall_mem_nil _ | refine List.forall_mem_cons.2 ⟨?_, ?_⟩ | exact .toPt (by simp only [go_sem, reduceCtorEq, reduceIte, Nat.reduceAdd, Nat.reduceEqDiff, Nat.reduceLeDiff, Nat.reduceMul, *] <;> rfl) (by simp [tau]) (by simp) | exact .toRf (by simp only [go_sem, reduceCtorEq, reduceIte, Nat.reduceAdd, Nat.reduceEqDiff, Nat.reduceLeDiff, Nat.reduceMul, *] <;> rfl) (by simp [tau]) (by simp) | exact .same (by simp only [go_sem, reduceCtorEq, reduceIte, Nat.reduceAdd, Nat.reduceEqDiff, Nat.reduceLeDiff, Nat.reduceMul, *] <;> rfl) (by first | rfl | simp [VV.cloL, VV.clo, *]))
    · repeat' (first | exact HConv.nil | refine HConv.same (by decide) (by first | rfl | (simp only [go_sem, reduceCtorEq, reduceIte, Nat.reduceAdd, Nat.reduceEqDiff, Nat.reduceLeDiff, Nat.reduceMul, *] <;> rfl)) (by first | rfl | simp [VV.cloL, VV.clo, *]) ?_)
    rintro μ s H n ⟨i, hi, hz, rfl, rfl, rfl, rfl⟩
    have h32i := h32 i
    have eTi := eT i
    rcases Nat.lt_or_ge i (len + 1) with hlt | hge
    · have g1 : decide ((i : Int) ≤ (len : Int)) = true := by simp; omega
      have g5 : IntKind.i64.wrap ((i : Int) + 1) = ((i + 1 : Nat) : Int) := by rw [wrap_id] <;> omega
      have hf := hfound i hlt hz
      generalize spotBy nowB docOk d ⟨p.block, p.cell, i⟩ = q at *
      cases hT : T i with
      | true =>
        rw [hT] at eTi
        rw [hf hT]
        clear hf hz hfound hno h32 eT
        repeat' (first
          | simp only [go_sem, reduceCtorEq, reduceIte, Nat.reduceAdd, Nat.reduceEqDiff, Nat.reduceLeDiff, Nat.reduceMul, *]
          | refine gdO_bool' _ (fun _ => ?_) (fun _ => ?_)
          | refine gdO_bool _ (fun _ => ?_) (fun _ => ?_)
          | refine gdD_bool' _ (fun _ => ?_) (fun _ => ?_)
          | refine gdD_bool _ (fun _ => ?_) (fun _ => ?_)
          | refine cdO_bool' _ (fun _ => ?_) (fun _ => ?_)
          | refine cdO_bool _ (fun _ => ?_) (fun _ => ?_)
          | refine callO.pure (by first | exact h41 | exact h86 | exact h32i) ?_
          | refine callW.pure (by first | exact h41 | exact h86 | exact h32i) ?_
          | refine ⟨by decide, ?_⟩
          | fail)
        exact ppost_l (by simp) (by simp only [go_sem, reduceCtorEq, reduceIte, Nat.reduceAdd, Nat.reduceEqDiff, Nat.reduceLeDiff, Nat.reduceMul, resV]; rfl) rfl rfl
      | false =>
        rw [hT] at eTi
        have hz' := lt_succ_of hz hT
        clear hf hz hfound hno h32 eT
        repeat' (first
          | simp only [go_sem, reduceCtorEq, reduceIte, Nat.reduceAdd, Nat.reduceEqDiff, Nat.reduceLeDiff, Nat.reduceMul, *]
          | refine gdO_bool' _ (fun _ => ?_) (fun _ => ?_)
          | refine gdO_bool _ (fun _ => ?_) (fun _ => ?_)
          | refine gdD_bool' _ (fun _ => ?_) (fun _ => ?_)
          | refine gdD_bool _ (fun _ => ?_) (fun _ => ?_)
          | refine cdO_bool' _ (fun _ => ?_) (fun _ => ?_)
          | refine cdO_bool _ (fun _ => ?_) (fun _ => ?_)
          | refine callO.pure (by first | exact h41 | exact h86 | exact h32i) ?_
          | refine callW.pure (by first | exact h41 | exact h86 | exact h32i) ?_
          | refine ⟨by decide, ?_⟩
          | refine ppost_t (by simp) rfl ?_)
        refine roundV_of hH hn [0, 1, 2] [(2, _), (3, _), (4, _), (5, _), (6, _), (7, _)] [(0, _), (1, _), (2, _)] _ ⟨i + 1, hlt, hz', rfl, rfl, rfl, rfl⟩ (by omega) (by simp) (by simp [hm]) ?_ ?_
        · repeat' (first | exact List.forall_mem_nil _ | refine List.forall_mem_cons.2 ⟨?_, ?_⟩ | exact .toPt (by simp only [go_sem, reduceCtorEq, reduceIte, Nat.reduceAdd, Nat.reduceEqDiff, Nat.reduceLeDiff, Nat.reduceMul, *] <;> rfl) (by simp [tau]) (by simp) | exact .toRf (by simp only [go_sem, reduceCtorEq, reduceIte, Nat.reduceAdd, Nat.reduceEqDiff, Nat.reduceLeDiff, Nat.reduceMul, *] <;> rfl) (by simp [tau]) (by simp) | exact .same (by simp only [go_sem, reduceCtorEq, reduceIte, Nat.reduceAdd, Nat.reduceEqDiff, Nat.reduceLeDiff, Nat.reduceMul, *] <;> rfl) (by first | rfl | simp [VV.cloL, VV.clo, *]))
        · repeat' (first | exact HConv.nil | refine HConv.same (by decide) (by first | rfl | (simp only [go_sem, reduceCtorEq, reduceIte, Nat.reduceAdd, Nat.reduceEqDiff, Nat.reduceLeDiff, Nat.reduceMul, *] <;> rfl)) (by first | rfl | simp [VV.cloL, VV.clo, *]) ?_)
    · have g1 : decide ((i : Int) ≤ (len : Int)) = false := by simp; omega
      rw [hno i hge hz]
      clear hz hfound hno h32 eT h32i eTi
      repeat' (first
        | simp only [go_sem, reduceCtorEq, reduceIte, Nat.reduceAdd, Nat.reduceEqDiff, Nat.reduceLeDiff, Nat.reduceMul, *]
        | refine gdO_bool' _ (fun _ => ?_) (fun _ => ?_)
        | refine gdO_bool _ (fun _ => ?_) (fun _ => ?_)
        | refine gdD_bool' _ (fun _ => ?_) (fun _ => ?_)
        | refine gdD_bool _ (fun _ => ?_) (fun _ => ?_)
        | refine cdO_bool' _ (fun _ => ?_) (fun _ => ?_)
        | refine cdO_bool _ (fun _ => ?_) (fun _ => ?_)
        | refine callO.pure (by first | exact h41 | exact h86) ?_
        | refine callW.pure (by first | exact h41 | exact h86) ?_
        | refine ⟨by decide, ?_⟩
        | fail)
      exact ppost_l (by simp) (by simp only [go_sem, reduceCtorEq, reduceIte, Nat.reduceAdd, Nat.reduceEqDiff, Nat.reduceLeDiff, Nat.reduceMul, resV]; rfl) rfl rfl
theorem c43 (d : Doc) (p : Spot) (hs : docSm d) : PureC prog 43 [.agg [encB d], .agg p.enc] (.tup [.agg (rawI d p).1.enc, .sc (.bool (rawI d p).2)]) := by
  have h62 := fun i : Nat => c62 d ⟨p.block, p.cell, i⟩ hs
  have h35 := fun i : Nat => c35 d ⟨p.block, p.cell, i⟩ hs
  rw [docOk_fun] at h62 h35
  have hfound : ∀ i : Nat, i < 25 → (∀ j, j < i → rawI1 d p j = false) → rawI1 d p i = true → rawI d p = (⟨p.block, p.cell, i⟩, true) := fun i h1 h2 h3 => by rw [rawI, find_at h1 h2 h3]; rfl
  have hno : ∀ i : Nat, 25 ≤ i → (∀ j, j < i → rawI1 d p j = false) → rawI d p = (⟨0, 0, 0⟩, false) := fun i h1 h2 => by rw [rawI, find_none h1 h2]; rfl
  have eT : ∀ i : Nat, rawI1 d p i = (placeOk docOk d ⟨p.block, p.cell, i⟩ && ((spotBy nowB docOk d ⟨p.block, p.cell, i⟩).block == p.block && (spotBy nowB docOk d ⟨p.block, p.cell, i⟩).cell == p.cell && (spotBy nowB docOk d ⟨p.block, p.cell, i⟩).pos == p.pos)) := fun _ => rfl
  generalize rawI1 d p = T at *
  generalize rawI d p = R at *
  clear hs
  unfold Spot.enc encB at *
  refine pureC_of k43 (by first | rfl | simp [VV.cloL, VV.clo, *]) (by first | rfl | simp [VV.cloL, VV.clo, *]) (by simp) ?_
  intro X hP hm hH hn hX
  refine vwp_ok _ ?_
  unfold vc43
  repeat' (first
    | simp only [go_sem, reduceCtorEq, reduceIte, Nat.reduceAdd, Nat.reduceEqDiff, Nat.reduceLeDiff, Nat.reduceMul, *]
    | refine gdO_bool' _ (fun _ => ?_) (fun _ => ?_)
    | refine gdO_bool _ (fun _ => ?_) (fun _ => ?_)
    | refine gdD_bool' _ (fun _ => ?_) (fun _ => ?_)
    | refine gdD_bool _ (fun _ => ?_) (fun _ => ?_)
    | refine cdO_bool' _ (fun _ => ?_) (fun _ => ?_)
    | refine cdO_bool _ (fun _ => ?_) (fun _ => ?_)
    | refine ⟨by decide, ?_⟩
    | refine ppost_t (by simp) rfl ?_)
  refine loopV hX (fun μ s H n => ∃ i : Nat, i ≤ 25 ∧ (∀ j, j < i → T j = false) ∧ μ = 25 - i ∧ s = slotsOf [(2, .pt 0 0), (3, .pt 1 0), (4, .pt 2 0), (5, .sc (.bool false)), (6, .sc (.int .i64 i))] ∧ H = heapOf [(0, [.sl 6 (d.map Block.enc)]), (1, [.sc (.int .i64 p.block), .sc (.int .i64 p.cell), .sc (.int .i64 p.pos)]), (2, [.sc (.int .i64 0), .sc (.int .i64 0), .sc (.int .i64 0)])] ∧ n = 3) ?_
    ⟨26, roundV_of hH hn [0, 1, 2] [(2, _), (3, _), (4, _), (5, _), (6, _)] [(0, _), (1, _), (2, _)] _ ⟨0, by simp, by simp, rfl, rfl, rfl, rfl⟩ (by omega) (by simp) (by simp [hm]) ?_ ?_⟩
  rotate_left
  · repeat' (first | exact List.forall_mem_nil _ | refine List.forall_mem_cons.2 ⟨?_, ?_⟩ | exact .toPt (by simp only [go_sem, reduceCtorEq, reduceIte, Nat.reduceAdd, Nat.reduceEqDiff, Nat.reduceLeDiff, Nat.reduceMul, *] <;> rfl) (by simp [tau]) (by simp) | exact .toRf (by simp only [go_sem, reduceCtorEq, reduceIte, Nat.reduceAdd, Nat.reduceEqDiff, Nat.reduceLeDiff, Nat.reduceMul, *] <;> rfl) (by simp [tau]) (by simp) | exact .same (by simp only [go_sem, reduceCtorEq, reduceIte, Nat.reduceAdd, Nat.reduceEqDiff, Nat.reduceLeDiff, Nat.reduceMul, *] <;> rfl) (by first | rfl | simp [VV.cloL, VV.clo, *]))
  · repeat' (first | exact HConv.nil | refine HConv.same (by decide) (by first | rfl | (simp only [go_sem, reduceCtorEq, reduceIte, Nat.reduceAdd, Nat.reduceEqDiff, Nat.reduceLeDiff, Nat.reduceMul, *] <;> rfl)) (by first | rfl | simp [VV.cloL, VV.clo, *]) ?_)
  rintro μ s H n ⟨i, hi, hz, rfl, rfl, rfl, rfl⟩
  have h62i := h62 i
  have h35i := h35 i
  have eTi := eT i
  rcases Nat.lt_or_ge i 25 with hlt | hge
  · have g1 : decide ((i : Int) ≤ 24) = true := by simp; omega
    have g5 : IntKind.i64.wrap ((i : Int) + 1) = ((i + 1 : Nat) : Int) := by rw [wrap_id] <;> omega
    have hf := hfound i hlt hz
    generalize spotBy nowB docOk d ⟨p.block, p.cell, i⟩ = q at *
    generalize placeOk docOk d ⟨p.block, p.cell, i⟩ = ok at *
    cases hT : T i with
    | true =>
      rw [hT] at eTi
      have e4 : ok = true ∧ (q.block = p.block ∧ q.cell = p.cell) ∧ q.pos = p.pos := by simpa [Bool.and_eq_true] using eTi.symm
      obtain ⟨rfl, ⟨e1, e2⟩, e3⟩ := e4
      have k1 : (q.block == p.block) = true := by simp [e1]
      have k2 : (q.cell == p.cell) = true := by simp [e2]
      have k3 : (q.pos == p.pos) = true := by simp [e3]
      clear e1 e2 e3
      rw [hf hT]
      clear hf hz hfound hno h35 h62 eT eTi
      repeat' (first
        | simp only [go_sem, reduceCtorEq, reduceIte, Nat.reduceAdd, Nat.reduceEqDiff, Nat.reduceLeDiff, Nat.reduceMul, eqCells, eqCell, neg, *]
        | refine gdO_bool' _ (fun _ => ?_) (fun _ => ?_)
        | refine gdO_bool _ (fun _ => ?_) (fun _ => ?_)
        | refine gdD_bool' _ (fun _ => ?_) (fun _ => ?_)
        | refine gdD_bool _ (fun _ => ?_) (fun _ => ?_)
        | refine cdO_bool' _ (fun _ => ?_) (fun _ => ?_)
        | refine cdO_bool _ (fun _ => ?_) (fun _ => ?_)
        | refine callO.pure (by first | exact h62i | exact h35i) ?_
        | refine callW.pure (by first | exact h62i | exact h35i) ?_
        | refine ⟨by decide, ?_⟩
        | fail)
      exact ppost_l (by simp) (by simp only [go_sem, reduceCtorEq, reduceIte, Nat.reduceAdd, Nat.reduceEqDiff, Nat.reduceLeDiff, Nat.reduceMul, resV]; rfl) rfl rfl
    | false =>
      rw [hT] at eTi
      have hz' := lt_succ_of hz hT
      clear hf hz hfound hno h35 h62 eT
      cases ok with
      | false =>
        clear eTi
        repeat' (first
          | simp only [go_sem, reduceCtorEq, reduceIte, Nat.reduceAdd, Nat.reduceEqDiff, Nat.reduceLeDiff, Nat.reduceMul, eqCells, eqCell, neg, *]
          | refine gdO_bool' _ (fun _ => ?_) (fun _ => ?_)
          | refine gdO_bool _ (fun _ => ?_) (fun _ => ?_)
          | refine gdD_bool' _ (fun _ => ?_) (fun _ => ?_)
          | refine gdD_bool _ (fun _ => ?_) (fun _ => ?_)
          | refine cdO_bool' _ (fun _ => ?_) (fun _ => ?_)
          | refine cdO_bool _ (fun _ => ?_) (fun _ => ?_)
          | refine callO.pure (by first | exact h62i | exact h35i) ?_
          | refine callW.pure (by first | exact h62i | exact h35i) ?_
          | refine ⟨by decide, ?_⟩
          | refine ppost_t (by simp) rfl ?_)
        refine roundV_of hH hn [0, 1, 2] [(2, _), (3, _), (4, _), (5, _), (6, _)] [(0, _), (1, _), (2, _)] _ ⟨i + 1, hlt, hz', rfl, rfl, rfl, rfl⟩ (by omega) (by simp) (by simp [hm]) ?_ ?_
        · repeat' (first | exact List.forall_mem_nil _ | refine List.forall_mem_cons.2 ⟨?_, ?_⟩ | exact .toPt (by simp only [go_sem, reduceCtorEq, reduceIte, Nat.reduceAdd, Nat.reduceEqDiff, Nat.reduceLeDiff, Nat.reduceMul, *] <;> rfl) (by simp [tau]) (by simp) | exact .toRf (by simp only [go_sem, reduceCtorEq, reduceIte, Nat.reduceAdd, Nat.reduceEqDiff, Nat.reduceLeDiff, Nat.reduceMul, *] <;> rfl) (by simp [tau]) (by simp) | exact .same (by simp only [go_sem, reduceCtorEq, reduceIte, Nat.reduceAdd, Nat.reduceEqDiff, Nat.reduceLeDiff, Nat.reduceMul, *] <;> rfl) (by first | rfl | simp [VV.cloL, VV.clo, *]))
        · repeat' (first | exact HConv.nil | refine HConv.same (by decide) (by first | rfl | (simp only [go_sem, reduceCtorEq, reduceIte, Nat.reduceAdd, Nat.reduceEqDiff, Nat.reduceLeDiff, Nat.reduceMul, *] <;> rfl)) (by first | rfl | simp [VV.cloL, VV.clo, *]) ?_)
      | true =>
        have k : (q.block == p.block && (q.cell == p.cell && q.pos == p.pos)) = false := by
          rw [Bool.true_and] at eTi
          rw [← Bool.and_assoc]; exact eTi.symm
        clear eTi
        repeat' (first
          | simp only [go_sem, reduceCtorEq, reduceIte, Nat.reduceAdd, Nat.reduceEqDiff, Nat.reduceLeDiff, Nat.reduceMul, eqCells, eqCell, neg, *]
          | refine gdO_bool' _ (fun _ => ?_) (fun _ => ?_)
          | refine gdO_bool _ (fun _ => ?_) (fun _ => ?_)
          | refine gdD_bool' _ (fun _ => ?_) (fun _ => ?_)
          | refine gdD_bool _ (fun _ => ?_) (fun _ => ?_)
          | refine cdO_bool' _ (fun _ => ?_) (fun _ => ?_)
          | refine cdO_bool _ (fun _ => ?_) (fun _ => ?_)
          | refine callO.pure (by first | exact h62i | exact h35i) ?_
          | refine callW.pure (by first | exact h62i | exact h35i) ?_
          | refine ⟨by decide, ?_⟩
          | refine ppost_t (by simp) rfl ?_)
        refine roundV_of hH hn [0, 1, 2] [(2, _), (3, _), (4, _), (5, _), (6, _)] [(0, _), (1, _), (2, _)] _ ⟨i + 1, hlt, hz', rfl, rfl, rfl, rfl⟩ (by omega) (by simp) (by simp [hm]) ?_ ?_
        · repeat' (first | exact List.forall_mem_nil _ | refine List.forall_mem_cons.2 ⟨?_, ?_⟩ | exact .toPt (by simp only [go_sem, reduceCtorEq, reduceIte, Nat.reduceAdd, Nat.reduceEqDiff, Nat.reduceLeDiff, Nat.reduceMul, *] <;> rfl) (by simp [tau]) (by simp) | exact .toRf (by simp only [go_sem, reduceCtorEq, reduceIte, Nat.reduceAdd, Nat.reduceEqDiff, Nat.reduceLeDiff, Nat.reduceMul, *] <;> rfl) (by simp [tau]) (by simp) | exact .same (by simp only [go_sem, reduceCtorEq, reduceIte, Nat.reduceAdd, Nat.reduceEqDiff, Nat.reduceLeDiff, Nat.reduceMul, *] <;> rfl) (by first | rfl | simp [VV.cloL, VV.clo, *]))
        · repeat' (first | exact HConv.nil | refine HConv.same (by decide) (by first | rfl | (simp only [go_sem, reduceCtorEq, reduceIte, Nat.reduceAdd, Nat.reduceEqDiff, Nat.reduceLeDiff, Nat.reduceMul, *] <;> rfl)) (by first | rfl | simp [VV.cloL, VV.clo, *]) ?_)
  · have g1 : decide ((i : Int) ≤ 24) = false := by simp; omega
    rw [hno i hge hz]
    clear hz hfound hno h35 h62 eT h35i eTi h62i
    repeat' (first
      | simp only [go_sem, reduceCtorEq, reduceIte, Nat.reduceAdd, Nat.reduceEqDiff, Nat.reduceLeDiff, Nat.reduceMul, *]
      | refine gdO_bool' _ (fun _ => ?_) (fun _ => ?_)
      | refine gdO_bool _ (fun _ => ?_) (fun _ => ?_)
      | refine gdD_bool' _ (fun _ => ?_) (fun _ => ?_)
      | refine gdD_bool _ (fun _ => ?_) (fun _ => ?_)
      | refine cdO_bool' _ (fun _ => ?_) (fun _ => ?_)
      | refine cdO_bool _ (fun _ => ?_) (fun _ => ?_)
      | refine ⟨by decide, ?_⟩
      | fail)
    exact ppost_l (by simp) (by simp only [go_sem, reduceCtorEq, reduceIte, Nat.reduceAdd, Nat.reduceEqDiff, Nat.reduceLeDiff, Nat.reduceMul, resV]; rfl) rfl rfl
theorem find_range {t T : Nat → Bool} {n m : Nat} (h : n ≤ m) (h1 : ∀ i, i < n → t i = T i) (h2 : ∀ i, n ≤ i → t i = false) : (List.range m).find? t = (List.range n).find? T := by
  by_cases hex : ∃ i, i < n ∧ T i = true
  · obtain ⟨i, hi, hT⟩ := hex
    have key : ∃ i, i < n ∧ T i = true ∧ ∀ j, j < i → T j = false := by
      induction i using Nat.strongRecOn with
      | ind i ih =>
        by_cases hj : ∃ j, j < i ∧ T j = true
        · obtain ⟨j, hji, hTj⟩ := hj
          exact ih j hji (by omega) hTj
        · refine ⟨i, hi, hT, fun j hji => ?_⟩
          cases hTj : T j with
          | false => rfl
          | true => exact absurd ⟨j, hji, hTj⟩ hj
    obtain ⟨i, hi, hT, hz⟩ := key
    rw [find_at hi hz hT, find_at (i := i) (by omega) (fun j hj => by rw [h1 j (by omega)]; exact hz j hj) (by rw [h1 i hi]; exact hT)]
  · have hz : ∀ i, i < n → T i = false := fun i hi => by
      cases hT : T i with
      | false => rfl
      | true => exact absurd ⟨i, hi, hT⟩ hex
    rw [find_none (Nat.le_refl n) hz, find_none (Nat.le_refl m)]
    intro j _
    by_cases hj : j < n
    · rw [h1 j hj]; exact hz j hj
    · exact h2 j (by omega)
theorem raw_eq (d : Doc) (p : Spot) : rawI d p = rawS d p := by
  have hp : ∀ i : Nat, placeOk docOk d ⟨p.block, p.cell, i⟩ = (placeOk docOk d ⟨p.block, p.cell, 0⟩ && decide (i ≤ rawLen d p)) := by
    intro i
    have e : within (i : Int) 0 ((textAtB (blkAt d p) p.cell).length : Int) = decide (i ≤ rawLen d p) := by
      unfold within rawLen
      rw [Bool.eq_iff_iff]
      simp
    have e0 : within 0 0 ((textAtB (blkAt d p) p.cell).length : Int) = true := by simp [within]
    show (docOk d && within p.block 0 _ && cellIn (blkAt d p) p.cell && within (i : Int) 0 ((textAtB (blkAt d p) p.cell).length : Int)) = ((docOk d && within p.block 0 _ && cellIn (blkAt d p) p.cell && within 0 0 ((textAtB (blkAt d p) p.cell).length : Int)) && _)
    rw [e, e0, Bool.and_true]
  unfold rawI rawS
  cases h0 : placeOk docOk d ⟨p.block, p.cell, 0⟩ with
  | false =>
    simp only [Bool.false_eq_true, if_false]
    rw [find_none (Nat.le_refl 25)]
    · rfl
    · intro j _
      rw [rawI1, hp, h0]; rfl
  | true =>
    simp only [if_true]
    have hlen : rawLen d p ≤ 24 := placeOk_len (p := ⟨p.block, p.cell, 0⟩) h0
    rw [find_range (T := rawT d p) (n := rawLen d p + 1) (by omega)]
    · intro i hi
      have hok : placeOk docOk d ⟨p.block, p.cell, i⟩ = true := by rw [hp, h0]; simp; omega
      have e : spotBy nowB docOk d ⟨p.block, p.cell, i⟩ = ⟨p.block, p.cell, (spotBy nowB docOk d ⟨p.block, p.cell, i⟩).pos⟩ := by rw [spotBy, if_pos hok]
      unfold rawI1 rawT
      rw [hok, e]
      simp
    · intro i hi
      rw [rawI1, hp]
      simp; omega
theorem c6 (d : Doc) (p : Spot) (hd : docLen d) : PureC prog 6 [.agg [encB d], .agg p.enc] (.sc (.bool true)) := by
  have h31 := c31 d 1048576 (by omega) (by omega) hd.1 hd.2
  rcases Nat.lt_or_ge 1048576 (wD d) with hbig | hsm
  · rw [cutI_neg (by omega)] at h31
    have k1 : decide ((-1 : Int) < 0) = true := by decide
    unfold encB at *
    unfold Spot.enc
    clear hd
    refine pureC_of k6 (by first | rfl | simp [VV.cloL, VV.clo, *]) (by first | rfl | simp [VV.cloL, VV.clo, *]) (by simp) ?_
    intro X hP hm hH hn hX
    refine vwp_ok _ ?_
    unfold vc6
    repeat' (first
      | simp only [go_sem, reduceCtorEq, reduceIte, Nat.reduceAdd, Nat.reduceEqDiff, Nat.reduceLeDiff, Nat.reduceMul, *]
      | refine gdO_bool' _ (fun _ => ?_) (fun _ => ?_)
      | refine gdO_bool _ (fun _ => ?_) (fun _ => ?_)
      | refine gdD_bool' _ (fun _ => ?_) (fun _ => ?_)
      | refine gdD_bool _ (fun _ => ?_) (fun _ => ?_)
      | refine cdO_bool' _ (fun _ => ?_) (fun _ => ?_)
      | refine cdO_bool _ (fun _ => ?_) (fun _ => ?_)
      | refine callO.pure (by first | exact h31) ?_
      | refine callW.pure (by first | exact h31) ?_
      | refine ⟨by decide, ?_⟩
      | refine ppost_t (by simp) rfl ?_)
  · rw [cutI_pos (by omega)] at h31
    have hti := wD_ti hsm
    have k1 : decide (1048576 - (wD d : Int) < 0) = false := by simp; omega
    have h33 := c33 d hti
    have h34 := c34 p
    have h32 := c42 d p
    have h35 := c43 d p (ti_sm hti)
    rw [raw_eq] at h35
    have h36 := c36 (rawS d p).1 (rawS d p).1
    simp only [beq_self_eq_true, Bool.and_self] at h36
    have h37 := c37 d (ti_62 hti).1 (ti_62 hti).2
    generalize (rawS d p).1 = q at *
    generalize (rawS d p).2 = b at *
    unfold encB Spot.enc at *
    clear hd hti hsm
    refine pureC_of k6 (by first | rfl | simp [VV.cloL, VV.clo, *]) (by first | rfl | simp [VV.cloL, VV.clo, *]) (by simp) ?_
    intro X hP hm hH hn hX
    refine vwp_ok _ ?_
    unfold vc6
    repeat' (first
      | simp only [go_sem, reduceCtorEq, reduceIte, Nat.reduceAdd, Nat.reduceEqDiff, Nat.reduceLeDiff, Nat.reduceMul, neg, beq_self_eq_true, bne_self_eq_false, *]
      | refine gdO_bool' _ (fun _ => ?_) (fun _ => ?_)
      | refine gdO_bool _ (fun _ => ?_) (fun _ => ?_)
      | refine gdD_bool' _ (fun _ => ?_) (fun _ => ?_)
      | refine gdD_bool _ (fun _ => ?_) (fun _ => ?_)
      | refine cdO_bool' _ (fun _ => ?_) (fun _ => ?_)
      | refine cdO_bool _ (fun _ => ?_) (fun _ => ?_)
      | refine callO.pure (by first | exact h31 | exact h33 | exact h34 | exact h32 | exact h35 | exact h36 | exact h37) ?_
      | refine callW.pure (by first | exact h31 | exact h33 | exact h34 | exact h32 | exact h35 | exact h36 | exact h37) ?_
      | refine ⟨by decide, ?_⟩
      | refine ppost_t (by simp) rfl ?_)
end Go.Proofs.Ytdmmhainianadaa

/- The program's dear closed facts. -/
namespace Go.Proofs.Ytdmmhainianadaa.Fx
open Go.VM
def nums : List Nat := [104, 97, 114, 110, 101, 115, 115, 32, 49, 55, 49, 100, 98, 98, 99, 99, 101, 101, 97, 48, 101, 53, 49, 100, 100, 54, 99, 99, 97, 49, 57, 55, 52, 57, 102, 49, 53, 97, 56, 57, 54, 55, 54, 52, 100, 57, 97, 100, 50, 55, 57, 99, 98, 98, 56, 54, 100, 56, 48, 100, 56, 50, 50, 97, 101, 97, 49, 57, 51, 49, 51, 51, 32, 99, 117, 116, 32, 97, 116, 32, 108, 111, 111, 112, 46, 101, 120, 97, 109, 112, 108, 101, 47, 108, 105, 109, 110, 101, 114, 47, 108, 97, 119, 115, 46, 70, 110, 69, 120, 97, 99, 116, 83, 112, 111, 116, 78, 111, 119, 32, 108, 111, 111, 112, 46, 101, 120, 97, 109, 112, 108, 101, 47, 108, 105, 109, 110, 101, 114, 47, 108, 97, 119, 115, 46, 70, 110, 69, 120, 97, 99, 116, 83, 112, 111, 116, 87, 97, 115, 32, 108, 111, 111, 112, 46, 101, 120, 97, 109, 112, 108, 101, 47, 108, 105, 109, 110, 101, 114, 47, 108, 97, 119, 115, 46, 70, 110, 83, 112, 111, 116, 79, 114, 100, 101, 114, 32, 108, 111, 111, 112, 46, 101, 120, 97, 109, 112, 108, 101, 47, 108, 105, 109, 110, 101, 114, 47, 108, 97, 119, 115, 46, 70, 110, 69, 120, 97, 99, 116, 83, 112, 111, 116, 82, 97, 119, 32, 108, 111, 111, 112, 46, 101, 120, 97, 109, 112, 108, 101, 47, 108, 105, 109, 110, 101, 114, 47, 108, 97, 119, 115, 46, 70, 110, 69, 120, 97, 99, 116, 83, 117, 103, 66, 121, 32, 108, 111, 111, 112, 46, 101, 120, 97, 109, 112, 108, 101, 47, 108, 105, 109, 110, 101, 114, 47, 108, 97, 119, 115, 46, 70, 110, 83, 117, 103, 84, 117, 114, 110, 32, 108, 111, 111, 112, 46, 101, 120, 97, 109, 112, 108, 101, 47, 108, 105, 109, 110, 101, 114, 47, 108, 97, 119, 115, 46, 70, 110, 83, 117, 103, 70, 111, 114, 109, 32, 108, 111, 111, 112, 46, 101, 120, 97, 109, 112, 108, 101, 47, 108, 105, 109, 110, 101, 114, 47, 108, 97, 119, 115, 46, 70, 110, 83, 117, 103, 84, 97, 107, 101, 87, 97, 115, 32, 108, 111, 111, 112, 46, 101, 120, 97, 109, 112, 108, 101, 47, 108, 105, 109, 110, 101, 114, 47, 108, 97, 119, 115, 46, 70, 110, 83, 117, 103, 79, 117, 116, 84, 119, 105, 99, 101, 32, 108, 111, 111, 112, 46, 101, 120, 97, 109, 112, 108, 101, 47, 108, 105, 109, 110, 101, 114, 47, 108, 97, 119, 115, 46, 70, 110, 83, 112, 111, 116, 82, 97, 119, 32, 108, 111, 111, 112, 46, 101, 120, 97, 109, 112, 108, 101, 47, 108, 105, 109, 110, 101, 114, 47, 108, 97, 119, 115, 46, 70, 110, 83, 117, 103, 80, 108, 97, 105, 110, 32, 108, 111, 111, 112, 46, 101, 120, 97, 109, 112, 108, 101, 47, 108, 105, 109, 110, 101, 114, 47, 108, 97, 119, 115, 46, 70, 110, 83, 112, 111, 116, 69, 110, 100, 32, 108, 111, 111, 112, 46, 101, 120, 97, 109, 112, 108, 101, 47, 108, 105, 109, 110, 101, 114, 47, 108, 97, 119, 115, 46, 70, 110, 83, 117, 103, 66, 121, 32, 108, 111, 111, 112, 46, 101, 120, 97, 109, 112, 108, 101, 47, 108, 105, 109, 110, 101, 114, 47, 108, 97, 119, 115, 46, 70, 110, 83, 117, 103, 78, 111, 119, 32, 108, 111, 111, 112, 46, 101, 120, 97, 109, 112, 108, 101, 47, 108, 105, 109, 110, 101, 114, 47, 108, 97, 119, 115, 46, 70, 110, 83, 112, 111, 116, 78, 111, 119, 32, 108, 111, 111, 112, 46, 101, 120, 97, 109, 112, 108, 101, 47, 108, 105, 109, 110, 101, 114, 47, 108, 97, 119, 115, 46, 70, 110, 83, 117, 103, 84, 97, 107, 101, 32, 108, 111, 111, 112, 46, 101, 120, 97, 109, 112, 108, 101, 47, 108, 105, 109, 110, 101, 114, 47, 108, 97, 119, 115, 46, 70, 110, 83, 117, 103, 68, 114, 111, 112, 32, 108, 111, 111, 112, 46, 101, 120, 97, 109, 112, 108, 101, 47, 108, 105, 109, 110, 101, 114, 47, 108, 97, 119, 115, 46, 70, 110, 69, 120, 97, 99, 116, 83, 117, 103, 79, 117, 116, 32, 108, 111, 111, 112, 46, 101, 120, 97, 109, 112, 108, 101, 47, 108, 105, 109, 110, 101, 114, 47, 108, 97, 119, 115, 46, 70, 110, 69, 120, 97, 99, 116, 83, 117, 103, 68, 114, 111, 112, 32, 108, 111, 111, 112, 46, 101, 120, 97, 109, 112, 108, 101, 47, 108, 105, 109, 110, 101, 114, 47, 108, 97, 119, 115, 46, 70, 110, 69, 120, 97, 99, 116, 83, 117, 103, 84, 97, 107, 101, 32, 108, 111, 111, 112, 46, 101, 120, 97, 109, 112, 108, 101, 47, 108, 105, 109, 110, 101, 114, 47, 108, 97, 119, 115, 46, 70, 110, 83, 112, 111, 116, 80, 108, 97, 105, 110, 32, 108, 111, 111, 112, 46, 101, 120, 97, 109, 112, 108, 101, 47, 108, 105, 109, 110, 101, 114, 47, 108, 97, 119, 115, 46, 70, 110, 69, 120, 97, 99, 116, 83, 117, 103, 78, 111, 119, 32, 108, 111, 111, 112, 46, 101, 120, 97, 109, 112, 108, 101, 47, 108, 105, 109, 110, 101, 114, 47, 108, 97, 119, 115, 46, 70, 110, 69, 120, 97, 99, 116, 83, 117, 103, 87, 97, 115, 32, 108, 111, 111, 112, 46, 101, 120, 97, 109, 112, 108, 101, 47, 108, 105, 109, 110, 101, 114, 47, 108, 97, 119, 115, 46, 70, 110, 83, 117, 103, 79, 117, 116, 32, 108, 111, 111, 112, 46, 101, 120, 97, 109, 112, 108, 101, 47, 108, 105, 109, 110, 101, 114, 47, 108, 97, 119, 115, 46, 70, 110, 83, 117, 103, 73, 110, 65, 116, 32, 108, 111, 111, 112, 46, 101, 120, 97, 109, 112, 108, 101, 47, 108, 105, 109, 110, 101, 114, 47, 108, 97, 119, 115, 46, 70, 110, 83, 117, 103, 79, 119, 110, 32, 108, 111, 111, 112, 46, 101, 120, 97, 109, 112, 108, 101, 47, 108, 105, 109, 110, 101, 114, 47, 108, 97, 119, 115, 46, 70, 110, 83, 117, 103, 66, 97, 99, 107, 32, 108, 111, 111, 112, 46, 101, 120, 97, 109, 112, 108, 101, 47, 108, 105, 109, 110, 101, 114, 47, 108, 97, 119, 115, 46, 70, 110, 83, 117, 103, 87, 104, 111]
theorem order : Try.prog.initOrder = String.ofList (nums.map Char.ofNat) := by kernel_rfl
theorem orderL : Try.prog.initOrder.toList = nums.map Char.ofNat := by rw [order, String.toList_ofList]
theorem head : behindMainWord (wordsSigns Try.prog.initOrder.toList) = "cut".toList :: wordsSigns ((nums.map Char.ofNat).drop 77) := by
  rw [orderL]
  exact head_cut (by kernel_rfl) (by kernel_rfl) (by kernel_rfl) (by kernel_rfl)
theorem lays : Try.prog.laysLater = false := by kernel_rfl
theorem bears : Try.prog.bearsReflect = false := by kernel_rfl
theorem door : Try.prog.doorFits [] = true := by kernel_rfl
theorem enters : Try.prog.mayEnter = true := mayEnter_of head lays bears door
theorem finals : Try.prog.liftsFinal = false := liftsFinal_of head
theorem make : Try.prog.make = some .cut := make_of head
theorem own : ownKnob Try.prog.godebug = none := by kernel_rfl
theorem laidOut : laidOutB Try.prog = true := by kernel_rfl
end Go.Proofs.Ytdmmhainianadaa.Fx
