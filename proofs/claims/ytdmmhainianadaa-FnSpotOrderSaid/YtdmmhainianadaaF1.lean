/- F14: where a place is now, and was, as the reference tells it. -/
import Derived.Test.YtdmmhainianadaaProg
import Derived.Test.YtdmmhainianadaaV0
import Derived.Test.YtdmmhainianadaaV1
import Derived.Test.YtdmmhainianadaaF0
set_option linter.unusedSimpArgs false
set_option linter.unusedVariables false
set_option linter.unnecessarySimpa false
namespace Go.Proofs.Ytdmmhainianadaa
open Go.VM Go.Lim Go.Proofs.Try
attribute [local irreducible] vwp vops vstep vdr vdr1 CallP PPost SWv gdO gdD cdO optV optW optD thenV blockV behind callO callW callvO roundV
set_option linter.unusedSimpArgs false
set_option linter.unusedVariables false
theorem c38 (d : Doc) (p : Spot) : PureC prog 38 [.agg [encB d], .agg p.enc] (.agg (spotBy wasB docOk d p).enc) := by
  have h41 := c41 d p
  have h86 := c86 d p
  cases hb : placeOk docOk d p with
  | false =>
    rw [hb] at h41
    have e : spotBy wasB docOk d p = ⟨0, 0, 0⟩ := by rw [spotBy, hb]; rfl
    rw [e]
    clear hb e h86
    unfold Spot.enc encB at *
    refine pureC_of k38 (by first | rfl | simp [VV.cloL, VV.clo, *]) (by first | rfl | simp [VV.cloL, VV.clo, *]) (by simp) ?_
    intro X hP hm hH hn hX
    refine vwp_ok _ ?_
    unfold vc38
    repeat' (first
      | simp only [go_sem, reduceCtorEq, reduceIte, Nat.reduceAdd, Nat.reduceEqDiff, Nat.reduceLeDiff, Nat.reduceMul, *]
      | refine gdO_bool' _ (fun _ => ?_) (fun _ => ?_)
      | refine gdO_bool _ (fun _ => ?_) (fun _ => ?_)
      | refine gdD_bool' _ (fun _ => ?_) (fun _ => ?_)
      | refine gdD_bool _ (fun _ => ?_) (fun _ => ?_)
      | refine cdO_bool' _ (fun _ => ?_) (fun _ => ?_)
      | refine cdO_bool _ (fun _ => ?_) (fun _ => ?_)
      | refine callO.pure (by first | exact h41) ?_
      | refine callW.pure (by first | exact h41) ?_
      | refine ⟨by decide, ?_⟩
      | fail)
    exact ppost_c (by simp) (by simp only [go_sem, reduceCtorEq, reduceIte, Nat.reduceAdd, Nat.reduceEqDiff, Nat.reduceLeDiff, Nat.reduceMul]; rfl) (by simp only [go_sem, reduceCtorEq, reduceIte, Nat.reduceAdd, Nat.reduceEqDiff, Nat.reduceLeDiff, Nat.reduceMul]; rfl) rfl rfl rfl
  | true =>
    rw [hb] at h41 h86
    rw [if_pos rfl] at h86
    have hpos := hb
    simp only [placeOk, Bool.and_eq_true] at hpos
    have hp := hpos.2
    simp only [within, Bool.and_eq_true, decide_eq_true_eq] at hp
    have e : spotBy wasB docOk d p = ⟨p.block, p.cell, ((textBy wasB ((textAtB (blkAt d p) p.cell).take p.pos.toNat)).length : Int)⟩ := by rw [spotBy, if_pos hb]
    rw [e]
    clear e hb hpos
    generalize textAtB (blkAt d p) p.cell = tx at *
    have h90 := c90 (tx.take p.pos.toNat)
    obtain ⟨q, hq⟩ : ∃ q : Nat, p.pos = q := ⟨p.pos.toNat, by omega⟩
    rw [hq, Int.toNat_natCast] at h90 ⊢
    rw [hq] at hp
    have g1 : (0 : Int) ≤ (q : Int) := by omega
    have g2 : q ≤ tx.length := by omega
    have g3 : 0 ≤ q := Nat.zero_le q
    have hsz := strOf_size (textBy wasB (tx.take q))
    unfold encT strV at h90
    rw [List.map_take] at h90
    unfold Spot.enc encB encT at *
    simp only [hq] at h41 h86 ⊢
    generalize textBy wasB (tx.take q) = res at *
    refine pureC_of k38 (by first | rfl | simp [VV.cloL, VV.clo, *]) (by first | rfl | simp [VV.cloL, VV.clo, *]) (by simp) ?_
    intro X hP hm hH hn hX
    refine vwp_ok _ ?_
    unfold vc38
    repeat' (first
      | simp only [go_sem, reduceCtorEq, reduceIte, Nat.reduceAdd, Nat.reduceEqDiff, Nat.reduceLeDiff, Nat.reduceMul, *]
      | refine gdO_bool' _ (fun _ => ?_) (fun _ => ?_)
      | refine gdO_bool _ (fun _ => ?_) (fun _ => ?_)
      | refine gdD_bool' _ (fun _ => ?_) (fun _ => ?_)
      | refine gdD_bool _ (fun _ => ?_) (fun _ => ?_)
      | refine cdO_bool' _ (fun _ => ?_) (fun _ => ?_)
      | refine cdO_bool _ (fun _ => ?_) (fun _ => ?_)
      | refine callO.pure (by first | exact h41 | exact h86 | exact h90) ?_
      | refine callW.pure (by first | exact h41 | exact h86 | exact h90) ?_
      | refine ⟨by decide, ?_⟩
      | fail)
    exact ppost_c (by simp) (by simp only [go_sem, reduceCtorEq, reduceIte, Nat.reduceAdd, Nat.reduceEqDiff, Nat.reduceLeDiff, Nat.reduceMul]; rfl) (by simp only [go_sem, reduceCtorEq, reduceIte, Nat.reduceAdd, Nat.reduceEqDiff, Nat.reduceLeDiff, Nat.reduceMul]; rfl) rfl (by simp only [List.take, List.drop, hsz]) rfl
theorem c32 (d : Doc) (p : Spot) : PureC prog 32 [.agg [encB d], .agg p.enc] (.agg (spotBy nowB docOk d p).enc) := by
  have h41 := c41 d p
  have h86 := c86 d p
  cases hb : placeOk docOk d p with
  | false =>
    rw [hb] at h41
    have e : spotBy nowB docOk d p = ⟨0, 0, 0⟩ := by rw [spotBy, hb]; rfl
    rw [e]
    clear hb e h86
    unfold Spot.enc encB at *
    refine pureC_of k32 (by first | rfl | simp [VV.cloL, VV.clo, *]) (by first | rfl | simp [VV.cloL, VV.clo, *]) (by simp) ?_
    intro X hP hm hH hn hX
    refine vwp_ok _ ?_
    unfold vc32
    repeat' (first
      | simp only [go_sem, reduceCtorEq, reduceIte, Nat.reduceAdd, Nat.reduceEqDiff, Nat.reduceLeDiff, Nat.reduceMul, *]
      | refine gdO_bool' _ (fun _ => ?_) (fun _ => ?_)
      | refine gdO_bool _ (fun _ => ?_) (fun _ => ?_)
      | refine gdD_bool' _ (fun _ => ?_) (fun _ => ?_)
      | refine gdD_bool _ (fun _ => ?_) (fun _ => ?_)
      | refine cdO_bool' _ (fun _ => ?_) (fun _ => ?_)
      | refine cdO_bool _ (fun _ => ?_) (fun _ => ?_)
      | refine callO.pure (by first | exact h41) ?_
      | refine callW.pure (by first | exact h41) ?_
      | refine ⟨by decide, ?_⟩
      | fail)
    exact ppost_c (by simp) (by simp only [go_sem, reduceCtorEq, reduceIte, Nat.reduceAdd, Nat.reduceEqDiff, Nat.reduceLeDiff, Nat.reduceMul]; rfl) (by simp only [go_sem, reduceCtorEq, reduceIte, Nat.reduceAdd, Nat.reduceEqDiff, Nat.reduceLeDiff, Nat.reduceMul]; rfl) rfl rfl rfl
  | true =>
    rw [hb] at h41 h86
    rw [if_pos rfl] at h86
    have hpos := hb
    simp only [placeOk, Bool.and_eq_true] at hpos
    have hp := hpos.2
    simp only [within, Bool.and_eq_true, decide_eq_true_eq] at hp
    have e : spotBy nowB docOk d p = ⟨p.block, p.cell, ((textBy nowB ((textAtB (blkAt d p) p.cell).take p.pos.toNat)).length : Int)⟩ := by rw [spotBy, if_pos hb]
    rw [e]
    clear e hb hpos
    generalize textAtB (blkAt d p) p.cell = tx at *
    have h85 := c85 (tx.take p.pos.toNat)
    obtain ⟨q, hq⟩ : ∃ q : Nat, p.pos = q := ⟨p.pos.toNat, by omega⟩
    rw [hq, Int.toNat_natCast] at h85 ⊢
    rw [hq] at hp
    have g1 : (0 : Int) ≤ (q : Int) := by omega
    have g2 : q ≤ tx.length := by omega
    have g3 : 0 ≤ q := Nat.zero_le q
    have hsz := strOf_size (textBy nowB (tx.take q))
    unfold encT strV at h85
    rw [List.map_take] at h85
    unfold Spot.enc encB encT at *
    simp only [hq] at h41 h86 ⊢
    generalize textBy nowB (tx.take q) = res at *
    refine pureC_of k32 (by first | rfl | simp [VV.cloL, VV.clo, *]) (by first | rfl | simp [VV.cloL, VV.clo, *]) (by simp) ?_
    intro X hP hm hH hn hX
    refine vwp_ok _ ?_
    unfold vc32
    repeat' (first
      | simp only [go_sem, reduceCtorEq, reduceIte, Nat.reduceAdd, Nat.reduceEqDiff, Nat.reduceLeDiff, Nat.reduceMul, *]
      | refine gdO_bool' _ (fun _ => ?_) (fun _ => ?_)
      | refine gdO_bool _ (fun _ => ?_) (fun _ => ?_)
      | refine gdD_bool' _ (fun _ => ?_) (fun _ => ?_)
      | refine gdD_bool _ (fun _ => ?_) (fun _ => ?_)
      | refine cdO_bool' _ (fun _ => ?_) (fun _ => ?_)
      | refine cdO_bool _ (fun _ => ?_) (fun _ => ?_)
      | refine callO.pure (by first | exact h41 | exact h86 | exact h85) ?_
      | refine callW.pure (by first | exact h41 | exact h86 | exact h85) ?_
      | refine ⟨by decide, ?_⟩
      | fail)
    exact ppost_c (by simp) (by simp only [go_sem, reduceCtorEq, reduceIte, Nat.reduceAdd, Nat.reduceEqDiff, Nat.reduceLeDiff, Nat.reduceMul]; rfl) (by simp only [go_sem, reduceCtorEq, reduceIte, Nat.reduceAdd, Nat.reduceEqDiff, Nat.reduceLeDiff, Nat.reduceMul]; rfl) rfl (by simp only [List.take, List.drop, hsz]) rfl
end Go.Proofs.Ytdmmhainianadaa

/- F15: where a place is now, and was, as the program tells it. -/
namespace Go.Proofs.Ytdmmhainianadaa
open Go.VM Go.Lim Go.Proofs.Try
attribute [local irreducible] vwp vops vstep vdr vdr1 CallP PPost SWv gdO gdD cdO optV optW optD thenV blockV behind callO callW callvO roundV
set_option linter.unusedSimpArgs false
set_option linter.unusedVariables false
theorem getD_in {α : Type} {l : List α} {i : Nat} {x : α} : l.getD i x ∈ l ∨ l.getD i x = x := by
  rw [List.getD_eq_getElem?_getD]
  cases h : l[i]? with
  | none => right; rfl
  | some y => left; exact List.mem_of_getElem? h
theorem txt_sm {d : Doc} (p : Spot) (hs : docSm d) : (textAtB (blkAt d p) p.cell).length < 1099511627776 := by
  have hb : (blkAt d p).sm := by
    rcases getD_in (l := d) (i := p.block.toNat) (x := noBlock) with h | h
    · exact hs.2 _ h
    · unfold blkAt; rw [h]; exact ⟨by decide, by decide, fun c hc => by simp [noBlock] at hc⟩
  unfold textAtB
  split
  · rcases getD_in (l := (blkAt d p).table.cells) (i := p.cell.toNat) (x := noCell) with h | h
    · exact hb.2.2 _ h
    · rw [h]; decide
  · exact hb.1
theorem c39 (d : Doc) (p : Spot) (hs : docSm d) : PureC prog 39 [.agg [encB d], .agg p.enc] (.agg (spotBy wasB docOkI d p).enc) := by
  have h41 := c62 d p hs
  cases hb : placeOk docOkI d p with
  | false =>
    rw [hb] at h41
    have e : spotBy wasB docOkI d p = ⟨0, 0, 0⟩ := by rw [spotBy, hb]; rfl
    rw [e]
    clear hb e
    unfold Spot.enc encB at *
    refine pureC_of k39 (by first | rfl | simp [VV.cloL, VV.clo, *]) (by first | rfl | simp [VV.cloL, VV.clo, *]) (by simp) ?_
    intro X hP hm hH hn hX
    refine vwp_ok _ ?_
    unfold vc39
    repeat' (first
      | simp only [go_sem, reduceCtorEq, reduceIte, Nat.reduceAdd, Nat.reduceEqDiff, Nat.reduceLeDiff, Nat.reduceMul, *]
      | refine gdO_bool' _ (fun _ => ?_) (fun _ => ?_)
      | refine gdO_bool _ (fun _ => ?_) (fun _ => ?_)
      | refine gdD_bool' _ (fun _ => ?_) (fun _ => ?_)
      | refine gdD_bool _ (fun _ => ?_) (fun _ => ?_)
      | refine cdO_bool' _ (fun _ => ?_) (fun _ => ?_)
      | refine cdO_bool _ (fun _ => ?_) (fun _ => ?_)
      | refine callO.pure (by first | exact h41) ?_
      | refine callW.pure (by first | exact h41) ?_
      | refine ⟨by decide, ?_⟩
      | fail)
    exact ppost_c (by simp) (by simp only [go_sem, reduceCtorEq, reduceIte, Nat.reduceAdd, Nat.reduceEqDiff, Nat.reduceLeDiff, Nat.reduceMul]; rfl) (by simp only [go_sem, reduceCtorEq, reduceIte, Nat.reduceAdd, Nat.reduceEqDiff, Nat.reduceLeDiff, Nat.reduceMul]; rfl) rfl rfl rfl
  | true =>
    rw [hb] at h41
    have hpos := hb
    simp only [placeOk, Bool.and_eq_true] at hpos
    have hp := hpos.2
    simp only [within, Bool.and_eq_true, decide_eq_true_eq] at hp
    obtain ⟨rest, hrc, h86⟩ := c88 d p hs (by rw [Bool.and_eq_true]; exact ⟨hpos.1.1.2, hpos.1.2⟩)
    have e : spotBy wasB docOkI d p = ⟨p.block, p.cell, ((textBy wasB ((textAtB (blkAt d p) p.cell).take p.pos.toNat)).length : Int)⟩ := by rw [spotBy, if_pos hb]
    have hsm := txt_sm p hs
    rw [e]
    clear e hb hpos
    generalize textAtB (blkAt d p) p.cell = tx at *
    have h90 := c91 (tx.take p.pos.toNat) (by rw [List.length_take]; omega)
    obtain ⟨q, hq⟩ : ∃ q : Nat, p.pos = q := ⟨p.pos.toNat, by omega⟩
    rw [hq, Int.toNat_natCast] at h90 ⊢
    rw [hq] at hp
    have g1 : (0 : Int) ≤ (q : Int) := by omega
    have g2 : q ≤ tx.length := by omega
    have g3 : 0 ≤ q := Nat.zero_le q
    have hsz := strOf_size (textBy wasB (tx.take q))
    unfold encT strV at h90
    rw [List.map_take] at h90
    unfold Spot.enc encB encT at *
    simp only [hq] at h41 h86 ⊢
    generalize textBy wasB (tx.take q) = res at *
    refine pureC_of k39 (by first | rfl | simp [VV.cloL, VV.clo, *]) (by first | rfl | simp [VV.cloL, VV.clo, *]) (by simp) ?_
    intro X hP hm hH hn hX
    refine vwp_ok _ ?_
    unfold vc39
    repeat' (first
      | simp only [go_sem, reduceCtorEq, reduceIte, Nat.reduceAdd, Nat.reduceEqDiff, Nat.reduceLeDiff, Nat.reduceMul, *]
      | refine gdO_bool' _ (fun _ => ?_) (fun _ => ?_)
      | refine gdO_bool _ (fun _ => ?_) (fun _ => ?_)
      | refine gdD_bool' _ (fun _ => ?_) (fun _ => ?_)
      | refine gdD_bool _ (fun _ => ?_) (fun _ => ?_)
      | refine cdO_bool' _ (fun _ => ?_) (fun _ => ?_)
      | refine cdO_bool _ (fun _ => ?_) (fun _ => ?_)
      | refine callO.pure (by first | exact h41 | exact h86 | exact h90) ?_
      | refine callW.pure (by first | exact h41 | exact h86 | exact h90) ?_
      | refine ⟨by decide, ?_⟩
      | fail)
    exact ppost_c (by simp) (by simp only [go_sem, reduceCtorEq, reduceIte, Nat.reduceAdd, Nat.reduceEqDiff, Nat.reduceLeDiff, Nat.reduceMul]; rfl) (by simp only [go_sem, reduceCtorEq, reduceIte, Nat.reduceAdd, Nat.reduceEqDiff, Nat.reduceLeDiff, Nat.reduceMul]; rfl) rfl (by simp only [List.take, List.drop, hsz]) rfl
theorem c35 (d : Doc) (p : Spot) (hs : docSm d) : PureC prog 35 [.agg [encB d], .agg p.enc] (.agg (spotBy nowB docOkI d p).enc) := by
  have h41 := c62 d p hs
  cases hb : placeOk docOkI d p with
  | false =>
    rw [hb] at h41
    have e : spotBy nowB docOkI d p = ⟨0, 0, 0⟩ := by rw [spotBy, hb]; rfl
    rw [e]
    clear hb e
    unfold Spot.enc encB at *
    refine pureC_of k35 (by first | rfl | simp [VV.cloL, VV.clo, *]) (by first | rfl | simp [VV.cloL, VV.clo, *]) (by simp) ?_
    intro X hP hm hH hn hX
    refine vwp_ok _ ?_
    unfold vc35
    repeat' (first
      | simp only [go_sem, reduceCtorEq, reduceIte, Nat.reduceAdd, Nat.reduceEqDiff, Nat.reduceLeDiff, Nat.reduceMul, *]
      | refine gdO_bool' _ (fun _ => ?_) (fun _ => ?_)
      | refine gdO_bool _ (fun _ => ?_) (fun _ => ?_)
      | refine gdD_bool' _ (fun _ => ?_) (fun _ => ?_)
      | refine gdD_bool _ (fun _ => ?_) (fun _ => ?_)
      | refine cdO_bool' _ (fun _ => ?_) (fun _ => ?_)
      | refine cdO_bool _ (fun _ => ?_) (fun _ => ?_)
      | refine callO.pure (by first | exact h41) ?_
      | refine callW.pure (by first | exact h41) ?_
      | refine ⟨by decide, ?_⟩
      | fail)
    exact ppost_c (by simp) (by simp only [go_sem, reduceCtorEq, reduceIte, Nat.reduceAdd, Nat.reduceEqDiff, Nat.reduceLeDiff, Nat.reduceMul]; rfl) (by simp only [go_sem, reduceCtorEq, reduceIte, Nat.reduceAdd, Nat.reduceEqDiff, Nat.reduceLeDiff, Nat.reduceMul]; rfl) rfl rfl rfl
  | true =>
    rw [hb] at h41
    have hpos := hb
    simp only [placeOk, Bool.and_eq_true] at hpos
    have hp := hpos.2
    simp only [within, Bool.and_eq_true, decide_eq_true_eq] at hp
    obtain ⟨rest, hrc, h86⟩ := c88 d p hs (by rw [Bool.and_eq_true]; exact ⟨hpos.1.1.2, hpos.1.2⟩)
    have e : spotBy nowB docOkI d p = ⟨p.block, p.cell, ((textBy nowB ((textAtB (blkAt d p) p.cell).take p.pos.toNat)).length : Int)⟩ := by rw [spotBy, if_pos hb]
    have hsm := txt_sm p hs
    rw [e]
    clear e hb hpos
    generalize textAtB (blkAt d p) p.cell = tx at *
    have h90 := c78 (tx.take p.pos.toNat) (by rw [List.length_take]; omega)
    obtain ⟨q, hq⟩ : ∃ q : Nat, p.pos = q := ⟨p.pos.toNat, by omega⟩
    rw [hq, Int.toNat_natCast] at h90 ⊢
    rw [hq] at hp
    have g1 : (0 : Int) ≤ (q : Int) := by omega
    have g2 : q ≤ tx.length := by omega
    have g3 : 0 ≤ q := Nat.zero_le q
    have hsz := strOf_size (textBy nowB (tx.take q))
    unfold encT strV at h90
    rw [List.map_take] at h90
    unfold Spot.enc encB encT at *
    simp only [hq] at h41 h86 ⊢
    generalize textBy nowB (tx.take q) = res at *
    refine pureC_of k35 (by first | rfl | simp [VV.cloL, VV.clo, *]) (by first | rfl | simp [VV.cloL, VV.clo, *]) (by simp) ?_
    intro X hP hm hH hn hX
    refine vwp_ok _ ?_
    unfold vc35
    repeat' (first
      | simp only [go_sem, reduceCtorEq, reduceIte, Nat.reduceAdd, Nat.reduceEqDiff, Nat.reduceLeDiff, Nat.reduceMul, *]
      | refine gdO_bool' _ (fun _ => ?_) (fun _ => ?_)
      | refine gdO_bool _ (fun _ => ?_) (fun _ => ?_)
      | refine gdD_bool' _ (fun _ => ?_) (fun _ => ?_)
      | refine gdD_bool _ (fun _ => ?_) (fun _ => ?_)
      | refine cdO_bool' _ (fun _ => ?_) (fun _ => ?_)
      | refine cdO_bool _ (fun _ => ?_) (fun _ => ?_)
      | refine callO.pure (by first | exact h41 | exact h86 | exact h90) ?_
      | refine callW.pure (by first | exact h41 | exact h86 | exact h90) ?_
      | refine ⟨by decide, ?_⟩
      | fail)
    exact ppost_c (by simp) (by simp only [go_sem, reduceCtorEq, reduceIte, Nat.reduceAdd, Nat.reduceEqDiff, Nat.reduceLeDiff, Nat.reduceMul]; rfl) (by simp only [go_sem, reduceCtorEq, reduceIte, Nat.reduceAdd, Nat.reduceEqDiff, Nat.reduceLeDiff, Nat.reduceMul]; rfl) rfl (by simp only [List.take, List.drop, hsz]) rfl
end Go.Proofs.Ytdmmhainianadaa

/- F16: the laws' helpers: sizes, copies, comparisons. -/
namespace Go.Proofs.Ytdmmhainianadaa
open Go.VM Go.Lim Go.Proofs.Try
attribute [local irreducible] vwp vops vstep vdr vdr1 CallP PPost SWv gdO gdD cdO optV optW optD thenV blockV behind callO callW callvO roundV
set_option linter.unusedSimpArgs false
set_option linter.unusedVariables false
/- loop.example/limner/laws.toPlace -/
def vc34 : VCode :=
(.seq (.reg [⟨(some 1), (.box (.tmp 0)), none⟩, ⟨(some 2), (.new [(.int .i64 0), (.int .i64 0), (.int .i64 0)]), none⟩])
(.seq (.reg [⟨(some 3), (.new [(.int .i64 0), (.int .i64 0), (.int .i64 0)]), none⟩])
(.seq (.reg [⟨(some 4), (.fad 0 (.tmp 1)), none⟩, ⟨(some 5), (.load false 1 (.tmp 4)), none⟩, ⟨(some 6), (.fad 0 (.tmp 3)), none⟩, ⟨none, (.store 1 (.tmp 6) (.tmp 5)), none⟩])
(.seq (.reg [⟨(some 7), (.fad 1 (.tmp 1)), none⟩, ⟨(some 8), (.load false 1 (.tmp 7)), none⟩, ⟨(some 9), (.fad 1 (.tmp 3)), none⟩, ⟨none, (.store 1 (.tmp 9) (.tmp 8)), none⟩])
(.seq (.reg [⟨(some 10), (.fad 2 (.tmp 1)), none⟩, ⟨(some 11), (.load false 1 (.tmp 10)), none⟩, ⟨(some 12), (.fad 2 (.tmp 3)), none⟩, ⟨none, (.store 1 (.tmp 12) (.tmp 11)), none⟩])
(.seq (.reg [⟨(some 13), (.load true 3 (.tmp 3)), none⟩, ⟨none, (.store 3 (.tmp 2) (.tmp 13)), none⟩])
.ret))))))
theorem k34 : compFn prog 34 = some (14, vc34, [.c 2 true 3]) := by kernel_rfl
/- loop.example/limner/laws.eqPlace -/
def vc36 : VCode :=
(.seq (.reg [⟨(some 2), (.box (.tmp 0)), none⟩, ⟨(some 3), (.box (.tmp 1)), none⟩, ⟨(some 4), (.mov (.const (.bool false))), none⟩])
(.seq (.seq (.reg [⟨(some 5), (.fad 0 (.tmp 2)), none⟩, ⟨(some 6), (.load false 1 (.tmp 5)), none⟩, ⟨(some 7), (.fad 0 (.tmp 3)), none⟩, ⟨(some 8), (.load false 1 (.tmp 7)), none⟩, ⟨(some 9), (.bin .neq .no (.tmp 6) (.tmp 8)), none⟩])
(.cond (.tmp 9) (.seq (.reg [⟨(some 4), (.mov (.const (.bool false))), none⟩])
 .ret)
 .skip))
(.seq (.seq (.reg [⟨(some 10), (.fad 1 (.tmp 2)), none⟩, ⟨(some 11), (.load false 1 (.tmp 10)), none⟩, ⟨(some 12), (.fad 1 (.tmp 3)), none⟩, ⟨(some 13), (.load false 1 (.tmp 12)), none⟩, ⟨(some 14), (.bin .neq .no (.tmp 11) (.tmp 13)), none⟩])
(.cond (.tmp 14) (.seq (.reg [⟨(some 4), (.mov (.const (.bool false))), none⟩])
 .ret)
 .skip))
(.seq (.seq (.reg [⟨(some 15), (.fad 2 (.tmp 2)), none⟩, ⟨(some 16), (.load false 1 (.tmp 15)), none⟩, ⟨(some 17), (.fad 2 (.tmp 3)), none⟩, ⟨(some 18), (.load false 1 (.tmp 17)), none⟩, ⟨(some 19), (.bin .neq .no (.tmp 16) (.tmp 18)), none⟩])
(.cond (.tmp 19) (.seq (.reg [⟨(some 4), (.mov (.const (.bool false))), none⟩])
 .ret)
 .skip))
(.seq (.reg [⟨(some 4), (.mov (.const (.bool true))), none⟩])
.ret)))))
theorem k36 : compFn prog 36 = some (20, vc36, [.t 4]) := by kernel_rfl
/- loop.example/limner/laws.toSign -/
def vc189 : VCode :=
(.seq (.reg [⟨(some 1), (.box (.tmp 0)), none⟩, ⟨(some 2), (.new [(.int .u8 0), (.int .i64 0), (.int .i64 0)]), none⟩])
(.seq (.reg [⟨(some 3), (.new [(.int .u8 0), (.int .i64 0), (.int .i64 0)]), none⟩])
(.seq (.reg [⟨(some 4), (.fad 0 (.tmp 1)), none⟩, ⟨(some 5), (.load false 1 (.tmp 4)), none⟩, ⟨(some 6), (.fad 0 (.tmp 3)), none⟩, ⟨none, (.store 1 (.tmp 6) (.tmp 5)), none⟩])
(.seq (.reg [⟨(some 7), (.fad 1 (.tmp 1)), none⟩, ⟨(some 8), (.load false 1 (.tmp 7)), none⟩, ⟨(some 9), (.fad 1 (.tmp 3)), none⟩, ⟨none, (.store 1 (.tmp 9) (.tmp 8)), none⟩])
(.seq (.reg [⟨(some 10), (.fad 2 (.tmp 1)), none⟩, ⟨(some 11), (.load false 1 (.tmp 10)), none⟩, ⟨(some 12), (.fad 2 (.tmp 3)), none⟩, ⟨none, (.store 1 (.tmp 12) (.tmp 11)), none⟩])
(.seq (.reg [⟨(some 13), (.load true 3 (.tmp 3)), none⟩, ⟨none, (.store 3 (.tmp 2) (.tmp 13)), none⟩])
.ret))))))
theorem k189 : compFn prog 189 = some (14, vc189, [.c 2 true 3]) := by kernel_rfl
/- loop.example/limner/laws.eqSign -/
def vc191 : VCode :=
(.seq (.reg [⟨(some 2), (.box (.tmp 0)), none⟩, ⟨(some 3), (.box (.tmp 1)), none⟩, ⟨(some 4), (.mov (.const (.bool false))), none⟩])
(.seq (.seq (.reg [⟨(some 5), (.fad 0 (.tmp 2)), none⟩, ⟨(some 6), (.load false 1 (.tmp 5)), none⟩, ⟨(some 7), (.fad 0 (.tmp 3)), none⟩, ⟨(some 8), (.load false 1 (.tmp 7)), none⟩, ⟨(some 9), (.bin .neq .no (.tmp 6) (.tmp 8)), none⟩])
(.cond (.tmp 9) (.seq (.reg [⟨(some 4), (.mov (.const (.bool false))), none⟩])
 .ret)
 .skip))
(.seq (.seq (.reg [⟨(some 10), (.fad 1 (.tmp 2)), none⟩, ⟨(some 11), (.load false 1 (.tmp 10)), none⟩, ⟨(some 12), (.fad 1 (.tmp 3)), none⟩, ⟨(some 13), (.load false 1 (.tmp 12)), none⟩, ⟨(some 14), (.bin .neq .no (.tmp 11) (.tmp 13)), none⟩])
(.cond (.tmp 14) (.seq (.reg [⟨(some 4), (.mov (.const (.bool false))), none⟩])
 .ret)
 .skip))
(.seq (.seq (.reg [⟨(some 15), (.fad 2 (.tmp 2)), none⟩, ⟨(some 16), (.load false 1 (.tmp 15)), none⟩, ⟨(some 17), (.fad 2 (.tmp 3)), none⟩, ⟨(some 18), (.load false 1 (.tmp 17)), none⟩, ⟨(some 19), (.bin .neq .no (.tmp 16) (.tmp 18)), none⟩])
(.cond (.tmp 19) (.seq (.reg [⟨(some 4), (.mov (.const (.bool false))), none⟩])
 .ret)
 .skip))
(.seq (.reg [⟨(some 4), (.mov (.const (.bool true))), none⟩])
.ret)))))
theorem k191 : compFn prog 191 = some (20, vc191, [.t 4]) := by kernel_rfl
theorem c34 (p : Spot) : PureC prog 34 [.agg p.enc] (.agg p.enc) := by
  unfold Spot.enc
  refine pureC_of k34 (by first | rfl | simp [VV.cloL, VV.clo, *]) (by first | rfl | simp [VV.cloL, VV.clo, *]) (by simp) ?_
  intro X hP hm hH hn hX
  refine vwp_ok _ ?_
  unfold vc34
  repeat' (first
    | simp only [go_sem, reduceCtorEq, reduceIte, Nat.reduceAdd, Nat.reduceEqDiff, Nat.reduceLeDiff, Nat.reduceMul, *]
    | refine gdO_bool' _ (fun _ => ?_) (fun _ => ?_)
    | refine gdO_bool _ (fun _ => ?_) (fun _ => ?_)
    | refine gdD_bool' _ (fun _ => ?_) (fun _ => ?_)
    | refine gdD_bool _ (fun _ => ?_) (fun _ => ?_)
    | refine cdO_bool' _ (fun _ => ?_) (fun _ => ?_)
    | refine cdO_bool _ (fun _ => ?_) (fun _ => ?_)
    | refine ⟨by decide, ?_⟩
    | fail)
  exact ppost_c (by simp) (by simp only [go_sem, reduceCtorEq, reduceIte, Nat.reduceAdd, Nat.reduceEqDiff, Nat.reduceLeDiff, Nat.reduceMul]; rfl) (by simp only [go_sem, reduceCtorEq, reduceIte, Nat.reduceAdd, Nat.reduceEqDiff, Nat.reduceLeDiff, Nat.reduceMul]; rfl) rfl rfl rfl
theorem c189 (x : Sign) : PureC prog 189 [.agg x.enc] (.agg x.enc) := by
  unfold Sign.enc
  refine pureC_of k189 (by first | rfl | simp [VV.cloL, VV.clo, *]) (by first | rfl | simp [VV.cloL, VV.clo, *]) (by simp) ?_
  intro X hP hm hH hn hX
  refine vwp_ok _ ?_
  unfold vc189
  repeat' (first
    | simp only [go_sem, reduceCtorEq, reduceIte, Nat.reduceAdd, Nat.reduceEqDiff, Nat.reduceLeDiff, Nat.reduceMul, *]
    | refine gdO_bool' _ (fun _ => ?_) (fun _ => ?_)
    | refine gdO_bool _ (fun _ => ?_) (fun _ => ?_)
    | refine gdD_bool' _ (fun _ => ?_) (fun _ => ?_)
    | refine gdD_bool _ (fun _ => ?_) (fun _ => ?_)
    | refine cdO_bool' _ (fun _ => ?_) (fun _ => ?_)
    | refine cdO_bool _ (fun _ => ?_) (fun _ => ?_)
    | refine ⟨by decide, ?_⟩
    | fail)
  exact ppost_c (by simp) (by simp only [go_sem, reduceCtorEq, reduceIte, Nat.reduceAdd, Nat.reduceEqDiff, Nat.reduceLeDiff, Nat.reduceMul]; rfl) (by simp only [go_sem, reduceCtorEq, reduceIte, Nat.reduceAdd, Nat.reduceEqDiff, Nat.reduceLeDiff, Nat.reduceMul]; rfl) rfl rfl rfl
theorem c36 (a b : Spot) : PureC prog 36 [.agg a.enc, .agg b.enc] (.sc (.bool (a.block == b.block && a.cell == b.cell && a.pos == b.pos))) := by
  unfold Spot.enc
  refine pureC_of k36 (by first | rfl | simp [VV.cloL, VV.clo, *]) (by first | rfl | simp [VV.cloL, VV.clo, *]) (by simp) ?_
  intro X hP hm hH hn hX
  refine vwp_ok _ ?_
  unfold vc36
  repeat' (first
    | simp only [go_sem, reduceCtorEq, reduceIte, Nat.reduceAdd, Nat.reduceEqDiff, Nat.reduceLeDiff, Nat.reduceMul, *]
    | refine gdO_bool' _ (fun _ => ?_) (fun _ => ?_)
    | refine gdO_bool _ (fun _ => ?_) (fun _ => ?_)
    | refine gdD_bool' _ (fun _ => ?_) (fun _ => ?_)
    | refine gdD_bool _ (fun _ => ?_) (fun _ => ?_)
    | refine cdO_bool' _ (fun _ => ?_) (fun _ => ?_)
    | refine cdO_bool _ (fun _ => ?_) (fun _ => ?_)
    | refine ⟨by decide, ?_⟩
    | refine ppost_t (by simp) rfl ?_)
  all_goals simp only [*, Bool.true_and, Bool.false_and, Bool.and_true, Bool.and_false]
theorem c191 (a b : Sign) : PureC prog 191 [.agg a.enc, .agg b.enc] (.sc (.bool (a.byte == b.byte && a.inn == b.inn && a.out == b.out))) := by
  unfold Sign.enc
  refine pureC_of k191 (by first | rfl | simp [VV.cloL, VV.clo, *]) (by first | rfl | simp [VV.cloL, VV.clo, *]) (by simp) ?_
  intro X hP hm hH hn hX
  refine vwp_ok _ ?_
  unfold vc191
  repeat' (first
    | simp only [go_sem, reduceCtorEq, reduceIte, Nat.reduceAdd, Nat.reduceEqDiff, Nat.reduceLeDiff, Nat.reduceMul, *]
    | refine gdO_bool' _ (fun _ => ?_) (fun _ => ?_)
    | refine gdO_bool _ (fun _ => ?_) (fun _ => ?_)
    | refine gdD_bool' _ (fun _ => ?_) (fun _ => ?_)
    | refine gdD_bool _ (fun _ => ?_) (fun _ => ?_)
    | refine cdO_bool' _ (fun _ => ?_) (fun _ => ?_)
    | refine cdO_bool _ (fun _ => ?_) (fun _ => ?_)
    | refine ⟨by decide, ?_⟩
    | refine ppost_t (by simp) rfl ?_)
  all_goals simp only [*, Bool.true_and, Bool.false_and, Bool.and_true, Bool.and_false]
end Go.Proofs.Ytdmmhainianadaa

/- F17: the laws' copies. -/
namespace Go.Proofs.Ytdmmhainianadaa
open Go.VM Go.Lim Go.Proofs.Try
attribute [local irreducible] vwp vops vstep vdr vdr1 CallP PPost SWv gdO gdD cdO optV optW optD thenV blockV behind callO callW callvO roundV
set_option linter.unusedSimpArgs false
set_option linter.unusedVariables false
/- loop.example/limner/laws.toSignS -/
def vc165 : VCode :=
(.seq (.reg [⟨(some 2), (.mov (.const (.slice none 0 0))), none⟩])
(.seq (.reg [⟨(some 5), (.mov (.tmp 0)), none⟩, ⟨(some 6), (.len false (.tmp 5)), none⟩, ⟨(some 7), (.mks 3 24 [(.int .u8 0), (.int .i64 0), (.int .i64 0)] (.tmp 6)), none⟩, ⟨(some 3), (.mov (.tmp 7)), none⟩])
(.seq (.seq (.reg [⟨(some 4), (.mov (.const (.int .i64 0))), none⟩])
(.block 0 (.loop (.seq (.seq (.reg [⟨(some 8), (.mov (.tmp 4)), none⟩, ⟨(some 9), (.mov (.tmp 0)), none⟩, ⟨(some 10), (.len false (.tmp 9)), none⟩, ⟨(some 11), (.bin .lss .no (.tmp 8) (.tmp 10)), none⟩])
  (.cond (.tmp 11) .skip
   (.exit 0)))
  (.seq (.block 1 (.reg [⟨(some 14), (.mov (.tmp 3)), none⟩, ⟨(some 15), (.mov (.tmp 4)), none⟩, ⟨(some 16), (.mov (.tmp 0)), none⟩, ⟨(some 17), (.mov (.tmp 4)), none⟩, ⟨(some 18), (.iad 3 (.tmp 16) (.tmp 17)), none⟩, ⟨(some 19), (.load true 3 (.tmp 18)), none⟩, ⟨(some 20), (.call 189 [(.tmp 19)]), none⟩, ⟨(some 21), (.iad 3 (.tmp 14) (.tmp 15)), none⟩, ⟨none, (.store 3 (.tmp 21) (.tmp 20)), none⟩]))
  (.reg [⟨(some 12), (.mov (.tmp 4)), none⟩, ⟨(some 13), (.bin .add .no (.tmp 12) (.const (.int .i64 1))), none⟩, ⟨(some 4), (.mov (.tmp 13)), none⟩]))))))
(.seq (.reg [⟨(some 22), (.mov (.tmp 3)), none⟩, ⟨(some 2), (.mov (.tmp 22)), none⟩])
.ret))))
theorem k165 : compFn prog 165 = some (23, vc165, [.t 2]) := by kernel_rfl
def zS : List VV := [.sc (.int .u8 0), .sc (.int .i64 0), .sc (.int .i64 0)]
theorem rep_clo {zs : List VV} (h : VV.cloL zs = true) : ∀ n, VV.cloL (List.replicate n zs).flatten = true
  | 0 => rfl
  | n + 1 => by rw [List.replicate_succ, List.flatten_cons, cloL_append, h, rep_clo h n]; rfl
theorem map_clo {α : Type} {enc : α → List VV} (h : ∀ x, VV.cloL (enc x) = true) : ∀ l : List α, VV.cloL (l.map enc).flatten = true
  | [] => rfl
  | x :: l => by rw [List.map_cons, List.flatten_cons, cloL_append, h, map_clo h l]; rfl
theorem filled_clo {α : Type} {enc : α → List VV} {zs : List VV} (h : ∀ x, VV.cloL (enc x) = true) (hz : VV.cloL zs = true) (l : List α) (i : Nat) : VV.cloL (filled enc zs l i) = true := by
  rw [filled, cloL_append, map_clo h, rep_clo hz]; rfl
theorem c165 (l : Text) (hs : l.length < 1048577) : PureC prog 165 [encT l] (encT l) := by
  have h0 : (0 : Int) ≤ (l.length : Int) ∧ (l.length : Int) * ((24 : Nat) : Int) ≤ 281474976710656 ∧ (l.length : Int) ≤ 9223372036854775807 := by omega
  unfold encT
  refine pureC_of k165 (by first | rfl | simp [VV.cloL, VV.clo, *]) (by first | rfl | simp [VV.cloL, VV.clo, *]) (by simp) ?_
  intro X hP hm hH hn hX
  refine vwp_ok _ ?_
  unfold vc165
  repeat' (first
    | simp only [go_sem, reduceCtorEq, reduceIte, Nat.reduceAdd, Nat.reduceEqDiff, Nat.reduceLeDiff, Nat.reduceMul, *]
    | refine gdO_bool' _ (fun _ => ?_) (fun _ => ?_)
    | refine gdO_bool _ (fun _ => ?_) (fun _ => ?_)
    | refine gdD_bool' _ (fun _ => ?_) (fun _ => ?_)
    | refine gdD_bool _ (fun _ => ?_) (fun _ => ?_)
    | refine cdO_bool' _ (fun _ => ?_) (fun _ => ?_)
    | refine cdO_bool _ (fun _ => ?_) (fun _ => ?_)
    | refine ⟨by decide, ?_⟩
    | refine ppost_t (by simp) rfl ?_)
  refine loopV hX (fun μ s H n => ∃ i : Nat, i ≤ l.length ∧ μ = l.length - i ∧ s = slotsOf [(0, .sl 3 (l.map Sign.enc)), (3, .rf 0 0 l.length 3), (4, .sc (.int .i64 i))] ∧ H = heapOf [(0, filled Sign.enc zS l i)] ∧ n = 1) ?_
    ⟨l.length + 1, roundV_of hH hn [3] [(0, _), (3, _), (4, _)] [(0, _)] _ ⟨0, by simp, rfl, rfl, rfl, rfl⟩ (by simp) (by simp) (by simp [hm]) ?_ ?_⟩
  rotate_left
  · repeat' (first | exact List.forall_mem_nil _ | refine List.forall_mem_cons.2 ⟨?_, ?_⟩ | exact .toPt (by simp only [go_sem, reduceCtorEq, reduceIte, Nat.reduceAdd, Nat.reduceEqDiff, Nat.reduceLeDiff, Nat.reduceMul, *] <;> rfl) (by simp [tau]) (by simp) | exact .toRf (by simp only [go_sem, reduceCtorEq, reduceIte, Nat.reduceAdd, Nat.reduceEqDiff, Nat.reduceLeDiff, Nat.reduceMul, *] <;> rfl) (by simp [tau]) (by simp) | exact .same (by simp only [go_sem, reduceCtorEq, reduceIte, Nat.reduceAdd, Nat.reduceEqDiff, Nat.reduceLeDiff, Nat.reduceMul, *] <;> rfl) (by first | rfl | simp [VV.cloL, VV.clo, *]))
  · refine HConv.same (by decide) ?_ (filled_clo (fun _ => rfl) rfl l 0) HConv.nil
    rw [filled_zero]; rfl
  rintro μ s H n ⟨i, hi, rfl, rfl, rfl, rfl⟩
  rcases Nat.lt_or_ge i l.length with hlt | hge
  · have g1 := lt_dec hlt
    have g2 : (0 : Int) ≤ (i : Int) := by omega
    have g3 : (i : Int) < (l.length : Int) := by omega
    have g4 : (l.map Sign.enc).getD i [] = (l[i]).enc := getD_map hlt
    have g5 : IntKind.i64.wrap ((i : Int) + 1) = ((i + 1 : Nat) : Int) := by rw [wrap_id] <;> omega
    have k1 := filled_store (enc := Sign.enc) (zs := zS) (z := 3) rfl (fun _ => rfl) hlt
    have k2 := filled_len (enc := Sign.enc) (zs := zS) (z := 3) rfl (fun _ => rfl) hi
    have k3 : i * 3 + 3 ≤ l.length * 3 := by omega
    have h189 := c189 l[i]
    generalize l[i] = x at *
    have ex : x.enc = [.sc (.int .u8 x.byte), .sc (.int .i64 x.inn), .sc (.int .i64 x.out)] := rfl
    rw [ex] at h189 k1
    repeat' (first
      | simp only [go_sem, reduceCtorEq, reduceIte, Nat.reduceAdd, Nat.reduceEqDiff, Nat.reduceLeDiff, Nat.reduceMul, *]
      | refine gdO_bool' _ (fun _ => ?_) (fun _ => ?_)
      | refine gdO_bool _ (fun _ => ?_) (fun _ => ?_)
      | refine gdD_bool' _ (fun _ => ?_) (fun _ => ?_)
      | refine gdD_bool _ (fun _ => ?_) (fun _ => ?_)
      | refine cdO_bool' _ (fun _ => ?_) (fun _ => ?_)
      | refine cdO_bool _ (fun _ => ?_) (fun _ => ?_)
      | refine callO.pure (by first | exact h189) ?_
      | refine callW.pure (by first | exact h189) ?_
      | refine ⟨by decide, ?_⟩
      | refine ppost_t (by simp) rfl ?_)
    refine roundV_of hH hn [0] [(0, _), (3, _), (4, _)] [(0, _)] _ ⟨i + 1, hlt, rfl, rfl, rfl, rfl⟩ (by omega) (by simp) (by simp [hm]) ?_ ?_
    · repeat' (first | exact List.forall_mem_nil _ | refine List.forall_mem_cons.2 ⟨?_, ?_⟩ | exact .toPt (by simp only [go_sem, reduceCtorEq, reduceIte, Nat.reduceAdd, Nat.reduceEqDiff, Nat.reduceLeDiff, Nat.reduceMul, *] <;> rfl) (by simp [tau]) (by simp) | exact .toRf (by simp only [go_sem, reduceCtorEq, reduceIte, Nat.reduceAdd, Nat.reduceEqDiff, Nat.reduceLeDiff, Nat.reduceMul, *] <;> rfl) (by simp [tau]) (by simp) | exact .same (by simp only [go_sem, reduceCtorEq, reduceIte, Nat.reduceAdd, Nat.reduceEqDiff, Nat.reduceLeDiff, Nat.reduceMul, *] <;> rfl) (by first | rfl | simp [VV.cloL, VV.clo, *]))
    · refine HConv.same (by decide) ?_ (filled_clo (fun _ => rfl) rfl l (i + 1)) HConv.nil
      rw [← k1]; rfl
  · have g1 := ge_dec hge
    repeat' (first
      | simp only [go_sem, reduceCtorEq, reduceIte, Nat.reduceAdd, Nat.reduceEqDiff, Nat.reduceLeDiff, Nat.reduceMul, *]
      | refine gdO_bool' _ (fun _ => ?_) (fun _ => ?_)
      | refine gdO_bool _ (fun _ => ?_) (fun _ => ?_)
      | refine gdD_bool' _ (fun _ => ?_) (fun _ => ?_)
      | refine gdD_bool _ (fun _ => ?_) (fun _ => ?_)
      | refine cdO_bool' _ (fun _ => ?_) (fun _ => ?_)
      | refine cdO_bool _ (fun _ => ?_) (fun _ => ?_)
      | refine ⟨by decide, ?_⟩
      | fail)
    refine ppost_rf (by simp) (by simp only [go_sem, reduceCtorEq, reduceIte, Nat.reduceAdd, Nat.reduceEqDiff, Nat.reduceLeDiff, Nat.reduceMul]; rfl) (by simp only [go_sem, reduceCtorEq, reduceIte, Nat.reduceAdd, Nat.reduceEqDiff, Nat.reduceLeDiff, Nat.reduceMul]; rfl) (by simp) ?_ (enc_lens l) (flat_clo l)
    rw [List.drop_zero, filled_all hge, List.take_of_length_le]
    rw [flat_len]
    exact Nat.le_refl _
end Go.Proofs.Ytdmmhainianadaa

/- F18: the laws' copies of cells, tables, blocks, documents. -/
namespace Go.Proofs.Ytdmmhainianadaa
open Go.VM Go.Lim Go.Proofs.Try
attribute [local irreducible] vwp vops vstep vdr vdr1 CallP PPost SWv gdO gdD cdO optV optW optD thenV blockV behind callO callW callvO roundV
set_option linter.unusedSimpArgs false
set_option linter.unusedVariables false
/- loop.example/limner/laws.toCell -/
def vc206 : VCode :=
(.seq (.reg [⟨(some 1), (.box (.tmp 0)), none⟩, ⟨(some 2), (.new [(.int .i64 0), (.int .i64 0), (.int .i64 0), (.int .i64 0), (.slice none 0 0)]), none⟩])
(.seq (.reg [⟨(some 3), (.new [(.int .i64 0), (.int .i64 0), (.int .i64 0), (.int .i64 0), (.slice none 0 0)]), none⟩])
(.seq (.reg [⟨(some 4), (.fad 0 (.tmp 1)), none⟩, ⟨(some 5), (.load false 1 (.tmp 4)), none⟩, ⟨(some 6), (.fad 0 (.tmp 3)), none⟩, ⟨none, (.store 1 (.tmp 6) (.tmp 5)), none⟩])
(.seq (.reg [⟨(some 7), (.fad 1 (.tmp 1)), none⟩, ⟨(some 8), (.load false 1 (.tmp 7)), none⟩, ⟨(some 9), (.fad 1 (.tmp 3)), none⟩, ⟨none, (.store 1 (.tmp 9) (.tmp 8)), none⟩])
(.seq (.reg [⟨(some 10), (.fad 2 (.tmp 1)), none⟩, ⟨(some 11), (.load false 1 (.tmp 10)), none⟩, ⟨(some 12), (.fad 2 (.tmp 3)), none⟩, ⟨none, (.store 1 (.tmp 12) (.tmp 11)), none⟩])
(.seq (.reg [⟨(some 13), (.fad 3 (.tmp 1)), none⟩, ⟨(some 14), (.load false 1 (.tmp 13)), none⟩, ⟨(some 15), (.fad 3 (.tmp 3)), none⟩, ⟨none, (.store 1 (.tmp 15) (.tmp 14)), none⟩])
(.seq (.reg [⟨(some 16), (.fad 4 (.tmp 1)), none⟩, ⟨(some 17), (.load false 1 (.tmp 16)), none⟩, ⟨(some 18), (.call 165 [(.tmp 17)]), none⟩, ⟨(some 19), (.fad 4 (.tmp 3)), none⟩, ⟨none, (.store 1 (.tmp 19) (.tmp 18)), none⟩])
(.seq (.reg [⟨(some 20), (.load true 5 (.tmp 3)), none⟩, ⟨none, (.store 5 (.tmp 2) (.tmp 20)), none⟩])
.ret))))))))
theorem k206 : compFn prog 206 = some (21, vc206, [.c 2 true 5]) := by kernel_rfl
/- loop.example/limner/laws.toCellS -/
def vc190 : VCode :=
(.seq (.reg [⟨(some 2), (.mov (.const (.slice none 0 0))), none⟩])
(.seq (.reg [⟨(some 5), (.mov (.tmp 0)), none⟩, ⟨(some 6), (.len false (.tmp 5)), none⟩, ⟨(some 7), (.mks 5 56 [(.int .i64 0), (.int .i64 0), (.int .i64 0), (.int .i64 0), (.slice none 0 0)] (.tmp 6)), none⟩, ⟨(some 3), (.mov (.tmp 7)), none⟩])
(.seq (.seq (.reg [⟨(some 4), (.mov (.const (.int .i64 0))), none⟩])
(.block 0 (.loop (.seq (.seq (.reg [⟨(some 8), (.mov (.tmp 4)), none⟩, ⟨(some 9), (.mov (.tmp 0)), none⟩, ⟨(some 10), (.len false (.tmp 9)), none⟩, ⟨(some 11), (.bin .lss .no (.tmp 8) (.tmp 10)), none⟩])
  (.cond (.tmp 11) .skip
   (.exit 0)))
  (.seq (.block 1 (.reg [⟨(some 14), (.mov (.tmp 3)), none⟩, ⟨(some 15), (.mov (.tmp 4)), none⟩, ⟨(some 16), (.mov (.tmp 0)), none⟩, ⟨(some 17), (.mov (.tmp 4)), none⟩, ⟨(some 18), (.iad 5 (.tmp 16) (.tmp 17)), none⟩, ⟨(some 19), (.load true 5 (.tmp 18)), none⟩, ⟨(some 20), (.call 206 [(.tmp 19)]), none⟩, ⟨(some 21), (.iad 5 (.tmp 14) (.tmp 15)), none⟩, ⟨none, (.store 5 (.tmp 21) (.tmp 20)), none⟩]))
  (.reg [⟨(some 12), (.mov (.tmp 4)), none⟩, ⟨(some 13), (.bin .add .no (.tmp 12) (.const (.int .i64 1))), none⟩, ⟨(some 4), (.mov (.tmp 13)), none⟩]))))))
(.seq (.reg [⟨(some 22), (.mov (.tmp 3)), none⟩, ⟨(some 2), (.mov (.tmp 22)), none⟩])
.ret))))
theorem k190 : compFn prog 190 = some (23, vc190, [.t 2]) := by kernel_rfl
/- loop.example/limner/laws.toTable -/
def vc166 : VCode :=
(.seq (.reg [⟨(some 1), (.box (.tmp 0)), none⟩, ⟨(some 2), (.new [(.int .i64 0), (.int .i64 0), (.slice none 0 0)]), none⟩])
(.seq (.reg [⟨(some 3), (.new [(.int .i64 0), (.int .i64 0), (.slice none 0 0)]), none⟩])
(.seq (.reg [⟨(some 4), (.fad 0 (.tmp 1)), none⟩, ⟨(some 5), (.load false 1 (.tmp 4)), none⟩, ⟨(some 6), (.fad 0 (.tmp 3)), none⟩, ⟨none, (.store 1 (.tmp 6) (.tmp 5)), none⟩])
(.seq (.reg [⟨(some 7), (.fad 1 (.tmp 1)), none⟩, ⟨(some 8), (.load false 1 (.tmp 7)), none⟩, ⟨(some 9), (.fad 1 (.tmp 3)), none⟩, ⟨none, (.store 1 (.tmp 9) (.tmp 8)), none⟩])
(.seq (.reg [⟨(some 10), (.fad 2 (.tmp 1)), none⟩, ⟨(some 11), (.load false 1 (.tmp 10)), none⟩, ⟨(some 12), (.call 190 [(.tmp 11)]), none⟩, ⟨(some 13), (.fad 2 (.tmp 3)), none⟩, ⟨none, (.store 1 (.tmp 13) (.tmp 12)), none⟩])
(.seq (.reg [⟨(some 14), (.load true 3 (.tmp 3)), none⟩, ⟨none, (.store 3 (.tmp 2) (.tmp 14)), none⟩])
.ret))))))
theorem k166 : compFn prog 166 = some (15, vc166, [.c 2 true 3]) := by kernel_rfl
/- loop.example/limner/laws.toBlock -/
def vc131 : VCode :=
(.seq (.reg [⟨(some 1), (.box (.tmp 0)), none⟩, ⟨(some 2), (.new [(.int .i64 0), (.int .i64 0), (.slice none 0 0), (.int .i64 0), (.int .i64 0), (.slice none 0 0)]), none⟩])
(.seq (.reg [⟨(some 3), (.new [(.int .i64 0), (.int .i64 0), (.slice none 0 0), (.int .i64 0), (.int .i64 0), (.slice none 0 0)]), none⟩])
(.seq (.reg [⟨(some 4), (.fad 0 (.tmp 1)), none⟩, ⟨(some 5), (.load false 1 (.tmp 4)), none⟩, ⟨(some 6), (.fad 0 (.tmp 3)), none⟩, ⟨none, (.store 1 (.tmp 6) (.tmp 5)), none⟩])
(.seq (.reg [⟨(some 7), (.fad 1 (.tmp 1)), none⟩, ⟨(some 8), (.load false 1 (.tmp 7)), none⟩, ⟨(some 9), (.fad 1 (.tmp 3)), none⟩, ⟨none, (.store 1 (.tmp 9) (.tmp 8)), none⟩])
(.seq (.reg [⟨(some 10), (.fad 2 (.tmp 1)), none⟩, ⟨(some 11), (.load false 1 (.tmp 10)), none⟩, ⟨(some 12), (.call 165 [(.tmp 11)]), none⟩, ⟨(some 13), (.fad 2 (.tmp 3)), none⟩, ⟨none, (.store 1 (.tmp 13) (.tmp 12)), none⟩])
(.seq (.reg [⟨(some 14), (.fad 3 (.tmp 1)), none⟩, ⟨(some 15), (.load true 3 (.tmp 14)), none⟩, ⟨(some 16), (.call 166 [(.tmp 15)]), none⟩, ⟨(some 17), (.fad 3 (.tmp 3)), none⟩, ⟨none, (.store 3 (.tmp 17) (.tmp 16)), none⟩])
(.seq (.reg [⟨(some 18), (.load true 6 (.tmp 3)), none⟩, ⟨none, (.store 6 (.tmp 2) (.tmp 18)), none⟩])
.ret)))))))
theorem k131 : compFn prog 131 = some (19, vc131, [.c 2 true 6]) := by kernel_rfl
/- loop.example/limner/laws.toBlockS -/
def vc87 : VCode :=
(.seq (.reg [⟨(some 2), (.mov (.const (.slice none 0 0))), none⟩])
(.seq (.reg [⟨(some 5), (.mov (.tmp 0)), none⟩, ⟨(some 6), (.len false (.tmp 5)), none⟩, ⟨(some 7), (.mks 6 80 [(.int .i64 0), (.int .i64 0), (.slice none 0 0), (.int .i64 0), (.int .i64 0), (.slice none 0 0)] (.tmp 6)), none⟩, ⟨(some 3), (.mov (.tmp 7)), none⟩])
(.seq (.seq (.reg [⟨(some 4), (.mov (.const (.int .i64 0))), none⟩])
(.block 0 (.loop (.seq (.seq (.reg [⟨(some 8), (.mov (.tmp 4)), none⟩, ⟨(some 9), (.mov (.tmp 0)), none⟩, ⟨(some 10), (.len false (.tmp 9)), none⟩, ⟨(some 11), (.bin .lss .no (.tmp 8) (.tmp 10)), none⟩])
  (.cond (.tmp 11) .skip
   (.exit 0)))
  (.seq (.block 1 (.reg [⟨(some 14), (.mov (.tmp 3)), none⟩, ⟨(some 15), (.mov (.tmp 4)), none⟩, ⟨(some 16), (.mov (.tmp 0)), none⟩, ⟨(some 17), (.mov (.tmp 4)), none⟩, ⟨(some 18), (.iad 6 (.tmp 16) (.tmp 17)), none⟩, ⟨(some 19), (.load true 6 (.tmp 18)), none⟩, ⟨(some 20), (.call 131 [(.tmp 19)]), none⟩, ⟨(some 21), (.iad 6 (.tmp 14) (.tmp 15)), none⟩, ⟨none, (.store 6 (.tmp 21) (.tmp 20)), none⟩]))
  (.reg [⟨(some 12), (.mov (.tmp 4)), none⟩, ⟨(some 13), (.bin .add .no (.tmp 12) (.const (.int .i64 1))), none⟩, ⟨(some 4), (.mov (.tmp 13)), none⟩]))))))
(.seq (.reg [⟨(some 22), (.mov (.tmp 3)), none⟩, ⟨(some 2), (.mov (.tmp 22)), none⟩])
.ret))))
theorem k87 : compFn prog 87 = some (23, vc87, [.t 2]) := by kernel_rfl
/- loop.example/limner/laws.toDoc -/
def vc33 : VCode :=
(.seq (.reg [⟨(some 1), (.box (.tmp 0)), none⟩, ⟨(some 2), (.new [(.slice none 0 0)]), none⟩])
(.seq (.reg [⟨(some 3), (.new [(.slice none 0 0)]), none⟩])
(.seq (.reg [⟨(some 4), (.fad 0 (.tmp 1)), none⟩, ⟨(some 5), (.load false 1 (.tmp 4)), none⟩, ⟨(some 6), (.call 87 [(.tmp 5)]), none⟩, ⟨(some 7), (.fad 0 (.tmp 3)), none⟩, ⟨none, (.store 1 (.tmp 7) (.tmp 6)), none⟩])
(.seq (.reg [⟨(some 8), (.load true 1 (.tmp 3)), none⟩, ⟨none, (.store 1 (.tmp 2) (.tmp 8)), none⟩])
.ret))))
theorem k33 : compFn prog 33 = some (9, vc33, [.c 2 true 1]) := by kernel_rfl
def Cell.ti (c : Cell) : Prop := c.text.length < 1048577
def Table.ti (t : Table) : Prop := t.cells.length < 1048577 ∧ ∀ c ∈ t.cells, c.text.length < 1048577
def Block.ti (b : Block) : Prop := b.text.length < 1048577 ∧ b.table.cells.length < 1048577 ∧ ∀ c ∈ b.table.cells, c.text.length < 1048577
def docTi (d : Doc) : Prop := d.length < 1048577 ∧ ∀ b ∈ d, b.text.length < 1048577 ∧ b.table.cells.length < 1048577 ∧ ∀ c ∈ b.table.cells, c.text.length < 1048577
theorem c206 (c : Cell) (hs : c.text.length < 1048577) : PureC prog 206 [.agg c.enc] (.agg c.enc) := by
  have h := c165 c.text hs
  unfold Cell.enc encT at *
  refine pureC_of k206 (by first | rfl | simp [VV.cloL, VV.clo, *]) (by first | rfl | simp [VV.cloL, VV.clo, *]) (by simp) ?_
  intro X hP hm hH hn hX
  refine vwp_ok _ ?_
  unfold vc206
  repeat' (first
    | simp only [go_sem, reduceCtorEq, reduceIte, Nat.reduceAdd, Nat.reduceEqDiff, Nat.reduceLeDiff, Nat.reduceMul, *]
    | refine gdO_bool' _ (fun _ => ?_) (fun _ => ?_)
    | refine gdO_bool _ (fun _ => ?_) (fun _ => ?_)
    | refine gdD_bool' _ (fun _ => ?_) (fun _ => ?_)
    | refine gdD_bool _ (fun _ => ?_) (fun _ => ?_)
    | refine cdO_bool' _ (fun _ => ?_) (fun _ => ?_)
    | refine cdO_bool _ (fun _ => ?_) (fun _ => ?_)
    | refine callO.pure (by first | exact h) ?_
    | refine callW.pure (by first | exact h) ?_
    | refine ⟨by decide, ?_⟩
    | fail)
  exact ppost_c (by simp) (by simp only [go_sem, reduceCtorEq, reduceIte, Nat.reduceAdd, Nat.reduceEqDiff, Nat.reduceLeDiff, Nat.reduceMul]; rfl) (by simp only [go_sem, reduceCtorEq, reduceIte, Nat.reduceAdd, Nat.reduceEqDiff, Nat.reduceLeDiff, Nat.reduceMul]; rfl) rfl rfl rfl
def zC : List VV := [.sc (.int .i64 0), .sc (.int .i64 0), .sc (.int .i64 0), .sc (.int .i64 0), .sc (.slice none 0 0)]
theorem c190 (l : List Cell) (hs : l.length < 1048577) (ht : ∀ c ∈ l, c.text.length < 1048577) : PureC prog 190 [encC l] (encC l) := by
  have h0 : (0 : Int) ≤ (l.length : Int) ∧ (l.length : Int) * ((56 : Nat) : Int) ≤ 281474976710656 ∧ (l.length : Int) ≤ 9223372036854775807 := by omega
  unfold encC
  refine pureC_of k190 (by first | rfl | simp [VV.cloL, VV.clo, *]) (by first | rfl | simp [VV.cloL, VV.clo, *]) (by simp) ?_
  intro X hP hm hH hn hX
  refine vwp_ok _ ?_
  unfold vc190
  repeat' (first
    | simp only [go_sem, reduceCtorEq, reduceIte, Nat.reduceAdd, Nat.reduceEqDiff, Nat.reduceLeDiff, Nat.reduceMul, *]
    | refine gdO_bool' _ (fun _ => ?_) (fun _ => ?_)
    | refine gdO_bool _ (fun _ => ?_) (fun _ => ?_)
    | refine gdD_bool' _ (fun _ => ?_) (fun _ => ?_)
    | refine gdD_bool _ (fun _ => ?_) (fun _ => ?_)
    | refine cdO_bool' _ (fun _ => ?_) (fun _ => ?_)
    | refine cdO_bool _ (fun _ => ?_) (fun _ => ?_)
    | refine ⟨by decide, ?_⟩
    | refine ppost_t (by simp) rfl ?_)
  refine loopV hX (fun μ s H n => ∃ i : Nat, i ≤ l.length ∧ μ = l.length - i ∧ s = slotsOf [(0, .sl 5 (l.map Cell.enc)), (3, .rf 0 0 l.length 5), (4, .sc (.int .i64 i))] ∧ H = heapOf [(0, filled Cell.enc zC l i)] ∧ n = 1) ?_
    ⟨l.length + 1, roundV_of hH hn [3] [(0, _), (3, _), (4, _)] [(0, _)] _ ⟨0, by simp, rfl, rfl, rfl, rfl⟩ (by simp) (by simp) (by simp [hm]) ?_ ?_⟩
  rotate_left
  · repeat' (first | exact List.forall_mem_nil _ | refine List.forall_mem_cons.2 ⟨?_, ?_⟩ | exact .toPt (by simp only [go_sem, reduceCtorEq, reduceIte, Nat.reduceAdd, Nat.reduceEqDiff, Nat.reduceLeDiff, Nat.reduceMul, *] <;> rfl) (by simp [tau]) (by simp) | exact .toRf (by simp only [go_sem, reduceCtorEq, reduceIte, Nat.reduceAdd, Nat.reduceEqDiff, Nat.reduceLeDiff, Nat.reduceMul, *] <;> rfl) (by simp [tau]) (by simp) | exact .same (by simp only [go_sem, reduceCtorEq, reduceIte, Nat.reduceAdd, Nat.reduceEqDiff, Nat.reduceLeDiff, Nat.reduceMul, *] <;> rfl) (by first | rfl | simp [VV.cloL, VV.clo, *]))
  · refine HConv.same (by decide) ?_ (filled_clo (fun _ => rfl) rfl l 0) HConv.nil
    rw [filled_zero]; rfl
  rintro μ s H n ⟨i, hi, rfl, rfl, rfl, rfl⟩
  rcases Nat.lt_or_ge i l.length with hlt | hge
  · have g1 := lt_dec hlt
    have g2 : (0 : Int) ≤ (i : Int) := by omega
    have g3 : (i : Int) < (l.length : Int) := by omega
    have g4 : (l.map Cell.enc).getD i [] = (l[i]).enc := getD_map hlt
    have g5 : IntKind.i64.wrap ((i : Int) + 1) = ((i + 1 : Nat) : Int) := by rw [wrap_id] <;> omega
    have k1 := filled_store (enc := Cell.enc) (zs := zC) (z := 5) rfl (fun _ => rfl) hlt
    have k2 := filled_len (enc := Cell.enc) (zs := zC) (z := 5) rfl (fun _ => rfl) hi
    have k3 : i * 5 + 5 ≤ l.length * 5 := by omega
    have h189 := c206 l[i] (ht _ (List.getElem_mem hlt))
    generalize l[i] = x at *
    have ex : x.enc = [.sc (.int .i64 x.row), .sc (.int .i64 x.col), .sc (.int .i64 x.down), .sc (.int .i64 x.right), .sl 3 (x.text.map Sign.enc)] := rfl
    rw [ex] at h189 k1
    clear ht
    repeat' (first
      | simp only [go_sem, reduceCtorEq, reduceIte, Nat.reduceAdd, Nat.reduceEqDiff, Nat.reduceLeDiff, Nat.reduceMul, *]
      | refine gdO_bool' _ (fun _ => ?_) (fun _ => ?_)
      | refine gdO_bool _ (fun _ => ?_) (fun _ => ?_)
      | refine gdD_bool' _ (fun _ => ?_) (fun _ => ?_)
      | refine gdD_bool _ (fun _ => ?_) (fun _ => ?_)
      | refine cdO_bool' _ (fun _ => ?_) (fun _ => ?_)
      | refine cdO_bool _ (fun _ => ?_) (fun _ => ?_)
      | refine callO.pure (by first | exact h189) ?_
      | refine callW.pure (by first | exact h189) ?_
      | refine ⟨by decide, ?_⟩
      | refine ppost_t (by simp) rfl ?_)
    refine roundV_of hH hn [0] [(0, _), (3, _), (4, _)] [(0, _)] _ ⟨i + 1, hlt, rfl, rfl, rfl, rfl⟩ (by omega) (by simp) (by simp [hm]) ?_ ?_
    · repeat' (first | exact List.forall_mem_nil _ | refine List.forall_mem_cons.2 ⟨?_, ?_⟩ | exact .toPt (by simp only [go_sem, reduceCtorEq, reduceIte, Nat.reduceAdd, Nat.reduceEqDiff, Nat.reduceLeDiff, Nat.reduceMul, *] <;> rfl) (by simp [tau]) (by simp) | exact .toRf (by simp only [go_sem, reduceCtorEq, reduceIte, Nat.reduceAdd, Nat.reduceEqDiff, Nat.reduceLeDiff, Nat.reduceMul, *] <;> rfl) (by simp [tau]) (by simp) | exact .same (by simp only [go_sem, reduceCtorEq, reduceIte, Nat.reduceAdd, Nat.reduceEqDiff, Nat.reduceLeDiff, Nat.reduceMul, *] <;> rfl) (by first | rfl | simp [VV.cloL, VV.clo, *]))
    · refine HConv.same (by decide) ?_ (filled_clo (fun _ => rfl) rfl l (i + 1)) HConv.nil
      rw [← k1]; rfl
  · have g1 := ge_dec hge
    repeat' (first
      | simp only [go_sem, reduceCtorEq, reduceIte, Nat.reduceAdd, Nat.reduceEqDiff, Nat.reduceLeDiff, Nat.reduceMul, *]
      | refine gdO_bool' _ (fun _ => ?_) (fun _ => ?_)
      | refine gdO_bool _ (fun _ => ?_) (fun _ => ?_)
      | refine gdD_bool' _ (fun _ => ?_) (fun _ => ?_)
      | refine gdD_bool _ (fun _ => ?_) (fun _ => ?_)
      | refine cdO_bool' _ (fun _ => ?_) (fun _ => ?_)
      | refine cdO_bool _ (fun _ => ?_) (fun _ => ?_)
      | refine ⟨by decide, ?_⟩
      | fail)
    refine ppost_rf (by simp) (by simp only [go_sem, reduceCtorEq, reduceIte, Nat.reduceAdd, Nat.reduceEqDiff, Nat.reduceLeDiff, Nat.reduceMul]; rfl) (by simp only [go_sem, reduceCtorEq, reduceIte, Nat.reduceAdd, Nat.reduceEqDiff, Nat.reduceLeDiff, Nat.reduceMul]; rfl) (by simp) ?_ (by intro r hr; obtain ⟨x, _, rfl⟩ := List.mem_map.1 hr; rfl) (map_clo (fun _ => rfl) l)
    rw [List.drop_zero, filled_all hge, List.take_of_length_le]
    rw [flatten_len (z := 5) (fun _ => rfl)]
    exact Nat.le_refl _
theorem c166 (t : Table) (hs : t.cells.length < 1048577) (ht : ∀ c ∈ t.cells, c.text.length < 1048577) : PureC prog 166 [.agg t.enc] (.agg t.enc) := by
  have h := c190 t.cells hs ht
  unfold Table.enc encC at *
  refine pureC_of k166 (by first | rfl | simp [VV.cloL, VV.clo, *]) (by first | rfl | simp [VV.cloL, VV.clo, *]) (by simp) ?_
  intro X hP hm hH hn hX
  refine vwp_ok _ ?_
  unfold vc166
  repeat' (first
    | simp only [go_sem, reduceCtorEq, reduceIte, Nat.reduceAdd, Nat.reduceEqDiff, Nat.reduceLeDiff, Nat.reduceMul, *]
    | refine gdO_bool' _ (fun _ => ?_) (fun _ => ?_)
    | refine gdO_bool _ (fun _ => ?_) (fun _ => ?_)
    | refine gdD_bool' _ (fun _ => ?_) (fun _ => ?_)
    | refine gdD_bool _ (fun _ => ?_) (fun _ => ?_)
    | refine cdO_bool' _ (fun _ => ?_) (fun _ => ?_)
    | refine cdO_bool _ (fun _ => ?_) (fun _ => ?_)
    | refine callO.pure (by first | exact h) ?_
    | refine callW.pure (by first | exact h) ?_
    | refine ⟨by decide, ?_⟩
    | fail)
  exact ppost_c (by simp) (by simp only [go_sem, reduceCtorEq, reduceIte, Nat.reduceAdd, Nat.reduceEqDiff, Nat.reduceLeDiff, Nat.reduceMul]; rfl) (by simp only [go_sem, reduceCtorEq, reduceIte, Nat.reduceAdd, Nat.reduceEqDiff, Nat.reduceLeDiff, Nat.reduceMul]; rfl) rfl rfl rfl
theorem c131 (b : Block) (hs : b.text.length < 1048577 ∧ b.table.cells.length < 1048577 ∧ ∀ c ∈ b.table.cells, c.text.length < 1048577) : PureC prog 131 [.agg b.enc] (.agg b.enc) := by
  have h := c165 b.text hs.1
  have h' := c166 b.table hs.2.1 hs.2.2
  unfold Block.enc encT encC
  unfold Table.enc encC at h'
  unfold encT at h
  clear hs
  refine pureC_of k131 (by first | rfl | simp [VV.cloL, VV.clo, *]) (by first | rfl | simp [VV.cloL, VV.clo, *]) (by simp) ?_
  intro X hP hm hH hn hX
  refine vwp_ok _ ?_
  unfold vc131
  repeat' (first
    | simp only [go_sem, reduceCtorEq, reduceIte, Nat.reduceAdd, Nat.reduceEqDiff, Nat.reduceLeDiff, Nat.reduceMul, *]
    | refine gdO_bool' _ (fun _ => ?_) (fun _ => ?_)
    | refine gdO_bool _ (fun _ => ?_) (fun _ => ?_)
    | refine gdD_bool' _ (fun _ => ?_) (fun _ => ?_)
    | refine gdD_bool _ (fun _ => ?_) (fun _ => ?_)
    | refine cdO_bool' _ (fun _ => ?_) (fun _ => ?_)
    | refine cdO_bool _ (fun _ => ?_) (fun _ => ?_)
    | refine callO.pure (by first | exact h | exact h') ?_
    | refine callW.pure (by first | exact h | exact h') ?_
    | refine ⟨by decide, ?_⟩
    | fail)
  exact ppost_c (by simp) (by simp only [go_sem, reduceCtorEq, reduceIte, Nat.reduceAdd, Nat.reduceEqDiff, Nat.reduceLeDiff, Nat.reduceMul]; rfl) (by simp only [go_sem, reduceCtorEq, reduceIte, Nat.reduceAdd, Nat.reduceEqDiff, Nat.reduceLeDiff, Nat.reduceMul]; rfl) rfl rfl rfl
def zB : List VV := [.sc (.int .i64 0), .sc (.int .i64 0), .sc (.slice none 0 0), .sc (.int .i64 0), .sc (.int .i64 0), .sc (.slice none 0 0)]
theorem c87 (l : Doc) (hs : l.length < 1048577) (ht : ∀ b ∈ l, b.text.length < 1048577 ∧ b.table.cells.length < 1048577 ∧ ∀ c ∈ b.table.cells, c.text.length < 1048577) : PureC prog 87 [encB l] (encB l) := by
  have h0 : (0 : Int) ≤ (l.length : Int) ∧ (l.length : Int) * ((80 : Nat) : Int) ≤ 281474976710656 ∧ (l.length : Int) ≤ 9223372036854775807 := by omega
  unfold encB
  refine pureC_of k87 (by first | rfl | simp [VV.cloL, VV.clo, *]) (by first | rfl | simp [VV.cloL, VV.clo, *]) (by simp) ?_
  intro X hP hm hH hn hX
  refine vwp_ok _ ?_
  unfold vc87
  repeat' (first
    | simp only [go_sem, reduceCtorEq, reduceIte, Nat.reduceAdd, Nat.reduceEqDiff, Nat.reduceLeDiff, Nat.reduceMul, *]
    | refine gdO_bool' _ (fun _ => ?_) (fun _ => ?_)
    | refine gdO_bool _ (fun _ => ?_) (fun _ => ?_)
    | refine gdD_bool' _ (fun _ => ?_) (fun _ => ?_)
    | refine gdD_bool _ (fun _ => ?_) (fun _ => ?_)
    | refine cdO_bool' _ (fun _ => ?_) (fun _ => ?_)
    | refine cdO_bool _ (fun _ => ?_) (fun _ => ?_)
    | refine ⟨by decide, ?_⟩
    | refine ppost_t (by simp) rfl ?_)
  refine loopV hX (fun μ s H n => ∃ i : Nat, i ≤ l.length ∧ μ = l.length - i ∧ s = slotsOf [(0, .sl 6 (l.map Block.enc)), (3, .rf 0 0 l.length 6), (4, .sc (.int .i64 i))] ∧ H = heapOf [(0, filled Block.enc zB l i)] ∧ n = 1) ?_
    ⟨l.length + 1, roundV_of hH hn [3] [(0, _), (3, _), (4, _)] [(0, _)] _ ⟨0, by simp, rfl, rfl, rfl, rfl⟩ (by simp) (by simp) (by simp [hm]) ?_ ?_⟩
  rotate_left
  · repeat' (first | exact List.forall_mem_nil _ | refine List.forall_mem_cons.2 ⟨?_, ?_⟩ | exact .toPt (by simp only [go_sem, reduceCtorEq, reduceIte, Nat.reduceAdd, Nat.reduceEqDiff, Nat.reduceLeDiff, Nat.reduceMul, *] <;> rfl) (by simp [tau]) (by simp) | exact .toRf (by simp only [go_sem, reduceCtorEq, reduceIte, Nat.reduceAdd, Nat.reduceEqDiff, Nat.reduceLeDiff, Nat.reduceMul, *] <;> rfl) (by simp [tau]) (by simp) | exact .same (by simp only [go_sem, reduceCtorEq, reduceIte, Nat.reduceAdd, Nat.reduceEqDiff, Nat.reduceLeDiff, Nat.reduceMul, *] <;> rfl) (by first | rfl | simp [VV.cloL, VV.clo, *]))
  · refine HConv.same (by decide) ?_ (filled_clo (fun _ => rfl) rfl l 0) HConv.nil
    rw [filled_zero]; rfl
  rintro μ s H n ⟨i, hi, rfl, rfl, rfl, rfl⟩
  rcases Nat.lt_or_ge i l.length with hlt | hge
  · have g1 := lt_dec hlt
    have g2 : (0 : Int) ≤ (i : Int) := by omega
    have g3 : (i : Int) < (l.length : Int) := by omega
    have g4 : (l.map Block.enc).getD i [] = (l[i]).enc := getD_map hlt
    have g5 : IntKind.i64.wrap ((i : Int) + 1) = ((i + 1 : Nat) : Int) := by rw [wrap_id] <;> omega
    have k1 := filled_store (enc := Block.enc) (zs := zB) (z := 6) rfl (fun _ => rfl) hlt
    have k2 := filled_len (enc := Block.enc) (zs := zB) (z := 6) rfl (fun _ => rfl) hi
    have k3 : i * 6 + 6 ≤ l.length * 6 := by omega
    have h189 := c131 l[i] (ht _ (List.getElem_mem hlt))
    generalize l[i] = x at *
    have ex : x.enc = [.sc (.int .i64 x.kind), .sc (.int .i64 x.level), .sl 3 (x.text.map Sign.enc), .sc (.int .i64 x.table.rows), .sc (.int .i64 x.table.cols), .sl 5 (x.table.cells.map Cell.enc)] := rfl
    rw [ex] at h189 k1
    clear ht
    repeat' (first
      | simp only [go_sem, reduceCtorEq, reduceIte, Nat.reduceAdd, Nat.reduceEqDiff, Nat.reduceLeDiff, Nat.reduceMul, *]
      | refine gdO_bool' _ (fun _ => ?_) (fun _ => ?_)
      | refine gdO_bool _ (fun _ => ?_) (fun _ => ?_)
      | refine gdD_bool' _ (fun _ => ?_) (fun _ => ?_)
      | refine gdD_bool _ (fun _ => ?_) (fun _ => ?_)
      | refine cdO_bool' _ (fun _ => ?_) (fun _ => ?_)
      | refine cdO_bool _ (fun _ => ?_) (fun _ => ?_)
      | refine callO.pure (by first | exact h189) ?_
      | refine callW.pure (by first | exact h189) ?_
      | refine ⟨by decide, ?_⟩
      | refine ppost_t (by simp) rfl ?_)
    refine roundV_of hH hn [0] [(0, _), (3, _), (4, _)] [(0, _)] _ ⟨i + 1, hlt, rfl, rfl, rfl, rfl⟩ (by omega) (by simp) (by simp [hm]) ?_ ?_
    · repeat' (first | exact List.forall_mem_nil _ | refine List.forall_mem_cons.2 ⟨?_, ?_⟩ | exact .toPt (by simp only [go_sem, reduceCtorEq, reduceIte, Nat.reduceAdd, Nat.reduceEqDiff, Nat.reduceLeDiff, Nat.reduceMul, *] <;> rfl) (by simp [tau]) (by simp) | exact .toRf (by simp only [go_sem, reduceCtorEq, reduceIte, Nat.reduceAdd, Nat.reduceEqDiff, Nat.reduceLeDiff, Nat.reduceMul, *] <;> rfl) (by simp [tau]) (by simp) | exact .same (by simp only [go_sem, reduceCtorEq, reduceIte, Nat.reduceAdd, Nat.reduceEqDiff, Nat.reduceLeDiff, Nat.reduceMul, *] <;> rfl) (by first | rfl | simp [VV.cloL, VV.clo, *]))
    · refine HConv.same (by decide) ?_ (filled_clo (fun _ => rfl) rfl l (i + 1)) HConv.nil
      rw [← k1]; rfl
  · have g1 := ge_dec hge
    repeat' (first
      | simp only [go_sem, reduceCtorEq, reduceIte, Nat.reduceAdd, Nat.reduceEqDiff, Nat.reduceLeDiff, Nat.reduceMul, *]
      | refine gdO_bool' _ (fun _ => ?_) (fun _ => ?_)
      | refine gdO_bool _ (fun _ => ?_) (fun _ => ?_)
      | refine gdD_bool' _ (fun _ => ?_) (fun _ => ?_)
      | refine gdD_bool _ (fun _ => ?_) (fun _ => ?_)
      | refine cdO_bool' _ (fun _ => ?_) (fun _ => ?_)
      | refine cdO_bool _ (fun _ => ?_) (fun _ => ?_)
      | refine ⟨by decide, ?_⟩
      | fail)
    refine ppost_rf (by simp) (by simp only [go_sem, reduceCtorEq, reduceIte, Nat.reduceAdd, Nat.reduceEqDiff, Nat.reduceLeDiff, Nat.reduceMul]; rfl) (by simp only [go_sem, reduceCtorEq, reduceIte, Nat.reduceAdd, Nat.reduceEqDiff, Nat.reduceLeDiff, Nat.reduceMul]; rfl) (by simp) ?_ (by intro r hr; obtain ⟨x, _, rfl⟩ := List.mem_map.1 hr; rfl) (map_clo (fun _ => rfl) l)
    rw [List.drop_zero, filled_all hge, List.take_of_length_le]
    rw [flatten_len (z := 6) (fun _ => rfl)]
    exact Nat.le_refl _
theorem c33 (d : Doc) (hs : docTi d) : PureC prog 33 [.agg [encB d]] (.agg [encB d]) := by
  have h := c87 d hs.1 hs.2
  unfold encB at *
  clear hs
  refine pureC_of k33 (by first | rfl | simp [VV.cloL, VV.clo, *]) (by first | rfl | simp [VV.cloL, VV.clo, *]) (by simp) ?_
  intro X hP hm hH hn hX
  refine vwp_ok _ ?_
  unfold vc33
  repeat' (first
    | simp only [go_sem, reduceCtorEq, reduceIte, Nat.reduceAdd, Nat.reduceEqDiff, Nat.reduceLeDiff, Nat.reduceMul, *]
    | refine gdO_bool' _ (fun _ => ?_) (fun _ => ?_)
    | refine gdO_bool _ (fun _ => ?_) (fun _ => ?_)
    | refine gdD_bool' _ (fun _ => ?_) (fun _ => ?_)
    | refine gdD_bool _ (fun _ => ?_) (fun _ => ?_)
    | refine cdO_bool' _ (fun _ => ?_) (fun _ => ?_)
    | refine cdO_bool _ (fun _ => ?_) (fun _ => ?_)
    | refine callO.pure (by first | exact h) ?_
    | refine callW.pure (by first | exact h) ?_
    | refine ⟨by decide, ?_⟩
    | fail)
  exact ppost_c (by simp) (by simp only [go_sem, reduceCtorEq, reduceIte, Nat.reduceAdd, Nat.reduceEqDiff, Nat.reduceLeDiff, Nat.reduceMul]; rfl) (by simp only [go_sem, reduceCtorEq, reduceIte, Nat.reduceAdd, Nat.reduceEqDiff, Nat.reduceLeDiff, Nat.reduceMul]; rfl) rfl rfl rfl
end Go.Proofs.Ytdmmhainianadaa

/- F19: the laws' sizes. -/
namespace Go.Proofs.Ytdmmhainianadaa
open Go.VM Go.Lim Go.Proofs.Try
attribute [local irreducible] vwp vops vstep vdr vdr1 CallP PPost SWv gdO gdD cdO optV optW optD thenV blockV behind callO callW callvO roundV
set_option linter.unusedSimpArgs false
set_option linter.unusedVariables false
/- loop.example/limner/laws.szSignS -/
def vc162 : VCode :=
(.seq (.reg [⟨(some 4), (.mov (.const (.int .i64 0))), none⟩])
(.seq (.reg [⟨(some 5), (.mov (.tmp 1)), none⟩, ⟨(some 6), (.mov (.tmp 0)), none⟩, ⟨(some 7), (.len false (.tmp 6)), none⟩, ⟨(some 8), (.bin .sub .no (.tmp 5) (.tmp 7)), none⟩, ⟨(some 1), (.mov (.tmp 8)), none⟩])
(.seq (.seq (.reg [⟨(some 9), (.mov (.tmp 1)), none⟩, ⟨(some 10), (.bin .lss .no (.tmp 9) (.const (.int .i64 0))), none⟩])
(.cond (.tmp 10) (.seq (.reg [⟨(some 4), (.mov (.const (.int .i64 (-1)))), none⟩])
 .ret)
 .skip))
(.seq (.reg [⟨(some 11), (.mov (.tmp 1)), none⟩, ⟨(some 4), (.mov (.tmp 11)), none⟩])
.ret))))
theorem k162 : compFn prog 162 = some (12, vc162, [.t 4]) := by kernel_rfl
/- loop.example/limner/laws.szCell -/
def vc205 : VCode :=
(.seq (.reg [⟨(some 2), (.box (.tmp 0)), none⟩, ⟨(some 4), (.mov (.const (.int .i64 0))), none⟩])
(.seq (.reg [⟨(some 5), (.fad 4 (.tmp 2)), none⟩, ⟨(some 6), (.load false 1 (.tmp 5)), none⟩, ⟨(some 7), (.mov (.tmp 1)), none⟩, ⟨(some 8), (.call 162 [(.tmp 6), (.tmp 7)]), none⟩, ⟨(some 1), (.mov (.tmp 8)), none⟩])
(.seq (.seq (.reg [⟨(some 9), (.mov (.tmp 1)), none⟩, ⟨(some 10), (.bin .lss .no (.tmp 9) (.const (.int .i64 0))), none⟩])
(.cond (.tmp 10) (.seq (.reg [⟨(some 4), (.mov (.const (.int .i64 (-1)))), none⟩])
 .ret)
 .skip))
(.seq (.reg [⟨(some 11), (.mov (.tmp 1)), none⟩, ⟨(some 4), (.mov (.tmp 11)), none⟩])
.ret))))
theorem k205 : compFn prog 205 = some (12, vc205, [.t 4]) := by kernel_rfl
/- loop.example/limner/laws.szCellS -/
def vc188 : VCode :=
(.seq (.reg [⟨(some 4), (.mov (.const (.int .i64 0))), none⟩])
(.seq (.reg [⟨(some 6), (.mov (.tmp 1)), none⟩, ⟨(some 7), (.mov (.tmp 0)), none⟩, ⟨(some 8), (.len false (.tmp 7)), none⟩, ⟨(some 9), (.bin .sub .no (.tmp 6) (.tmp 8)), none⟩, ⟨(some 1), (.mov (.tmp 9)), none⟩])
(.seq (.seq (.reg [⟨(some 10), (.mov (.tmp 1)), none⟩, ⟨(some 11), (.bin .lss .no (.tmp 10) (.const (.int .i64 0))), none⟩])
(.cond (.tmp 11) (.seq (.reg [⟨(some 4), (.mov (.const (.int .i64 (-1)))), none⟩])
 .ret)
 .skip))
(.seq (.seq (.reg [⟨(some 5), (.mov (.const (.int .i64 0))), none⟩])
(.block 0 (.loop (.seq (.seq (.reg [⟨(some 12), (.mov (.tmp 5)), none⟩, ⟨(some 13), (.mov (.tmp 0)), none⟩, ⟨(some 14), (.len false (.tmp 13)), none⟩, ⟨(some 15), (.bin .lss .no (.tmp 12) (.tmp 14)), none⟩])
  (.cond (.tmp 15) .skip
   (.exit 0)))
  (.seq (.block 1 (.seq (.reg [⟨(some 18), (.mov (.tmp 0)), none⟩, ⟨(some 19), (.mov (.tmp 5)), none⟩, ⟨(some 20), (.iad 5 (.tmp 18) (.tmp 19)), none⟩, ⟨(some 21), (.load true 5 (.tmp 20)), none⟩, ⟨(some 22), (.mov (.tmp 1)), none⟩, ⟨(some 23), (.call 205 [(.tmp 21), (.tmp 22)]), none⟩, ⟨(some 1), (.mov (.tmp 23)), none⟩])
   (.seq (.reg [⟨(some 24), (.mov (.tmp 1)), none⟩, ⟨(some 25), (.bin .lss .no (.tmp 24) (.const (.int .i64 0))), none⟩])
   (.cond (.tmp 25) (.seq (.reg [⟨(some 4), (.mov (.const (.int .i64 (-1)))), none⟩])
    .ret)
    .skip))))
  (.reg [⟨(some 16), (.mov (.tmp 5)), none⟩, ⟨(some 17), (.bin .add .no (.tmp 16) (.const (.int .i64 1))), none⟩, ⟨(some 5), (.mov (.tmp 17)), none⟩]))))))
(.seq (.reg [⟨(some 26), (.mov (.tmp 1)), none⟩, ⟨(some 4), (.mov (.tmp 26)), none⟩])
.ret)))))
theorem k188 : compFn prog 188 = some (27, vc188, [.t 4]) := by kernel_rfl
/- loop.example/limner/laws.szTable -/
def vc163 : VCode :=
(.seq (.reg [⟨(some 2), (.box (.tmp 0)), none⟩, ⟨(some 4), (.mov (.const (.int .i64 0))), none⟩])
(.seq (.reg [⟨(some 5), (.fad 2 (.tmp 2)), none⟩, ⟨(some 6), (.load false 1 (.tmp 5)), none⟩, ⟨(some 7), (.mov (.tmp 1)), none⟩, ⟨(some 8), (.call 188 [(.tmp 6), (.tmp 7)]), none⟩, ⟨(some 1), (.mov (.tmp 8)), none⟩])
(.seq (.seq (.reg [⟨(some 9), (.mov (.tmp 1)), none⟩, ⟨(some 10), (.bin .lss .no (.tmp 9) (.const (.int .i64 0))), none⟩])
(.cond (.tmp 10) (.seq (.reg [⟨(some 4), (.mov (.const (.int .i64 (-1)))), none⟩])
 .ret)
 .skip))
(.seq (.reg [⟨(some 11), (.mov (.tmp 1)), none⟩, ⟨(some 4), (.mov (.tmp 11)), none⟩])
.ret))))
theorem k163 : compFn prog 163 = some (12, vc163, [.t 4]) := by kernel_rfl
/- loop.example/limner/laws.szBlock -/
def vc129 : VCode :=
(.seq (.reg [⟨(some 2), (.box (.tmp 0)), none⟩, ⟨(some 4), (.mov (.const (.int .i64 0))), none⟩])
(.seq (.reg [⟨(some 5), (.fad 2 (.tmp 2)), none⟩, ⟨(some 6), (.load false 1 (.tmp 5)), none⟩, ⟨(some 7), (.mov (.tmp 1)), none⟩, ⟨(some 8), (.call 162 [(.tmp 6), (.tmp 7)]), none⟩, ⟨(some 1), (.mov (.tmp 8)), none⟩])
(.seq (.seq (.reg [⟨(some 9), (.mov (.tmp 1)), none⟩, ⟨(some 10), (.bin .lss .no (.tmp 9) (.const (.int .i64 0))), none⟩])
(.cond (.tmp 10) (.seq (.reg [⟨(some 4), (.mov (.const (.int .i64 (-1)))), none⟩])
 .ret)
 .skip))
(.seq (.reg [⟨(some 11), (.fad 3 (.tmp 2)), none⟩, ⟨(some 12), (.load true 3 (.tmp 11)), none⟩, ⟨(some 13), (.mov (.tmp 1)), none⟩, ⟨(some 14), (.call 163 [(.tmp 12), (.tmp 13)]), none⟩, ⟨(some 1), (.mov (.tmp 14)), none⟩])
(.seq (.seq (.reg [⟨(some 15), (.mov (.tmp 1)), none⟩, ⟨(some 16), (.bin .lss .no (.tmp 15) (.const (.int .i64 0))), none⟩])
(.cond (.tmp 16) (.seq (.reg [⟨(some 4), (.mov (.const (.int .i64 (-1)))), none⟩])
 .ret)
 .skip))
(.seq (.reg [⟨(some 17), (.mov (.tmp 1)), none⟩, ⟨(some 4), (.mov (.tmp 17)), none⟩])
.ret))))))
theorem k129 : compFn prog 129 = some (18, vc129, [.t 4]) := by kernel_rfl
/- loop.example/limner/laws.szBlockS -/
def vc84 : VCode :=
(.seq (.reg [⟨(some 4), (.mov (.const (.int .i64 0))), none⟩])
(.seq (.reg [⟨(some 6), (.mov (.tmp 1)), none⟩, ⟨(some 7), (.mov (.tmp 0)), none⟩, ⟨(some 8), (.len false (.tmp 7)), none⟩, ⟨(some 9), (.bin .sub .no (.tmp 6) (.tmp 8)), none⟩, ⟨(some 1), (.mov (.tmp 9)), none⟩])
(.seq (.seq (.reg [⟨(some 10), (.mov (.tmp 1)), none⟩, ⟨(some 11), (.bin .lss .no (.tmp 10) (.const (.int .i64 0))), none⟩])
(.cond (.tmp 11) (.seq (.reg [⟨(some 4), (.mov (.const (.int .i64 (-1)))), none⟩])
 .ret)
 .skip))
(.seq (.seq (.reg [⟨(some 5), (.mov (.const (.int .i64 0))), none⟩])
(.block 0 (.loop (.seq (.seq (.reg [⟨(some 12), (.mov (.tmp 5)), none⟩, ⟨(some 13), (.mov (.tmp 0)), none⟩, ⟨(some 14), (.len false (.tmp 13)), none⟩, ⟨(some 15), (.bin .lss .no (.tmp 12) (.tmp 14)), none⟩])
  (.cond (.tmp 15) .skip
   (.exit 0)))
  (.seq (.block 1 (.seq (.reg [⟨(some 18), (.mov (.tmp 0)), none⟩, ⟨(some 19), (.mov (.tmp 5)), none⟩, ⟨(some 20), (.iad 6 (.tmp 18) (.tmp 19)), none⟩, ⟨(some 21), (.load true 6 (.tmp 20)), none⟩, ⟨(some 22), (.mov (.tmp 1)), none⟩, ⟨(some 23), (.call 129 [(.tmp 21), (.tmp 22)]), none⟩, ⟨(some 1), (.mov (.tmp 23)), none⟩])
   (.seq (.reg [⟨(some 24), (.mov (.tmp 1)), none⟩, ⟨(some 25), (.bin .lss .no (.tmp 24) (.const (.int .i64 0))), none⟩])
   (.cond (.tmp 25) (.seq (.reg [⟨(some 4), (.mov (.const (.int .i64 (-1)))), none⟩])
    .ret)
    .skip))))
  (.reg [⟨(some 16), (.mov (.tmp 5)), none⟩, ⟨(some 17), (.bin .add .no (.tmp 16) (.const (.int .i64 1))), none⟩, ⟨(some 5), (.mov (.tmp 17)), none⟩]))))))
(.seq (.reg [⟨(some 26), (.mov (.tmp 1)), none⟩, ⟨(some 4), (.mov (.tmp 26)), none⟩])
.ret)))))
theorem k84 : compFn prog 84 = some (27, vc84, [.t 4]) := by kernel_rfl
/- loop.example/limner/laws.szDoc -/
def vc31 : VCode :=
(.seq (.reg [⟨(some 2), (.box (.tmp 0)), none⟩, ⟨(some 4), (.mov (.const (.int .i64 0))), none⟩])
(.seq (.reg [⟨(some 5), (.fad 0 (.tmp 2)), none⟩, ⟨(some 6), (.load false 1 (.tmp 5)), none⟩, ⟨(some 7), (.mov (.tmp 1)), none⟩, ⟨(some 8), (.call 84 [(.tmp 6), (.tmp 7)]), none⟩, ⟨(some 1), (.mov (.tmp 8)), none⟩])
(.seq (.seq (.reg [⟨(some 9), (.mov (.tmp 1)), none⟩, ⟨(some 10), (.bin .lss .no (.tmp 9) (.const (.int .i64 0))), none⟩])
(.cond (.tmp 10) (.seq (.reg [⟨(some 4), (.mov (.const (.int .i64 (-1)))), none⟩])
 .ret)
 .skip))
(.seq (.reg [⟨(some 11), (.mov (.tmp 1)), none⟩, ⟨(some 4), (.mov (.tmp 11)), none⟩])
.ret))))
theorem k31 : compFn prog 31 = some (12, vc31, [.t 4]) := by kernel_rfl
def cutI (n : Int) : Int := if decide (n < 0) = true then -1 else n
theorem c162 (l : Text) (left : Int) (h0 : 0 ≤ left) (h1 : left ≤ 1048576) (hs : l.length < 9223372036854775808) : PureC prog 162 [encT l, .sc (.int .i64 left)] (.sc (.int .i64 (cutI (left - l.length)))) := by
  have w : IntKind.i64.wrap (left - (l.length : Int)) = left - l.length := wrap_id (by omega) (by omega)
  unfold encT
  refine pureC_of k162 (by first | rfl | simp [VV.cloL, VV.clo, *]) (by first | rfl | simp [VV.cloL, VV.clo, *]) (by simp) ?_
  intro X hP hm hH hn hX
  refine vwp_ok _ ?_
  unfold vc162
  repeat' (first
    | simp only [go_sem, reduceCtorEq, reduceIte, Nat.reduceAdd, Nat.reduceEqDiff, Nat.reduceLeDiff, Nat.reduceMul, *]
    | refine gdO_bool' _ (fun _ => ?_) (fun _ => ?_)
    | refine gdO_bool _ (fun _ => ?_) (fun _ => ?_)
    | refine gdD_bool' _ (fun _ => ?_) (fun _ => ?_)
    | refine gdD_bool _ (fun _ => ?_) (fun _ => ?_)
    | refine cdO_bool' _ (fun _ => ?_) (fun _ => ?_)
    | refine cdO_bool _ (fun _ => ?_) (fun _ => ?_)
    | refine ⟨by decide, ?_⟩
    | refine ppost_t (by simp) rfl ?_)
  all_goals simp only [cutI, *, if_true, if_false, Bool.false_eq_true]
theorem cut_cut (n : Int) : cutI (cutI n) = cutI n := by unfold cutI; simp only [decide_eq_true_eq]; (repeat' split) <;> omega
theorem c205 (c : Cell) (left : Int) (h0 : 0 ≤ left) (h1 : left ≤ 1048576) (hs : c.text.length < 9223372036854775808) : PureC prog 205 [.agg c.enc, .sc (.int .i64 left)] (.sc (.int .i64 (cutI (left - c.text.length)))) := by
  have h := c162 c.text left h0 h1 hs
  have e := cut_cut (left - c.text.length)
  rw [← e]
  generalize cutI (left - c.text.length) = r at *
  unfold Cell.enc encT at *
  clear e
  refine pureC_of k205 (by first | rfl | simp [VV.cloL, VV.clo, *]) (by first | rfl | simp [VV.cloL, VV.clo, *]) (by simp) ?_
  intro X hP hm hH hn hX
  refine vwp_ok _ ?_
  unfold vc205
  repeat' (first
    | simp only [go_sem, reduceCtorEq, reduceIte, Nat.reduceAdd, Nat.reduceEqDiff, Nat.reduceLeDiff, Nat.reduceMul, *]
    | refine gdO_bool' _ (fun _ => ?_) (fun _ => ?_)
    | refine gdO_bool _ (fun _ => ?_) (fun _ => ?_)
    | refine gdD_bool' _ (fun _ => ?_) (fun _ => ?_)
    | refine gdD_bool _ (fun _ => ?_) (fun _ => ?_)
    | refine cdO_bool' _ (fun _ => ?_) (fun _ => ?_)
    | refine cdO_bool _ (fun _ => ?_) (fun _ => ?_)
    | refine callO.pure (by first | exact h) ?_
    | refine callW.pure (by first | exact h) ?_
    | refine ⟨by decide, ?_⟩
    | refine ppost_t (by simp) rfl ?_)
  all_goals simp only [cutI, *, if_true, if_false, Bool.false_eq_true]
theorem sum_take_le {α : Type} (f : α → Nat) : ∀ (l : List α) (i : Nat), ((l.take i).map f).sum ≤ (l.map f).sum
  | [], i => by simp
  | x :: l, 0 => by simp
  | x :: l, i + 1 => by simp only [List.take_succ_cons, List.map_cons, List.sum_cons]; have := sum_take_le f l i; omega
theorem sum_take_succ {α : Type} (f : α → Nat) {l : List α} {i : Nat} (h : i < l.length) : ((l.take (i + 1)).map f).sum = ((l.take i).map f).sum + f l[i] := by
  rw [List.take_succ_eq_append_getElem h, List.map_append, List.sum_append]; simp
def wC (l : List Cell) : Nat := l.length + (l.map fun c => c.text.length).sum
theorem cutI_neg {n : Int} (h : n < 0) : cutI n = -1 := by simp [cutI, h]
theorem cutI_pos {n : Int} (h : 0 ≤ n) : cutI n = n := by simp [cutI]; omega
theorem c188 (l : List Cell) (left : Int) (h0 : 0 ≤ left) (h1 : left ≤ 1048576) (hs : l.length < 9223372036854775808) (ht : ∀ c ∈ l, c.text.length < 9223372036854775808) : PureC prog 188 [encC l, .sc (.int .i64 left)] (.sc (.int .i64 (cutI (left - wC l)))) := by
  have w : IntKind.i64.wrap (left - (l.length : Int)) = left - l.length := wrap_id (by omega) (by omega)
  unfold encC
  rcases Int.lt_or_le (left - l.length) 0 with hneg | hpos
  · have e : cutI (left - wC l) = -1 := cutI_neg (by unfold wC; omega)
    have g : decide (left - (l.length : Int) < 0) = true := by simp; omega
    refine pureC_of k188 (by first | rfl | simp [VV.cloL, VV.clo, *]) (by first | rfl | simp [VV.cloL, VV.clo, *]) (by simp) ?_
    intro X hP hm hH hn hX
    refine vwp_ok _ ?_
    unfold vc188
    repeat' (first
      | simp only [go_sem, reduceCtorEq, reduceIte, Nat.reduceAdd, Nat.reduceEqDiff, Nat.reduceLeDiff, Nat.reduceMul, *]
      | refine gdO_bool' _ (fun _ => ?_) (fun _ => ?_)
      | refine gdO_bool _ (fun _ => ?_) (fun _ => ?_)
      | refine gdD_bool' _ (fun _ => ?_) (fun _ => ?_)
      | refine gdD_bool _ (fun _ => ?_) (fun _ => ?_)
      | refine cdO_bool' _ (fun _ => ?_) (fun _ => ?_)
      | refine cdO_bool _ (fun _ => ?_) (fun _ => ?_)
      | refine ⟨by decide, ?_⟩
      | refine ppost_t (by simp) rfl ?_)
  · have g : decide (left - (l.length : Int) < 0) = false := by simp; omega
    refine pureC_of k188 (by first | rfl | simp [VV.cloL, VV.clo, *]) (by first | rfl | simp [VV.cloL, VV.clo, *]) (by simp) ?_
    intro X hP hm hH hn hX
    refine vwp_ok _ ?_
    unfold vc188
    repeat' (first
      | simp only [go_sem, reduceCtorEq, reduceIte, Nat.reduceAdd, Nat.reduceEqDiff, Nat.reduceLeDiff, Nat.reduceMul, *]
      | refine gdO_bool' _ (fun _ => ?_) (fun _ => ?_)
      | refine gdO_bool _ (fun _ => ?_) (fun _ => ?_)
      | refine gdD_bool' _ (fun _ => ?_) (fun _ => ?_)
      | refine gdD_bool _ (fun _ => ?_) (fun _ => ?_)
      | refine cdO_bool' _ (fun _ => ?_) (fun _ => ?_)
      | refine cdO_bool _ (fun _ => ?_) (fun _ => ?_)
      | refine ⟨by decide, ?_⟩
      | refine ppost_t (by simp) rfl ?_)
    refine loopV hX (fun μ s H n => ∃ (i : Nat) (v : Int), i ≤ l.length ∧ v = left - l.length - ((l.take i).map fun c => c.text.length).sum ∧ 0 ≤ v ∧ μ = l.length - i ∧ s = slotsOf [(0, .sl 5 (l.map Cell.enc)), (1, .sc (.int .i64 v)), (5, .sc (.int .i64 i))] ∧ H = H0 ∧ n = 0) ?_
      ⟨l.length + 1, roundV_of hH hn [] [(0, _), (1, _), (5, _)] [] _ ⟨0, left - l.length, by simp, by simp, hpos, rfl, rfl, rfl, rfl⟩ (by simp) (by simp) (by simp [hm]) ?_ HConv.nil⟩
    rotate_left
    · repeat' (first | exact List.forall_mem_nil _ | refine List.forall_mem_cons.2 ⟨?_, ?_⟩ | exact .toPt (by simp only [go_sem, reduceCtorEq, reduceIte, Nat.reduceAdd, Nat.reduceEqDiff, Nat.reduceLeDiff, Nat.reduceMul, *] <;> rfl) (by simp [tau]) (by simp) | exact .toRf (by simp only [go_sem, reduceCtorEq, reduceIte, Nat.reduceAdd, Nat.reduceEqDiff, Nat.reduceLeDiff, Nat.reduceMul, *] <;> rfl) (by simp [tau]) (by simp) | exact .same (by simp only [go_sem, reduceCtorEq, reduceIte, Nat.reduceAdd, Nat.reduceEqDiff, Nat.reduceLeDiff, Nat.reduceMul, *] <;> rfl) (by first | rfl | simp [VV.cloL, VV.clo, *]))
    rintro μ s H n ⟨i, v, hi, hv, hv0, rfl, rfl, rfl, rfl⟩
    rcases Nat.lt_or_ge i l.length with hlt | hge
    · have g1 := lt_dec hlt
      have g2 : (0 : Int) ≤ (i : Int) := by omega
      have g3 : (i : Int) < (l.length : Int) := by omega
      have g5 : IntKind.i64.wrap ((i : Int) + 1) = ((i + 1 : Nat) : Int) := by rw [wrap_id] <;> omega
      have g4 : (l.map Cell.enc).getD i [] = (l[i]).enc := getD_map hlt
      have hsucc := sum_take_succ (fun c : Cell => c.text.length) hlt
      have hle := sum_take_le (fun c : Cell => c.text.length) l (i + 1)
      have h205 := c205 l[i] v hv0 (by omega) (ht _ (List.getElem_mem hlt))
      have hbad : v - (l[i]).text.length < 0 → cutI (left - wC l) = -1 := fun h => cutI_neg (by unfold wC; omega)
      have hnext : left - l.length - ((l.take (i + 1)).map fun c => c.text.length).sum = v - (l[i]).text.length := by omega
      generalize l[i] = c at *
      clear hsucc hle ht hv
      rcases Int.lt_or_le (v - c.text.length) 0 with hn' | hp'
      · rw [cutI_neg hn'] at h205
        have k1 : decide ((-1 : Int) < 0) = true := by decide
        have e := hbad hn'
        clear hbad hnext
        repeat' (first
          | simp only [go_sem, reduceCtorEq, reduceIte, Nat.reduceAdd, Nat.reduceEqDiff, Nat.reduceLeDiff, Nat.reduceMul, Cell.encLen, Cell.encTake, *]
          | refine gdO_bool' _ (fun _ => ?_) (fun _ => ?_)
          | refine gdO_bool _ (fun _ => ?_) (fun _ => ?_)
          | refine gdD_bool' _ (fun _ => ?_) (fun _ => ?_)
          | refine gdD_bool _ (fun _ => ?_) (fun _ => ?_)
          | refine cdO_bool' _ (fun _ => ?_) (fun _ => ?_)
          | refine cdO_bool _ (fun _ => ?_) (fun _ => ?_)
          | refine callO.pure (by first | exact h205) ?_
          | refine callW.pure (by first | exact h205) ?_
          | refine ⟨by decide, ?_⟩
          | refine ppost_t (by simp) rfl ?_)
      · rw [cutI_pos hp'] at h205
        have k1 : decide (v - (c.text.length : Int) < 0) = false := by simp; omega
        clear hbad
        repeat' (first
          | simp only [go_sem, reduceCtorEq, reduceIte, Nat.reduceAdd, Nat.reduceEqDiff, Nat.reduceLeDiff, Nat.reduceMul, Cell.encLen, Cell.encTake, *]
          | refine gdO_bool' _ (fun _ => ?_) (fun _ => ?_)
          | refine gdO_bool _ (fun _ => ?_) (fun _ => ?_)
          | refine gdD_bool' _ (fun _ => ?_) (fun _ => ?_)
          | refine gdD_bool _ (fun _ => ?_) (fun _ => ?_)
          | refine cdO_bool' _ (fun _ => ?_) (fun _ => ?_)
          | refine cdO_bool _ (fun _ => ?_) (fun _ => ?_)
          | refine callO.pure (by first | exact h205) ?_
          | refine callW.pure (by first | exact h205) ?_
          | refine ⟨by decide, ?_⟩
          | refine ppost_t (by simp) rfl ?_)
        refine roundV_of hH hn [] [(0, _), (1, _), (5, _)] [] _ ⟨i + 1, v - c.text.length, hlt, hnext.symm, hp', rfl, rfl, rfl, rfl⟩ (by omega) (by simp) (by simp [hm]) ?_ HConv.nil
        clear hnext
        repeat' (first | exact List.forall_mem_nil _ | refine List.forall_mem_cons.2 ⟨?_, ?_⟩ | exact .toPt (by simp only [go_sem, reduceCtorEq, reduceIte, Nat.reduceAdd, Nat.reduceEqDiff, Nat.reduceLeDiff, Nat.reduceMul, *] <;> rfl) (by simp [tau]) (by simp) | exact .toRf (by simp only [go_sem, reduceCtorEq, reduceIte, Nat.reduceAdd, Nat.reduceEqDiff, Nat.reduceLeDiff, Nat.reduceMul, *] <;> rfl) (by simp [tau]) (by simp) | exact .same (by simp only [go_sem, reduceCtorEq, reduceIte, Nat.reduceAdd, Nat.reduceEqDiff, Nat.reduceLeDiff, Nat.reduceMul, *] <;> rfl) (by first | rfl | simp [VV.cloL, VV.clo, *]))
    · have g1 := ge_dec hge
      have e : cutI (left - wC l) = v := by
        rw [List.take_of_length_le hge] at hv
        rw [cutI_pos (by unfold wC; omega)]; unfold wC; omega
      clear hv
      repeat' (first
        | simp only [go_sem, reduceCtorEq, reduceIte, Nat.reduceAdd, Nat.reduceEqDiff, Nat.reduceLeDiff, Nat.reduceMul, *]
        | refine gdO_bool' _ (fun _ => ?_) (fun _ => ?_)
        | refine gdO_bool _ (fun _ => ?_) (fun _ => ?_)
        | refine gdD_bool' _ (fun _ => ?_) (fun _ => ?_)
        | refine gdD_bool _ (fun _ => ?_) (fun _ => ?_)
        | refine cdO_bool' _ (fun _ => ?_) (fun _ => ?_)
        | refine cdO_bool _ (fun _ => ?_) (fun _ => ?_)
        | refine ⟨by decide, ?_⟩
        | refine ppost_t (by simp) rfl ?_)
theorem c163 (t : Table) (left : Int) (h0 : 0 ≤ left) (h1 : left ≤ 1048576) (hs : t.cells.length < 9223372036854775808) (ht : ∀ c ∈ t.cells, c.text.length < 9223372036854775808) : PureC prog 163 [.agg t.enc, .sc (.int .i64 left)] (.sc (.int .i64 (cutI (left - wC t.cells)))) := by
  have h := c188 t.cells left h0 h1 hs ht
  have e := cut_cut (left - wC t.cells)
  rw [← e]
  generalize cutI (left - wC t.cells) = r at *
  unfold Table.enc encC at *
  clear e ht
  refine pureC_of k163 (by first | rfl | simp [VV.cloL, VV.clo, *]) (by first | rfl | simp [VV.cloL, VV.clo, *]) (by simp) ?_
  intro X hP hm hH hn hX
  refine vwp_ok _ ?_
  unfold vc163
  repeat' (first
    | simp only [go_sem, reduceCtorEq, reduceIte, Nat.reduceAdd, Nat.reduceEqDiff, Nat.reduceLeDiff, Nat.reduceMul, *]
    | refine gdO_bool' _ (fun _ => ?_) (fun _ => ?_)
    | refine gdO_bool _ (fun _ => ?_) (fun _ => ?_)
    | refine gdD_bool' _ (fun _ => ?_) (fun _ => ?_)
    | refine gdD_bool _ (fun _ => ?_) (fun _ => ?_)
    | refine cdO_bool' _ (fun _ => ?_) (fun _ => ?_)
    | refine cdO_bool _ (fun _ => ?_) (fun _ => ?_)
    | refine callO.pure (by first | exact h) ?_
    | refine callW.pure (by first | exact h) ?_
    | refine ⟨by decide, ?_⟩
    | refine ppost_t (by simp) rfl ?_)
  all_goals simp only [cutI, *, if_true, if_false, Bool.false_eq_true]
def wB (b : Block) : Nat := b.text.length + wC b.table.cells
theorem c129 (b : Block) (left : Int) (h0 : 0 ≤ left) (h1 : left ≤ 1048576) (hs : b.text.length < 9223372036854775808) (hs' : b.table.cells.length < 9223372036854775808) (ht : ∀ c ∈ b.table.cells, c.text.length < 9223372036854775808) :
    PureC prog 129 [.agg b.enc, .sc (.int .i64 left)] (.sc (.int .i64 (cutI (left - wB b)))) := by
  have h := c162 b.text left h0 h1 hs
  rcases Int.lt_or_le (left - b.text.length) 0 with hneg | hpos
  · rw [cutI_neg hneg] at h
    have e : cutI (left - wB b) = -1 := cutI_neg (by unfold wB; omega)
    have k1 : decide ((-1 : Int) < 0) = true := by decide
    unfold Block.enc encT encC at *
    clear ht
    refine pureC_of k129 (by first | rfl | simp [VV.cloL, VV.clo, *]) (by first | rfl | simp [VV.cloL, VV.clo, *]) (by simp) ?_
    intro X hP hm hH hn hX
    refine vwp_ok _ ?_
    unfold vc129
    repeat' (first
      | simp only [go_sem, reduceCtorEq, reduceIte, Nat.reduceAdd, Nat.reduceEqDiff, Nat.reduceLeDiff, Nat.reduceMul, *]
      | refine gdO_bool' _ (fun _ => ?_) (fun _ => ?_)
      | refine gdO_bool _ (fun _ => ?_) (fun _ => ?_)
      | refine gdD_bool' _ (fun _ => ?_) (fun _ => ?_)
      | refine gdD_bool _ (fun _ => ?_) (fun _ => ?_)
      | refine cdO_bool' _ (fun _ => ?_) (fun _ => ?_)
      | refine cdO_bool _ (fun _ => ?_) (fun _ => ?_)
      | refine callO.pure (by first | exact h) ?_
      | refine callW.pure (by first | exact h) ?_
      | refine ⟨by decide, ?_⟩
      | refine ppost_t (by simp) rfl ?_)
  · rw [cutI_pos hpos] at h
    have h' := c163 b.table (left - b.text.length) hpos (by omega) hs' ht
    have e0 : left - (b.text.length : Int) - wC b.table.cells = left - wB b := by unfold wB; omega
    rw [e0] at h'
    have k1 : decide (left - (b.text.length : Int) < 0) = false := by simp; omega
    have e := cut_cut (left - wB b)
    rw [← e]
    generalize cutI (left - wB b) = r at *
    unfold Block.enc encT encC
    unfold encT at h
    unfold Table.enc encC at h'
    clear e ht e0
    refine pureC_of k129 (by first | rfl | simp [VV.cloL, VV.clo, *]) (by first | rfl | simp [VV.cloL, VV.clo, *]) (by simp) ?_
    intro X hP hm hH hn hX
    refine vwp_ok _ ?_
    unfold vc129
    repeat' (first
      | simp only [go_sem, reduceCtorEq, reduceIte, Nat.reduceAdd, Nat.reduceEqDiff, Nat.reduceLeDiff, Nat.reduceMul, *]
      | refine gdO_bool' _ (fun _ => ?_) (fun _ => ?_)
      | refine gdO_bool _ (fun _ => ?_) (fun _ => ?_)
      | refine gdD_bool' _ (fun _ => ?_) (fun _ => ?_)
      | refine gdD_bool _ (fun _ => ?_) (fun _ => ?_)
      | refine cdO_bool' _ (fun _ => ?_) (fun _ => ?_)
      | refine cdO_bool _ (fun _ => ?_) (fun _ => ?_)
      | refine callO.pure (by first | exact h | exact h') ?_
      | refine callW.pure (by first | exact h | exact h') ?_
      | refine ⟨by decide, ?_⟩
      | refine ppost_t (by simp) rfl ?_)
    all_goals simp only [cutI, *, if_true, if_false, Bool.false_eq_true]
def wD (l : Doc) : Nat := l.length + (l.map fun c => wB c).sum
theorem c84 (l : Doc) (left : Int) (h0 : 0 ≤ left) (h1 : left ≤ 1048576) (hs : l.length < 9223372036854775808) (ht : ∀ b ∈ l, b.text.length < 9223372036854775808 ∧ b.table.cells.length < 9223372036854775808 ∧ ∀ c ∈ b.table.cells, c.text.length < 9223372036854775808) : PureC prog 84 [encB l, .sc (.int .i64 left)] (.sc (.int .i64 (cutI (left - wD l)))) := by
  have w : IntKind.i64.wrap (left - (l.length : Int)) = left - l.length := wrap_id (by omega) (by omega)
  unfold encB
  rcases Int.lt_or_le (left - l.length) 0 with hneg | hpos
  · have e : cutI (left - wD l) = -1 := cutI_neg (by unfold wD; omega)
    have g : decide (left - (l.length : Int) < 0) = true := by simp; omega
    refine pureC_of k84 (by first | rfl | simp [VV.cloL, VV.clo, *]) (by first | rfl | simp [VV.cloL, VV.clo, *]) (by simp) ?_
    intro X hP hm hH hn hX
    refine vwp_ok _ ?_
    unfold vc84
    repeat' (first
      | simp only [go_sem, reduceCtorEq, reduceIte, Nat.reduceAdd, Nat.reduceEqDiff, Nat.reduceLeDiff, Nat.reduceMul, *]
      | refine gdO_bool' _ (fun _ => ?_) (fun _ => ?_)
      | refine gdO_bool _ (fun _ => ?_) (fun _ => ?_)
      | refine gdD_bool' _ (fun _ => ?_) (fun _ => ?_)
      | refine gdD_bool _ (fun _ => ?_) (fun _ => ?_)
      | refine cdO_bool' _ (fun _ => ?_) (fun _ => ?_)
      | refine cdO_bool _ (fun _ => ?_) (fun _ => ?_)
      | refine ⟨by decide, ?_⟩
      | refine ppost_t (by simp) rfl ?_)
  · have g : decide (left - (l.length : Int) < 0) = false := by simp; omega
    refine pureC_of k84 (by first | rfl | simp [VV.cloL, VV.clo, *]) (by first | rfl | simp [VV.cloL, VV.clo, *]) (by simp) ?_
    intro X hP hm hH hn hX
    refine vwp_ok _ ?_
    unfold vc84
    repeat' (first
      | simp only [go_sem, reduceCtorEq, reduceIte, Nat.reduceAdd, Nat.reduceEqDiff, Nat.reduceLeDiff, Nat.reduceMul, *]
      | refine gdO_bool' _ (fun _ => ?_) (fun _ => ?_)
      | refine gdO_bool _ (fun _ => ?_) (fun _ => ?_)
      | refine gdD_bool' _ (fun _ => ?_) (fun _ => ?_)
      | refine gdD_bool _ (fun _ => ?_) (fun _ => ?_)
      | refine cdO_bool' _ (fun _ => ?_) (fun _ => ?_)
      | refine cdO_bool _ (fun _ => ?_) (fun _ => ?_)
      | refine ⟨by decide, ?_⟩
      | refine ppost_t (by simp) rfl ?_)
    refine loopV hX (fun μ s H n => ∃ (i : Nat) (v : Int), i ≤ l.length ∧ v = left - l.length - ((l.take i).map fun c => wB c).sum ∧ 0 ≤ v ∧ μ = l.length - i ∧ s = slotsOf [(0, .sl 6 (l.map Block.enc)), (1, .sc (.int .i64 v)), (5, .sc (.int .i64 i))] ∧ H = H0 ∧ n = 0) ?_
      ⟨l.length + 1, roundV_of hH hn [] [(0, _), (1, _), (5, _)] [] _ ⟨0, left - l.length, by simp, by simp, hpos, rfl, rfl, rfl, rfl⟩ (by simp) (by simp) (by simp [hm]) ?_ HConv.nil⟩
    rotate_left
    · repeat' (first | exact List.forall_mem_nil _ | refine List.forall_mem_cons.2 ⟨?_, ?_⟩ | exact .toPt (by simp only [go_sem, reduceCtorEq, reduceIte, Nat.reduceAdd, Nat.reduceEqDiff, Nat.reduceLeDiff, Nat.reduceMul, *] <;> rfl) (by simp [tau]) (by simp) | exact .toRf (by simp only [go_sem, reduceCtorEq, reduceIte, Nat.reduceAdd, Nat.reduceEqDiff, Nat.reduceLeDiff, Nat.reduceMul, *] <;> rfl) (by simp [tau]) (by simp) | exact .same (by simp only [go_sem, reduceCtorEq, reduceIte, Nat.reduceAdd, Nat.reduceEqDiff, Nat.reduceLeDiff, Nat.reduceMul, *] <;> rfl) (by first | rfl | simp [VV.cloL, VV.clo, *]))
    rintro μ s H n ⟨i, v, hi, hv, hv0, rfl, rfl, rfl, rfl⟩
    rcases Nat.lt_or_ge i l.length with hlt | hge
    · have g1 := lt_dec hlt
      have g2 : (0 : Int) ≤ (i : Int) := by omega
      have g3 : (i : Int) < (l.length : Int) := by omega
      have g5 : IntKind.i64.wrap ((i : Int) + 1) = ((i + 1 : Nat) : Int) := by rw [wrap_id] <;> omega
      have g4 : (l.map Block.enc).getD i [] = (l[i]).enc := getD_map hlt
      have hsucc := sum_take_succ (fun c : Block => wB c) hlt
      have hle := sum_take_le (fun c : Block => wB c) l (i + 1)
      have h205 := c129 l[i] v hv0 (by omega) (ht _ (List.getElem_mem hlt)).1 (ht _ (List.getElem_mem hlt)).2.1 (ht _ (List.getElem_mem hlt)).2.2
      have hbad : v - wB l[i] < 0 → cutI (left - wD l) = -1 := fun h => cutI_neg (by unfold wD; omega)
      have hnext : left - l.length - ((l.take (i + 1)).map fun c => wB c).sum = v - wB l[i] := by omega
      generalize l[i] = c at *
      clear hsucc hle ht hv
      rcases Int.lt_or_le (v - wB c) 0 with hn' | hp'
      · rw [cutI_neg hn'] at h205
        have k1 : decide ((-1 : Int) < 0) = true := by decide
        have e := hbad hn'
        clear hbad hnext
        repeat' (first
          | simp only [go_sem, reduceCtorEq, reduceIte, Nat.reduceAdd, Nat.reduceEqDiff, Nat.reduceLeDiff, Nat.reduceMul, Block.encLen, Block.encTake, *]
          | refine gdO_bool' _ (fun _ => ?_) (fun _ => ?_)
          | refine gdO_bool _ (fun _ => ?_) (fun _ => ?_)
          | refine gdD_bool' _ (fun _ => ?_) (fun _ => ?_)
          | refine gdD_bool _ (fun _ => ?_) (fun _ => ?_)
          | refine cdO_bool' _ (fun _ => ?_) (fun _ => ?_)
          | refine cdO_bool _ (fun _ => ?_) (fun _ => ?_)
          | refine callO.pure (by first | exact h205) ?_
          | refine callW.pure (by first | exact h205) ?_
          | refine ⟨by decide, ?_⟩
          | refine ppost_t (by simp) rfl ?_)
      · rw [cutI_pos hp'] at h205
        have k1 : decide (v - (wB c : Int) < 0) = false := by simp; omega
        clear hbad
        repeat' (first
          | simp only [go_sem, reduceCtorEq, reduceIte, Nat.reduceAdd, Nat.reduceEqDiff, Nat.reduceLeDiff, Nat.reduceMul, Block.encLen, Block.encTake, *]
          | refine gdO_bool' _ (fun _ => ?_) (fun _ => ?_)
          | refine gdO_bool _ (fun _ => ?_) (fun _ => ?_)
          | refine gdD_bool' _ (fun _ => ?_) (fun _ => ?_)
          | refine gdD_bool _ (fun _ => ?_) (fun _ => ?_)
          | refine cdO_bool' _ (fun _ => ?_) (fun _ => ?_)
          | refine cdO_bool _ (fun _ => ?_) (fun _ => ?_)
          | refine callO.pure (by first | exact h205) ?_
          | refine callW.pure (by first | exact h205) ?_
          | refine ⟨by decide, ?_⟩
          | refine ppost_t (by simp) rfl ?_)
        refine roundV_of hH hn [] [(0, _), (1, _), (5, _)] [] _ ⟨i + 1, v - wB c, hlt, hnext.symm, hp', rfl, rfl, rfl, rfl⟩ (by omega) (by simp) (by simp [hm]) ?_ HConv.nil
        clear hnext
        repeat' (first | exact List.forall_mem_nil _ | refine List.forall_mem_cons.2 ⟨?_, ?_⟩ | exact .toPt (by simp only [go_sem, reduceCtorEq, reduceIte, Nat.reduceAdd, Nat.reduceEqDiff, Nat.reduceLeDiff, Nat.reduceMul, *] <;> rfl) (by simp [tau]) (by simp) | exact .toRf (by simp only [go_sem, reduceCtorEq, reduceIte, Nat.reduceAdd, Nat.reduceEqDiff, Nat.reduceLeDiff, Nat.reduceMul, *] <;> rfl) (by simp [tau]) (by simp) | exact .same (by simp only [go_sem, reduceCtorEq, reduceIte, Nat.reduceAdd, Nat.reduceEqDiff, Nat.reduceLeDiff, Nat.reduceMul, *] <;> rfl) (by first | rfl | simp [VV.cloL, VV.clo, *]))
    · have g1 := ge_dec hge
      have e : cutI (left - wD l) = v := by
        rw [List.take_of_length_le hge] at hv
        rw [cutI_pos (by unfold wD; omega)]; unfold wD; omega
      clear hv
      repeat' (first
        | simp only [go_sem, reduceCtorEq, reduceIte, Nat.reduceAdd, Nat.reduceEqDiff, Nat.reduceLeDiff, Nat.reduceMul, *]
        | refine gdO_bool' _ (fun _ => ?_) (fun _ => ?_)
        | refine gdO_bool _ (fun _ => ?_) (fun _ => ?_)
        | refine gdD_bool' _ (fun _ => ?_) (fun _ => ?_)
        | refine gdD_bool _ (fun _ => ?_) (fun _ => ?_)
        | refine cdO_bool' _ (fun _ => ?_) (fun _ => ?_)
        | refine cdO_bool _ (fun _ => ?_) (fun _ => ?_)
        | refine ⟨by decide, ?_⟩
        | refine ppost_t (by simp) rfl ?_)
theorem c31 (d : Doc) (left : Int) (h0 : 0 ≤ left) (h1 : left ≤ 1048576) (hs : d.length < 9223372036854775808) (ht : ∀ b ∈ d, b.text.length < 9223372036854775808 ∧ b.table.cells.length < 9223372036854775808 ∧ ∀ c ∈ b.table.cells, c.text.length < 9223372036854775808) :
    PureC prog 31 [.agg [encB d], .sc (.int .i64 left)] (.sc (.int .i64 (cutI (left - wD d)))) := by
  have h := c84 d left h0 h1 hs ht
  have e := cut_cut (left - wD d)
  rw [← e]
  generalize cutI (left - wD d) = r at *
  unfold encB at *
  clear e ht
  refine pureC_of k31 (by first | rfl | simp [VV.cloL, VV.clo, *]) (by first | rfl | simp [VV.cloL, VV.clo, *]) (by simp) ?_
  intro X hP hm hH hn hX
  refine vwp_ok _ ?_
  unfold vc31
  repeat' (first
    | simp only [go_sem, reduceCtorEq, reduceIte, Nat.reduceAdd, Nat.reduceEqDiff, Nat.reduceLeDiff, Nat.reduceMul, *]
    | refine gdO_bool' _ (fun _ => ?_) (fun _ => ?_)
    | refine gdO_bool _ (fun _ => ?_) (fun _ => ?_)
    | refine gdD_bool' _ (fun _ => ?_) (fun _ => ?_)
    | refine gdD_bool _ (fun _ => ?_) (fun _ => ?_)
    | refine cdO_bool' _ (fun _ => ?_) (fun _ => ?_)
    | refine cdO_bool _ (fun _ => ?_) (fun _ => ?_)
    | refine callO.pure (by first | exact h) ?_
    | refine callW.pure (by first | exact h) ?_
    | refine ⟨by decide, ?_⟩
    | refine ppost_t (by simp) rfl ?_)
  all_goals simp only [cutI, *, if_true, if_false, Bool.false_eq_true]
end Go.Proofs.Ytdmmhainianadaa

/- F20: the laws' comparisons, of a thing with itself. -/
namespace Go.Proofs.Ytdmmhainianadaa
open Go.VM Go.Lim Go.Proofs.Try
attribute [local irreducible] vwp vops vstep vdr vdr1 CallP PPost SWv gdO gdD cdO optV optW optD thenV blockV behind callO callW callvO roundV
set_option linter.unusedSimpArgs false
set_option linter.unusedVariables false
/- loop.example/limner/laws.eqSignS -/
def vc167 : VCode :=
(.seq (.reg [⟨(some 4), (.mov (.const (.bool false))), none⟩])
(.seq (.seq (.reg [⟨(some 6), (.mov (.tmp 0)), none⟩, ⟨(some 7), (.len false (.tmp 6)), none⟩, ⟨(some 8), (.mov (.tmp 1)), none⟩, ⟨(some 9), (.len false (.tmp 8)), none⟩, ⟨(some 10), (.bin .neq .no (.tmp 7) (.tmp 9)), none⟩])
(.cond (.tmp 10) (.seq (.reg [⟨(some 4), (.mov (.const (.bool false))), none⟩])
 .ret)
 .skip))
(.seq (.seq (.reg [⟨(some 5), (.mov (.const (.int .i64 0))), none⟩])
(.block 0 (.loop (.seq (.seq (.reg [⟨(some 11), (.mov (.tmp 5)), none⟩, ⟨(some 12), (.mov (.tmp 0)), none⟩, ⟨(some 13), (.len false (.tmp 12)), none⟩, ⟨(some 14), (.bin .lss .no (.tmp 11) (.tmp 13)), none⟩])
  (.cond (.tmp 14) .skip
   (.exit 0)))
  (.seq (.block 1 (.seq (.drw [(⟨(some 17), (.mov (.tmp 0)), none⟩, []), (⟨(some 18), (.mov (.tmp 5)), none⟩, []), (⟨(some 19), (.iad 3 (.tmp 17) (.tmp 18)), none⟩, []), (⟨(some 20), (.load true 3 (.tmp 19)), none⟩, []), (⟨(some 21), (.mov (.tmp 1)), none⟩, []), (⟨(some 22), (.mov (.tmp 5)), none⟩, []), (⟨(some 23), (.iad 3 (.tmp 21) (.tmp 22)), none⟩, []), (⟨(some 24), (.load true 3 (.tmp 23)), none⟩, [3]), (⟨(some 25), (.call 191 [(.tmp 20), (.tmp 24)]), none⟩, []), (⟨(some 26), (.un .not (.tmp 25)), none⟩, [])])
   (.cond (.tmp 26) (.seq (.reg [⟨(some 4), (.mov (.const (.bool false))), none⟩])
    .ret)
    .skip)))
  (.reg [⟨(some 15), (.mov (.tmp 5)), none⟩, ⟨(some 16), (.bin .add .no (.tmp 15) (.const (.int .i64 1))), none⟩, ⟨(some 5), (.mov (.tmp 16)), none⟩]))))))
(.seq (.reg [⟨(some 4), (.mov (.const (.bool true))), none⟩])
.ret))))
theorem k167 : compFn prog 167 = some (27, vc167, [.t 4]) := by kernel_rfl
/- loop.example/limner/laws.eqCell -/
def vc207 : VCode :=
(.seq (.reg [⟨(some 2), (.box (.tmp 0)), none⟩, ⟨(some 3), (.box (.tmp 1)), none⟩, ⟨(some 4), (.mov (.const (.bool false))), none⟩])
(.seq (.seq (.reg [⟨(some 5), (.fad 0 (.tmp 2)), none⟩, ⟨(some 6), (.load false 1 (.tmp 5)), none⟩, ⟨(some 7), (.fad 0 (.tmp 3)), none⟩, ⟨(some 8), (.load false 1 (.tmp 7)), none⟩, ⟨(some 9), (.bin .neq .no (.tmp 6) (.tmp 8)), none⟩])
(.cond (.tmp 9) (.seq (.reg [⟨(some 4), (.mov (.const (.bool false))), none⟩])
 .ret)
 .skip))
(.seq (.seq (.reg [⟨(some 10), (.fad 1 (.tmp 2)), none⟩, ⟨(some 11), (.load false 1 (.tmp 10)), none⟩, ⟨(some 12), (.fad 1 (.tmp 3)), none⟩, ⟨(some 13), (.load false 1 (.tmp 12)), none⟩, ⟨(some 14), (.bin .neq .no (.tmp 11) (.tmp 13)), none⟩])
(.cond (.tmp 14) (.seq (.reg [⟨(some 4), (.mov (.const (.bool false))), none⟩])
 .ret)
 .skip))
(.seq (.seq (.reg [⟨(some 15), (.fad 2 (.tmp 2)), none⟩, ⟨(some 16), (.load false 1 (.tmp 15)), none⟩, ⟨(some 17), (.fad 2 (.tmp 3)), none⟩, ⟨(some 18), (.load false 1 (.tmp 17)), none⟩, ⟨(some 19), (.bin .neq .no (.tmp 16) (.tmp 18)), none⟩])
(.cond (.tmp 19) (.seq (.reg [⟨(some 4), (.mov (.const (.bool false))), none⟩])
 .ret)
 .skip))
(.seq (.seq (.reg [⟨(some 20), (.fad 3 (.tmp 2)), none⟩, ⟨(some 21), (.load false 1 (.tmp 20)), none⟩, ⟨(some 22), (.fad 3 (.tmp 3)), none⟩, ⟨(some 23), (.load false 1 (.tmp 22)), none⟩, ⟨(some 24), (.bin .neq .no (.tmp 21) (.tmp 23)), none⟩])
(.cond (.tmp 24) (.seq (.reg [⟨(some 4), (.mov (.const (.bool false))), none⟩])
 .ret)
 .skip))
(.seq (.seq (.reg [⟨(some 25), (.fad 4 (.tmp 2)), none⟩, ⟨(some 26), (.load false 1 (.tmp 25)), none⟩, ⟨(some 27), (.fad 4 (.tmp 3)), none⟩, ⟨(some 28), (.load false 1 (.tmp 27)), none⟩, ⟨(some 29), (.call 167 [(.tmp 26), (.tmp 28)]), none⟩, ⟨(some 30), (.un .not (.tmp 29)), none⟩])
(.cond (.tmp 30) (.seq (.reg [⟨(some 4), (.mov (.const (.bool false))), none⟩])
 .ret)
 .skip))
(.seq (.reg [⟨(some 4), (.mov (.const (.bool true))), none⟩])
.ret)))))))
theorem k207 : compFn prog 207 = some (31, vc207, [.t 4]) := by kernel_rfl
/- loop.example/limner/laws.eqCellS -/
def vc192 : VCode :=
(.seq (.reg [⟨(some 4), (.mov (.const (.bool false))), none⟩])
(.seq (.seq (.reg [⟨(some 6), (.mov (.tmp 0)), none⟩, ⟨(some 7), (.len false (.tmp 6)), none⟩, ⟨(some 8), (.mov (.tmp 1)), none⟩, ⟨(some 9), (.len false (.tmp 8)), none⟩, ⟨(some 10), (.bin .neq .no (.tmp 7) (.tmp 9)), none⟩])
(.cond (.tmp 10) (.seq (.reg [⟨(some 4), (.mov (.const (.bool false))), none⟩])
 .ret)
 .skip))
(.seq (.seq (.reg [⟨(some 5), (.mov (.const (.int .i64 0))), none⟩])
(.block 0 (.loop (.seq (.seq (.reg [⟨(some 11), (.mov (.tmp 5)), none⟩, ⟨(some 12), (.mov (.tmp 0)), none⟩, ⟨(some 13), (.len false (.tmp 12)), none⟩, ⟨(some 14), (.bin .lss .no (.tmp 11) (.tmp 13)), none⟩])
  (.cond (.tmp 14) .skip
   (.exit 0)))
  (.seq (.block 1 (.seq (.drw [(⟨(some 17), (.mov (.tmp 0)), none⟩, []), (⟨(some 18), (.mov (.tmp 5)), none⟩, []), (⟨(some 19), (.iad 5 (.tmp 17) (.tmp 18)), none⟩, []), (⟨(some 20), (.load true 5 (.tmp 19)), none⟩, []), (⟨(some 21), (.mov (.tmp 1)), none⟩, []), (⟨(some 22), (.mov (.tmp 5)), none⟩, []), (⟨(some 23), (.iad 5 (.tmp 21) (.tmp 22)), none⟩, []), (⟨(some 24), (.load true 5 (.tmp 23)), none⟩, [3]), (⟨(some 25), (.call 207 [(.tmp 20), (.tmp 24)]), none⟩, []), (⟨(some 26), (.un .not (.tmp 25)), none⟩, [])])
   (.cond (.tmp 26) (.seq (.reg [⟨(some 4), (.mov (.const (.bool false))), none⟩])
    .ret)
    .skip)))
  (.reg [⟨(some 15), (.mov (.tmp 5)), none⟩, ⟨(some 16), (.bin .add .no (.tmp 15) (.const (.int .i64 1))), none⟩, ⟨(some 5), (.mov (.tmp 16)), none⟩]))))))
(.seq (.reg [⟨(some 4), (.mov (.const (.bool true))), none⟩])
.ret))))
theorem k192 : compFn prog 192 = some (27, vc192, [.t 4]) := by kernel_rfl
/- loop.example/limner/laws.eqTable -/
def vc168 : VCode :=
(.seq (.reg [⟨(some 2), (.box (.tmp 0)), none⟩, ⟨(some 3), (.box (.tmp 1)), none⟩, ⟨(some 4), (.mov (.const (.bool false))), none⟩])
(.seq (.seq (.reg [⟨(some 5), (.fad 0 (.tmp 2)), none⟩, ⟨(some 6), (.load false 1 (.tmp 5)), none⟩, ⟨(some 7), (.fad 0 (.tmp 3)), none⟩, ⟨(some 8), (.load false 1 (.tmp 7)), none⟩, ⟨(some 9), (.bin .neq .no (.tmp 6) (.tmp 8)), none⟩])
(.cond (.tmp 9) (.seq (.reg [⟨(some 4), (.mov (.const (.bool false))), none⟩])
 .ret)
 .skip))
(.seq (.seq (.reg [⟨(some 10), (.fad 1 (.tmp 2)), none⟩, ⟨(some 11), (.load false 1 (.tmp 10)), none⟩, ⟨(some 12), (.fad 1 (.tmp 3)), none⟩, ⟨(some 13), (.load false 1 (.tmp 12)), none⟩, ⟨(some 14), (.bin .neq .no (.tmp 11) (.tmp 13)), none⟩])
(.cond (.tmp 14) (.seq (.reg [⟨(some 4), (.mov (.const (.bool false))), none⟩])
 .ret)
 .skip))
(.seq (.seq (.reg [⟨(some 15), (.fad 2 (.tmp 2)), none⟩, ⟨(some 16), (.load false 1 (.tmp 15)), none⟩, ⟨(some 17), (.fad 2 (.tmp 3)), none⟩, ⟨(some 18), (.load false 1 (.tmp 17)), none⟩, ⟨(some 19), (.call 192 [(.tmp 16), (.tmp 18)]), none⟩, ⟨(some 20), (.un .not (.tmp 19)), none⟩])
(.cond (.tmp 20) (.seq (.reg [⟨(some 4), (.mov (.const (.bool false))), none⟩])
 .ret)
 .skip))
(.seq (.reg [⟨(some 4), (.mov (.const (.bool true))), none⟩])
.ret)))))
theorem k168 : compFn prog 168 = some (21, vc168, [.t 4]) := by kernel_rfl
/- loop.example/limner/laws.eqBlock -/
def vc132 : VCode :=
(.seq (.reg [⟨(some 2), (.box (.tmp 0)), none⟩, ⟨(some 3), (.box (.tmp 1)), none⟩, ⟨(some 4), (.mov (.const (.bool false))), none⟩])
(.seq (.seq (.reg [⟨(some 5), (.fad 0 (.tmp 2)), none⟩, ⟨(some 6), (.load false 1 (.tmp 5)), none⟩, ⟨(some 7), (.fad 0 (.tmp 3)), none⟩, ⟨(some 8), (.load false 1 (.tmp 7)), none⟩, ⟨(some 9), (.bin .neq .no (.tmp 6) (.tmp 8)), none⟩])
(.cond (.tmp 9) (.seq (.reg [⟨(some 4), (.mov (.const (.bool false))), none⟩])
 .ret)
 .skip))
(.seq (.seq (.reg [⟨(some 10), (.fad 1 (.tmp 2)), none⟩, ⟨(some 11), (.load false 1 (.tmp 10)), none⟩, ⟨(some 12), (.fad 1 (.tmp 3)), none⟩, ⟨(some 13), (.load false 1 (.tmp 12)), none⟩, ⟨(some 14), (.bin .neq .no (.tmp 11) (.tmp 13)), none⟩])
(.cond (.tmp 14) (.seq (.reg [⟨(some 4), (.mov (.const (.bool false))), none⟩])
 .ret)
 .skip))
(.seq (.seq (.reg [⟨(some 15), (.fad 2 (.tmp 2)), none⟩, ⟨(some 16), (.load false 1 (.tmp 15)), none⟩, ⟨(some 17), (.fad 2 (.tmp 3)), none⟩, ⟨(some 18), (.load false 1 (.tmp 17)), none⟩, ⟨(some 19), (.call 167 [(.tmp 16), (.tmp 18)]), none⟩, ⟨(some 20), (.un .not (.tmp 19)), none⟩])
(.cond (.tmp 20) (.seq (.reg [⟨(some 4), (.mov (.const (.bool false))), none⟩])
 .ret)
 .skip))
(.seq (.seq (.reg [⟨(some 21), (.fad 3 (.tmp 2)), none⟩, ⟨(some 22), (.load true 3 (.tmp 21)), none⟩, ⟨(some 23), (.fad 3 (.tmp 3)), none⟩, ⟨(some 24), (.load true 3 (.tmp 23)), none⟩, ⟨(some 25), (.call 168 [(.tmp 22), (.tmp 24)]), none⟩, ⟨(some 26), (.un .not (.tmp 25)), none⟩])
(.cond (.tmp 26) (.seq (.reg [⟨(some 4), (.mov (.const (.bool false))), none⟩])
 .ret)
 .skip))
(.seq (.reg [⟨(some 4), (.mov (.const (.bool true))), none⟩])
.ret))))))
theorem k132 : compFn prog 132 = some (27, vc132, [.t 4]) := by kernel_rfl
/- loop.example/limner/laws.eqBlockS -/
def vc89 : VCode :=
(.seq (.reg [⟨(some 4), (.mov (.const (.bool false))), none⟩])
(.seq (.seq (.reg [⟨(some 6), (.mov (.tmp 0)), none⟩, ⟨(some 7), (.len false (.tmp 6)), none⟩, ⟨(some 8), (.mov (.tmp 1)), none⟩, ⟨(some 9), (.len false (.tmp 8)), none⟩, ⟨(some 10), (.bin .neq .no (.tmp 7) (.tmp 9)), none⟩])
(.cond (.tmp 10) (.seq (.reg [⟨(some 4), (.mov (.const (.bool false))), none⟩])
 .ret)
 .skip))
(.seq (.seq (.reg [⟨(some 5), (.mov (.const (.int .i64 0))), none⟩])
(.block 0 (.loop (.seq (.seq (.reg [⟨(some 11), (.mov (.tmp 5)), none⟩, ⟨(some 12), (.mov (.tmp 0)), none⟩, ⟨(some 13), (.len false (.tmp 12)), none⟩, ⟨(some 14), (.bin .lss .no (.tmp 11) (.tmp 13)), none⟩])
  (.cond (.tmp 14) .skip
   (.exit 0)))
  (.seq (.block 1 (.seq (.drw [(⟨(some 17), (.mov (.tmp 0)), none⟩, []), (⟨(some 18), (.mov (.tmp 5)), none⟩, []), (⟨(some 19), (.iad 6 (.tmp 17) (.tmp 18)), none⟩, []), (⟨(some 20), (.load true 6 (.tmp 19)), none⟩, []), (⟨(some 21), (.mov (.tmp 1)), none⟩, []), (⟨(some 22), (.mov (.tmp 5)), none⟩, []), (⟨(some 23), (.iad 6 (.tmp 21) (.tmp 22)), none⟩, []), (⟨(some 24), (.load true 6 (.tmp 23)), none⟩, [3]), (⟨(some 25), (.call 132 [(.tmp 20), (.tmp 24)]), none⟩, []), (⟨(some 26), (.un .not (.tmp 25)), none⟩, [])])
   (.cond (.tmp 26) (.seq (.reg [⟨(some 4), (.mov (.const (.bool false))), none⟩])
    .ret)
    .skip)))
  (.reg [⟨(some 15), (.mov (.tmp 5)), none⟩, ⟨(some 16), (.bin .add .no (.tmp 15) (.const (.int .i64 1))), none⟩, ⟨(some 5), (.mov (.tmp 16)), none⟩]))))))
(.seq (.reg [⟨(some 4), (.mov (.const (.bool true))), none⟩])
.ret))))
theorem k89 : compFn prog 89 = some (27, vc89, [.t 4]) := by kernel_rfl
/- loop.example/limner/laws.eqDoc -/
def vc37 : VCode :=
(.seq (.reg [⟨(some 2), (.box (.tmp 0)), none⟩, ⟨(some 3), (.box (.tmp 1)), none⟩, ⟨(some 4), (.mov (.const (.bool false))), none⟩])
(.seq (.seq (.reg [⟨(some 5), (.fad 0 (.tmp 2)), none⟩, ⟨(some 6), (.load false 1 (.tmp 5)), none⟩, ⟨(some 7), (.fad 0 (.tmp 3)), none⟩, ⟨(some 8), (.load false 1 (.tmp 7)), none⟩, ⟨(some 9), (.call 89 [(.tmp 6), (.tmp 8)]), none⟩, ⟨(some 10), (.un .not (.tmp 9)), none⟩])
(.cond (.tmp 10) (.seq (.reg [⟨(some 4), (.mov (.const (.bool false))), none⟩])
 .ret)
 .skip))
(.seq (.reg [⟨(some 4), (.mov (.const (.bool true))), none⟩])
.ret)))
theorem k37 : compFn prog 37 = some (11, vc37, [.t 4]) := by kernel_rfl
theorem c167 (l : Text) (hs : l.length < 4611686018427387904) : PureC prog 167 [encT l, encT l] (.sc (.bool true)) := by
  unfold encT
  refine pureC_of k167 (by first | rfl | simp [VV.cloL, VV.clo, *]) (by first | rfl | simp [VV.cloL, VV.clo, *]) (by simp) ?_
  intro X hP hm hH hn hX
  refine vwp_ok _ ?_
  unfold vc167
  repeat' (first
    | simp only [go_sem, reduceCtorEq, reduceIte, Nat.reduceAdd, Nat.reduceEqDiff, Nat.reduceLeDiff, Nat.reduceMul, beq_self_eq_true, *]
    | refine gdO_bool' _ (fun _ => ?_) (fun _ => ?_)
    | refine gdO_bool _ (fun _ => ?_) (fun _ => ?_)
    | refine gdD_bool' _ (fun _ => ?_) (fun _ => ?_)
    | refine gdD_bool _ (fun _ => ?_) (fun _ => ?_)
    | refine cdO_bool' _ (fun _ => ?_) (fun _ => ?_)
    | refine cdO_bool _ (fun _ => ?_) (fun _ => ?_)
    | refine ⟨by decide, ?_⟩
    | refine ppost_t (by simp) rfl ?_)
  refine loopV hX (fun μ s H n => ∃ i : Nat, i ≤ l.length ∧ μ = l.length - i ∧ s = slotsOf [(0, .sl 3 (l.map Sign.enc)), (1, .sl 3 (l.map Sign.enc)), (5, .sc (.int .i64 i))] ∧ H = H0 ∧ n = 0) ?_
    ⟨l.length + 1, roundV_of hH hn [] [(0, _), (1, _), (5, _)] [] _ ⟨0, by simp, rfl, rfl, rfl, rfl⟩ (by simp) (by simp) (by simp [hm]) ?_ HConv.nil⟩
  rotate_left
  · repeat' (first | exact List.forall_mem_nil _ | refine List.forall_mem_cons.2 ⟨?_, ?_⟩ | exact .toPt (by simp only [go_sem, reduceCtorEq, reduceIte, Nat.reduceAdd, Nat.reduceEqDiff, Nat.reduceLeDiff, Nat.reduceMul, *] <;> rfl) (by simp [tau]) (by simp) | exact .toRf (by simp only [go_sem, reduceCtorEq, reduceIte, Nat.reduceAdd, Nat.reduceEqDiff, Nat.reduceLeDiff, Nat.reduceMul, *] <;> rfl) (by simp [tau]) (by simp) | exact .same (by simp only [go_sem, reduceCtorEq, reduceIte, Nat.reduceAdd, Nat.reduceEqDiff, Nat.reduceLeDiff, Nat.reduceMul, *] <;> rfl) (by first | rfl | simp [VV.cloL, VV.clo, *]))
  rintro μ s H n ⟨i, hi, rfl, rfl, rfl, rfl⟩
  rcases Nat.lt_or_ge i l.length with hlt | hge
  · have g1 := lt_dec hlt
    have g2 : (0 : Int) ≤ (i : Int) := by omega
    have g3 : (i : Int) < (l.length : Int) := by omega
    have g5 : IntKind.i64.wrap ((i : Int) + 1) = ((i + 1 : Nat) : Int) := by rw [wrap_id] <;> omega
    have g4 : (l.map Sign.enc).getD i [] = (l[i]).enc := getD_map hlt
    have h := c191 l[i] l[i]
    simp only [beq_self_eq_true, Bool.and_self] at h
    generalize l[i] = c at *
    repeat' (first
      | simp only [go_sem, reduceCtorEq, reduceIte, Nat.reduceAdd, Nat.reduceEqDiff, Nat.reduceLeDiff, Nat.reduceMul, Sign.encLen, Sign.encTake, *]
      | refine gdO_bool' _ (fun _ => ?_) (fun _ => ?_)
      | refine gdO_bool _ (fun _ => ?_) (fun _ => ?_)
      | refine gdD_bool' _ (fun _ => ?_) (fun _ => ?_)
      | refine gdD_bool _ (fun _ => ?_) (fun _ => ?_)
      | refine cdO_bool' _ (fun _ => ?_) (fun _ => ?_)
      | refine cdO_bool _ (fun _ => ?_) (fun _ => ?_)
      | refine callO.pure (by first | exact h) ?_
      | refine callW.pure (by first | exact h) ?_
      | refine ⟨by decide, ?_⟩
      | refine ppost_t (by simp) rfl ?_)
    refine roundV_of hH hn [] [(0, _), (1, _), (5, _)] [] _ ⟨i + 1, hlt, rfl, rfl, rfl, rfl⟩ (by omega) (by simp) (by simp [hm]) ?_ HConv.nil
    repeat' (first | exact List.forall_mem_nil _ | refine List.forall_mem_cons.2 ⟨?_, ?_⟩ | exact .toPt (by simp only [go_sem, reduceCtorEq, reduceIte, Nat.reduceAdd, Nat.reduceEqDiff, Nat.reduceLeDiff, Nat.reduceMul, *] <;> rfl) (by simp [tau]) (by simp) | exact .toRf (by simp only [go_sem, reduceCtorEq, reduceIte, Nat.reduceAdd, Nat.reduceEqDiff, Nat.reduceLeDiff, Nat.reduceMul, *] <;> rfl) (by simp [tau]) (by simp) | exact .same (by simp only [go_sem, reduceCtorEq, reduceIte, Nat.reduceAdd, Nat.reduceEqDiff, Nat.reduceLeDiff, Nat.reduceMul, *] <;> rfl) (by first | rfl | simp [VV.cloL, VV.clo, *]))
  · have g1 := ge_dec hge
    repeat' (first
      | simp only [go_sem, reduceCtorEq, reduceIte, Nat.reduceAdd, Nat.reduceEqDiff, Nat.reduceLeDiff, Nat.reduceMul, *]
      | refine gdO_bool' _ (fun _ => ?_) (fun _ => ?_)
      | refine gdO_bool _ (fun _ => ?_) (fun _ => ?_)
      | refine gdD_bool' _ (fun _ => ?_) (fun _ => ?_)
      | refine gdD_bool _ (fun _ => ?_) (fun _ => ?_)
      | refine cdO_bool' _ (fun _ => ?_) (fun _ => ?_)
      | refine cdO_bool _ (fun _ => ?_) (fun _ => ?_)
      | refine ⟨by decide, ?_⟩
      | refine ppost_t (by simp) rfl ?_)
theorem c207 (c : Cell) (hs : c.text.length < 4611686018427387904) : PureC prog 207 [.agg c.enc, .agg c.enc] (.sc (.bool true)) := by
  have h := c167 c.text hs
  unfold Cell.enc encT at *
  refine pureC_of k207 (by first | rfl | simp [VV.cloL, VV.clo, *]) (by first | rfl | simp [VV.cloL, VV.clo, *]) (by simp) ?_
  intro X hP hm hH hn hX
  refine vwp_ok _ ?_
  unfold vc207
  repeat' (first
    | simp only [go_sem, reduceCtorEq, reduceIte, Nat.reduceAdd, Nat.reduceEqDiff, Nat.reduceLeDiff, Nat.reduceMul, beq_self_eq_true, *]
    | refine gdO_bool' _ (fun _ => ?_) (fun _ => ?_)
    | refine gdO_bool _ (fun _ => ?_) (fun _ => ?_)
    | refine gdD_bool' _ (fun _ => ?_) (fun _ => ?_)
    | refine gdD_bool _ (fun _ => ?_) (fun _ => ?_)
    | refine cdO_bool' _ (fun _ => ?_) (fun _ => ?_)
    | refine cdO_bool _ (fun _ => ?_) (fun _ => ?_)
    | refine callO.pure (by first | exact h) ?_
    | refine callW.pure (by first | exact h) ?_
    | refine ⟨by decide, ?_⟩
    | refine ppost_t (by simp) rfl ?_)
theorem c192 (l : List Cell) (hs : l.length < 4611686018427387904) (ht : ∀ c ∈ l, c.text.length < 4611686018427387904) : PureC prog 192 [encC l, encC l] (.sc (.bool true)) := by
  unfold encC
  refine pureC_of k192 (by first | rfl | simp [VV.cloL, VV.clo, *]) (by first | rfl | simp [VV.cloL, VV.clo, *]) (by simp) ?_
  intro X hP hm hH hn hX
  refine vwp_ok _ ?_
  unfold vc192
  repeat' (first
    | simp only [go_sem, reduceCtorEq, reduceIte, Nat.reduceAdd, Nat.reduceEqDiff, Nat.reduceLeDiff, Nat.reduceMul, beq_self_eq_true, *]
    | refine gdO_bool' _ (fun _ => ?_) (fun _ => ?_)
    | refine gdO_bool _ (fun _ => ?_) (fun _ => ?_)
    | refine gdD_bool' _ (fun _ => ?_) (fun _ => ?_)
    | refine gdD_bool _ (fun _ => ?_) (fun _ => ?_)
    | refine cdO_bool' _ (fun _ => ?_) (fun _ => ?_)
    | refine cdO_bool _ (fun _ => ?_) (fun _ => ?_)
    | refine ⟨by decide, ?_⟩
    | refine ppost_t (by simp) rfl ?_)
  refine loopV hX (fun μ s H n => ∃ i : Nat, i ≤ l.length ∧ μ = l.length - i ∧ s = slotsOf [(0, .sl 5 (l.map Cell.enc)), (1, .sl 5 (l.map Cell.enc)), (5, .sc (.int .i64 i))] ∧ H = H0 ∧ n = 0) ?_
    ⟨l.length + 1, roundV_of hH hn [] [(0, _), (1, _), (5, _)] [] _ ⟨0, by simp, rfl, rfl, rfl, rfl⟩ (by simp) (by simp) (by simp [hm]) ?_ HConv.nil⟩
  rotate_left
  · repeat' (first | exact List.forall_mem_nil _ | refine List.forall_mem_cons.2 ⟨?_, ?_⟩ | exact .toPt (by simp only [go_sem, reduceCtorEq, reduceIte, Nat.reduceAdd, Nat.reduceEqDiff, Nat.reduceLeDiff, Nat.reduceMul, *] <;> rfl) (by simp [tau]) (by simp) | exact .toRf (by simp only [go_sem, reduceCtorEq, reduceIte, Nat.reduceAdd, Nat.reduceEqDiff, Nat.reduceLeDiff, Nat.reduceMul, *] <;> rfl) (by simp [tau]) (by simp) | exact .same (by simp only [go_sem, reduceCtorEq, reduceIte, Nat.reduceAdd, Nat.reduceEqDiff, Nat.reduceLeDiff, Nat.reduceMul, *] <;> rfl) (by first | rfl | simp [VV.cloL, VV.clo, *]))
  rintro μ s H n ⟨i, hi, rfl, rfl, rfl, rfl⟩
  rcases Nat.lt_or_ge i l.length with hlt | hge
  · have g1 := lt_dec hlt
    have g2 : (0 : Int) ≤ (i : Int) := by omega
    have g3 : (i : Int) < (l.length : Int) := by omega
    have g5 : IntKind.i64.wrap ((i : Int) + 1) = ((i + 1 : Nat) : Int) := by rw [wrap_id] <;> omega
    have g4 : (l.map Cell.enc).getD i [] = (l[i]).enc := getD_map hlt
    have h := c207 l[i] (ht _ (List.getElem_mem hlt))
    generalize l[i] = c at *
    repeat' (first
      | simp only [go_sem, reduceCtorEq, reduceIte, Nat.reduceAdd, Nat.reduceEqDiff, Nat.reduceLeDiff, Nat.reduceMul, Cell.encLen, Cell.encTake, *]
      | refine gdO_bool' _ (fun _ => ?_) (fun _ => ?_)
      | refine gdO_bool _ (fun _ => ?_) (fun _ => ?_)
      | refine gdD_bool' _ (fun _ => ?_) (fun _ => ?_)
      | refine gdD_bool _ (fun _ => ?_) (fun _ => ?_)
      | refine cdO_bool' _ (fun _ => ?_) (fun _ => ?_)
      | refine cdO_bool _ (fun _ => ?_) (fun _ => ?_)
      | refine callO.pure (by first | exact h) ?_
      | refine callW.pure (by first | exact h) ?_
      | refine ⟨by decide, ?_⟩
      | refine ppost_t (by simp) rfl ?_)
    refine roundV_of hH hn [] [(0, _), (1, _), (5, _)] [] _ ⟨i + 1, hlt, rfl, rfl, rfl, rfl⟩ (by omega) (by simp) (by simp [hm]) ?_ HConv.nil
    repeat' (first | exact List.forall_mem_nil _ | refine List.forall_mem_cons.2 ⟨?_, ?_⟩ | exact .toPt (by simp only [go_sem, reduceCtorEq, reduceIte, Nat.reduceAdd, Nat.reduceEqDiff, Nat.reduceLeDiff, Nat.reduceMul, *] <;> rfl) (by simp [tau]) (by simp) | exact .toRf (by simp only [go_sem, reduceCtorEq, reduceIte, Nat.reduceAdd, Nat.reduceEqDiff, Nat.reduceLeDiff, Nat.reduceMul, *] <;> rfl) (by simp [tau]) (by simp) | exact .same (by simp only [go_sem, reduceCtorEq, reduceIte, Nat.reduceAdd, Nat.reduceEqDiff, Nat.reduceLeDiff, Nat.reduceMul, *] <;> rfl) (by first | rfl | simp [VV.cloL, VV.clo, *]))
  · have g1 := ge_dec hge
    repeat' (first
      | simp only [go_sem, reduceCtorEq, reduceIte, Nat.reduceAdd, Nat.reduceEqDiff, Nat.reduceLeDiff, Nat.reduceMul, *]
      | refine gdO_bool' _ (fun _ => ?_) (fun _ => ?_)
      | refine gdO_bool _ (fun _ => ?_) (fun _ => ?_)
      | refine gdD_bool' _ (fun _ => ?_) (fun _ => ?_)
      | refine gdD_bool _ (fun _ => ?_) (fun _ => ?_)
      | refine cdO_bool' _ (fun _ => ?_) (fun _ => ?_)
      | refine cdO_bool _ (fun _ => ?_) (fun _ => ?_)
      | refine ⟨by decide, ?_⟩
      | refine ppost_t (by simp) rfl ?_)
theorem c168 (t : Table) (hs : t.cells.length < 4611686018427387904) (ht : ∀ c ∈ t.cells, c.text.length < 4611686018427387904) : PureC prog 168 [.agg t.enc, .agg t.enc] (.sc (.bool true)) := by
  have h := c192 t.cells hs ht
  unfold Table.enc encC at *
  clear ht
  refine pureC_of k168 (by first | rfl | simp [VV.cloL, VV.clo, *]) (by first | rfl | simp [VV.cloL, VV.clo, *]) (by simp) ?_
  intro X hP hm hH hn hX
  refine vwp_ok _ ?_
  unfold vc168
  repeat' (first
    | simp only [go_sem, reduceCtorEq, reduceIte, Nat.reduceAdd, Nat.reduceEqDiff, Nat.reduceLeDiff, Nat.reduceMul, beq_self_eq_true, *]
    | refine gdO_bool' _ (fun _ => ?_) (fun _ => ?_)
    | refine gdO_bool _ (fun _ => ?_) (fun _ => ?_)
    | refine gdD_bool' _ (fun _ => ?_) (fun _ => ?_)
    | refine gdD_bool _ (fun _ => ?_) (fun _ => ?_)
    | refine cdO_bool' _ (fun _ => ?_) (fun _ => ?_)
    | refine cdO_bool _ (fun _ => ?_) (fun _ => ?_)
    | refine callO.pure (by first | exact h) ?_
    | refine callW.pure (by first | exact h) ?_
    | refine ⟨by decide, ?_⟩
    | refine ppost_t (by simp) rfl ?_)
theorem c132 (b : Block) (hs : b.text.length < 4611686018427387904 ∧ b.table.cells.length < 4611686018427387904 ∧ ∀ c ∈ b.table.cells, c.text.length < 4611686018427387904) : PureC prog 132 [.agg b.enc, .agg b.enc] (.sc (.bool true)) := by
  have h := c167 b.text hs.1
  have h' := c168 b.table hs.2.1 hs.2.2
  unfold Block.enc encT encC
  unfold encT at h
  unfold Table.enc encC at h'
  clear hs
  refine pureC_of k132 (by first | rfl | simp [VV.cloL, VV.clo, *]) (by first | rfl | simp [VV.cloL, VV.clo, *]) (by simp) ?_
  intro X hP hm hH hn hX
  refine vwp_ok _ ?_
  unfold vc132
  repeat' (first
    | simp only [go_sem, reduceCtorEq, reduceIte, Nat.reduceAdd, Nat.reduceEqDiff, Nat.reduceLeDiff, Nat.reduceMul, beq_self_eq_true, *]
    | refine gdO_bool' _ (fun _ => ?_) (fun _ => ?_)
    | refine gdO_bool _ (fun _ => ?_) (fun _ => ?_)
    | refine gdD_bool' _ (fun _ => ?_) (fun _ => ?_)
    | refine gdD_bool _ (fun _ => ?_) (fun _ => ?_)
    | refine cdO_bool' _ (fun _ => ?_) (fun _ => ?_)
    | refine cdO_bool _ (fun _ => ?_) (fun _ => ?_)
    | refine callO.pure (by first | exact h | exact h') ?_
    | refine callW.pure (by first | exact h | exact h') ?_
    | refine ⟨by decide, ?_⟩
    | refine ppost_t (by simp) rfl ?_)
theorem c89 (l : Doc) (hs : l.length < 4611686018427387904) (ht : ∀ b ∈ l, b.text.length < 4611686018427387904 ∧ b.table.cells.length < 4611686018427387904 ∧ ∀ c ∈ b.table.cells, c.text.length < 4611686018427387904) : PureC prog 89 [encB l, encB l] (.sc (.bool true)) := by
  unfold encB
  refine pureC_of k89 (by first | rfl | simp [VV.cloL, VV.clo, *]) (by first | rfl | simp [VV.cloL, VV.clo, *]) (by simp) ?_
  intro X hP hm hH hn hX
  refine vwp_ok _ ?_
  unfold vc89
  repeat' (first
    | simp only [go_sem, reduceCtorEq, reduceIte, Nat.reduceAdd, Nat.reduceEqDiff, Nat.reduceLeDiff, Nat.reduceMul, beq_self_eq_true, *]
    | refine gdO_bool' _ (fun _ => ?_) (fun _ => ?_)
    | refine gdO_bool _ (fun _ => ?_) (fun _ => ?_)
    | refine gdD_bool' _ (fun _ => ?_) (fun _ => ?_)
    | refine gdD_bool _ (fun _ => ?_) (fun _ => ?_)
    | refine cdO_bool' _ (fun _ => ?_) (fun _ => ?_)
    | refine cdO_bool _ (fun _ => ?_) (fun _ => ?_)
    | refine ⟨by decide, ?_⟩
    | refine ppost_t (by simp) rfl ?_)
  refine loopV hX (fun μ s H n => ∃ i : Nat, i ≤ l.length ∧ μ = l.length - i ∧ s = slotsOf [(0, .sl 6 (l.map Block.enc)), (1, .sl 6 (l.map Block.enc)), (5, .sc (.int .i64 i))] ∧ H = H0 ∧ n = 0) ?_
    ⟨l.length + 1, roundV_of hH hn [] [(0, _), (1, _), (5, _)] [] _ ⟨0, by simp, rfl, rfl, rfl, rfl⟩ (by simp) (by simp) (by simp [hm]) ?_ HConv.nil⟩
  rotate_left
  · repeat' (first | exact List.forall_mem_nil _ | refine List.forall_mem_cons.2 ⟨?_, ?_⟩ | exact .toPt (by simp only [go_sem, reduceCtorEq, reduceIte, Nat.reduceAdd, Nat.reduceEqDiff, Nat.reduceLeDiff, Nat.reduceMul, *] <;> rfl) (by simp [tau]) (by simp) | exact .toRf (by simp only [go_sem, reduceCtorEq, reduceIte, Nat.reduceAdd, Nat.reduceEqDiff, Nat.reduceLeDiff, Nat.reduceMul, *] <;> rfl) (by simp [tau]) (by simp) | exact .same (by simp only [go_sem, reduceCtorEq, reduceIte, Nat.reduceAdd, Nat.reduceEqDiff, Nat.reduceLeDiff, Nat.reduceMul, *] <;> rfl) (by first | rfl | simp [VV.cloL, VV.clo, *]))
  rintro μ s H n ⟨i, hi, rfl, rfl, rfl, rfl⟩
  rcases Nat.lt_or_ge i l.length with hlt | hge
  · have g1 := lt_dec hlt
    have g2 : (0 : Int) ≤ (i : Int) := by omega
    have g3 : (i : Int) < (l.length : Int) := by omega
    have g5 : IntKind.i64.wrap ((i : Int) + 1) = ((i + 1 : Nat) : Int) := by rw [wrap_id] <;> omega
    have g4 : (l.map Block.enc).getD i [] = (l[i]).enc := getD_map hlt
    have h := c132 l[i] (ht _ (List.getElem_mem hlt))
    generalize l[i] = c at *
    repeat' (first
      | simp only [go_sem, reduceCtorEq, reduceIte, Nat.reduceAdd, Nat.reduceEqDiff, Nat.reduceLeDiff, Nat.reduceMul, Block.encLen, Block.encTake, *]
      | refine gdO_bool' _ (fun _ => ?_) (fun _ => ?_)
      | refine gdO_bool _ (fun _ => ?_) (fun _ => ?_)
      | refine gdD_bool' _ (fun _ => ?_) (fun _ => ?_)
      | refine gdD_bool _ (fun _ => ?_) (fun _ => ?_)
      | refine cdO_bool' _ (fun _ => ?_) (fun _ => ?_)
      | refine cdO_bool _ (fun _ => ?_) (fun _ => ?_)
      | refine callO.pure (by first | exact h) ?_
      | refine callW.pure (by first | exact h) ?_
      | refine ⟨by decide, ?_⟩
      | refine ppost_t (by simp) rfl ?_)
    refine roundV_of hH hn [] [(0, _), (1, _), (5, _)] [] _ ⟨i + 1, hlt, rfl, rfl, rfl, rfl⟩ (by omega) (by simp) (by simp [hm]) ?_ HConv.nil
    repeat' (first | exact List.forall_mem_nil _ | refine List.forall_mem_cons.2 ⟨?_, ?_⟩ | exact .toPt (by simp only [go_sem, reduceCtorEq, reduceIte, Nat.reduceAdd, Nat.reduceEqDiff, Nat.reduceLeDiff, Nat.reduceMul, *] <;> rfl) (by simp [tau]) (by simp) | exact .toRf (by simp only [go_sem, reduceCtorEq, reduceIte, Nat.reduceAdd, Nat.reduceEqDiff, Nat.reduceLeDiff, Nat.reduceMul, *] <;> rfl) (by simp [tau]) (by simp) | exact .same (by simp only [go_sem, reduceCtorEq, reduceIte, Nat.reduceAdd, Nat.reduceEqDiff, Nat.reduceLeDiff, Nat.reduceMul, *] <;> rfl) (by first | rfl | simp [VV.cloL, VV.clo, *]))
  · have g1 := ge_dec hge
    repeat' (first
      | simp only [go_sem, reduceCtorEq, reduceIte, Nat.reduceAdd, Nat.reduceEqDiff, Nat.reduceLeDiff, Nat.reduceMul, *]
      | refine gdO_bool' _ (fun _ => ?_) (fun _ => ?_)
      | refine gdO_bool _ (fun _ => ?_) (fun _ => ?_)
      | refine gdD_bool' _ (fun _ => ?_) (fun _ => ?_)
      | refine gdD_bool _ (fun _ => ?_) (fun _ => ?_)
      | refine cdO_bool' _ (fun _ => ?_) (fun _ => ?_)
      | refine cdO_bool _ (fun _ => ?_) (fun _ => ?_)
      | refine ⟨by decide, ?_⟩
      | refine ppost_t (by simp) rfl ?_)
theorem c37 (d : Doc) (hs : d.length < 4611686018427387904) (ht : ∀ b ∈ d, b.text.length < 4611686018427387904 ∧ b.table.cells.length < 4611686018427387904 ∧ ∀ c ∈ b.table.cells, c.text.length < 4611686018427387904) : PureC prog 37 [.agg [encB d], .agg [encB d]] (.sc (.bool true)) := by
  have h := c89 d hs ht
  unfold encB at *
  clear ht
  refine pureC_of k37 (by first | rfl | simp [VV.cloL, VV.clo, *]) (by first | rfl | simp [VV.cloL, VV.clo, *]) (by simp) ?_
  intro X hP hm hH hn hX
  refine vwp_ok _ ?_
  unfold vc37
  repeat' (first
    | simp only [go_sem, reduceCtorEq, reduceIte, Nat.reduceAdd, Nat.reduceEqDiff, Nat.reduceLeDiff, Nat.reduceMul, *]
    | refine gdO_bool' _ (fun _ => ?_) (fun _ => ?_)
    | refine gdO_bool _ (fun _ => ?_) (fun _ => ?_)
    | refine gdD_bool' _ (fun _ => ?_) (fun _ => ?_)
    | refine gdD_bool _ (fun _ => ?_) (fun _ => ?_)
    | refine cdO_bool' _ (fun _ => ?_) (fun _ => ?_)
    | refine cdO_bool _ (fun _ => ?_) (fun _ => ?_)
    | refine callO.pure (by first | exact h) ?_
    | refine callW.pure (by first | exact h) ?_
    | refine ⟨by decide, ?_⟩
    | refine ppost_t (by simp) rfl ?_)
end Go.Proofs.Ytdmmhainianadaa

/- L1: both say the same of tables. -/
namespace Go.Lim
theorem sum_add {f g : Nat → Nat} : ∀ (n : Nat), ((List.range n).map fun i => f i + g i).sum = ((List.range n).map f).sum + ((List.range n).map g).sum
  | 0 => rfl
  | n + 1 => by simp only [List.range_succ, List.map_append, List.sum_append, List.map_cons, List.map_nil, List.sum_cons, List.sum_nil, sum_add n]; omega
theorem sum_zero : ∀ (n : Nat), ((List.range n).map fun _ => 0).sum = 0
  | 0 => rfl
  | n + 1 => by simp only [List.range_succ, List.map_append, List.sum_append, List.map_cons, List.map_nil, List.sum_cons, List.sum_nil, sum_zero n, Nat.add_zero]
theorem sum_congr {f g : Nat → Nat} {n : Nat} (h : ∀ i, i < n → f i = g i) : ((List.range n).map f).sum = ((List.range n).map g).sum := by
  congr 1
  exact List.map_congr_left fun i hi => h i (List.mem_range.1 hi)
/-- How many of 0..R-1 lie in a row of k from a. -/
theorem sum_ivl (a k v : Nat) : ∀ (R : Nat), ((List.range R).map fun i => if a ≤ i ∧ i < a + k then v else 0).sum = (min R (a + k) - min R a) * v
  | 0 => by simp
  | R + 1 => by
    simp only [List.range_succ, List.map_append, List.sum_append, List.map_cons, List.map_nil, List.sum_cons, List.sum_nil, sum_ivl a k v R]
    by_cases h : a ≤ R ∧ R < a + k
    · rw [if_pos h, show min (R + 1) (a + k) - min (R + 1) a = (min R (a + k) - min R a) + 1 by omega, Nat.add_mul]; omega
    · rw [if_neg h, show min (R + 1) (a + k) - min (R + 1) a = min R (a + k) - min R a by omega]; omega
def sq (R C : Nat) (f : Nat → Nat → Nat) : Nat := ((List.range R).map fun r => ((List.range C).map fun c => f r c).sum).sum
theorem sq_add {R C : Nat} {f g : Nat → Nat → Nat} : sq R C (fun r c => f r c + g r c) = sq R C f + sq R C g := by
  unfold sq
  rw [← sum_add]
  exact sum_congr fun r _ => sum_add C
theorem sum_le {f g : Nat → Nat} : ∀ (n : Nat), (∀ i, i < n → f i ≤ g i) → ((List.range n).map f).sum ≤ ((List.range n).map g).sum
  | 0, _ => by simp
  | n + 1, h => by
    simp only [List.range_succ, List.map_append, List.sum_append, List.map_cons, List.map_nil, List.sum_cons, List.sum_nil]
    have h1 := sum_le n fun i hi => h i (by omega)
    have h2 := h n (by omega)
    omega
theorem sum_lt {f g : Nat → Nat} : ∀ (n : Nat), (∀ i, i < n → f i ≤ g i) → (∃ i, i < n ∧ f i < g i) → ((List.range n).map f).sum < ((List.range n).map g).sum
  | 0, _, ⟨i, hi, _⟩ => by omega
  | n + 1, h, ⟨i, hi, hlt⟩ => by
    simp only [List.range_succ, List.map_append, List.sum_append, List.map_cons, List.map_nil, List.sum_cons, List.sum_nil]
    have h2 := h n (by omega)
    by_cases e : i = n
    · subst e
      have h1 := sum_le i fun j hj => h j (by omega)
      omega
    · have h1 := sum_lt n (fun j hj => h j (by omega)) ⟨i, by omega, hlt⟩
      omega
theorem sum_const (v : Nat) : ∀ (n : Nat), ((List.range n).map fun _ => v).sum = n * v
  | 0 => by simp
  | n + 1 => by simp only [List.range_succ, List.map_append, List.sum_append, List.map_cons, List.map_nil, List.sum_cons, List.sum_nil, sum_const v n, Nat.add_mul]; omega
theorem sq_one (R C : Nat) : sq R C (fun _ _ => 1) = R * C := by
  unfold sq
  simp only [sum_const, Nat.mul_one]
theorem sq_congr {R C : Nat} {f g : Nat → Nat → Nat} (h : ∀ r c, r < R → c < C → f r c = g r c) : sq R C f = sq R C g :=
  sum_congr fun r hr => sum_congr fun c hc => h r c hr hc
/-- Ones, where no less and as many in all. -/
theorem sq_ones {R C : Nat} {f : Nat → Nat → Nat} (h : ∀ r c, r < R → c < C → 1 ≤ f r c) (hs : sq R C f = R * C) : ∀ r c, r < R → c < C → f r c = 1 := by
  intro r c hr hc
  have h1 := h r c hr hc
  by_cases e : f r c = 1
  · exact e
  · exfalso
    have : sq R C (fun _ _ => 1) < sq R C f := sum_lt R (fun i hi => sum_le C fun j hj => h i j hi hj) ⟨r, hr, sum_lt C (fun j hj => h r j hr hj) ⟨c, hc, by show 1 < f r c; omega⟩⟩
    rw [sq_one, hs] at this
    omega
def inB (R C : Nat) (c : Cell) : Prop := 0 ≤ c.row ∧ c.row < R ∧ 0 ≤ c.col ∧ c.col < C ∧ 1 ≤ c.down ∧ c.row + c.down ≤ R ∧ 1 ≤ c.right ∧ c.col + c.right ≤ C
theorem has_in {R C : Nat} (hR : R ≤ 5) (hC : C ≤ 5) {c : Cell} (h : inB R C c) (r k : Nat) :
    has c r k = decide ((c.row.toNat ≤ r ∧ r < c.row.toNat + c.down.toNat) ∧ (c.col.toNat ≤ k ∧ k < c.col.toNat + c.right.toNat)) := by
  obtain ⟨h1, h2, h3, h4, h5, h6, h7, h8⟩ := h
  unfold has
  rw [wrap_id (by omega) (by omega), wrap_id (by omega) (by omega), Bool.eq_iff_iff]
  simp only [Bool.and_eq_true, decide_eq_true_eq]
  omega
theorem sq_cell {R C : Nat} (hR : R ≤ 5) (hC : C ≤ 5) {c : Cell} (h : inB R C c) : sq R C (fun r k => if has c r k = true then 1 else 0) = c.down.toNat * c.right.toNat := by
  have e : sq R C (fun r k => if has c r k = true then 1 else 0) = ((List.range R).map fun r => if c.row.toNat ≤ r ∧ r < c.row.toNat + c.down.toNat then c.right.toNat else 0).sum := by
    refine sum_congr fun r hr => ?_
    by_cases hrow : c.row.toNat ≤ r ∧ r < c.row.toNat + c.down.toNat
    · rw [if_pos hrow]
      have e2 := sum_ivl c.col.toNat c.right.toNat 1 C
      have e3 : (min C (c.col.toNat + c.right.toNat) - min C c.col.toNat) * 1 = c.right.toNat := by
        obtain ⟨h1, h2, h3, h4, h5, h6, h7, h8⟩ := h
        omega
      rw [e3] at e2
      rw [← e2]
      refine sum_congr fun k hk => ?_
      show (if has c r k = true then 1 else 0) = _
      rw [has_in hR hC h]
      simp only [hrow, and_self, true_and, decide_eq_true_eq]
    · rw [if_neg hrow]
      refine Eq.trans (sum_congr (g := fun _ => 0) fun k hk => ?_) (sum_zero C)
      show (if has c r k = true then 1 else 0) = _
      rw [has_in hR hC h]
      simp only [hrow, false_and, decide_false, Bool.false_eq_true, if_false]
  rw [e, sum_ivl]
  obtain ⟨h1, h2, h3, h4, h5, h6, h7, h8⟩ := h
  rw [show min R (c.row.toNat + c.down.toNat) - min R c.row.toNat = c.down.toNat by omega]
theorem sq_cnt {R C : Nat} (hR : R ≤ 5) (hC : C ≤ 5) : ∀ (l : List Cell), (∀ c ∈ l, inB R C c) → ((sq R C fun r k => cnt l r k : Nat) : Int) = area l ∧ (l.length : Int) ≤ area l
  | [], _ => by
    have : sq R C (fun r k => cnt [] r k) = 0 := by
      unfold sq
      rw [← sum_zero R]
      exact sum_congr fun r _ => sum_zero C
    rw [this]
    exact ⟨rfl, by simp [area]⟩
  | c :: l, h => by
    obtain ⟨ih1, ih2⟩ := sq_cnt hR hC l fun d hd => h d (by simp [hd])
    have hc := h c (by simp)
    have e : sq R C (fun r k => cnt (c :: l) r k) = sq R C (fun r k => (if has c r k = true then 1 else 0) + cnt l r k) := by
      refine sq_congr fun r k _ _ => ?_
      unfold cnt
      rw [List.filter_cons]
      by_cases hp : has c r k = true
      · simp only [hp, if_true, List.length_cons]; omega
      · simp only [hp, if_false, Bool.false_eq_true]; omega
    have ea : area (c :: l) = c.down * c.right + area l := by simp [area]
    have hm : ((c.down.toNat * c.right.toNat : Nat) : Int) = c.down * c.right := by
      obtain ⟨_, _, _, _, h5, _, h7, _⟩ := hc
      rw [Int.natCast_mul, Int.toNat_of_nonneg (by omega), Int.toNat_of_nonneg (by omega)]
    have h1 : 1 ≤ c.down * c.right := by
      obtain ⟨h1, h2, h3, h4, h5, h6, h7, h8⟩ := hc
      exact (mul_bound (by omega) (by omega) (by omega) (by omega)).1
    rw [e, sq_add, sq_cell hR hC hc, ea, List.length_cons]
    constructor
    · push_cast at ih1 hm ⊢
      omega
    · push_cast
      omega
theorem cellW_inB {t : Table} {c : Cell} (hR : within t.rows 1 5 = true) (hC : within t.cols 1 5 = true) (h : cellW t c = true) : inB t.rows.toNat t.cols.toNat c := by
  have := cellW_bounds hR hC h
  obtain ⟨h1, _, _⟩ := within_nat hR
  obtain ⟨h2, _, _⟩ := within_nat hC
  unfold inB
  omega
theorem cnt_pos (l : List Cell) (r k : Int) : (decide (idxOf (fun x => has x r k) l < 0) = false) ↔ 1 ≤ cnt l r k := by
  unfold idxOf cnt
  cases h : l.any fun x => has x r k with
  | true =>
    simp only [if_true]
    obtain ⟨x, hx, hp⟩ := List.any_eq_true.1 h
    constructor
    · intro _
      exact List.length_pos_of_mem (List.mem_filter.2 ⟨hx, hp⟩)
    · intro _; simp
  | false =>
    simp only [Bool.false_eq_true, if_false]
    have : (l.filter fun c => has c r k) = [] := by
      rw [List.filter_eq_nil_iff]
      intro x hx
      have := (List.any_eq_false.1 h) x hx
      simpa using this
    rw [this]
    simp
theorem all_cellW {t : Table} (h : (List.range t.cells.length).all (okAt t) = true) : ∀ c ∈ t.cells, cellW t c = true := by
  intro c hc
  obtain ⟨i, hi, rfl⟩ := List.getElem_of_mem hc
  have := List.all_eq_true.1 h i (List.mem_range.2 hi)
  simp only [okAt, getD_eq hi, Bool.and_eq_true] at this
  exact this.1
theorem tableOk_eq (t : Table) : tableOkI t = tableOk t := by
  cases hR : within t.rows 1 5 with
  | false => simp only [tableOkI, tableOk, form, hR, Bool.false_and]
  | true =>
  cases hC : within t.cols 1 5 with
  | false => simp only [tableOkI, tableOk, form, hR, hC, Bool.false_and, Bool.and_false]
  | true =>
  cases hA : (List.range t.cells.length).all (okAt t) with
  | false => simp only [tableOkI, tableOk, form, hA, Bool.false_and, Bool.and_false]
  | true =>
    obtain ⟨e1, _, hR5⟩ := within_nat hR
    obtain ⟨e2, _, hC5⟩ := within_nat hC
    have hin : ∀ c ∈ t.cells, inB t.rows.toNat t.cols.toNat c := fun c hc => cellW_inB hR hC (all_cellW hA c hc)
    obtain ⟨hs, hl⟩ := sq_cnt hR5 hC5 t.cells hin
    have hmul : ((t.rows.toNat * t.cols.toNat : Nat) : Int) = t.rows * t.cols := by rw [Int.natCast_mul, ← e1, ← e2]
    rw [Bool.eq_iff_iff]
    simp only [tableOkI, tableOk, form, hR, hC, hA, Bool.true_and, Bool.and_true, Bool.and_eq_true, decide_eq_true_eq, List.all_eq_true, List.mem_range, beq_iff_eq, seenRow, rowOk, seenSq, sqOk, Bool.not_eq_true']
    constructor
    · rintro ⟨h1, h2⟩
      have hone := sq_ones (f := fun r k => cnt t.cells r k) (fun r k hr hk => (cnt_pos t.cells r k).1 (h1 r hr k hk)) (by omega)
      refine ⟨?_, fun r hr k hk => hone r k hr hk⟩
      have : t.rows.toNat * t.cols.toNat ≤ 5 * 5 := Nat.mul_le_mul hR5 hC5
      omega
    · rintro ⟨_, h2⟩
      have : sq t.rows.toNat t.cols.toNat (fun r k => cnt t.cells r k) = t.rows.toNat * t.cols.toNat := by
        rw [← sq_one]
        exact sq_congr fun r k hr hk => h2 r hr k hk
      exact ⟨fun r hr k hk => (cnt_pos t.cells r k).2 (by rw [h2 r hr k hk]; exact Nat.le_refl _), by omega⟩
end Go.Lim

/- L2: both say the same of documents and places. -/
namespace Go.Lim
theorem blockOk_eq (b : Block) : blockOk tableOkI b = blockOk tableOk b := by
  unfold blockOk
  rw [tableOk_eq]
theorem blockOk_lvl {b : Block} (h : blockOk tableOk b = true) : 0 ≤ b.level ∧ b.level ≤ 3 ∧ ((b.kind == 2) = false → b.level = 0) := by
  unfold blockOk at h
  split at h
  · simp only [Bool.and_eq_true, beq_iff_eq] at h
    exact ⟨by omega, by omega, fun _ => h.1.1⟩
  · split at h
    · rename_i h2
      simp only [Bool.and_eq_true, within, decide_eq_true_eq] at h
      exact ⟨h.1.1.1, h.1.1.2, fun e => by rw [h2] at e; exact absurd e (by simp)⟩
    · split at h
      · simp only [Bool.and_eq_true, beq_iff_eq] at h
        exact ⟨by omega, by omega, fun _ => h.1.1⟩
      · simp at h
theorem docAt_eq {d : Doc} {i : Nat} (hp : i = 0 ∨ blockOk tableOk (d.getD (i - 1) noBlock) = true) : docAtI d i = docAt d i := by
  unfold docAtI docAt
  rw [blockOk_eq]
  cases hb : blockOk tableOk (d.getD i noBlock) with
  | false => rfl
  | true =>
    obtain ⟨h1, h2, h3⟩ := blockOk_lvl hb
    simp only [Bool.true_and]
    have hm : mostAt d i = IntKind.i64.wrap (aheadAt d i + 1) ∧ 0 ≤ mostAt d i := by
      unfold mostAt aheadAt
      by_cases h0 : (i == 0) = true
      · simp only [h0, if_true]; exact ⟨rfl, by decide⟩
      · simp only [h0, Bool.false_eq_true, if_false]
        by_cases hk : ((d.getD (i - 1) noBlock).kind == 2) = true
        · simp only [hk, if_true, true_and]
          have hp := hp.resolve_left (by simpa using h0)
          obtain ⟨g1, g2, _⟩ := blockOk_lvl hp
          rw [wrap_id (by omega) (by omega)]
          omega
        · simp only [hk, Bool.false_eq_true, if_false]; exact ⟨rfl, by decide⟩
    rw [← hm.1]
    cases hk : (d.getD i noBlock).kind == 2 with
    | true => simp
    | false =>
      have := h3 hk
      simp only [Bool.false_and, Bool.not_false, Bool.not_eq_true', decide_eq_false_iff_not]
      omega
theorem docOk_eq (d : Doc) : docOkI d = docOk d := by
  unfold docOkI docOk
  rw [Bool.and_comm]
  congr 1
  rw [Bool.eq_iff_iff]
  simp only [List.all_eq_true, List.mem_range]
  constructor
  · intro h i hi
    rw [← docAt_eq]
    · exact h i hi
    · by_cases h0 : i = 0
      · exact .inl h0
      · right
        have := h (i - 1) (by omega)
        simp only [docAtI, Bool.and_eq_true, blockOk_eq] at this
        exact this.1
  · intro h i hi
    rw [docAt_eq]
    · exact h i hi
    · by_cases h0 : i = 0
      · exact .inl h0
      · right
        have := h (i - 1) (by omega)
        simp only [docAt, Bool.and_eq_true] at this
        exact this.1
theorem docOk_fun : docOkI = docOk := funext docOk_eq
end Go.Lim

/- G: arguments that fit the documents' shapes are documents. -/
namespace Go.Lim
open Go.VM
theorem rows_list {α : Type} {enc : α → List VV} {Q : α → Prop} : ∀ {rows : List (List VV)}, (∀ r ∈ rows, ∃ x, r = enc x ∧ Q x) → ∃ l : List α, rows = l.map enc ∧ ∀ x ∈ l, Q x
  | [], _ => ⟨[], rfl, fun x h => by simp at h⟩
  | r :: rows, h => by
    obtain ⟨x, rfl, hx⟩ := h r (by simp)
    obtain ⟨l, rfl, hl⟩ := rows_list (rows := rows) fun q hq => h q (by simp [hq])
    exact ⟨x :: l, rfl, fun y hy => (List.mem_cons.1 hy).elim (fun e => e ▸ hx) (hl y)⟩
def shSign : Sh := .st [.int .u8, .int .i64, .int .i64]
def shCell : Sh := .st [.int .i64, .int .i64, .int .i64, .int .i64, .sl 3 shSign]
def shTable : Sh := .st [.int .i64, .int .i64, .sl 5 shCell]
def shBlock : Sh := .st [.int .i64, .int .i64, .sl 3 shSign, shTable]
def shDoc : Sh := .st [.sl 6 shBlock]
def shSpot : Sh := .st [.int .i64, .int .i64, .int .i64]
def int64 (n : Int) : Prop := -9223372036854775808 ≤ n ∧ n < 9223372036854775808
theorem wf_i64 {n : Int} (h : (Lit.int .i64 n).wf = true) : int64 n := by
  have h : IntKind.i64.min ≤ n ∧ n ≤ 9223372036854775807 := by simpa [Lit.wf] using h
  have e : IntKind.i64.min = -9223372036854775808 := by decide
  unfold int64
  omega
theorem fits_int {k : IntKind} {xs : List VV} (h : Fits (.int k) xs) : ∃ n, xs = [.sc (.int k n)] ∧ (Lit.int k n).wf = true := by simpa only [Fits] using h
theorem fits_sl {z : Nat} {e : Sh} {xs : List VV} (h : Fits (.sl z e) xs) : ∃ rows : List (List VV), xs = [.sl z rows] ∧ rows.length ≤ maxLen ∧ ∀ r ∈ rows, r.length = z ∧ Fits e r := by simpa only [Fits] using h
theorem fits_sign {xs : List VV} (h : Fits shSign xs) : ∃ x : Sign, xs = x.enc := by
  simp only [shSign, Fits, FitsL] at h
  obtain ⟨_, _, rfl, ⟨a, rfl, _⟩, _, _, rfl, ⟨b, rfl, _⟩, _, _, rfl, ⟨c, rfl, _⟩, rfl⟩ := h
  exact ⟨⟨a, b, c⟩, rfl⟩
theorem fits_text {xs : List VV} (h : Fits (.sl 3 shSign) xs) : ∃ l : Text, xs = [encT l] ∧ l.length < 9223372036854775808 := by
  obtain ⟨rows, rfl, hl, hr⟩ := fits_sl h
  obtain ⟨l, rfl, _⟩ := rows_list (enc := Sign.enc) (Q := fun _ => True) fun r hr' => (fits_sign (hr r hr').2).imp fun x hx => ⟨hx, trivial⟩
  refine ⟨l, rfl, ?_⟩
  simp only [List.length_map, maxLen] at hl
  omega
theorem fits_cell {xs : List VV} (h : Fits shCell xs) : ∃ x : Cell, xs = x.enc ∧ x.text.length < 9223372036854775808 := by
  simp only [shCell, Fits, FitsL] at h
  obtain ⟨_, _, rfl, ⟨a, rfl, _⟩, _, _, rfl, ⟨b, rfl, _⟩, _, _, rfl, ⟨c, rfl, _⟩, _, _, rfl, ⟨d, rfl, _⟩, ys, _, rfl, ht, rfl⟩ := h
  obtain ⟨l, rfl, hl⟩ := fits_text (xs := ys) (by simpa only [Fits] using ht)
  exact ⟨⟨a, b, c, d, l⟩, rfl, hl⟩
theorem fits_cells {xs : List VV} (h : Fits (.sl 5 shCell) xs) : ∃ l : List Cell, xs = [encC l] ∧ l.length < 9223372036854775808 ∧ ∀ c ∈ l, c.text.length < 9223372036854775808 := by
  obtain ⟨rows, rfl, hl, hr⟩ := fits_sl h
  obtain ⟨l, rfl, hq⟩ := rows_list (enc := Cell.enc) (Q := fun c => c.text.length < 9223372036854775808) fun r hr' => fits_cell (hr r hr').2
  refine ⟨l, rfl, ?_, hq⟩
  simp only [List.length_map, maxLen] at hl
  omega
theorem fits_block {xs : List VV} (h : Fits shBlock xs) : ∃ x : Block, xs = x.enc ∧ x.text.length < 9223372036854775808 ∧ x.table.cells.length < 9223372036854775808 ∧ ∀ c ∈ x.table.cells, c.text.length < 9223372036854775808 := by
  simp only [shBlock, shTable, Fits, FitsL] at h
  obtain ⟨_, _, rfl, ⟨a, rfl, _⟩, _, _, rfl, ⟨b, rfl, _⟩, ys, _, rfl, ht, _, _, rfl, ⟨_, _, rfl, ⟨c, rfl, _⟩, _, _, rfl, ⟨d, rfl, _⟩, zs, _, rfl, hc, rfl⟩, rfl⟩ := h
  obtain ⟨l, rfl, hl⟩ := fits_text (xs := ys) (by simpa only [Fits] using ht)
  obtain ⟨cs, rfl, h1, h2⟩ := fits_cells (xs := zs) (by simpa only [Fits] using hc)
  exact ⟨⟨a, b, l, ⟨c, d, cs⟩⟩, rfl, hl, h1, h2⟩
def docLen (d : Doc) : Prop := d.length < 9223372036854775808 ∧ ∀ b ∈ d, b.text.length < 9223372036854775808 ∧ b.table.cells.length < 9223372036854775808 ∧ ∀ c ∈ b.table.cells, c.text.length < 9223372036854775808
theorem fits_doc {xs : List VV} (h : Fits shDoc xs) : ∃ d : Doc, xs = [encB d] ∧ docLen d := by
  simp only [shDoc, Fits, FitsL] at h
  obtain ⟨ys, _, rfl, hr, rfl⟩ := h
  obtain ⟨rows, rfl, hl, hr⟩ := fits_sl (xs := ys) (by simpa only [Fits] using hr)
  obtain ⟨d, rfl, hq⟩ := rows_list (enc := Block.enc) (Q := fun x => x.text.length < 9223372036854775808 ∧ x.table.cells.length < 9223372036854775808 ∧ ∀ c ∈ x.table.cells, c.text.length < 9223372036854775808) fun r hr' => fits_block (hr r hr').2
  refine ⟨d, rfl, ?_, hq⟩
  simp only [List.length_map, maxLen] at hl
  omega
theorem fits_spot {xs : List VV} (h : Fits shSpot xs) : ∃ p : Spot, xs = p.enc ∧ int64 p.block ∧ int64 p.cell ∧ int64 p.pos := by
  simp only [shSpot, Fits, FitsL] at h
  obtain ⟨_, _, rfl, ⟨a, rfl, h1⟩, _, _, rfl, ⟨b, rfl, h2⟩, _, _, rfl, ⟨c, rfl, h3⟩, rfl⟩ := h
  exact ⟨⟨a, b, c⟩, rfl, wf_i64 h1, wf_i64 h2, wf_i64 h3⟩
def encBy (l : List Int) : VV := .sl 1 (l.map fun b => [.sc (.int .u8 b)])
theorem fits_bytes {xs : List VV} (h : Fits (.sl 1 (.int .u8)) xs) : ∃ l : List Int, xs = [encBy l] ∧ l.length < 9223372036854775808 ∧ ∀ b ∈ l, (Lit.int .u8 b).wf = true := by
  obtain ⟨rows, rfl, hl, hr⟩ := fits_sl h
  obtain ⟨l, rfl, hq⟩ := rows_list (enc := fun b => [VV.sc (.int .u8 b)]) (Q := fun b => (Lit.int .u8 b).wf = true) fun r hr' => fits_int (hr r hr').2
  refine ⟨l, rfl, ?_, hq⟩
  simp only [List.length_map, maxLen] at hl
  omega
end Go.Lim

/- F21: the laws on where a place is now, and was. -/
namespace Go.Proofs.Ytdmmhainianadaa
open Go.VM Go.Lim Go.Proofs.Try
attribute [local irreducible] vwp vops vstep vdr vdr1 CallP PPost SWv gdO gdD cdO optV optW optD thenV blockV behind callO callW callvO roundV
set_option linter.unusedSimpArgs false
set_option linter.unusedVariables false
/- loop.example/limner/laws.FnExactSpotNow -/
def vc3 : VCode :=
(.seq (.reg [⟨(some 2), (.box (.tmp 0)), none⟩, ⟨(some 3), (.box (.tmp 1)), none⟩, ⟨(some 4), (.mov (.const (.bool false))), none⟩])
(.seq (.reg [⟨(some 5), (.mov (.const (.int .i64 1048576))), none⟩])
(.seq (.reg [⟨(some 9), (.load true 1 (.tmp 2)), none⟩, ⟨(some 10), (.mov (.tmp 5)), none⟩, ⟨(some 11), (.call 31 [(.tmp 9), (.tmp 10)]), none⟩, ⟨(some 5), (.mov (.tmp 11)), none⟩])
(.seq (.seq (.reg [⟨(some 12), (.mov (.tmp 5)), none⟩, ⟨(some 13), (.bin .lss .no (.tmp 12) (.const (.int .i64 0))), none⟩])
(.cond (.tmp 13) (.seq (.reg [⟨(some 4), (.mov (.const (.bool true))), none⟩])
 .ret)
 .skip))
(.seq (.drw [(⟨(some 14), (.load true 1 (.tmp 2)), none⟩, []), (⟨(some 15), (.call 33 [(.tmp 14)]), none⟩, []), (⟨(some 16), (.load true 3 (.tmp 3)), none⟩, [0, 1]), (⟨(some 17), (.call 34 [(.tmp 16)]), none⟩, []), (⟨(some 18), (.call 32 [(.tmp 15), (.tmp 17)]), none⟩, []), (⟨(some 6), (.new [(.int .i64 0), (.int .i64 0), (.int .i64 0)]), none⟩, [0, 1, 2, 3, 4]), (⟨none, (.store 3 (.tmp 6) (.tmp 18)), none⟩, [])])
(.seq (.reg [⟨(some 19), (.load true 1 (.tmp 2)), none⟩, ⟨(some 20), (.call 33 [(.tmp 19)]), none⟩, ⟨(some 7), (.new [(.slice none 0 0)]), none⟩, ⟨none, (.store 1 (.tmp 7) (.tmp 20)), none⟩])
(.seq (.drw [(⟨(some 21), (.load true 1 (.tmp 7)), none⟩, []), (⟨(some 22), (.load true 3 (.tmp 3)), none⟩, [0]), (⟨(some 23), (.call 34 [(.tmp 22)]), none⟩, [0]), (⟨(some 24), (.call 35 [(.tmp 21), (.tmp 23)]), none⟩, []), (⟨(some 8), (.new [(.int .i64 0), (.int .i64 0), (.int .i64 0)]), none⟩, [0, 1, 2, 3]), (⟨none, (.store 3 (.tmp 8) (.tmp 24)), none⟩, [])])
(.seq (.seq (.reg [⟨(some 25), (.load true 3 (.tmp 8)), none⟩, ⟨(some 26), (.load true 3 (.tmp 6)), none⟩, ⟨(some 27), (.call 36 [(.tmp 25), (.tmp 26)]), none⟩, ⟨(some 28), (.un .not (.tmp 27)), none⟩])
(.cond (.tmp 28) (.seq (.reg [⟨(some 4), (.mov (.const (.bool false))), none⟩])
 .ret)
 .skip))
(.seq (.seq (.drw [(⟨(some 29), (.load true 1 (.tmp 7)), none⟩, []), (⟨(some 30), (.load true 1 (.tmp 2)), none⟩, [0]), (⟨(some 31), (.call 33 [(.tmp 30)]), none⟩, [0]), (⟨(some 32), (.call 37 [(.tmp 29), (.tmp 31)]), none⟩, []), (⟨(some 33), (.un .not (.tmp 32)), none⟩, [])])
(.cond (.tmp 33) (.seq (.reg [⟨(some 4), (.mov (.const (.bool false))), none⟩])
 .ret)
 .skip))
(.seq (.reg [⟨(some 4), (.mov (.const (.bool true))), none⟩])
.ret))))))))))
theorem k3 : compFn prog 3 = some (34, vc3, [.t 4]) := by kernel_rfl
/- loop.example/limner/laws.FnExactSpotWas -/
def vc4 : VCode :=
(.seq (.reg [⟨(some 2), (.box (.tmp 0)), none⟩, ⟨(some 3), (.box (.tmp 1)), none⟩, ⟨(some 4), (.mov (.const (.bool false))), none⟩])
(.seq (.reg [⟨(some 5), (.mov (.const (.int .i64 1048576))), none⟩])
(.seq (.reg [⟨(some 9), (.load true 1 (.tmp 2)), none⟩, ⟨(some 10), (.mov (.tmp 5)), none⟩, ⟨(some 11), (.call 31 [(.tmp 9), (.tmp 10)]), none⟩, ⟨(some 5), (.mov (.tmp 11)), none⟩])
(.seq (.seq (.reg [⟨(some 12), (.mov (.tmp 5)), none⟩, ⟨(some 13), (.bin .lss .no (.tmp 12) (.const (.int .i64 0))), none⟩])
(.cond (.tmp 13) (.seq (.reg [⟨(some 4), (.mov (.const (.bool true))), none⟩])
 .ret)
 .skip))
(.seq (.drw [(⟨(some 14), (.load true 1 (.tmp 2)), none⟩, []), (⟨(some 15), (.call 33 [(.tmp 14)]), none⟩, []), (⟨(some 16), (.load true 3 (.tmp 3)), none⟩, [0, 1]), (⟨(some 17), (.call 34 [(.tmp 16)]), none⟩, []), (⟨(some 18), (.call 38 [(.tmp 15), (.tmp 17)]), none⟩, []), (⟨(some 6), (.new [(.int .i64 0), (.int .i64 0), (.int .i64 0)]), none⟩, [0, 1, 2, 3, 4]), (⟨none, (.store 3 (.tmp 6) (.tmp 18)), none⟩, [])])
(.seq (.reg [⟨(some 19), (.load true 1 (.tmp 2)), none⟩, ⟨(some 20), (.call 33 [(.tmp 19)]), none⟩, ⟨(some 7), (.new [(.slice none 0 0)]), none⟩, ⟨none, (.store 1 (.tmp 7) (.tmp 20)), none⟩])
(.seq (.drw [(⟨(some 21), (.load true 1 (.tmp 7)), none⟩, []), (⟨(some 22), (.load true 3 (.tmp 3)), none⟩, [0]), (⟨(some 23), (.call 34 [(.tmp 22)]), none⟩, [0]), (⟨(some 24), (.call 39 [(.tmp 21), (.tmp 23)]), none⟩, []), (⟨(some 8), (.new [(.int .i64 0), (.int .i64 0), (.int .i64 0)]), none⟩, [0, 1, 2, 3]), (⟨none, (.store 3 (.tmp 8) (.tmp 24)), none⟩, [])])
(.seq (.seq (.reg [⟨(some 25), (.load true 3 (.tmp 8)), none⟩, ⟨(some 26), (.load true 3 (.tmp 6)), none⟩, ⟨(some 27), (.call 36 [(.tmp 25), (.tmp 26)]), none⟩, ⟨(some 28), (.un .not (.tmp 27)), none⟩])
(.cond (.tmp 28) (.seq (.reg [⟨(some 4), (.mov (.const (.bool false))), none⟩])
 .ret)
 .skip))
(.seq (.seq (.drw [(⟨(some 29), (.load true 1 (.tmp 7)), none⟩, []), (⟨(some 30), (.load true 1 (.tmp 2)), none⟩, [0]), (⟨(some 31), (.call 33 [(.tmp 30)]), none⟩, [0]), (⟨(some 32), (.call 37 [(.tmp 29), (.tmp 31)]), none⟩, []), (⟨(some 33), (.un .not (.tmp 32)), none⟩, [])])
(.cond (.tmp 33) (.seq (.reg [⟨(some 4), (.mov (.const (.bool false))), none⟩])
 .ret)
 .skip))
(.seq (.reg [⟨(some 4), (.mov (.const (.bool true))), none⟩])
.ret))))))))))
theorem k4 : compFn prog 4 = some (34, vc4, [.t 4]) := by kernel_rfl
theorem sum_mem_le {α : Type} (f : α → Nat) : ∀ {l : List α} {x : α}, x ∈ l → f x ≤ (l.map f).sum
  | y :: l, x, h => by
    simp only [List.map_cons, List.sum_cons]
    rcases List.mem_cons.1 h with rfl | h
    · omega
    · have := sum_mem_le f h; omega
theorem wD_ti {d : Doc} (h : wD d ≤ 1048576) : docTi d := by
  unfold wD at h
  refine ⟨by omega, fun b hb => ?_⟩
  have h1 := sum_mem_le (fun c => wB c) hb
  simp only [wB, wC] at h1 h
  refine ⟨by omega, by omega, fun c hc => ?_⟩
  have h2 := sum_mem_le (fun c : Cell => c.text.length) hc
  omega
theorem ti_sm {d : Doc} (h : docTi d) : docSm d := by
  refine ⟨by have := h.1; omega, fun b hb => ?_⟩
  obtain ⟨h1, h2, h3⟩ := h.2 b hb
  exact ⟨by omega, by omega, fun c hc => by have := h3 c hc; unfold Cell.sm; omega⟩
theorem ti_62 {d : Doc} (h : docTi d) : d.length < 4611686018427387904 ∧ ∀ b ∈ d, b.text.length < 4611686018427387904 ∧ b.table.cells.length < 4611686018427387904 ∧ ∀ c ∈ b.table.cells, c.text.length < 4611686018427387904 := by
  refine ⟨by have := h.1; omega, fun b hb => ?_⟩
  obtain ⟨h1, h2, h3⟩ := h.2 b hb
  exact ⟨by omega, by omega, fun c hc => by have := h3 c hc; omega⟩
theorem c3 (d : Doc) (p : Spot) (hd : docLen d) : PureC prog 3 [.agg [encB d], .agg p.enc] (.sc (.bool true)) := by
  have h31 := c31 d 1048576 (by omega) (by omega) hd.1 hd.2
  rcases Nat.lt_or_ge 1048576 (wD d) with hbig | hsm
  · rw [cutI_neg (by omega)] at h31
    have k1 : decide ((-1 : Int) < 0) = true := by decide
    unfold encB at *
    unfold Spot.enc
    clear hd
    refine pureC_of k3 (by first | rfl | simp [VV.cloL, VV.clo, *]) (by first | rfl | simp [VV.cloL, VV.clo, *]) (by simp) ?_
    intro X hP hm hH hn hX
    refine vwp_ok _ ?_
    unfold vc3
    repeat' (first
      | simp only [go_sem, reduceCtorEq, reduceIte, Nat.reduceAdd, Nat.reduceEqDiff, Nat.reduceLeDiff, Nat.reduceMul, *]
      | refine gdO_bool' _ (fun _ => ?_) (fun _ => ?_)
      | refine gdO_bool _ (fun _ => ?_) (fun _ => ?_)
      | refine gdD_bool' _ (fun _ => ?_) (fun _ => ?_)
      | refine gdD_bool _ (fun _ => ?_) (fun _ => ?_)
      | refine cdO_bool' _ (fun _ => ?_) (fun _ => ?_)
      | refine cdO_bool _ (fun _ => ?_) (fun _ => ?_)
      | refine callO.pure (by first | exact h31) ?_
      | refine callW.pure (by first | exact h31) ?_
      | refine ⟨by decide, ?_⟩
      | refine ppost_t (by simp) rfl ?_)
  · rw [cutI_pos (by omega)] at h31
    have hti := wD_ti hsm
    have k1 : decide (1048576 - (wD d : Int) < 0) = false := by simp; omega
    have h33 := c33 d hti
    have h34 := c34 p
    have h32 := c32 d p
    have h35 := c35 d p (ti_sm hti)
    rw [docOk_fun] at h35
    have h36 := c36 (spotBy nowB docOk d p) (spotBy nowB docOk d p)
    simp only [beq_self_eq_true, Bool.and_self] at h36
    have h37 := c37 d (ti_62 hti).1 (ti_62 hti).2
    generalize spotBy nowB docOk d p = q at *
    unfold encB Spot.enc at *
    clear hd hti hsm
    refine pureC_of k3 (by first | rfl | simp [VV.cloL, VV.clo, *]) (by first | rfl | simp [VV.cloL, VV.clo, *]) (by simp) ?_
    intro X hP hm hH hn hX
    refine vwp_ok _ ?_
    unfold vc3
    repeat' (first
      | simp only [go_sem, reduceCtorEq, reduceIte, Nat.reduceAdd, Nat.reduceEqDiff, Nat.reduceLeDiff, Nat.reduceMul, *]
      | refine gdO_bool' _ (fun _ => ?_) (fun _ => ?_)
      | refine gdO_bool _ (fun _ => ?_) (fun _ => ?_)
      | refine gdD_bool' _ (fun _ => ?_) (fun _ => ?_)
      | refine gdD_bool _ (fun _ => ?_) (fun _ => ?_)
      | refine cdO_bool' _ (fun _ => ?_) (fun _ => ?_)
      | refine cdO_bool _ (fun _ => ?_) (fun _ => ?_)
      | refine callO.pure (by first | exact h31 | exact h33 | exact h34 | exact h32 | exact h35 | exact h36 | exact h37) ?_
      | refine callW.pure (by first | exact h31 | exact h33 | exact h34 | exact h32 | exact h35 | exact h36 | exact h37) ?_
      | refine ⟨by decide, ?_⟩
      | refine ppost_t (by simp) rfl ?_)
theorem c4 (d : Doc) (p : Spot) (hd : docLen d) : PureC prog 4 [.agg [encB d], .agg p.enc] (.sc (.bool true)) := by
  have h31 := c31 d 1048576 (by omega) (by omega) hd.1 hd.2
  rcases Nat.lt_or_ge 1048576 (wD d) with hbig | hsm
  · rw [cutI_neg (by omega)] at h31
    have k1 : decide ((-1 : Int) < 0) = true := by decide
    unfold encB at *
    unfold Spot.enc
    clear hd
    refine pureC_of k4 (by first | rfl | simp [VV.cloL, VV.clo, *]) (by first | rfl | simp [VV.cloL, VV.clo, *]) (by simp) ?_
    intro X hP hm hH hn hX
    refine vwp_ok _ ?_
    unfold vc4
    repeat' (first
      | simp only [go_sem, reduceCtorEq, reduceIte, Nat.reduceAdd, Nat.reduceEqDiff, Nat.reduceLeDiff, Nat.reduceMul, *]
      | refine gdO_bool' _ (fun _ => ?_) (fun _ => ?_)
      | refine gdO_bool _ (fun _ => ?_) (fun _ => ?_)
      | refine gdD_bool' _ (fun _ => ?_) (fun _ => ?_)
      | refine gdD_bool _ (fun _ => ?_) (fun _ => ?_)
      | refine cdO_bool' _ (fun _ => ?_) (fun _ => ?_)
      | refine cdO_bool _ (fun _ => ?_) (fun _ => ?_)
      | refine callO.pure (by first | exact h31) ?_
      | refine callW.pure (by first | exact h31) ?_
      | refine ⟨by decide, ?_⟩
      | refine ppost_t (by simp) rfl ?_)
  · rw [cutI_pos (by omega)] at h31
    have hti := wD_ti hsm
    have k1 : decide (1048576 - (wD d : Int) < 0) = false := by simp; omega
    have h33 := c33 d hti
    have h34 := c34 p
    have h32 := c38 d p
    have h35 := c39 d p (ti_sm hti)
    rw [docOk_fun] at h35
    have h36 := c36 (spotBy wasB docOk d p) (spotBy wasB docOk d p)
    simp only [beq_self_eq_true, Bool.and_self] at h36
    have h37 := c37 d (ti_62 hti).1 (ti_62 hti).2
    generalize spotBy wasB docOk d p = q at *
    unfold encB Spot.enc at *
    clear hd hti hsm
    refine pureC_of k4 (by first | rfl | simp [VV.cloL, VV.clo, *]) (by first | rfl | simp [VV.cloL, VV.clo, *]) (by simp) ?_
    intro X hP hm hH hn hX
    refine vwp_ok _ ?_
    unfold vc4
    repeat' (first
      | simp only [go_sem, reduceCtorEq, reduceIte, Nat.reduceAdd, Nat.reduceEqDiff, Nat.reduceLeDiff, Nat.reduceMul, *]
      | refine gdO_bool' _ (fun _ => ?_) (fun _ => ?_)
      | refine gdO_bool _ (fun _ => ?_) (fun _ => ?_)
      | refine gdD_bool' _ (fun _ => ?_) (fun _ => ?_)
      | refine gdD_bool _ (fun _ => ?_) (fun _ => ?_)
      | refine cdO_bool' _ (fun _ => ?_) (fun _ => ?_)
      | refine cdO_bool _ (fun _ => ?_) (fun _ => ?_)
      | refine callO.pure (by first | exact h31 | exact h33 | exact h34 | exact h32 | exact h35 | exact h36 | exact h37) ?_
      | refine callW.pure (by first | exact h31 | exact h33 | exact h34 | exact h32 | exact h35 | exact h36 | exact h37) ?_
      | refine ⟨by decide, ?_⟩
      | refine ppost_t (by simp) rfl ?_)
end Go.Proofs.Ytdmmhainianadaa

/- F22: the least place that is a place now; the law on it. -/
namespace Go.Proofs.Ytdmmhainianadaa
open Go.VM Go.Lim Go.Proofs.Try
attribute [local irreducible] vwp vops vstep vdr vdr1 CallP PPost SWv gdO gdD cdO optV optW optD thenV blockV behind callO callW callvO roundV
set_option linter.unusedSimpArgs false
set_option linter.unusedVariables false
/- loop.example/limner/spec.SpotRaw -/
def vc42 : VCode :=
(.seq (.reg [⟨(some 2), (.box (.tmp 0)), none⟩, ⟨(some 3), (.box (.tmp 1)), none⟩, ⟨(some 4), (.new [(.int .i64 0), (.int .i64 0), (.int .i64 0)]), none⟩, ⟨(some 5), (.mov (.const (.bool false))), none⟩])
(.seq (.reg [⟨(some 9), (.fad 2 (.tmp 3)), none⟩, ⟨(some 10), (.load false 1 (.tmp 9)), none⟩, ⟨(some 6), (.mov (.tmp 10)), none⟩])
(.seq (.reg [⟨(some 11), (.fad 2 (.tmp 3)), none⟩, ⟨none, (.store 1 (.tmp 11) (.const (.int .i64 0))), none⟩])
(.seq (.seq (.reg [⟨(some 12), (.load true 1 (.tmp 2)), none⟩, ⟨(some 13), (.load true 3 (.tmp 3)), none⟩, ⟨(some 14), (.call 41 [(.tmp 12), (.tmp 13)]), none⟩, ⟨(some 15), (.un .not (.tmp 14)), none⟩])
(.cond (.tmp 15) (.seq (.reg [⟨(some 16), (.build [(.int .i64 0), (.int .i64 0), (.int .i64 0)] []), none⟩, ⟨none, (.store 3 (.tmp 4) (.tmp 16)), none⟩, ⟨(some 5), (.mov (.const (.bool false))), none⟩])
 .ret)
 .skip))
(.seq (.seq (.reg [⟨(some 7), (.mov (.const (.int .i64 0))), none⟩])
(.block 0 (.loop (.seq (.seq (.reg [⟨(some 17), (.mov (.tmp 7)), none⟩, ⟨(some 18), (.load true 1 (.tmp 2)), none⟩, ⟨(some 19), (.load true 3 (.tmp 3)), none⟩, ⟨(some 20), (.call 86 [(.tmp 18), (.tmp 19)]), none⟩, ⟨(some 21), (.len false (.tmp 20)), none⟩, ⟨(some 22), (.bin .leq .no (.tmp 17) (.tmp 21)), none⟩])
  (.cond (.tmp 22) .skip
   (.exit 0)))
  (.seq (.block 1 (.seq (.reg [⟨(some 25), (.fad 0 (.tmp 3)), none⟩, ⟨(some 26), (.load false 1 (.tmp 25)), none⟩, ⟨(some 27), (.fad 1 (.tmp 3)), none⟩, ⟨(some 28), (.load false 1 (.tmp 27)), none⟩, ⟨(some 29), (.mov (.tmp 7)), none⟩, ⟨(some 30), (.build [(.int .i64 0), (.int .i64 0), (.int .i64 0)] [(0, 1, (.tmp 26)), (1, 1, (.tmp 28)), (2, 1, (.tmp 29))]), none⟩, ⟨(some 8), (.new [(.int .i64 0), (.int .i64 0), (.int .i64 0)]), none⟩, ⟨none, (.store 3 (.tmp 8) (.tmp 30)), none⟩])
   (.seq (.reg [⟨(some 31), (.load true 1 (.tmp 2)), none⟩, ⟨(some 32), (.load true 3 (.tmp 8)), none⟩, ⟨(some 33), (.call 32 [(.tmp 31), (.tmp 32)]), none⟩, ⟨(some 34), (.fld false 2 1 (.tmp 33)), none⟩, ⟨(some 35), (.mov (.tmp 6)), none⟩, ⟨(some 36), (.bin .eql .no (.tmp 34) (.tmp 35)), none⟩])
   (.cond (.tmp 36) (.seq (.reg [⟨(some 37), (.load true 3 (.tmp 8)), none⟩, ⟨none, (.store 3 (.tmp 4) (.tmp 37)), none⟩, ⟨(some 5), (.mov (.const (.bool true))), none⟩])
    .ret)
    .skip))))
  (.reg [⟨(some 23), (.mov (.tmp 7)), none⟩, ⟨(some 24), (.bin .add .no (.tmp 23) (.const (.int .i64 1))), none⟩, ⟨(some 7), (.mov (.tmp 24)), none⟩]))))))
(.seq (.reg [⟨(some 38), (.build [(.int .i64 0), (.int .i64 0), (.int .i64 0)] []), none⟩, ⟨none, (.store 3 (.tmp 4) (.tmp 38)), none⟩, ⟨(some 5), (.mov (.const (.bool false))), none⟩])
.ret))))))
theorem k42 : compFn prog 42 = some (39, vc42, [.c 4 true 3, .t 5]) := by kernel_rfl
/- loop.example/limner/impl.SpotRaw -/
def vc43 : VCode :=
(.seq (.reg [⟨(some 2), (.box (.tmp 0)), none⟩, ⟨(some 3), (.box (.tmp 1)), none⟩, ⟨(some 4), (.new [(.int .i64 0), (.int .i64 0), (.int .i64 0)]), none⟩, ⟨(some 5), (.mov (.const (.bool false))), none⟩])
(.seq (.seq (.reg [⟨(some 6), (.mov (.const (.int .i64 0))), none⟩])
(.block 0 (.loop (.seq (.seq (.reg [⟨(some 8), (.mov (.tmp 6)), none⟩, ⟨(some 9), (.bin .leq .no (.tmp 8) (.const (.int .i64 24))), none⟩])
  (.cond (.tmp 9) .skip
   (.exit 0)))
  (.seq (.block 1 (.seq (.reg [⟨(some 12), (.fad 0 (.tmp 3)), none⟩, ⟨(some 13), (.load false 1 (.tmp 12)), none⟩, ⟨(some 14), (.fad 1 (.tmp 3)), none⟩, ⟨(some 15), (.load false 1 (.tmp 14)), none⟩, ⟨(some 16), (.mov (.tmp 6)), none⟩, ⟨(some 17), (.build [(.int .i64 0), (.int .i64 0), (.int .i64 0)] [(0, 1, (.tmp 13)), (1, 1, (.tmp 15)), (2, 1, (.tmp 16))]), none⟩, ⟨(some 7), (.new [(.int .i64 0), (.int .i64 0), (.int .i64 0)]), none⟩, ⟨none, (.store 3 (.tmp 7) (.tmp 17)), none⟩])
   (.seq (.drw [(⟨(some 18), (.load true 1 (.tmp 2)), none⟩, []), (⟨(some 19), (.load true 3 (.tmp 7)), none⟩, [0]), (⟨(some 20), (.call 62 [(.tmp 18), (.tmp 19)]), none⟩, []), (⟨(some 21), (.mov (.tmp 20)), none⟩, []), (⟨(some 22), (.load true 1 (.tmp 2)), (some (21, true))⟩, []), (⟨(some 23), (.load true 3 (.tmp 7)), (some (21, true))⟩, [4]), (⟨(some 24), (.call 35 [(.tmp 22), (.tmp 23)]), (some (21, true))⟩, []), (⟨(some 25), (.load true 3 (.tmp 3)), (some (21, true))⟩, [4, 5, 6]), (⟨(some 26), (.bin .eql (.st [(0, 1), (1, 1), (2, 1)]) (.tmp 24) (.tmp 25)), (some (21, true))⟩, []), (⟨(some 27), (.pick (.tmp 21) (.tmp 26) (.const (.bool false))), none⟩, [])])
   (.cond (.tmp 27) (.seq (.reg [⟨(some 28), (.load true 3 (.tmp 7)), none⟩, ⟨none, (.store 3 (.tmp 4) (.tmp 28)), none⟩, ⟨(some 5), (.mov (.const (.bool true))), none⟩])
    .ret)
    .skip))))
  (.reg [⟨(some 10), (.mov (.tmp 6)), none⟩, ⟨(some 11), (.bin .add .no (.tmp 10) (.const (.int .i64 1))), none⟩, ⟨(some 6), (.mov (.tmp 11)), none⟩]))))))
(.seq (.reg [⟨(some 29), (.build [(.int .i64 0), (.int .i64 0), (.int .i64 0)] []), none⟩, ⟨none, (.store 3 (.tmp 4) (.tmp 29)), none⟩, ⟨(some 5), (.mov (.const (.bool false))), none⟩])
.ret)))
theorem k43 : compFn prog 43 = some (30, vc43, [.c 4 true 3, .t 5]) := by kernel_rfl
/- loop.example/limner/laws.FnExactSpotRaw -/
def vc6 : VCode :=
(.seq (.reg [⟨(some 2), (.box (.tmp 0)), none⟩, ⟨(some 3), (.box (.tmp 1)), none⟩, ⟨(some 4), (.mov (.const (.bool false))), none⟩])
(.seq (.reg [⟨(some 5), (.mov (.const (.int .i64 1048576))), none⟩])
(.seq (.reg [⟨(some 11), (.load true 1 (.tmp 2)), none⟩, ⟨(some 12), (.mov (.tmp 5)), none⟩, ⟨(some 13), (.call 31 [(.tmp 11), (.tmp 12)]), none⟩, ⟨(some 5), (.mov (.tmp 13)), none⟩])
(.seq (.seq (.reg [⟨(some 14), (.mov (.tmp 5)), none⟩, ⟨(some 15), (.bin .lss .no (.tmp 14) (.const (.int .i64 0))), none⟩])
(.cond (.tmp 15) (.seq (.reg [⟨(some 4), (.mov (.const (.bool true))), none⟩])
 .ret)
 .skip))
(.seq (.drw [(⟨(some 17), (.load true 1 (.tmp 2)), none⟩, []), (⟨(some 18), (.call 33 [(.tmp 17)]), none⟩, []), (⟨(some 19), (.load true 3 (.tmp 3)), none⟩, [0, 1]), (⟨(some 20), (.call 34 [(.tmp 19)]), none⟩, []), (⟨(some 21), (.call 42 [(.tmp 18), (.tmp 20)]), none⟩, []), (⟨(some 16), (.mov (.tmp 21)), none⟩, []), (⟨(some 22), (.ext (.tmp 16) 0), none⟩, []), (⟨(some 23), (.ext (.tmp 16) 1), none⟩, []), (⟨(some 6), (.new [(.int .i64 0), (.int .i64 0), (.int .i64 0)]), none⟩, [0, 1, 2, 3, 4]), (⟨none, (.store 3 (.tmp 6) (.tmp 22)), none⟩, []), (⟨(some 7), (.mov (.tmp 23)), none⟩, [])])
(.seq (.reg [⟨(some 24), (.load true 1 (.tmp 2)), none⟩, ⟨(some 25), (.call 33 [(.tmp 24)]), none⟩, ⟨(some 8), (.new [(.slice none 0 0)]), none⟩, ⟨none, (.store 1 (.tmp 8) (.tmp 25)), none⟩])
(.seq (.drw [(⟨(some 27), (.load true 1 (.tmp 8)), none⟩, []), (⟨(some 28), (.load true 3 (.tmp 3)), none⟩, [0]), (⟨(some 29), (.call 34 [(.tmp 28)]), none⟩, [0]), (⟨(some 30), (.call 43 [(.tmp 27), (.tmp 29)]), none⟩, []), (⟨(some 26), (.mov (.tmp 30)), none⟩, []), (⟨(some 31), (.ext (.tmp 26) 0), none⟩, []), (⟨(some 32), (.ext (.tmp 26) 1), none⟩, []), (⟨(some 9), (.new [(.int .i64 0), (.int .i64 0), (.int .i64 0)]), none⟩, [0, 1, 2, 3]), (⟨none, (.store 3 (.tmp 9) (.tmp 31)), none⟩, []), (⟨(some 10), (.mov (.tmp 32)), none⟩, [])])
(.seq (.seq (.reg [⟨(some 33), (.load true 3 (.tmp 9)), none⟩, ⟨(some 34), (.load true 3 (.tmp 6)), none⟩, ⟨(some 35), (.call 36 [(.tmp 33), (.tmp 34)]), none⟩, ⟨(some 36), (.un .not (.tmp 35)), none⟩, ⟨(some 37), (.mov (.tmp 36)), none⟩, ⟨(some 38), (.mov (.tmp 10)), (some (37, false))⟩, ⟨(some 39), (.mov (.tmp 7)), (some (37, false))⟩, ⟨(some 40), (.bin .neq .bool (.tmp 38) (.tmp 39)), (some (37, false))⟩, ⟨(some 41), (.pick (.tmp 37) (.const (.bool true)) (.tmp 40)), none⟩])
(.cond (.tmp 41) (.seq (.reg [⟨(some 4), (.mov (.const (.bool false))), none⟩])
 .ret)
 .skip))
(.seq (.seq (.drw [(⟨(some 42), (.load true 1 (.tmp 8)), none⟩, []), (⟨(some 43), (.load true 1 (.tmp 2)), none⟩, [0]), (⟨(some 44), (.call 33 [(.tmp 43)]), none⟩, [0]), (⟨(some 45), (.call 37 [(.tmp 42), (.tmp 44)]), none⟩, []), (⟨(some 46), (.un .not (.tmp 45)), none⟩, [])])
(.cond (.tmp 46) (.seq (.reg [⟨(some 4), (.mov (.const (.bool false))), none⟩])
 .ret)
 .skip))
(.seq (.reg [⟨(some 4), (.mov (.const (.bool true))), none⟩])
.ret))))))))))
theorem k6 : compFn prog 6 = some (47, vc6, [.t 4]) := by kernel_rfl
theorem find_at {t : Nat → Bool} {n i : Nat} (hi : i < n) (h : ∀ j, j < i → t j = false) (hp : t i = true) : (List.range n).find? t = some i := by
  rw [List.find?_eq_some_iff_getElem]
  refine ⟨hp, i, by simpa using hi, by simp, fun j hj => ?_⟩
  simp [h j hj]
theorem find_none {t : Nat → Bool} {n i : Nat} (hi : n ≤ i) (h : ∀ j, j < i → t j = false) : (List.range n).find? t = none := by
  rw [List.find?_eq_none]
  intro x hx
  rw [List.mem_range] at hx
  simp [h x (by omega)]
def resAt (p : Spot) : Option Nat → Spot × Bool
  | some i => (⟨p.block, p.cell, i⟩, true)
  | none => (⟨0, 0, 0⟩, false)
def rawT (d : Doc) (p : Spot) (i : Nat) : Bool := (spotBy nowB docOk d ⟨p.block, p.cell, i⟩).pos == p.pos
def rawLen (d : Doc) (p : Spot) : Nat := (textAtB (blkAt d p) p.cell).length
def rawS (d : Doc) (p : Spot) : Spot × Bool := if placeOk docOk d ⟨p.block, p.cell, 0⟩ = true then resAt p ((List.range (rawLen d p + 1)).find? (rawT d p)) else (⟨0, 0, 0⟩, false)
def rawI1 (d : Doc) (p : Spot) (i : Nat) : Bool := placeOk docOk d ⟨p.block, p.cell, i⟩ && ((spotBy nowB docOk d ⟨p.block, p.cell, i⟩).block == p.block && (spotBy nowB docOk d ⟨p.block, p.cell, i⟩).cell == p.cell && (spotBy nowB docOk d ⟨p.block, p.cell, i⟩).pos == p.pos)
def rawI (d : Doc) (p : Spot) : Spot × Bool := resAt p ((List.range 25).find? (rawI1 d p))
theorem placeOk_len {d : Doc} {p : Spot} (hb : placeOk docOk d p = true) : rawLen d p ≤ 24 := by
  simp only [placeOk, Bool.and_eq_true] at hb
  obtain ⟨⟨⟨h1, h2⟩, h3⟩, _⟩ := hb
  have hl := docOk_len h1
  obtain ⟨i, hi, hlt⟩ := within_idx (by omega) h2
  have ebk : blkAt d p = d[i] := by rw [blkAt, hi, Int.toNat_natCast, getD_eq hlt]
  have hok := docOk_blk h1 hlt
  unfold rawLen
  rw [ebk] at h3 ⊢
  refine textOk_len (blk_text hok fun hk => ?_)
  simp only [cellIn, hk, if_true] at h3
  obtain ⟨j, hj, hjl⟩ := within_idx (by have := blk_cells hok hk; omega) h3
  omega
theorem c42 (d : Doc) (p : Spot) : PureC prog 42 [.agg [encB d], .agg p.enc] (.tup [.agg (rawS d p).1.enc, .sc (.bool (rawS d p).2)]) := by
  have h41 := c41 d ⟨p.block, p.cell, 0⟩
  have h86 := c86 d ⟨p.block, p.cell, 0⟩
  have h32 := fun i : Nat => c32 d ⟨p.block, p.cell, i⟩
  cases hb : placeOk docOk d ⟨p.block, p.cell, 0⟩ with
  | false =>
    rw [hb] at h41
    have e : rawS d p = (⟨0, 0, 0⟩, false) := by rw [rawS, hb]; rfl
    rw [e]
    clear hb e h86 h32
    unfold Spot.enc encB at *
    refine pureC_of k42 (by first | rfl | simp [VV.cloL, VV.clo, *]) (by first | rfl | simp [VV.cloL, VV.clo, *]) (by simp) ?_
    intro X hP hm hH hn hX
    refine vwp_ok _ ?_
    unfold vc42
    repeat' (first
      | simp only [go_sem, reduceCtorEq, reduceIte, Nat.reduceAdd, Nat.reduceEqDiff, Nat.reduceLeDiff, Nat.reduceMul, *]
      | refine gdO_bool' _ (fun _ => ?_) (fun _ => ?_)
      | refine gdO_bool _ (fun _ => ?_) (fun _ => ?_)
      | refine gdD_bool' _ (fun _ => ?_) (fun _ => ?_)
      | refine gdD_bool _ (fun _ => ?_) (fun _ => ?_)
      | refine cdO_bool' _ (fun _ => ?_) (fun _ => ?_)
      | refine cdO_bool _ (fun _ => ?_) (fun _ => ?_)
      | refine callO.pure (by first | exact h41) ?_
      | refine callW.pure (by first | exact h41) ?_
      | refine ⟨by decide, ?_⟩
      | fail)
    exact ppost_l (by simp) (by simp only [go_sem, reduceCtorEq, reduceIte, Nat.reduceAdd, Nat.reduceEqDiff, Nat.reduceLeDiff, Nat.reduceMul, resV]; rfl) rfl rfl
  | true =>
    rw [hb] at h41 h86
    rw [if_pos rfl] at h86
    have hlen : rawLen d p ≤ 24 := placeOk_len (p := ⟨p.block, p.cell, 0⟩) hb
    have hfound : ∀ i : Nat, i < rawLen d p + 1 → (∀ j, j < i → rawT d p j = false) → rawT d p i = true → rawS d p = (⟨p.block, p.cell, i⟩, true) := fun i h1 h2 h3 => by rw [rawS, if_pos hb, find_at h1 h2 h3]; rfl
    have hno : ∀ i : Nat, rawLen d p + 1 ≤ i → (∀ j, j < i → rawT d p j = false) → rawS d p = (⟨0, 0, 0⟩, false) := fun i h1 h2 => by rw [rawS, if_pos hb, find_none h1 h2]; rfl
    have eT : ∀ i : Nat, ((spotBy nowB docOk d ⟨p.block, p.cell, i⟩).pos == p.pos) = rawT d p i := fun _ => rfl
    have eL : textAtB (blkAt d ⟨p.block, p.cell, 0⟩) p.cell = textAtB (blkAt d p) p.cell := rfl
    rw [eL] at h86
    have htl : (textAtB (blkAt d p) p.cell).length = rawLen d p := rfl
    generalize textAtB (blkAt d p) p.cell = tx at *
    generalize rawLen d p = len at *
    generalize rawT d p = T at *
    generalize rawS d p = R at *
    clear hb eL
    unfold Spot.enc encB encT at *
    refine pureC_of k42 (by first | rfl | simp [VV.cloL, VV.clo, *]) (by first | rfl | simp [VV.cloL, VV.clo, *]) (by simp) ?_
    intro X hP hm hH hn hX
    refine vwp_ok _ ?_
    unfold vc42
    repeat' (first
      | simp only [go_sem, reduceCtorEq, reduceIte, Nat.reduceAdd, Nat.reduceEqDiff, Nat.reduceLeDiff, Nat.reduceMul, *]
      | refine gdO_bool' _ (fun _ => ?_) (fun _ => ?_)
      | refine gdO_bool _ (fun _ => ?_) (fun _ => ?_)
      | refine gdD_bool' _ (fun _ => ?_) (fun _ => ?_)
      | refine gdD_bool _ (fun _ => ?_) (fun _ => ?_)
      | refine cdO_bool' _ (fun _ => ?_) (fun _ => ?_)
      | refine cdO_bool _ (fun _ => ?_) (fun _ => ?_)
      | refine callO.pure (by first | exact h41) ?_
      | refine callW.pure (by first | exact h41) ?_
      | refine ⟨by decide, ?_⟩
      | refine ppost_t (by simp) rfl ?_)
    refine loopV hX (fun μ s H n => ∃ i : Nat, i ≤ len + 1 ∧ (∀ j, j < i → T j = false) ∧ μ = len + 1 - i ∧ s = slotsOf [(2, .pt 0 0), (3, .pt 1 0), (4, .pt 2 0), (5, .sc (.bool false)), (6, .sc (.int .i64 p.pos)), (7, .sc (.int .i64 i))] ∧ H = heapOf [(0, [.sl 6 (d.map Block.enc)]), (1, [.sc (.int .i64 p.block), .sc (.int .i64 p.cell), .sc (.int .i64 0)]), (2, [.sc (.int .i64 0), .sc (.int .i64 0), .sc (.int .i64 0)])] ∧ n = 3) ?_
      ⟨len + 2, roundV_of hH hn [0, 1, 2] [(2, _), (3, _), (4, _), (5, _), (6, _), (7, _)] [(0, _), (1, _), (2, _)] _ ⟨0, by simp, by simp, rfl, rfl, rfl, rfl⟩ (by omega) (by simp) (by simp [hm]) ?_ ?_⟩
    rotate_left
    · repeat' (first | exact List.forall_mem_nil _ | refine List.forall_mem_cons.2 ⟨?_, ?_⟩ | exact .toPt (by simp only [go_sem, reduceCtorEq, reduceIte, Nat.reduceAdd, Nat.reduceEqDiff, Nat.reduceLeDiff, Nat.reduceMul, *] <;> rfl) (by simp [tau]) (by simp) | exact .toRf (by simp only [go_sem, reduceCtorEq, reduceIte, Nat.reduceAdd, Nat.reduceEqDiff, Nat.reduceLeDiff, Nat.reduceMul, *] <;> rfl) (by simp [tau]) (by simp) | exact .same (by simp only [go_sem, reduceCtorEq, reduceIte, Nat.reduceAdd, Nat.reduceEqDiff, Nat.reduceLeDiff, Nat.reduceMul, *] <;> rfl) (by first | rfl | simp [VV.cloL, VV.clo, *]))
    · repeat' (first | exact HConv.nil | refine HConv.same (by decide) (by first | rfl | (simp only [go_sem, reduceCtorEq, reduceIte, Nat.reduceAdd, Nat.reduceEqDiff, Nat.reduceLeDiff, Nat.reduceMul, *] <;> rfl)) (by first | rfl | simp [VV.cloL, VV.clo, *]) ?_)
    rintro μ s H n ⟨i, hi, hz, rfl, rfl, rfl, rfl⟩
    have h32i := h32 i
    have eTi := eT i
    rcases Nat.lt_or_ge i (len + 1) with hlt | hge
    · have g1 : decide ((i : Int) ≤ (len : Int)) = true := by simp; omega
      have g5 : IntKind.i64.wrap ((i : Int) + 1) = ((i + 1 : Nat) : Int) := by rw [wrap_id] <;> omega
      have hf := hfound i hlt hz
      generalize spotBy nowB docOk d ⟨p.block, p.cell, i⟩ = q at *
      cases hT : T i with
      | true =>
        rw [hT] at eTi
        rw [hf hT]
        clear hf hz hfound hno h32 eT
        repeat' (first
          | simp only [go_sem, reduceCtorEq, reduceIte, Nat.reduceAdd, Nat.reduceEqDiff, Nat.reduceLeDiff, Nat.reduceMul, *]
          | refine gdO_bool' _ (fun _ => ?_) (fun _ => ?_)
          | refine gdO_bool _ (fun _ => ?_) (fun _ => ?_)
          | refine gdD_bool' _ (fun _ => ?_) (fun _ => ?_)
          | refine gdD_bool _ (fun _ => ?_) (fun _ => ?_)
          | refine cdO_bool' _ (fun _ => ?_) (fun _ => ?_)
          | refine cdO_bool _ (fun _ => ?_) (fun _ => ?_)
          | refine callO.pure (by first | exact h41 | exact h86 | exact h32i) ?_
          | refine callW.pure (by first | exact h41 | exact h86 | exact h32i) ?_
          | refine ⟨by decide, ?_⟩
          | fail)
        exact ppost_l (by simp) (by simp only [go_sem, reduceCtorEq, reduceIte, Nat.reduceAdd, Nat.reduceEqDiff, Nat.reduceLeDiff, Nat.reduceMul, resV]; rfl) rfl rfl
      | false =>
        rw [hT] at eTi
        have hz' := lt_succ_of hz hT
        clear hf hz hfound hno h32 eT
        repeat' (first
          | simp only [go_sem, reduceCtorEq, reduceIte, Nat.reduceAdd, Nat.reduceEqDiff, Nat.reduceLeDiff, Nat.reduceMul, *]
          | refine gdO_bool' _ (fun _ => ?_) (fun _ => ?_)
          | refine gdO_bool _ (fun _ => ?_) (fun _ => ?_)
          | refine gdD_bool' _ (fun _ => ?_) (fun _ => ?_)
          | refine gdD_bool _ (fun _ => ?_) (fun _ => ?_)
          | refine cdO_bool' _ (fun _ => ?_) (fun _ => ?_)
          | refine cdO_bool _ (fun _ => ?_) (fun _ => ?_)
          | refine callO.pure (by first | exact h41 | exact h86 | exact h32i) ?_
          | refine callW.pure (by first | exact h41 | exact h86 | exact h32i) ?_
          | refine ⟨by decide, ?_⟩
          | refine ppost_t (by simp) rfl ?_)
        refine roundV_of hH hn [0, 1, 2] [(2, _), (3, _), (4, _), (5, _), (6, _), (7, _)] [(0, _), (1, _), (2, _)] _ ⟨i + 1, hlt, hz', rfl, rfl, rfl, rfl⟩ (by omega) (by simp) (by simp [hm]) ?_ ?_
        · repeat' (first | exact List.forall_mem_nil _ | refine List.forall_mem_cons.2 ⟨?_, ?_⟩ | exact .toPt (by simp only [go_sem, reduceCtorEq, reduceIte, Nat.reduceAdd, Nat.reduceEqDiff, Nat.reduceLeDiff, Nat.reduceMul, *] <;> rfl) (by simp [tau]) (by simp) | exact .toRf (by simp only [go_sem, reduceCtorEq, reduceIte, Nat.reduceAdd, Nat.reduceEqDiff, Nat.reduceLeDiff, Nat.reduceMul, *] <;> rfl) (by simp [tau]) (by simp) | exact .same (by simp only [go_sem, reduceCtorEq, reduceIte, Nat.reduceAdd, Nat.reduceEqDiff, Nat.reduceLeDiff, Nat.reduceMul, *] <;> rfl) (by first | rfl | simp [VV.cloL, VV.clo, *]))
        · repeat' (first | exact HConv.nil | refine HConv.same (by decide) (by first | rfl | (simp only [go_sem, reduceCtorEq, reduceIte, Nat.reduceAdd, Nat.reduceEqDiff, Nat.reduceLeDiff, Nat.reduceMul, *] <;> rfl)) (by first | rfl | simp [VV.cloL, VV.clo, *]) ?_)
    · have g1 : decide ((i : Int) ≤ (len : Int)) = false := by simp; omega
      rw [hno i hge hz]
      clear hz hfound hno h32 eT h32i eTi
      repeat' (first
        | simp only [go_sem, reduceCtorEq, reduceIte, Nat.reduceAdd, Nat.reduceEqDiff, Nat.reduceLeDiff, Nat.reduceMul, *]
        | refine gdO_bool' _ (fun _ => ?_) (fun _ => ?_)
        | refine gdO_bool _ (fun _ => ?_) (fun _ => ?_)
        | refine gdD_bool' _ (fun _ => ?_) (fun _ => ?_)
        | refine gdD_bool _ (fun _ => ?_) (fun _ => ?_)
        | refine cdO_bool' _ (fun _ => ?_) (fun _ => ?_)
        | refine cdO_bool _ (fun _ => ?_) (fun _ => ?_)
        | refine callO.pure (by first | exact h41 | exact h86) ?_
        | refine callW.pure (by first | exact h41 | exact h86) ?_
        | refine ⟨by decide, ?_⟩
        | fail)
      exact ppost_l (by simp) (by simp only [go_sem, reduceCtorEq, reduceIte, Nat.reduceAdd, Nat.reduceEqDiff, Nat.reduceLeDiff, Nat.reduceMul, resV]; rfl) rfl rfl
theorem c43 (d : Doc) (p : Spot) (hs : docSm d) : PureC prog 43 [.agg [encB d], .agg p.enc] (.tup [.agg (rawI d p).1.enc, .sc (.bool (rawI d p).2)]) := by
  have h62 := fun i : Nat => c62 d ⟨p.block, p.cell, i⟩ hs
  have h35 := fun i : Nat => c35 d ⟨p.block, p.cell, i⟩ hs
  rw [docOk_fun] at h62 h35
  have hfound : ∀ i : Nat, i < 25 → (∀ j, j < i → rawI1 d p j = false) → rawI1 d p i = true → rawI d p = (⟨p.block, p.cell, i⟩, true) := fun i h1 h2 h3 => by rw [rawI, find_at h1 h2 h3]; rfl
  have hno : ∀ i : Nat, 25 ≤ i → (∀ j, j < i → rawI1 d p j = false) → rawI d p = (⟨0, 0, 0⟩, false) := fun i h1 h2 => by rw [rawI, find_none h1 h2]; rfl
  have eT : ∀ i : Nat, rawI1 d p i = (placeOk docOk d ⟨p.block, p.cell, i⟩ && ((spotBy nowB docOk d ⟨p.block, p.cell, i⟩).block == p.block && (spotBy nowB docOk d ⟨p.block, p.cell, i⟩).cell == p.cell && (spotBy nowB docOk d ⟨p.block, p.cell, i⟩).pos == p.pos)) := fun _ => rfl
  generalize rawI1 d p = T at *
  generalize rawI d p = R at *
  clear hs
  unfold Spot.enc encB at *
  refine pureC_of k43 (by first | rfl | simp [VV.cloL, VV.clo, *]) (by first | rfl | simp [VV.cloL, VV.clo, *]) (by simp) ?_
  intro X hP hm hH hn hX
  refine vwp_ok _ ?_
  unfold vc43
  repeat' (first
    | simp only [go_sem, reduceCtorEq, reduceIte, Nat.reduceAdd, Nat.reduceEqDiff, Nat.reduceLeDiff, Nat.reduceMul, *]
    | refine gdO_bool' _ (fun _ => ?_) (fun _ => ?_)
    | refine gdO_bool _ (fun _ => ?_) (fun _ => ?_)
    | refine gdD_bool' _ (fun _ => ?_) (fun _ => ?_)
    | refine gdD_bool _ (fun _ => ?_) (fun _ => ?_)
    | refine cdO_bool' _ (fun _ => ?_) (fun _ => ?_)
    | refine cdO_bool _ (fun _ => ?_) (fun _ => ?_)
    | refine ⟨by decide, ?_⟩
    | refine ppost_t (by simp) rfl ?_)
  refine loopV hX (fun μ s H n => ∃ i : Nat, i ≤ 25 ∧ (∀ j, j < i → T j = false) ∧ μ = 25 - i ∧ s = slotsOf [(2, .pt 0 0), (3, .pt 1 0), (4, .pt 2 0), (5, .sc (.bool false)), (6, .sc (.int .i64 i))] ∧ H = heapOf [(0, [.sl 6 (d.map Block.enc)]), (1, [.sc (.int .i64 p.block), .sc (.int .i64 p.cell), .sc (.int .i64 p.pos)]), (2, [.sc (.int .i64 0), .sc (.int .i64 0), .sc (.int .i64 0)])] ∧ n = 3) ?_
    ⟨26, roundV_of hH hn [0, 1, 2] [(2, _), (3, _), (4, _), (5, _), (6, _)] [(0, _), (1, _), (2, _)] _ ⟨0, by simp, by simp, rfl, rfl, rfl, rfl⟩ (by omega) (by simp) (by simp [hm]) ?_ ?_⟩
  rotate_left
  · repeat' (first | exact List.forall_mem_nil _ | refine List.forall_mem_cons.2 ⟨?_, ?_⟩ | exact .toPt (by simp only [go_sem, reduceCtorEq, reduceIte, Nat.reduceAdd, Nat.reduceEqDiff, Nat.reduceLeDiff, Nat.reduceMul, *] <;> rfl) (by simp [tau]) (by simp) | exact .toRf (by simp only [go_sem, reduceCtorEq, reduceIte, Nat.reduceAdd, Nat.reduceEqDiff, Nat.reduceLeDiff, Nat.reduceMul, *] <;> rfl) (by simp [tau]) (by simp) | exact .same (by simp only [go_sem, reduceCtorEq, reduceIte, Nat.reduceAdd, Nat.reduceEqDiff, Nat.reduceLeDiff, Nat.reduceMul, *] <;> rfl) (by first | rfl | simp [VV.cloL, VV.clo, *]))
  · repeat' (first | exact HConv.nil | refine HConv.same (by decide) (by first | rfl | (simp only [go_sem, reduceCtorEq, reduceIte, Nat.reduceAdd, Nat.reduceEqDiff, Nat.reduceLeDiff, Nat.reduceMul, *] <;> rfl)) (by first | rfl | simp [VV.cloL, VV.clo, *]) ?_)
  rintro μ s H n ⟨i, hi, hz, rfl, rfl, rfl, rfl⟩
  have h62i := h62 i
  have h35i := h35 i
  have eTi := eT i
  rcases Nat.lt_or_ge i 25 with hlt | hge
  · have g1 : decide ((i : Int) ≤ 24) = true := by simp; omega
    have g5 : IntKind.i64.wrap ((i : Int) + 1) = ((i + 1 : Nat) : Int) := by rw [wrap_id] <;> omega
    have hf := hfound i hlt hz
    generalize spotBy nowB docOk d ⟨p.block, p.cell, i⟩ = q at *
    generalize placeOk docOk d ⟨p.block, p.cell, i⟩ = ok at *
    cases hT : T i with
    | true =>
      rw [hT] at eTi
      have e4 : ok = true ∧ (q.block = p.block ∧ q.cell = p.cell) ∧ q.pos = p.pos := by simpa [Bool.and_eq_true] using eTi.symm
      obtain ⟨rfl, ⟨e1, e2⟩, e3⟩ := e4
      have k1 : (q.block == p.block) = true := by simp [e1]
      have k2 : (q.cell == p.cell) = true := by simp [e2]
      have k3 : (q.pos == p.pos) = true := by simp [e3]
      clear e1 e2 e3
      rw [hf hT]
      clear hf hz hfound hno h35 h62 eT eTi
      repeat' (first
        | simp only [go_sem, reduceCtorEq, reduceIte, Nat.reduceAdd, Nat.reduceEqDiff, Nat.reduceLeDiff, Nat.reduceMul, eqCells, eqCell, neg, *]
        | refine gdO_bool' _ (fun _ => ?_) (fun _ => ?_)
        | refine gdO_bool _ (fun _ => ?_) (fun _ => ?_)
        | refine gdD_bool' _ (fun _ => ?_) (fun _ => ?_)
        | refine gdD_bool _ (fun _ => ?_) (fun _ => ?_)
        | refine cdO_bool' _ (fun _ => ?_) (fun _ => ?_)
        | refine cdO_bool _ (fun _ => ?_) (fun _ => ?_)
        | refine callO.pure (by first | exact h62i | exact h35i) ?_
        | refine callW.pure (by first | exact h62i | exact h35i) ?_
        | refine ⟨by decide, ?_⟩
        | fail)
      exact ppost_l (by simp) (by simp only [go_sem, reduceCtorEq, reduceIte, Nat.reduceAdd, Nat.reduceEqDiff, Nat.reduceLeDiff, Nat.reduceMul, resV]; rfl) rfl rfl
    | false =>
      rw [hT] at eTi
      have hz' := lt_succ_of hz hT
      clear hf hz hfound hno h35 h62 eT
      cases ok with
      | false =>
        clear eTi
        repeat' (first
          | simp only [go_sem, reduceCtorEq, reduceIte, Nat.reduceAdd, Nat.reduceEqDiff, Nat.reduceLeDiff, Nat.reduceMul, eqCells, eqCell, neg, *]
          | refine gdO_bool' _ (fun _ => ?_) (fun _ => ?_)
          | refine gdO_bool _ (fun _ => ?_) (fun _ => ?_)
          | refine gdD_bool' _ (fun _ => ?_) (fun _ => ?_)
          | refine gdD_bool _ (fun _ => ?_) (fun _ => ?_)
          | refine cdO_bool' _ (fun _ => ?_) (fun _ => ?_)
          | refine cdO_bool _ (fun _ => ?_) (fun _ => ?_)
          | refine callO.pure (by first | exact h62i | exact h35i) ?_
          | refine callW.pure (by first | exact h62i | exact h35i) ?_
          | refine ⟨by decide, ?_⟩
          | refine ppost_t (by simp) rfl ?_)
        refine roundV_of hH hn [0, 1, 2] [(2, _), (3, _), (4, _), (5, _), (6, _)] [(0, _), (1, _), (2, _)] _ ⟨i + 1, hlt, hz', rfl, rfl, rfl, rfl⟩ (by omega) (by simp) (by simp [hm]) ?_ ?_
        · repeat' (first | exact List.forall_mem_nil _ | refine List.forall_mem_cons.2 ⟨?_, ?_⟩ | exact .toPt (by simp only [go_sem, reduceCtorEq, reduceIte, Nat.reduceAdd, Nat.reduceEqDiff, Nat.reduceLeDiff, Nat.reduceMul, *] <;> rfl) (by simp [tau]) (by simp) | exact .toRf (by simp only [go_sem, reduceCtorEq, reduceIte, Nat.reduceAdd, Nat.reduceEqDiff, Nat.reduceLeDiff, Nat.reduceMul, *] <;> rfl) (by simp [tau]) (by simp) | exact .same (by simp only [go_sem, reduceCtorEq, reduceIte, Nat.reduceAdd, Nat.reduceEqDiff, Nat.reduceLeDiff, Nat.reduceMul, *] <;> rfl) (by first | rfl | simp [VV.cloL, VV.clo, *]))
        · repeat' (first | exact HConv.nil | refine HConv.same (by decide) (by first | rfl | (simp only [go_sem, reduceCtorEq, reduceIte, Nat.reduceAdd, Nat.reduceEqDiff, Nat.reduceLeDiff, Nat.reduceMul, *] <;> rfl)) (by first | rfl | simp [VV.cloL, VV.clo, *]) ?_)
      | true =>
        have k : (q.block == p.block && (q.cell == p.cell && q.pos == p.pos)) = false := by
          rw [Bool.true_and] at eTi
          rw [← Bool.and_assoc]; exact eTi.symm
        clear eTi
        repeat' (first
          | simp only [go_sem, reduceCtorEq, reduceIte, Nat.reduceAdd, Nat.reduceEqDiff, Nat.reduceLeDiff, Nat.reduceMul, eqCells, eqCell, neg, *]
          | refine gdO_bool' _ (fun _ => ?_) (fun _ => ?_)
          | refine gdO_bool _ (fun _ => ?_) (fun _ => ?_)
          | refine gdD_bool' _ (fun _ => ?_) (fun _ => ?_)
          | refine gdD_bool _ (fun _ => ?_) (fun _ => ?_)
          | refine cdO_bool' _ (fun _ => ?_) (fun _ => ?_)
          | refine cdO_bool _ (fun _ => ?_) (fun _ => ?_)
          | refine callO.pure (by first | exact h62i | exact h35i) ?_
          | refine callW.pure (by first | exact h62i | exact h35i) ?_
          | refine ⟨by decide, ?_⟩
          | refine ppost_t (by simp) rfl ?_)
        refine roundV_of hH hn [0, 1, 2] [(2, _), (3, _), (4, _), (5, _), (6, _)] [(0, _), (1, _), (2, _)] _ ⟨i + 1, hlt, hz', rfl, rfl, rfl, rfl⟩ (by omega) (by simp) (by simp [hm]) ?_ ?_
        · repeat' (first | exact List.forall_mem_nil _ | refine List.forall_mem_cons.2 ⟨?_, ?_⟩ | exact .toPt (by simp only [go_sem, reduceCtorEq, reduceIte, Nat.reduceAdd, Nat.reduceEqDiff, Nat.reduceLeDiff, Nat.reduceMul, *] <;> rfl) (by simp [tau]) (by simp) | exact .toRf (by simp only [go_sem, reduceCtorEq, reduceIte, Nat.reduceAdd, Nat.reduceEqDiff, Nat.reduceLeDiff, Nat.reduceMul, *] <;> rfl) (by simp [tau]) (by simp) | exact .same (by simp only [go_sem, reduceCtorEq, reduceIte, Nat.reduceAdd, Nat.reduceEqDiff, Nat.reduceLeDiff, Nat.reduceMul, *] <;> rfl) (by first | rfl | simp [VV.cloL, VV.clo, *]))
        · repeat' (first | exact HConv.nil | refine HConv.same (by decide) (by first | rfl | (simp only [go_sem, reduceCtorEq, reduceIte, Nat.reduceAdd, Nat.reduceEqDiff, Nat.reduceLeDiff, Nat.reduceMul, *] <;> rfl)) (by first | rfl | simp [VV.cloL, VV.clo, *]) ?_)
  · have g1 : decide ((i : Int) ≤ 24) = false := by simp; omega
    rw [hno i hge hz]
    clear hz hfound hno h35 h62 eT h35i eTi h62i
    repeat' (first
      | simp only [go_sem, reduceCtorEq, reduceIte, Nat.reduceAdd, Nat.reduceEqDiff, Nat.reduceLeDiff, Nat.reduceMul, *]
      | refine gdO_bool' _ (fun _ => ?_) (fun _ => ?_)
      | refine gdO_bool _ (fun _ => ?_) (fun _ => ?_)
      | refine gdD_bool' _ (fun _ => ?_) (fun _ => ?_)
      | refine gdD_bool _ (fun _ => ?_) (fun _ => ?_)
      | refine cdO_bool' _ (fun _ => ?_) (fun _ => ?_)
      | refine cdO_bool _ (fun _ => ?_) (fun _ => ?_)
      | refine ⟨by decide, ?_⟩
      | fail)
    exact ppost_l (by simp) (by simp only [go_sem, reduceCtorEq, reduceIte, Nat.reduceAdd, Nat.reduceEqDiff, Nat.reduceLeDiff, Nat.reduceMul, resV]; rfl) rfl rfl
theorem find_range {t T : Nat → Bool} {n m : Nat} (h : n ≤ m) (h1 : ∀ i, i < n → t i = T i) (h2 : ∀ i, n ≤ i → t i = false) : (List.range m).find? t = (List.range n).find? T := by
  by_cases hex : ∃ i, i < n ∧ T i = true
  · obtain ⟨i, hi, hT⟩ := hex
    have key : ∃ i, i < n ∧ T i = true ∧ ∀ j, j < i → T j = false := by
      induction i using Nat.strongRecOn with
      | ind i ih =>
        by_cases hj : ∃ j, j < i ∧ T j = true
        · obtain ⟨j, hji, hTj⟩ := hj
          exact ih j hji (by omega) hTj
        · refine ⟨i, hi, hT, fun j hji => ?_⟩
          cases hTj : T j with
          | false => rfl
          | true => exact absurd ⟨j, hji, hTj⟩ hj
    obtain ⟨i, hi, hT, hz⟩ := key
    rw [find_at hi hz hT, find_at (i := i) (by omega) (fun j hj => by rw [h1 j (by omega)]; exact hz j hj) (by rw [h1 i hi]; exact hT)]
  · have hz : ∀ i, i < n → T i = false := fun i hi => by
      cases hT : T i with
      | false => rfl
      | true => exact absurd ⟨i, hi, hT⟩ hex
    rw [find_none (Nat.le_refl n) hz, find_none (Nat.le_refl m)]
    intro j _
    by_cases hj : j < n
    · rw [h1 j hj]; exact hz j hj
    · exact h2 j (by omega)
theorem raw_eq (d : Doc) (p : Spot) : rawI d p = rawS d p := by
  have hp : ∀ i : Nat, placeOk docOk d ⟨p.block, p.cell, i⟩ = (placeOk docOk d ⟨p.block, p.cell, 0⟩ && decide (i ≤ rawLen d p)) := by
    intro i
    have e : within (i : Int) 0 ((textAtB (blkAt d p) p.cell).length : Int) = decide (i ≤ rawLen d p) := by
      unfold within rawLen
      rw [Bool.eq_iff_iff]
      simp
    have e0 : within 0 0 ((textAtB (blkAt d p) p.cell).length : Int) = true := by simp [within]
    show (docOk d && within p.block 0 _ && cellIn (blkAt d p) p.cell && within (i : Int) 0 ((textAtB (blkAt d p) p.cell).length : Int)) = ((docOk d && within p.block 0 _ && cellIn (blkAt d p) p.cell && within 0 0 ((textAtB (blkAt d p) p.cell).length : Int)) && _)
    rw [e, e0, Bool.and_true]
  unfold rawI rawS
  cases h0 : placeOk docOk d ⟨p.block, p.cell, 0⟩ with
  | false =>
    simp only [Bool.false_eq_true, if_false]
    rw [find_none (Nat.le_refl 25)]
    · rfl
    · intro j _
      rw [rawI1, hp, h0]; rfl
  | true =>
    simp only [if_true]
    have hlen : rawLen d p ≤ 24 := placeOk_len (p := ⟨p.block, p.cell, 0⟩) h0
    rw [find_range (T := rawT d p) (n := rawLen d p + 1) (by omega)]
    · intro i hi
      have hok : placeOk docOk d ⟨p.block, p.cell, i⟩ = true := by rw [hp, h0]; simp; omega
      have e : spotBy nowB docOk d ⟨p.block, p.cell, i⟩ = ⟨p.block, p.cell, (spotBy nowB docOk d ⟨p.block, p.cell, i⟩).pos⟩ := by rw [spotBy, if_pos hok]
      unfold rawI1 rawT
      rw [hok, e]
      simp
    · intro i hi
      rw [rawI1, hp]
      simp; omega
theorem c6 (d : Doc) (p : Spot) (hd : docLen d) : PureC prog 6 [.agg [encB d], .agg p.enc] (.sc (.bool true)) := by
  have h31 := c31 d 1048576 (by omega) (by omega) hd.1 hd.2
  rcases Nat.lt_or_ge 1048576 (wD d) with hbig | hsm
  · rw [cutI_neg (by omega)] at h31
    have k1 : decide ((-1 : Int) < 0) = true := by decide
    unfold encB at *
    unfold Spot.enc
    clear hd
    refine pureC_of k6 (by first | rfl | simp [VV.cloL, VV.clo, *]) (by first | rfl | simp [VV.cloL, VV.clo, *]) (by simp) ?_
    intro X hP hm hH hn hX
    refine vwp_ok _ ?_
    unfold vc6
    repeat' (first
      | simp only [go_sem, reduceCtorEq, reduceIte, Nat.reduceAdd, Nat.reduceEqDiff, Nat.reduceLeDiff, Nat.reduceMul, *]
      | refine gdO_bool' _ (fun _ => ?_) (fun _ => ?_)
      | refine gdO_bool _ (fun _ => ?_) (fun _ => ?_)
      | refine gdD_bool' _ (fun _ => ?_) (fun _ => ?_)
      | refine gdD_bool _ (fun _ => ?_) (fun _ => ?_)
      | refine cdO_bool' _ (fun _ => ?_) (fun _ => ?_)
      | refine cdO_bool _ (fun _ => ?_) (fun _ => ?_)
      | refine callO.pure (by first | exact h31) ?_
      | refine callW.pure (by first | exact h31) ?_
      | refine ⟨by decide, ?_⟩
      | refine ppost_t (by simp) rfl ?_)
  · rw [cutI_pos (by omega)] at h31
    have hti := wD_ti hsm
    have k1 : decide (1048576 - (wD d : Int) < 0) = false := by simp; omega
    have h33 := c33 d hti
    have h34 := c34 p
    have h32 := c42 d p
    have h35 := c43 d p (ti_sm hti)
    rw [raw_eq] at h35
    have h36 := c36 (rawS d p).1 (rawS d p).1
    simp only [beq_self_eq_true, Bool.and_self] at h36
    have h37 := c37 d (ti_62 hti).1 (ti_62 hti).2
    generalize (rawS d p).1 = q at *
    generalize (rawS d p).2 = b at *
    unfold encB Spot.enc at *
    clear hd hti hsm
    refine pureC_of k6 (by first | rfl | simp [VV.cloL, VV.clo, *]) (by first | rfl | simp [VV.cloL, VV.clo, *]) (by simp) ?_
    intro X hP hm hH hn hX
    refine vwp_ok _ ?_
    unfold vc6
    repeat' (first
      | simp only [go_sem, reduceCtorEq, reduceIte, Nat.reduceAdd, Nat.reduceEqDiff, Nat.reduceLeDiff, Nat.reduceMul, neg, beq_self_eq_true, bne_self_eq_false, *]
      | refine gdO_bool' _ (fun _ => ?_) (fun _ => ?_)
      | refine gdO_bool _ (fun _ => ?_) (fun _ => ?_)
      | refine gdD_bool' _ (fun _ => ?_) (fun _ => ?_)
      | refine gdD_bool _ (fun _ => ?_) (fun _ => ?_)
      | refine cdO_bool' _ (fun _ => ?_) (fun _ => ?_)
      | refine cdO_bool _ (fun _ => ?_) (fun _ => ?_)
      | refine callO.pure (by first | exact h31 | exact h33 | exact h34 | exact h32 | exact h35 | exact h36 | exact h37) ?_
      | refine callW.pure (by first | exact h31 | exact h33 | exact h34 | exact h32 | exact h35 | exact h36 | exact h37) ?_
      | refine ⟨by decide, ?_⟩
      | refine ppost_t (by simp) rfl ?_)
end Go.Proofs.Ytdmmhainianadaa

/- MU: names in lists that bear none. -/
namespace Go.Lim
open Go.VM
theorem mapF_clo {α : Type} {enc : α → List VV} (h : ∀ x, VV.cloL (enc x) = true) : ∀ l : List α, VV.cloL (l.map enc).flatten = true
  | [] => rfl
  | x :: l => by rw [List.map_cons, List.flatten_cons, cloL_app, h, mapF_clo h l]; rfl
where
  cloL_app : ∀ (xs ys : List VV), VV.cloL (xs ++ ys) = (VV.cloL xs && VV.cloL ys)
    | [], ys => by simp [VV.cloL]
    | x :: xs, ys => by simp only [List.cons_append, VV.cloL, cloL_app xs ys, Bool.and_assoc]
theorem under_signs {m : Nat} (l : List Sign) : VV.underL m (l.map Sign.enc).flatten = true := cloL_under _ (mapF_clo (fun _ => rfl) l)
theorem under_cells {m : Nat} (l : List Cell) : VV.underL m (l.map Cell.enc).flatten = true := cloL_under _ (mapF_clo (fun _ => rfl) l)
theorem under_blocks {m : Nat} (l : List Block) : VV.underL m (l.map Block.enc).flatten = true := cloL_under _ (mapF_clo (fun _ => rfl) l)
theorem ren_signs {σ : Nat → Nat} (l : List Sign) : VV.renL σ (l.map Sign.enc).flatten = (l.map Sign.enc).flatten := ren_cloL _ (mapF_clo (fun _ => rfl) l)
theorem ren_cells {σ : Nat → Nat} (l : List Cell) : VV.renL σ (l.map Cell.enc).flatten = (l.map Cell.enc).flatten := ren_cloL _ (mapF_clo (fun _ => rfl) l)
theorem ren_blocks {σ : Nat → Nat} (l : List Block) : VV.renL σ (l.map Block.enc).flatten = (l.map Block.enc).flatten := ren_cloL _ (mapF_clo (fun _ => rfl) l)
attribute [go_sem] ren_signs ren_cells ren_blocks
end Go.Lim

/- F23: the reader of drawn codes. -/
namespace Go.Proofs.Ytdmmhainianadaa
open Go.VM Go.Lim Go.Proofs.Try
attribute [local irreducible] vwp vops vstep vdr vdr1 CallP PPost SWv gdO gdD cdO optV optW optD thenV blockV behind callO callW callvO roundV
set_option linter.unusedSimpArgs false
set_option linter.unusedVariables false
/- (*loop.example/limner/spec.l6Rd).pick -/
def vc102 : VCode :=
(.seq (.reg [⟨(some 4), (.mov (.const (.int .i64 0))), none⟩])
(.seq (.reg [⟨(some 7), (.mov (.tmp 0)), none⟩, ⟨(some 8), (.mov (.tmp 0)), none⟩, ⟨(some 9), (.nilc (.tmp 8)), none⟩, ⟨(some 10), (.fad 1 (.tmp 9)), none⟩, ⟨(some 11), (.load false 1 (.tmp 10)), none⟩, ⟨(some 12), (.bin .add .no (.tmp 11) (.const (.int .i64 1))), none⟩, ⟨(some 13), (.nilc (.tmp 7)), none⟩, ⟨(some 14), (.fad 1 (.tmp 13)), none⟩, ⟨none, (.store 1 (.tmp 14) (.tmp 12)), none⟩])
(.seq (.seq (.reg [⟨(some 15), (.mov (.tmp 1)), none⟩, ⟨(some 16), (.bin .lss .no (.tmp 15) (.const (.int .i64 1))), none⟩, ⟨(some 17), (.mov (.tmp 16)), none⟩, ⟨(some 18), (.mov (.tmp 0)), (some (17, false))⟩, ⟨(some 19), (.nilc (.tmp 18)), (some (17, false))⟩, ⟨(some 20), (.fad 0 (.tmp 19)), (some (17, false))⟩, ⟨(some 21), (.load false 1 (.tmp 20)), (some (17, false))⟩, ⟨(some 22), (.len false (.tmp 21)), (some (17, false))⟩, ⟨(some 23), (.bin .eql .no (.tmp 22) (.const (.int .i64 0))), (some (17, false))⟩, ⟨(some 24), (.pick (.tmp 17) (.const (.bool true)) (.tmp 23)), none⟩])
(.cond (.tmp 24) (.seq (.reg [⟨(some 4), (.mov (.const (.int .i64 0))), none⟩])
 .ret)
 .skip))
(.seq (.reg [⟨(some 25), (.mov (.tmp 0)), none⟩, ⟨(some 26), (.nilc (.tmp 25)), none⟩, ⟨(some 27), (.fad 1 (.tmp 26)), none⟩, ⟨(some 28), (.load false 1 (.tmp 27)), none⟩, ⟨(some 29), (.bin .sub .no (.tmp 28) (.const (.int .i64 1))), none⟩, ⟨(some 5), (.mov (.tmp 29)), none⟩])
(.seq (.seq (.reg [⟨(some 30), (.mov (.tmp 5)), none⟩, ⟨(some 31), (.mov (.tmp 0)), none⟩, ⟨(some 32), (.nilc (.tmp 31)), none⟩, ⟨(some 33), (.fad 0 (.tmp 32)), none⟩, ⟨(some 34), (.load false 1 (.tmp 33)), none⟩, ⟨(some 35), (.len false (.tmp 34)), none⟩, ⟨(some 36), (.bin .lss .no (.tmp 30) (.tmp 35)), none⟩])
(.cond (.tmp 36) (.seq (.reg [⟨(some 37), (.mov (.tmp 0)), none⟩, ⟨(some 38), (.nilc (.tmp 37)), none⟩, ⟨(some 39), (.fad 0 (.tmp 38)), none⟩, ⟨(some 40), (.load false 1 (.tmp 39)), none⟩, ⟨(some 41), (.mov (.tmp 5)), none⟩, ⟨(some 42), (.iad 1 (.tmp 40) (.tmp 41)), none⟩, ⟨(some 43), (.load false 1 (.tmp 42)), none⟩, ⟨(some 44), (.cint .i64 (.tmp 43)), none⟩, ⟨(some 45), (.mov (.tmp 1)), none⟩, ⟨(some 46), (.bin .rem .no (.tmp 44) (.tmp 45)), none⟩, ⟨(some 4), (.mov (.tmp 46)), none⟩])
 .ret)
 .skip))
(.seq (.drw [(⟨(some 47), (.mov (.tmp 0)), none⟩, []), (⟨(some 48), (.nilc (.tmp 47)), none⟩, []), (⟨(some 49), (.fad 0 (.tmp 48)), none⟩, []), (⟨(some 50), (.load false 1 (.tmp 49)), none⟩, []), (⟨(some 51), (.mov (.tmp 5)), none⟩, []), (⟨(some 52), (.mov (.tmp 0)), none⟩, []), (⟨(some 53), (.nilc (.tmp 52)), none⟩, []), (⟨(some 54), (.fad 0 (.tmp 53)), none⟩, []), (⟨(some 55), (.load false 1 (.tmp 54)), none⟩, [3]), (⟨(some 56), (.len false (.tmp 55)), none⟩, []), (⟨(some 57), (.bin .rem .no (.tmp 51) (.tmp 56)), none⟩, []), (⟨(some 58), (.iad 1 (.tmp 50) (.tmp 57)), none⟩, []), (⟨(some 59), (.load false 1 (.tmp 58)), none⟩, []), (⟨(some 60), (.cint .i64 (.tmp 59)), none⟩, []), (⟨(some 61), (.bin .mul .no (.tmp 60) (.const (.int .i64 131))), none⟩, []), (⟨(some 62), (.mov (.tmp 0)), none⟩, []), (⟨(some 63), (.nilc (.tmp 62)), none⟩, []), (⟨(some 64), (.fad 0 (.tmp 63)), none⟩, []), (⟨(some 65), (.load false 1 (.tmp 64)), none⟩, [3, 8, 12]), (⟨(some 66), (.mov (.tmp 5)), none⟩, []), (⟨(some 67), (.bin .mul .no (.tmp 66) (.const (.int .i64 7))), none⟩, []), (⟨(some 68), (.bin .add .no (.tmp 67) (.const (.int .i64 3))), none⟩, []), (⟨(some 69), (.mov (.tmp 0)), none⟩, []), (⟨(some 70), (.nilc (.tmp 69)), none⟩, []), (⟨(some 71), (.fad 0 (.tmp 70)), none⟩, []), (⟨(some 72), (.load false 1 (.tmp 71)), none⟩, [3, 8, 12, 18]), (⟨(some 73), (.len false (.tmp 72)), none⟩, []), (⟨(some 74), (.bin .rem .no (.tmp 68) (.tmp 73)), none⟩, []), (⟨(some 75), (.iad 1 (.tmp 65) (.tmp 74)), none⟩, []), (⟨(some 76), (.load false 1 (.tmp 75)), none⟩, [3, 8, 12]), (⟨(some 77), (.cint .i64 (.tmp 76)), none⟩, []), (⟨(some 78), (.bin .mul .no (.tmp 77) (.const (.int .i64 1117))), none⟩, []), (⟨(some 79), (.bin .add .no (.tmp 61) (.tmp 78)), none⟩, []), (⟨(some 80), (.mov (.tmp 5)), none⟩, []), (⟨(some 81), (.bin .mul .no (.tmp 80) (.const (.int .i64 29))), none⟩, []), (⟨(some 82), (.bin .add .no (.tmp 79) (.tmp 81)), none⟩, []), (⟨(some 83), (.mov (.tmp 5)), none⟩, []), (⟨(some 84), (.mov (.tmp 0)), none⟩, []), (⟨(some 85), (.nilc (.tmp 84)), none⟩, []), (⟨(some 86), (.fad 0 (.tmp 85)), none⟩, []), (⟨(some 87), (.load false 1 (.tmp 86)), none⟩, [3, 8, 12, 18, 25, 29]), (⟨(some 88), (.len false (.tmp 87)), none⟩, []), (⟨(some 89), (.bin .quo .no (.tmp 83) (.tmp 88)), none⟩, []), (⟨(some 90), (.bin .mul .no (.tmp 89) (.const (.int .i64 53))), none⟩, []), (⟨(some 91), (.bin .add .no (.tmp 82) (.tmp 90)), none⟩, []), (⟨(some 6), (.mov (.tmp 91)), none⟩, [])])
(.seq (.reg [⟨(some 92), (.mov (.tmp 6)), none⟩, ⟨(some 93), (.mov (.tmp 6)), none⟩, ⟨(some 94), (.bin .quo .no (.tmp 93) (.const (.int .i64 64))), none⟩, ⟨(some 95), (.bin .xor .no (.tmp 92) (.tmp 94)), none⟩, ⟨(some 6), (.mov (.tmp 95)), none⟩])
(.seq (.reg [⟨(some 96), (.mov (.tmp 6)), none⟩, ⟨(some 97), (.mov (.tmp 1)), none⟩, ⟨(some 98), (.bin .rem .no (.tmp 96) (.tmp 97)), none⟩, ⟨(some 4), (.mov (.tmp 98)), none⟩])
.ret))))))))
theorem k102 : compFn prog 102 = some (99, vc102, [.t 4]) := by kernel_rfl
/- loop.example/limner/spec.l6Open -/
def vc100 : VCode :=
(.seq (.reg [⟨(some 2), (.mov (.const (.pointer none))), none⟩])
(.seq (.seq (.reg [⟨(some 3), (.mov (.tmp 0)), none⟩, ⟨(some 4), (.len false (.tmp 3)), none⟩, ⟨(some 5), (.bin .gtr .no (.tmp 4) (.const (.int .i64 2000))), none⟩])
(.cond (.tmp 5) (.reg [⟨(some 6), (.mov (.tmp 0)), none⟩, ⟨(some 7), (.slice 1 (.tmp 6) none (some (.const (.int .i64 2000)))), none⟩, ⟨(some 0), (.mov (.tmp 7)), none⟩])
 .skip))
(.seq (.reg [⟨(some 8), (.mov (.tmp 0)), none⟩, ⟨(some 9), (.build [(.slice none 0 0), (.int .i64 0)] [(0, 1, (.tmp 8))]), none⟩, ⟨(some 10), (.box (.tmp 9)), none⟩, ⟨(some 2), (.mov (.tmp 10)), none⟩])
.ret)))
theorem k100 : compFn prog 100 = some (11, vc100, [.t 2]) := by kernel_rfl
def xorI (a b : Int) : Int := IntKind.i64.wrap (BitVec.ofInt IntKind.i64.bits a ^^^ BitVec.ofInt IntKind.i64.bits b).toNat
theorem xorI_bound {a b : Int} (ha : 0 ≤ a ∧ a < 70368744177664) (hb : 0 ≤ b ∧ b < 70368744177664) : 0 ≤ xorI a b ∧ xorI a b < 70368744177664 := by
  have e : (BitVec.ofInt IntKind.i64.bits a ^^^ BitVec.ofInt IntKind.i64.bits b).toNat = a.toNat ^^^ b.toNat := by
    have ea : (BitVec.ofInt IntKind.i64.bits a).toNat = a.toNat := by
      rw [BitVec.toNat_ofInt]
      show (a % (2 ^ 64 : Int)).toNat = _
      omega
    have eb : (BitVec.ofInt IntKind.i64.bits b).toNat = b.toNat := by
      rw [BitVec.toNat_ofInt]
      show (b % (2 ^ 64 : Int)).toNat = _
      omega
    rw [BitVec.toNat_xor, ea, eb]
  have hlt : a.toNat ^^^ b.toNat < 2 ^ 46 := Nat.xor_lt_two_pow (by omega) (by omega)
  unfold xorI
  rw [e, wrap_id (by omega) (by omega)]
  omega
theorem tmod_bound {a n : Int} (ha : 0 ≤ a) (hn : 1 ≤ n) : 0 ≤ a.tmod n ∧ a.tmod n < n := ⟨Int.tmod_nonneg n ha, Int.tmod_lt_of_pos a (by omega)⟩
theorem tdiv_bound {a n : Int} (ha : 0 ≤ a) (hn : 1 ≤ n) : 0 ≤ a.tdiv n ∧ a.tdiv n ≤ a := by
  rw [Int.tdiv_eq_ediv_of_nonneg ha]
  exact ⟨Int.ediv_nonneg ha (by omega), Int.ediv_le_self n ha⟩
theorem byte_at {b : List Int} {j : Int} (h0 : 0 ≤ j) (h1 : j < b.length) (hb : ∀ x ∈ b, 0 ≤ x ∧ x < 256) : ∃ a, (0 ≤ a ∧ a < 256) ∧ (b.map fun x => [VV.sc (.int .u8 x)]).getD j.toNat [] = [VV.sc (.int .u8 a)] := by
  have hl : j.toNat < b.length := by omega
  exact ⟨b[j.toNat], hb _ (List.getElem_mem hl), by simp [List.getD_eq_getElem?_getD, hl]⟩
theorem c102 (b : List Int) (p n : Int) (h0 : 0 ≤ p) (h1 : p < 1073741824) (hb : ∀ x ∈ b, 0 ≤ x ∧ x < 256) (hbl : b.length ≤ 2000) : ∃ v : Int, (0 ≤ v ∧ (1 ≤ n → v < n)) ∧ ObjC prog 102 [.pt 0 0, .sc (.int .i64 n)] [[encBy b, .sc (.int .i64 p)]] (.sc (.int .i64 v)) [(0, [encBy b, .sc (.int .i64 (p + 1))])] 1 := by
  have w1 : IntKind.i64.wrap (p + 1) = p + 1 := wrap_id (by omega) (by omega)
  have w2 : IntKind.i64.wrap (p + 1 - 1) = p := by rw [wrap_id] <;> omega
  unfold encBy
  rcases Int.lt_or_le n 1 with hn1 | hn1
  · have g1 : decide (n < 1) = true := by simpa using hn1
    refine ⟨0, ⟨by omega, by omega⟩, ?_⟩
    refine objC_of k102 (by simp) (by simp) (by first | rfl | simp [wfO, VV.underL, VV.under, under_signs, under_cells, under_blocks, *]) ?_
    intro X hP hm hH hn hX
    change X.n = 1 at hn
    refine vwp_ok _ ?_
    unfold vc102
    repeat' (first
      | simp only [go_sem, reduceCtorEq, reduceIte, Nat.reduceAdd, Nat.reduceEqDiff, Nat.reduceLeDiff, Nat.reduceMul, *]
      | refine gdO_bool' _ (fun _ => ?_) (fun _ => ?_)
      | refine gdO_bool _ (fun _ => ?_) (fun _ => ?_)
      | refine gdD_bool' _ (fun _ => ?_) (fun _ => ?_)
      | refine gdD_bool _ (fun _ => ?_) (fun _ => ?_)
      | refine cdO_bool' _ (fun _ => ?_) (fun _ => ?_)
      | refine cdO_bool _ (fun _ => ?_) (fun _ => ?_)
      | refine ⟨by decide, ?_⟩
      | fail)
    refine ⟨by simp, _, by simp only [go_sem, reduceCtorEq, reduceIte, Nat.reduceAdd, Nat.reduceEqDiff, Nat.reduceLeDiff, Nat.reduceMul, resV]; rfl, EndV.of hn [0] [(0, _)] (by simp) (by decide) (by simp) (.clo rfl) ?_⟩
    repeat' (first | exact HConv.nil | refine HConv.same (by decide) (by first | rfl | (simp only [go_sem, reduceCtorEq, reduceIte, Nat.reduceAdd, Nat.reduceEqDiff, Nat.reduceLeDiff, Nat.reduceMul, *] <;> rfl)) (by first | rfl | simp [VV.cloL, VV.clo, *]) ?_)
  have g1 : decide (n < 1) = false := by simp; omega
  have g0 : ¬ n = 0 := by omega
  rcases Nat.eq_zero_or_pos b.length with hL | hL
  · have g2 : ((b.length : Int) == 0) = true := by simp [hL]
    refine ⟨0, ⟨by omega, by omega⟩, ?_⟩
    clear hL
    refine objC_of k102 (by simp) (by simp) (by first | rfl | simp [wfO, VV.underL, VV.under, under_signs, under_cells, under_blocks, *]) ?_
    intro X hP hm hH hn hX
    change X.n = 1 at hn
    refine vwp_ok _ ?_
    unfold vc102
    repeat' (first
      | simp only [go_sem, reduceCtorEq, reduceIte, Nat.reduceAdd, Nat.reduceEqDiff, Nat.reduceLeDiff, Nat.reduceMul, *]
      | refine gdO_bool' _ (fun _ => ?_) (fun _ => ?_)
      | refine gdO_bool _ (fun _ => ?_) (fun _ => ?_)
      | refine gdD_bool' _ (fun _ => ?_) (fun _ => ?_)
      | refine gdD_bool _ (fun _ => ?_) (fun _ => ?_)
      | refine cdO_bool' _ (fun _ => ?_) (fun _ => ?_)
      | refine cdO_bool _ (fun _ => ?_) (fun _ => ?_)
      | refine ⟨by decide, ?_⟩
      | fail)
    refine ⟨by simp, _, by simp only [go_sem, reduceCtorEq, reduceIte, Nat.reduceAdd, Nat.reduceEqDiff, Nat.reduceLeDiff, Nat.reduceMul, resV]; rfl, EndV.of hn [0] [(0, _)] (by simp) (by decide) (by simp) (.clo rfl) ?_⟩
    repeat' (first | exact HConv.nil | refine HConv.same (by decide) (by first | rfl | (simp only [go_sem, reduceCtorEq, reduceIte, Nat.reduceAdd, Nat.reduceEqDiff, Nat.reduceLeDiff, Nat.reduceMul, *] <;> rfl)) (by first | rfl | simp [VV.cloL, VV.clo, *]) ?_)
  have g2 : ((b.length : Int) == 0) = false := by simp only [beq_eq_false_iff_ne, ne_eq]; omega
  have g64 : ¬ (64 : Int) = 0 := by decide
  have g3 : ¬ (b.length : Int) = 0 := by omega
  rcases Int.lt_or_le p b.length with hp | hp
  · have g4 : decide (p < (b.length : Int)) = true := by simpa using hp
    obtain ⟨a, ha, e1⟩ := byte_at h0 hp hb
    have w3 : IntKind.i64.wrap a = a := wrap_id (by omega) (by omega)
    refine ⟨a.tmod n, ⟨(tmod_bound ha.1 hn1).1, fun _ => (tmod_bound ha.1 hn1).2⟩, ?_⟩
    clear ha hL
    refine objC_of k102 (by simp) (by simp) (by first | rfl | simp [wfO, VV.underL, VV.under, under_signs, under_cells, under_blocks, *]) ?_
    intro X hP hm hH hn hX
    change X.n = 1 at hn
    refine vwp_ok _ ?_
    unfold vc102
    repeat' (first
      | simp only [go_sem, reduceCtorEq, reduceIte, Nat.reduceAdd, Nat.reduceEqDiff, Nat.reduceLeDiff, Nat.reduceMul, *]
      | refine gdO_bool' _ (fun _ => ?_) (fun _ => ?_)
      | refine gdO_bool _ (fun _ => ?_) (fun _ => ?_)
      | refine gdD_bool' _ (fun _ => ?_) (fun _ => ?_)
      | refine gdD_bool _ (fun _ => ?_) (fun _ => ?_)
      | refine cdO_bool' _ (fun _ => ?_) (fun _ => ?_)
      | refine cdO_bool _ (fun _ => ?_) (fun _ => ?_)
      | refine ⟨by decide, ?_⟩
      | fail)
    refine ⟨by simp, _, by simp only [go_sem, reduceCtorEq, reduceIte, Nat.reduceAdd, Nat.reduceEqDiff, Nat.reduceLeDiff, Nat.reduceMul, resV]; rfl, EndV.of hn [0] [(0, _)] (by simp) (by decide) (by simp) (.clo rfl) ?_⟩
    repeat' (first | exact HConv.nil | refine HConv.same (by decide) (by first | rfl | (simp only [go_sem, reduceCtorEq, reduceIte, Nat.reduceAdd, Nat.reduceEqDiff, Nat.reduceLeDiff, Nat.reduceMul, *] <;> rfl)) (by first | rfl | simp [VV.cloL, VV.clo, *]) ?_)
  · have g4 : decide (p < (b.length : Int)) = false := by simp; omega
    have k1 := tmod_bound (n := (b.length : Int)) h0 (by omega)
    obtain ⟨a1, ha1, e1⟩ := byte_at k1.1 k1.2 hb
    have k2 := tmod_bound (a := p * 7 + 3) (n := (b.length : Int)) (by omega) (by omega)
    obtain ⟨a2, ha2, e2⟩ := byte_at k2.1 k2.2 hb
    have k3 := tdiv_bound (n := (b.length : Int)) h0 (by omega)
    have w3 : IntKind.i64.wrap a1 = a1 := wrap_id (by omega) (by omega)
    have w4 : IntKind.i64.wrap a2 = a2 := wrap_id (by omega) (by omega)
    have w5 : IntKind.i64.wrap (p * 7) = p * 7 := wrap_id (by omega) (by omega)
    have w6 : IntKind.i64.wrap (p * 7 + 3) = p * 7 + 3 := wrap_id (by omega) (by omega)
    have w7 : IntKind.i64.wrap (a1 * 131) = a1 * 131 := wrap_id (by omega) (by omega)
    have w8 : IntKind.i64.wrap (a2 * 1117) = a2 * 1117 := wrap_id (by omega) (by omega)
    have w9 : IntKind.i64.wrap (p * 29) = p * 29 := wrap_id (by omega) (by omega)
    have w10 : IntKind.i64.wrap (p.tdiv b.length) = p.tdiv b.length := wrap_id (by omega) (by omega)
    have w11 : IntKind.i64.wrap (p.tdiv b.length * 53) = p.tdiv b.length * 53 := wrap_id (by omega) (by omega)
    have w12 : IntKind.i64.wrap (a1 * 131 + a2 * 1117) = a1 * 131 + a2 * 1117 := wrap_id (by omega) (by omega)
    have w13 : IntKind.i64.wrap (a1 * 131 + a2 * 1117 + p * 29) = a1 * 131 + a2 * 1117 + p * 29 := wrap_id (by omega) (by omega)
    have w14 : IntKind.i64.wrap (a1 * 131 + a2 * 1117 + p * 29 + p.tdiv b.length * 53) = a1 * 131 + a2 * 1117 + p * 29 + p.tdiv b.length * 53 := wrap_id (by omega) (by omega)
    have k4 : 0 ≤ a1 * 131 + a2 * 1117 + p * 29 + p.tdiv b.length * 53 ∧ a1 * 131 + a2 * 1117 + p * 29 + p.tdiv b.length * 53 < 70368744177664 - 1 := by omega
    have k5 := tdiv_bound (n := 64) k4.1 (by omega)
    have w15 : IntKind.i64.wrap ((a1 * 131 + a2 * 1117 + p * 29 + p.tdiv b.length * 53).tdiv 64) = (a1 * 131 + a2 * 1117 + p * 29 + p.tdiv b.length * 53).tdiv 64 := wrap_id (by omega) (by omega)
    have k6 := xorI_bound (a := a1 * 131 + a2 * 1117 + p * 29 + p.tdiv b.length * 53) (b := (a1 * 131 + a2 * 1117 + p * 29 + p.tdiv b.length * 53).tdiv 64) (by omega) (by omega)
    have k7 := tmod_bound k6.1 hn1
    obtain ⟨m1, m2⟩ := k1
    obtain ⟨m3, m4⟩ := k2
    refine ⟨(xorI (a1 * 131 + a2 * 1117 + p * 29 + p.tdiv b.length * 53) ((a1 * 131 + a2 * 1117 + p * 29 + p.tdiv b.length * 53).tdiv 64)).tmod n, ⟨k7.1, fun _ => k7.2⟩, ?_⟩
    clear k4 k5 k6 k7 ha1 ha2 k3 hL hb
    unfold xorI
    refine objC_of k102 (by simp) (by simp) (by first | rfl | simp [wfO, VV.underL, VV.under, under_signs, under_cells, under_blocks, *]) ?_
    intro X hP hm hH hn hX
    change X.n = 1 at hn
    refine vwp_ok _ ?_
    unfold vc102
    repeat' (first
      | simp only [go_sem, reduceCtorEq, reduceIte, Nat.reduceAdd, Nat.reduceEqDiff, Nat.reduceLeDiff, Nat.reduceMul, *]
      | refine gdO_bool' _ (fun _ => ?_) (fun _ => ?_)
      | refine gdO_bool _ (fun _ => ?_) (fun _ => ?_)
      | refine gdD_bool' _ (fun _ => ?_) (fun _ => ?_)
      | refine gdD_bool _ (fun _ => ?_) (fun _ => ?_)
      | refine cdO_bool' _ (fun _ => ?_) (fun _ => ?_)
      | refine cdO_bool _ (fun _ => ?_) (fun _ => ?_)
      | refine ⟨by decide, ?_⟩
      | fail)
    refine ⟨by simp, _, by simp only [go_sem, reduceCtorEq, reduceIte, Nat.reduceAdd, Nat.reduceEqDiff, Nat.reduceLeDiff, Nat.reduceMul, resV]; rfl, EndV.of hn [0] [(0, _)] (by simp) (by decide) (by simp) (.clo rfl) ?_⟩
    repeat' (first | exact HConv.nil | refine HConv.same (by decide) (by first | rfl | (simp only [go_sem, reduceCtorEq, reduceIte, Nat.reduceAdd, Nat.reduceEqDiff, Nat.reduceLeDiff, Nat.reduceMul, *] <;> rfl)) (by first | rfl | simp [VV.cloL, VV.clo, *]) ?_)
end Go.Proofs.Ytdmmhainianadaa

/- F24: drawn texts. -/
namespace Go.Proofs.Ytdmmhainianadaa
open Go.VM Go.Lim Go.Proofs.Try
attribute [local irreducible] vwp vops vstep vdr vdr1 CallP PPost SWv gdO gdD cdO optV optW optD thenV blockV behind callO callW callvO roundV
set_option linter.unusedSimpArgs false
set_option linter.unusedVariables false
/- loop.example/limner/spec.l71Text -/
def vc193 : VCode :=
(.seq (.reg [⟨(some 4), (.mov (.const (.slice none 0 0))), none⟩])
(.seq (.reg [⟨(some 8), (.bslice 3 0 [(.int .u8 0), (.int .i64 0), (.int .i64 0)] []), none⟩, ⟨(some 5), (.mov (.tmp 8)), none⟩])
(.seq (.seq (.reg [⟨(some 9), (.mov (.tmp 0)), none⟩, ⟨(some 10), (.mov (.tmp 1)), none⟩, ⟨(some 11), (.bin .add .no (.tmp 10) (.const (.int .i64 1))), none⟩, ⟨(some 12), (.call 102 [(.tmp 9), (.tmp 11)]), none⟩, ⟨(some 6), (.mov (.tmp 12)), none⟩])
(.block 0 (.loop (.seq (.seq (.reg [⟨(some 13), (.mov (.tmp 6)), none⟩, ⟨(some 14), (.bin .gtr .no (.tmp 13) (.const (.int .i64 0))), none⟩])
  (.cond (.tmp 14) .skip
   (.exit 0)))
  (.seq (.block 1 (.seq (.reg [⟨(some 17), (.bslice 1 6 [(.int .u8 0)] [(0, 1, (.const (.int .u8 97))), (1, 1, (.const (.int .u8 98))), (2, 1, (.const (.int .u8 122))), (3, 1, (.const (.int .u8 32))), (4, 1, (.const (.int .u8 48))), (5, 1, (.const (.int .u8 57)))]), none⟩, ⟨(some 18), (.mov (.tmp 0)), none⟩, ⟨(some 19), (.call 102 [(.tmp 18), (.const (.int .i64 6))]), none⟩, ⟨(some 20), (.iad 1 (.tmp 17) (.tmp 19)), none⟩, ⟨(some 21), (.load false 1 (.tmp 20)), none⟩, ⟨(some 22), (.build [(.int .u8 0), (.int .i64 0), (.int .i64 0)] [(0, 1, (.tmp 21))]), none⟩, ⟨(some 7), (.new [(.int .u8 0), (.int .i64 0), (.int .i64 0)]), none⟩, ⟨none, (.store 3 (.tmp 7) (.tmp 22)), none⟩])
   (.seq (.seq (.reg [⟨(some 23), (.mov (.tmp 0)), none⟩, ⟨(some 24), (.call 102 [(.tmp 23), (.const (.int .i64 5))]), none⟩])
   (.block 2 (.seq (.reg [⟨(some 26), (.bin .eql .no (.tmp 24) (.const (.int .i64 0))), none⟩, ⟨(some 25), (.mov (.tmp 26)), none⟩])
    (.cond (.tmp 25) (.reg [⟨(some 27), (.mov (.tmp 0)), none⟩, ⟨(some 28), (.call 102 [(.tmp 27), (.const (.int .i64 3))]), none⟩, ⟨(some 29), (.bin .add .no (.const (.int .i64 1)) (.tmp 28)), none⟩, ⟨(some 30), (.fad 1 (.tmp 7)), none⟩, ⟨none, (.store 1 (.tmp 30) (.tmp 29)), none⟩])
     (.seq (.reg [⟨(some 32), (.bin .eql .no (.tmp 24) (.const (.int .i64 1))), none⟩, ⟨(some 31), (.mov (.tmp 32)), none⟩])
     (.cond (.tmp 31) (.reg [⟨(some 33), (.mov (.tmp 0)), none⟩, ⟨(some 34), (.call 102 [(.tmp 33), (.const (.int .i64 3))]), none⟩, ⟨(some 35), (.bin .add .no (.const (.int .i64 1)) (.tmp 34)), none⟩, ⟨(some 36), (.fad 2 (.tmp 7)), none⟩, ⟨none, (.store 1 (.tmp 36) (.tmp 35)), none⟩])
      (.seq (.reg [⟨(some 38), (.bin .eql .no (.tmp 24) (.const (.int .i64 2))), none⟩, ⟨(some 37), (.mov (.tmp 38)), none⟩])
      (.cond (.tmp 37) (.seq (.reg [⟨(some 39), (.mov (.tmp 0)), none⟩, ⟨(some 40), (.call 102 [(.tmp 39), (.const (.int .i64 3))]), none⟩, ⟨(some 41), (.bin .add .no (.const (.int .i64 1)) (.tmp 40)), none⟩, ⟨(some 42), (.fad 1 (.tmp 7)), none⟩, ⟨none, (.store 1 (.tmp 42) (.tmp 41)), none⟩])
       (.reg [⟨(some 43), (.fad 1 (.tmp 7)), none⟩, ⟨(some 44), (.load false 1 (.tmp 43)), none⟩, ⟨(some 45), (.bin .rem .no (.tmp 44) (.const (.int .i64 3))), none⟩, ⟨(some 46), (.bin .add .no (.tmp 45) (.const (.int .i64 1))), none⟩, ⟨(some 47), (.fad 2 (.tmp 7)), none⟩, ⟨none, (.store 1 (.tmp 47) (.tmp 46)), none⟩]))
       .skip))))))))
   (.reg [⟨(some 48), (.mov (.tmp 5)), none⟩, ⟨(some 49), (.load true 3 (.tmp 7)), none⟩, ⟨(some 50), (.bslice 3 1 [(.int .u8 0), (.int .i64 0), (.int .i64 0)] [(0, 3, (.tmp 49))]), none⟩, ⟨(some 51), (.app 3 24 (.tmp 48) (.tmp 50)), none⟩, ⟨(some 5), (.mov (.tmp 51)), none⟩]))))
  (.reg [⟨(some 15), (.mov (.tmp 6)), none⟩, ⟨(some 16), (.bin .sub .no (.tmp 15) (.const (.int .i64 1))), none⟩, ⟨(some 6), (.mov (.tmp 16)), none⟩]))))))
(.seq (.reg [⟨(some 52), (.mov (.tmp 5)), none⟩, ⟨(some 4), (.mov (.tmp 52)), none⟩])
.ret))))
theorem k193 : compFn prog 193 = some (53, vc193, [.t 4]) := by kernel_rfl
theorem c100 (l : List Int) : ObjC prog 100 [encBy l] [] (.pt 0 0) [(0, [encBy (l.take 2000), .sc (.int .i64 0)])] 1 := by
  unfold encBy
  rcases Nat.lt_or_ge 2000 l.length with h | h
  · have g1 : decide ((l.length : Int) > 2000) = true := by simp; omega
    have g2 : 2000 ≤ l.length := by omega
    have g3 : 0 ≤ 2000 := by omega
    have g4 : (0 : Int) ≤ 2000 := by omega
    have g5 : (2000 : Int).toNat = 2000 := rfl
    rw [List.map_take]
    clear h
    refine objC_of k100 (by simp) (by simp) (by first | rfl | simp [wfO, VV.underL, VV.under, under_signs, under_cells, under_blocks, *]) ?_
    intro X hP hm hH hn hX
    change X.n = 0 at hn
    refine vwp_ok _ ?_
    unfold vc100
    repeat' (first
      | simp only [go_sem, reduceCtorEq, reduceIte, Nat.reduceAdd, Nat.reduceEqDiff, Nat.reduceLeDiff, Nat.reduceMul, *]
      | refine gdO_bool' _ (fun _ => ?_) (fun _ => ?_)
      | refine gdO_bool _ (fun _ => ?_) (fun _ => ?_)
      | refine gdD_bool' _ (fun _ => ?_) (fun _ => ?_)
      | refine gdD_bool _ (fun _ => ?_) (fun _ => ?_)
      | refine cdO_bool' _ (fun _ => ?_) (fun _ => ?_)
      | refine cdO_bool _ (fun _ => ?_) (fun _ => ?_)
      | refine ⟨by decide, ?_⟩
      | fail)
    refine ⟨by simp, _, by simp only [go_sem, reduceCtorEq, reduceIte, Nat.reduceAdd, Nat.reduceEqDiff, Nat.reduceLeDiff, Nat.reduceMul, resV]; rfl, ?_⟩
    refine EndV.of hn [_] _ (by simp) (by simp) (by simp) (.toPt rfl (by simp [tau]) (by simp)) ?_
    repeat' (first | exact HConv.nil | refine HConv.same (by decide) (by first | rfl | (simp only [go_sem, reduceCtorEq, reduceIte, Nat.reduceAdd, Nat.reduceEqDiff, Nat.reduceLeDiff, Nat.reduceMul, *] <;> rfl)) (by first | rfl | simp [VV.cloL, VV.clo, *]) ?_)
  · have g1 : decide ((l.length : Int) > 2000) = false := by simp; omega
    rw [List.take_of_length_le h]
    clear h
    refine objC_of k100 (by simp) (by simp) (by first | rfl | simp [wfO, VV.underL, VV.under, under_signs, under_cells, under_blocks, *]) ?_
    intro X hP hm hH hn hX
    change X.n = 0 at hn
    refine vwp_ok _ ?_
    unfold vc100
    repeat' (first
      | simp only [go_sem, reduceCtorEq, reduceIte, Nat.reduceAdd, Nat.reduceEqDiff, Nat.reduceLeDiff, Nat.reduceMul, *]
      | refine gdO_bool' _ (fun _ => ?_) (fun _ => ?_)
      | refine gdO_bool _ (fun _ => ?_) (fun _ => ?_)
      | refine gdD_bool' _ (fun _ => ?_) (fun _ => ?_)
      | refine gdD_bool _ (fun _ => ?_) (fun _ => ?_)
      | refine cdO_bool' _ (fun _ => ?_) (fun _ => ?_)
      | refine cdO_bool _ (fun _ => ?_) (fun _ => ?_)
      | refine ⟨by decide, ?_⟩
      | fail)
    refine ⟨by simp, _, by simp only [go_sem, reduceCtorEq, reduceIte, Nat.reduceAdd, Nat.reduceEqDiff, Nat.reduceLeDiff, Nat.reduceMul, resV]; rfl, ?_⟩
    refine EndV.of hn [_] _ (by simp) (by simp) (by simp) (.toPt rfl (by simp [tau]) (by simp)) ?_
    repeat' (first | exact HConv.nil | refine HConv.same (by decide) (by first | rfl | (simp only [go_sem, reduceCtorEq, reduceIte, Nat.reduceAdd, Nat.reduceEqDiff, Nat.reduceLeDiff, Nat.reduceMul, *] <;> rfl)) (by first | rfl | simp [VV.cloL, VV.clo, *]) ?_)
theorem flat_snoc (l : Text) (y : Sign) : ((l ++ [y]).map Sign.enc).flatten = (l.map Sign.enc).flatten ++ y.enc := by simp
/-- A fact that a walk does not take for a rule. -/
structure Kept (p : Prop) : Prop where
  out : p
/-- A row of states, each out of the one ahead. -/
theorem iter_choice {α : Type} {I : Nat → α → Prop} {R : Nat → α → α → Prop} {s0 : α} (h0 : I 0 s0) (step : ∀ i s, I i s → ∃ s', I (i + 1) s' ∧ R i s s') : ∃ f : Nat → α, f 0 = s0 ∧ ∀ i, I i (f i) ∧ R i (f i) (f (i + 1)) := by
  let g : (i : Nat) → { s : α // I i s } := fun i => Nat.rec ⟨s0, h0⟩ (fun i s => ⟨(step i s.1 s.2).choose, (step i s.1 s.2).choose_spec.1⟩) i
  exact ⟨fun i => (g i).1, rfl, fun i => ⟨(g i).2, (step i (g i).1 (g i).2).choose_spec.2⟩⟩
/-- What a reader bears. -/
def Rd (b : List Int) : Prop := (∀ x ∈ b, 0 ≤ x ∧ x < 256) ∧ b.length ≤ 2000
def Pk (b : List Int) (p n v : Int) : Prop := 0 ≤ v ∧ (1 ≤ n → v < n) ∧ ObjC prog 102 [.pt 0 0, .sc (.int .i64 n)] [[encBy b, .sc (.int .i64 p)]] (.sc (.int .i64 v)) [(0, [encBy b, .sc (.int .i64 (p + 1))])] 1
theorem pk {b : List Int} (hr : Rd b) {p : Int} (h0 : 0 ≤ p) (h1 : p < 1073741824) (n : Int) : ∃ v, Pk b p n v := by
  obtain ⟨v, hv, h⟩ := c102 b p n h0 h1 hr.1 hr.2
  exact ⟨v, hv.1, hv.2, h⟩
def byteL : List VV := [.sc (.int .u8 97), .sc (.int .u8 98), .sc (.int .u8 122), .sc (.int .u8 32), .sc (.int .u8 48), .sc (.int .u8 57)]
theorem byteL_at {v : Int} (h0 : 0 ≤ v) (h1 : v < 6) : ∃ x, (byteL.drop v.toNat).head? = some (.sc (.int .u8 x)) := by
  have e : v = 0 ∨ v = 1 ∨ v = 2 ∨ v = 3 ∨ v = 4 ∨ v = 5 := by omega
  rcases e with rfl | rfl | rfl | rfl | rfl | rfl <;> exact ⟨_, rfl⟩
/-- One drawn sign. -/
def SgStep (b : List Int) (s s' : Text × Int) : Prop := ∃ v1 v2 v3 x : Int, Pk b s.2 6 v1 ∧ v1 < 6 ∧ Pk b (s.2 + 1) 5 v2 ∧ Pk b (s.2 + 1 + 1) 3 v3 ∧ v3 < 3 ∧ (byteL.drop v1.toNat).head? = some (.sc (.int .u8 x)) ∧
  s' = if (v2 == 0) = true then (s.1 ++ [⟨x, 1 + v3, 0⟩], s.2 + 1 + 1 + 1) else if (v2 == 1) = true then (s.1 ++ [⟨x, 0, 1 + v3⟩], s.2 + 1 + 1 + 1) else if (v2 == 2) = true then (s.1 ++ [⟨x, 1 + v3, (1 + v3).tmod 3 + 1⟩], s.2 + 1 + 1 + 1) else (s.1 ++ [⟨x, 0, 0⟩], s.2 + 1 + 1)
theorem c193 {b : List Int} (hr : Rd b) {p most : Int} (h0 : 0 ≤ p) (h1 : p + 1000 < 1073741824) (hm0 : 0 ≤ most) (hm1 : most ≤ 30) :
    ∃ (l : Text) (p' : Int), (p ≤ p' ∧ p' ≤ p + 200) ∧ (l.length : Int) ≤ most ∧ ObjC prog 193 [.pt 0 0, .sc (.int .i64 most)] [[encBy b, .sc (.int .i64 p)]] (.rf 1 0 l.length 3) [(0, [encBy b, .sc (.int .i64 p')]), (1, (l.map Sign.enc).flatten)] 2 := by
  obtain ⟨v0, hv0, hv1, hc0⟩ := pk hr h0 (by omega) (most + 1)
  have hv1 := hv1 (by omega)
  obtain ⟨f, hf0, hf⟩ := iter_choice (α := Text × Int) (I := fun i s => s.1.length = i ∧ (i ≤ 30 → p + 1 ≤ s.2 ∧ s.2 ≤ p + 1 + 3 * i)) (R := fun i s s' => i < 30 → SgStep b s s') (s0 := ([], p + 1)) ⟨rfl, fun _ => by simp⟩ (fun i s hs => by
    obtain ⟨hs1, hs2⟩ := hs
    by_cases hi : i < 30
    · have hp := hs2 (by omega)
      obtain ⟨v1, q1⟩ := pk hr (p := s.2) (by omega) (by omega) 6
      obtain ⟨v2, q2⟩ := pk hr (p := s.2 + 1) (by omega) (by omega) 5
      obtain ⟨v3, q3⟩ := pk hr (p := s.2 + 1 + 1) (by omega) (by omega) 3
      have l1 := q1.2.1 (by omega)
      have l3 := q3.2.1 (by omega)
      obtain ⟨x, hx⟩ := byteL_at q1.1 l1
      refine ⟨_, ?_, fun _ => ⟨v1, v2, v3, x, q1, l1, q2, q3, l3, hx, rfl⟩⟩
      (repeat' split) <;> exact ⟨by simp [hs1], fun _ => by simp only; omega⟩
    · exact ⟨(s.1 ++ [⟨0, 0, 0⟩], 0), ⟨by simp [hs1], fun h => by omega⟩, fun h => absurd h hi⟩)
  obtain ⟨k, hk⟩ : ∃ k : Nat, v0 = k := ⟨v0.toNat, by omega⟩
  subst hk
  have hfk := (hf k).1
  refine ⟨(f k).1, (f k).2, ⟨by have := hfk.2 (by omega); omega, by have := hfk.2 (by omega); omega⟩, by rw [hfk.1]; omega, ?_⟩
  have w0 : IntKind.i64.wrap (most + 1) = most + 1 := wrap_id (by omega) (by omega)
  have hlen : ∀ i, (f i).1.length = i := fun i => (hf i).1.1
  have hstep : ∀ i, i < k → SgStep b (f i) (f (i + 1)) := fun i hi => (hf i).2 (by omega)
  clear hf hfk hv0 hr h0 h1
  unfold encBy at *
  refine objC_of k193 (by simp) (by simp) (by first | rfl | simp [wfO, VV.underL, VV.under, under_signs, under_cells, under_blocks, *]) ?_
  intro X hP hm hH hn hX
  change X.n = 1 at hn
  refine vwp_ok _ ?_
  unfold vc193
  repeat' (first
    | simp only [go_sem, reduceCtorEq, reduceIte, Nat.reduceAdd, Nat.reduceEqDiff, Nat.reduceLeDiff, Nat.reduceMul, *]
    | refine gdO_bool' _ (fun _ => ?_) (fun _ => ?_)
    | refine gdO_bool _ (fun _ => ?_) (fun _ => ?_)
    | refine gdD_bool' _ (fun _ => ?_) (fun _ => ?_)
    | refine gdD_bool _ (fun _ => ?_) (fun _ => ?_)
    | refine cdO_bool' _ (fun _ => ?_) (fun _ => ?_)
    | refine cdO_bool _ (fun _ => ?_) (fun _ => ?_)
    | (refine callO.obj [0] (hc0) ?_ rfl (by decide) ?_ ?_
       · simp only [go_sem, reduceCtorEq, reduceIte, Nat.reduceAdd, Nat.reduceEqDiff, Nat.reduceLeDiff, Nat.reduceMul, *]
       · repeat' (first | exact HIs_nil | refine HIs_cons ?_ ?_ | (simp only [go_sem, reduceCtorEq, reduceIte, Nat.reduceAdd, Nat.reduceEqDiff, Nat.reduceLeDiff, Nat.reduceMul, *]; done)))
    | (refine callW.obj [0] (hc0) rfl ?_ rfl (by decide) ?_ (by simp [okInc, Disj]) ?_
       · simp only [go_sem, reduceCtorEq, reduceIte, Nat.reduceAdd, Nat.reduceEqDiff, Nat.reduceLeDiff, Nat.reduceMul, *]
       · repeat' (first | exact HIs_nil | refine HIs_cons ?_ ?_ | (simp only [go_sem, reduceCtorEq, reduceIte, Nat.reduceAdd, Nat.reduceEqDiff, Nat.reduceLeDiff, Nat.reduceMul, *]; done)))
    | refine ⟨by decide, ?_⟩
    | fail)
  refine loopV hX (fun μ s H n => ∃ (i : Nat) (c : Int) (l : Text) (q : Int), i ≤ k ∧ c = k - i ∧ f i = (l, q) ∧ μ = k - i ∧ s = slotsOf [(0, .pt 0 0), (5, .rf 1 0 i 3), (6, .sc (.int .i64 c))] ∧ H = heapOf [(0, [.sl 1 (b.map fun b => [.sc (.int .u8 b)]), .sc (.int .i64 q)]), (1, (l.map Sign.enc).flatten)] ∧ n = 2) ?_
    ⟨k + 1, roundE (fun s => [0, nm (s 5)]) (by simp only [go_sem, reduceCtorEq, reduceIte, Nat.reduceAdd, Nat.reduceEqDiff, Nat.reduceLeDiff, Nat.reduceMul, nm_rf]; rfl) (rk_of hn [(0, _), (5, _), (6, _)] [(0, _), (1, _)] _ ⟨0, k, [], p + 1, by omega, by simp, hf0, rfl, rfl, rfl, rfl⟩ (by omega) (by simp) (by simp [tau]) (by simp) (by simp [hm]) ?_ ?_)⟩
  rotate_left
  · repeat' (first | exact List.forall_mem_nil _ | refine List.forall_mem_cons.2 ⟨?_, ?_⟩ | exact .toPt (by simp only [go_sem, reduceCtorEq, reduceIte, Nat.reduceAdd, Nat.reduceEqDiff, Nat.reduceLeDiff, Nat.reduceMul, *] <;> rfl) (by simp [tau]) (by simp) | exact .toRf (by simp only [go_sem, reduceCtorEq, reduceIte, Nat.reduceAdd, Nat.reduceEqDiff, Nat.reduceLeDiff, Nat.reduceMul, *] <;> rfl) (by simp [tau]) (by simp) | exact .same (by simp only [go_sem, reduceCtorEq, reduceIte, Nat.reduceAdd, Nat.reduceEqDiff, Nat.reduceLeDiff, Nat.reduceMul, *] <;> rfl) (by first | rfl | simp [VV.cloL, VV.clo, *]))
  · repeat' (first | exact HConv.nil | refine HConv.same (by decide) (by first | rfl | (simp only [go_sem, reduceCtorEq, reduceIte, Nat.reduceAdd, Nat.reduceEqDiff, Nat.reduceLeDiff, Nat.reduceMul, *] <;> rfl)) (by first | rfl | simp [VV.cloL, VV.clo, *]) ?_)
  rintro μ s H n ⟨i, c, l, q, hi, hc, hfi, rfl, rfl, rfl, rfl⟩
  have hli := hlen i
  rw [hfi] at hli
  simp only at hli
  rcases Nat.lt_or_ge i k with hlt | hge
  · have g1 : decide (c > 0) = true := by simp; omega
    have g2 : IntKind.i64.wrap (c - 1) = c - 1 := wrap_id (by omega) (by omega)
    have hs := hstep i hlt
    rw [hfi] at hs
    obtain ⟨v1, v2, v3, x, ⟨a1, _, q1⟩, l1, ⟨a2, _, q2⟩, ⟨a3, _, q3⟩, l3, hx, hs'⟩ := hs
    simp only at q1 q2 q3 hs' hx
    unfold encBy at q1 q2 q3
    have w1 : IntKind.i64.wrap (1 + v3) = 1 + v3 := wrap_id (by omega) (by omega)
    have k1 := tmod_bound (a := 1 + v3) (n := 3) (by omega) (by omega)
    have w2 : IntKind.i64.wrap ((1 + v3).tmod 3 + 1) = (1 + v3).tmod 3 + 1 := wrap_id (by omega) (by omega)
    have d3 : ¬ (3 : Int) = 0 := by decide
    have l1c : v1 < ((6 : Nat) : Int) := l1
    have hx' : ([VV.sc (.int .u8 97), .sc (.int .u8 98), .sc (.int .u8 122), .sc (.int .u8 32), .sc (.int .u8 48), .sc (.int .u8 57)].drop v1.toNat).head? = some (.sc (.int .u8 x)) := hx
    have hfl := flat_len l
    have b1 : i * 3 ≤ l.length * 3 := by omega
    have b2 : (i + 1) * 24 ≤ lim := by unfold lim; omega
    have b3 : i + 1 ≤ 9223372036854775807 := by omega
    have tk : ((l.map Sign.enc).flatten).take (i * 3) = (l.map Sign.enc).flatten := List.take_of_length_le (by omega)
    have hc' : Kept (c - 1 = (k : Int) - ((i + 1 : Nat) : Int)) := ⟨by omega⟩
    clear hx hstep hlen k1 hfi hc
    repeat' (first
      | simp only [go_sem, reduceCtorEq, reduceIte, Nat.reduceAdd, Nat.reduceEqDiff, Nat.reduceLeDiff, Nat.reduceMul, *]
      | refine gdO_bool' _ (fun _ => ?_) (fun _ => ?_)
      | refine gdO_bool _ (fun _ => ?_) (fun _ => ?_)
      | refine gdD_bool' _ (fun _ => ?_) (fun _ => ?_)
      | refine gdD_bool _ (fun _ => ?_) (fun _ => ?_)
      | refine cdO_bool' _ (fun _ => ?_) (fun _ => ?_)
      | refine cdO_bool _ (fun _ => ?_) (fun _ => ?_)
      | (refine callO.obj [0] (q1) ?_ rfl (by decide) ?_ ?_
         · simp only [go_sem, reduceCtorEq, reduceIte, Nat.reduceAdd, Nat.reduceEqDiff, Nat.reduceLeDiff, Nat.reduceMul, *]
         · repeat' (first | exact HIs_nil | refine HIs_cons ?_ ?_ | (simp only [go_sem, reduceCtorEq, reduceIte, Nat.reduceAdd, Nat.reduceEqDiff, Nat.reduceLeDiff, Nat.reduceMul, *]; done)))
      | (refine callW.obj [0] (q1) rfl ?_ rfl (by decide) ?_ (by simp [okInc, Disj]) ?_
         · simp only [go_sem, reduceCtorEq, reduceIte, Nat.reduceAdd, Nat.reduceEqDiff, Nat.reduceLeDiff, Nat.reduceMul, *]
         · repeat' (first | exact HIs_nil | refine HIs_cons ?_ ?_ | (simp only [go_sem, reduceCtorEq, reduceIte, Nat.reduceAdd, Nat.reduceEqDiff, Nat.reduceLeDiff, Nat.reduceMul, *]; done)))
      | (refine callO.obj [0] (q2) ?_ rfl (by decide) ?_ ?_
         · simp only [go_sem, reduceCtorEq, reduceIte, Nat.reduceAdd, Nat.reduceEqDiff, Nat.reduceLeDiff, Nat.reduceMul, *]
         · repeat' (first | exact HIs_nil | refine HIs_cons ?_ ?_ | (simp only [go_sem, reduceCtorEq, reduceIte, Nat.reduceAdd, Nat.reduceEqDiff, Nat.reduceLeDiff, Nat.reduceMul, *]; done)))
      | (refine callW.obj [0] (q2) rfl ?_ rfl (by decide) ?_ (by simp [okInc, Disj]) ?_
         · simp only [go_sem, reduceCtorEq, reduceIte, Nat.reduceAdd, Nat.reduceEqDiff, Nat.reduceLeDiff, Nat.reduceMul, *]
         · repeat' (first | exact HIs_nil | refine HIs_cons ?_ ?_ | (simp only [go_sem, reduceCtorEq, reduceIte, Nat.reduceAdd, Nat.reduceEqDiff, Nat.reduceLeDiff, Nat.reduceMul, *]; done)))
      | (refine callO.obj [0] (q3) ?_ rfl (by decide) ?_ ?_
         · simp only [go_sem, reduceCtorEq, reduceIte, Nat.reduceAdd, Nat.reduceEqDiff, Nat.reduceLeDiff, Nat.reduceMul, *]
         · repeat' (first | exact HIs_nil | refine HIs_cons ?_ ?_ | (simp only [go_sem, reduceCtorEq, reduceIte, Nat.reduceAdd, Nat.reduceEqDiff, Nat.reduceLeDiff, Nat.reduceMul, *]; done)))
      | (refine callW.obj [0] (q3) rfl ?_ rfl (by decide) ?_ (by simp [okInc, Disj]) ?_
         · simp only [go_sem, reduceCtorEq, reduceIte, Nat.reduceAdd, Nat.reduceEqDiff, Nat.reduceLeDiff, Nat.reduceMul, *]
         · repeat' (first | exact HIs_nil | refine HIs_cons ?_ ?_ | (simp only [go_sem, reduceCtorEq, reduceIte, Nat.reduceAdd, Nat.reduceEqDiff, Nat.reduceLeDiff, Nat.reduceMul, *]; done)))
      | refine ⟨by decide, ?_⟩
      | fail)
    all_goals
      try simp only [*, if_true, if_false, Bool.false_eq_true] at hs'
      refine roundE (fun s => [0, nm (s 5)]) (by simp only [go_sem, reduceCtorEq, reduceIte, Nat.reduceAdd, Nat.reduceEqDiff, Nat.reduceLeDiff, Nat.reduceMul, nm_rf]; rfl) (rk_of hn [(0, _), (5, _), (6, _)] [(0, _), (1, _)] _ ⟨i + 1, c - 1, _, _, hlt, hc'.out, hs', rfl, rfl, rfl, rfl⟩ (by omega) (by simp) (by simp [tau]) (by simp) (by simp [hm]) ?_ ?_)
      · repeat' (first | exact List.forall_mem_nil _ | refine List.forall_mem_cons.2 ⟨?_, ?_⟩ | exact .toPt (by simp only [go_sem, reduceCtorEq, reduceIte, Nat.reduceAdd, Nat.reduceEqDiff, Nat.reduceLeDiff, Nat.reduceMul, *] <;> rfl) (by simp [tau]) (by simp) | exact .toRf (by simp only [go_sem, reduceCtorEq, reduceIte, Nat.reduceAdd, Nat.reduceEqDiff, Nat.reduceLeDiff, Nat.reduceMul, *] <;> rfl) (by simp [tau]) (by simp) | exact .same (by simp only [go_sem, reduceCtorEq, reduceIte, Nat.reduceAdd, Nat.reduceEqDiff, Nat.reduceLeDiff, Nat.reduceMul, *] <;> rfl) (by first | rfl | simp [VV.cloL, VV.clo, *]))
      · refine HConv.same (by decide) (by first | rfl | (simp only [go_sem, reduceCtorEq, reduceIte, Nat.reduceAdd, Nat.reduceEqDiff, Nat.reduceLeDiff, Nat.reduceMul, *] <;> rfl)) (by first | rfl | simp [VV.cloL, VV.clo, *]) ?_
        refine HConv.same (by decide) ?_ (flat_clo _) HConv.nil
        rw [flat_snoc]
        first | rfl | (simp only [go_sem, reduceCtorEq, reduceIte, Nat.reduceAdd, Nat.reduceEqDiff, Nat.reduceLeDiff, Nat.reduceMul, *] <;> rfl)
  · have e : i = k := by omega
    subst e
    have g1 : decide (c > 0) = false := by simp; omega
    have hfl := flat_len l
    rw [hfi]
    clear hstep hlen hc
    repeat' (first
      | simp only [go_sem, reduceCtorEq, reduceIte, Nat.reduceAdd, Nat.reduceEqDiff, Nat.reduceLeDiff, Nat.reduceMul, *]
      | refine gdO_bool' _ (fun _ => ?_) (fun _ => ?_)
      | refine gdO_bool _ (fun _ => ?_) (fun _ => ?_)
      | refine gdD_bool' _ (fun _ => ?_) (fun _ => ?_)
      | refine gdD_bool _ (fun _ => ?_) (fun _ => ?_)
      | refine cdO_bool' _ (fun _ => ?_) (fun _ => ?_)
      | refine cdO_bool _ (fun _ => ?_) (fun _ => ?_)
      | refine ⟨by decide, ?_⟩
      | fail)
    refine ⟨by simp, _, by simp only [go_sem, reduceCtorEq, reduceIte, Nat.reduceAdd, Nat.reduceEqDiff, Nat.reduceLeDiff, Nat.reduceMul, resV]; rfl, ?_⟩
    refine EndV.of hn [0, 1] _ (by simp) (by simp [tau]) (by simp) (.toRf rfl (by simp [tau]) (by simp)) ?_
    refine HConv.same (by decide) (by first | rfl | (simp only [go_sem, reduceCtorEq, reduceIte, Nat.reduceAdd, Nat.reduceEqDiff, Nat.reduceLeDiff, Nat.reduceMul, *] <;> rfl)) (by first | rfl | simp [VV.cloL, VV.clo, *]) ?_
    exact HConv.same (by decide) (by first | rfl | (simp only [go_sem, reduceCtorEq, reduceIte, Nat.reduceAdd, Nat.reduceEqDiff, Nat.reduceLeDiff, Nat.reduceMul, *] <;> rfl)) (flat_clo _) HConv.nil
end Go.Proofs.Ytdmmhainianadaa

/- F25: a new table. -/
namespace Go.Proofs.Ytdmmhainianadaa
open Go.VM Go.Lim Go.Proofs.Try
attribute [local irreducible] vwp vops vstep vdr vdr1 CallP PPost SWv gdO gdD cdO optV optW optD thenV blockV behind callO callW callvO roundV
set_option linter.unusedSimpArgs false
set_option linter.unusedVariables false
/- loop.example/limner/spec.TableNew -/
def vc194 : VCode :=
(.seq (.reg [⟨(some 4), (.new [(.int .i64 0), (.int .i64 0), (.slice none 0 0)]), none⟩])
(.seq (.seq (.reg [⟨(some 8), (.mov (.tmp 0)), none⟩, ⟨(some 9), (.call 93 [(.tmp 8), (.const (.int .i64 1)), (.const (.int .i64 5))]), none⟩, ⟨(some 10), (.un .not (.tmp 9)), none⟩, ⟨(some 11), (.mov (.tmp 10)), none⟩, ⟨(some 12), (.mov (.tmp 1)), (some (11, false))⟩, ⟨(some 13), (.call 93 [(.tmp 12), (.const (.int .i64 1)), (.const (.int .i64 5))]), (some (11, false))⟩, ⟨(some 14), (.un .not (.tmp 13)), (some (11, false))⟩, ⟨(some 15), (.pick (.tmp 11) (.const (.bool true)) (.tmp 14)), none⟩])
(.cond (.tmp 15) (.seq (.reg [⟨(some 16), (.build [(.int .i64 0), (.int .i64 0), (.slice none 0 0)] []), none⟩, ⟨none, (.store 3 (.tmp 4) (.tmp 16)), none⟩])
 .ret)
 .skip))
(.seq (.reg [⟨(some 17), (.mov (.tmp 0)), none⟩, ⟨(some 18), (.mov (.tmp 1)), none⟩, ⟨(some 19), (.build [(.int .i64 0), (.int .i64 0), (.slice none 0 0)] [(0, 1, (.tmp 17)), (1, 1, (.tmp 18))]), none⟩, ⟨(some 5), (.new [(.int .i64 0), (.int .i64 0), (.slice none 0 0)]), none⟩, ⟨none, (.store 3 (.tmp 5) (.tmp 19)), none⟩])
(.seq (.seq (.reg [⟨(some 6), (.mov (.const (.int .i64 0))), none⟩])
(.block 0 (.loop (.seq (.seq (.reg [⟨(some 20), (.mov (.tmp 6)), none⟩, ⟨(some 21), (.mov (.tmp 0)), none⟩, ⟨(some 22), (.bin .lss .no (.tmp 20) (.tmp 21)), none⟩])
  (.cond (.tmp 22) .skip
   (.exit 0)))
  (.seq (.block 1 (.seq (.reg [⟨(some 7), (.mov (.const (.int .i64 0))), none⟩])
   (.block 2 (.loop (.seq (.seq (.reg [⟨(some 25), (.mov (.tmp 7)), none⟩, ⟨(some 26), (.mov (.tmp 1)), none⟩, ⟨(some 27), (.bin .lss .no (.tmp 25) (.tmp 26)), none⟩])
     (.cond (.tmp 27) .skip
      (.exit 2)))
     (.seq (.block 3 (.reg [⟨(some 30), (.fad 2 (.tmp 5)), none⟩, ⟨(some 31), (.load false 1 (.tmp 30)), none⟩, ⟨(some 32), (.mov (.tmp 6)), none⟩, ⟨(some 33), (.mov (.tmp 7)), none⟩, ⟨(some 34), (.build [(.int .i64 0), (.int .i64 0), (.int .i64 0), (.int .i64 0), (.slice none 0 0)] [(0, 1, (.tmp 32)), (1, 1, (.tmp 33)), (2, 1, (.const (.int .i64 1))), (3, 1, (.const (.int .i64 1)))]), none⟩, ⟨(some 35), (.bslice 5 1 [(.int .i64 0), (.int .i64 0), (.int .i64 0), (.int .i64 0), (.slice none 0 0)] [(0, 5, (.tmp 34))]), none⟩, ⟨(some 36), (.app 5 56 (.tmp 31) (.tmp 35)), none⟩, ⟨(some 37), (.fad 2 (.tmp 5)), none⟩, ⟨none, (.store 1 (.tmp 37) (.tmp 36)), none⟩]))
     (.reg [⟨(some 28), (.mov (.tmp 7)), none⟩, ⟨(some 29), (.bin .add .no (.tmp 28) (.const (.int .i64 1))), none⟩, ⟨(some 7), (.mov (.tmp 29)), none⟩])))))))
  (.reg [⟨(some 23), (.mov (.tmp 6)), none⟩, ⟨(some 24), (.bin .add .no (.tmp 23) (.const (.int .i64 1))), none⟩, ⟨(some 6), (.mov (.tmp 24)), none⟩]))))))
(.seq (.reg [⟨(some 38), (.load true 3 (.tmp 5)), none⟩, ⟨none, (.store 3 (.tmp 4) (.tmp 38)), none⟩])
.ret)))))
theorem k194 : compFn prog 194 = some (39, vc194, [.c 4 true 3]) := by kernel_rfl
def newRow (i : Nat) : Nat → List Cell
  | 0 => []
  | j + 1 => newRow i j ++ [⟨i, j, 1, 1, []⟩]
def newCells (cols : Nat) : Nat → List Cell
  | 0 => []
  | i + 1 => newCells cols i ++ newRow i cols
theorem newRow_len (i j : Nat) : (newRow i j).length = j := by
  induction j with
  | zero => rfl
  | succ j ih => simp [newRow, ih]
theorem newCells_len (cols i : Nat) : (newCells cols i).length = i * cols := by
  induction i with
  | zero => simp [newCells]
  | succ i ih => simp [newCells, ih, newRow_len, Nat.succ_mul]
theorem flatC_len (l : List Cell) : (l.map Cell.enc).flatten.length = l.length * 5 := by
  induction l with
  | nil => rfl
  | cons c l ih => simp only [List.map_cons, List.flatten_cons, List.length_append, ih, Cell.encLen, List.length_cons]; omega
theorem flatC_clo (l : List Cell) : VV.cloL (l.map Cell.enc).flatten = true := mapF_clo (fun _ => rfl) l
theorem flatC_snoc (l : List Cell) (y : Cell) : ((l ++ [y]).map Cell.enc).flatten = (l.map Cell.enc).flatten ++ y.enc := by simp
/-- Cells that are growing. -/
def Grow (pre : List (Nat × List VV)) (k0 : Nat) (hd : List VV) (l : List Cell) (H : Heap) : Prop :=
  (l = [] ∧ H = heapOf (pre ++ [(k0, hd ++ [.sc (.slice none 0 0)])])) ∨ (0 < l.length ∧ H = heapOf (pre ++ [(k0, hd ++ [.rf (k0 + 1) 0 l.length 5]), (k0 + 1, (l.map Cell.enc).flatten)]))
theorem underL_app {m : Nat} : ∀ (xs ys : List VV), VV.underL m (xs ++ ys) = (VV.underL m xs && VV.underL m ys)
  | [], ys => by simp [VV.underL]
  | x :: xs, ys => by simp only [List.cons_append, VV.underL, underL_app xs ys, Bool.and_assoc]
theorem Grow.un {pre : List (Nat × List VV)} {k0 : Nat} {hd : List VV} {l : List Cell} {H : Heap} (h : Grow pre k0 hd l H) (h1 : (pre.all fun e => decide (e.1 < k0 + 2) && VV.underL (k0 + 2) e.2) = true) (h2 : VV.cloL hd = true) : HUn (k0 + 2) H := by
  have uh := cloL_under (m := k0 + 2) hd h2
  rcases h with ⟨_, rfl⟩ | ⟨_, rfl⟩
  · refine HUn.of ?_
    rw [List.all_append, h1]
    simp [underL_app, uh, VV.underL, VV.under]
  · refine HUn.of ?_
    rw [List.all_append, h1]
    simp [underL_app, uh, VV.underL, VV.under, under_cells]
theorem heapOf_app {pre suf : List (Nat × List VV)} {k : Nat} {cs : List VV} : heapOf pre k = some cs → heapOf (pre ++ suf) k = some cs := by
  induction pre with
  | nil => intro h; simp [heapOf] at h
  | cons e pre ih =>
    obtain ⟨i, v⟩ := e
    intro h
    show heapOf ((i, v) :: (pre ++ suf)) k = _
    unfold heapOf at h ⊢
    split
    · rename_i e; rw [if_pos e] at h; exact h
    · rename_i e; rw [if_neg e] at h; exact ih h
theorem Grow.at {pre : List (Nat × List VV)} {k0 : Nat} {hd : List VV} {l : List Cell} {H : Heap} (h : Grow pre k0 hd l H) {k : Nat} {cs : List VV} (hk : heapOf pre k = some cs) : H k = some cs := by
  rcases h with ⟨_, rfl⟩ | ⟨_, rfl⟩ <;> exact heapOf_app hk
theorem c194 {rows cols : Nat} (r0 : 1 ≤ rows) (r1 : rows ≤ 5) (d0 : 1 ≤ cols) (d1 : cols ≤ 5) :
    ObjC prog 194 [.sc (.int .i64 rows), .sc (.int .i64 cols)] [] (.agg [.sc (.int .i64 rows), .sc (.int .i64 cols), .rf 0 0 (rows * cols) 5]) [(0, ((newCells cols rows).map Cell.enc).flatten)] 1 := by
  have b1 : within rows 1 5 = true := by simp [within]; omega
  have b2 : within cols 1 5 = true := by simp [within]; omega
  have hlen := newCells_len cols rows
  have hpos : 0 < rows * cols := Nat.mul_pos r0 d0
  refine objC_of k194 (by simp) (by simp) (by first | rfl | simp [wfO, VV.underL, VV.under, under_signs, under_cells, under_blocks, *]) ?_
  intro X hP hm hH hn hX
  change X.n = 0 at hn
  refine vwp_ok _ ?_
  unfold vc194
  repeat' (first
    | simp only [go_sem, reduceCtorEq, reduceIte, Nat.reduceAdd, Nat.reduceEqDiff, Nat.reduceLeDiff, Nat.reduceMul, *]
    | refine gdO_bool' _ (fun _ => ?_) (fun _ => ?_)
    | refine gdO_bool _ (fun _ => ?_) (fun _ => ?_)
    | refine gdD_bool' _ (fun _ => ?_) (fun _ => ?_)
    | refine gdD_bool _ (fun _ => ?_) (fun _ => ?_)
    | refine cdO_bool' _ (fun _ => ?_) (fun _ => ?_)
    | refine cdO_bool _ (fun _ => ?_) (fun _ => ?_)
    | refine callO.pure (by first | exact c93 _ _ _) ?_
    | refine callW.pure (by first | exact c93 _ _ _) ?_
    | refine ⟨by decide, ?_⟩
    | fail)
  refine loopV hX (fun μ s H n => ∃ (i : Nat), i ≤ rows ∧ μ = rows - i ∧ s = slotsOf [(0, .sc (.int .i64 rows)), (1, .sc (.int .i64 cols)), (4, .pt 0 0), (5, .pt 1 0), (6, .sc (.int .i64 i))] ∧ Grow [(0, [.sc (.int .i64 0), .sc (.int .i64 0), .sc (.slice none 0 0)])] 1 [.sc (.int .i64 rows), .sc (.int .i64 cols)] (newCells cols i) H ∧ n = 3) ?_
    ⟨rows + 1, roundE (fun s => [nm (s 4), nm (s 5), 99]) (by simp only [go_sem, reduceCtorEq, reduceIte, Nat.reduceAdd, Nat.reduceEqDiff, Nat.reduceLeDiff, Nat.reduceMul, nm_pt]; rfl) (rk_of hn [(0, _), (1, _), (4, _), (5, _), (6, _)] [(0, _), (1, _)] _ ⟨0, by omega, rfl, rfl, .inl ⟨rfl, rfl⟩, rfl⟩ (by omega) (by simp) (by simp [tau]) (by simp) (by simp [hm]) ?_ ?_)⟩
  rotate_left
  · repeat' (first | exact List.forall_mem_nil _ | refine List.forall_mem_cons.2 ⟨?_, ?_⟩ | exact .toPt (by simp only [go_sem, reduceCtorEq, reduceIte, Nat.reduceAdd, Nat.reduceEqDiff, Nat.reduceLeDiff, Nat.reduceMul, *] <;> rfl) (by simp [tau]) (by simp) | exact .toRf (by simp only [go_sem, reduceCtorEq, reduceIte, Nat.reduceAdd, Nat.reduceEqDiff, Nat.reduceLeDiff, Nat.reduceMul, *] <;> rfl) (by simp [tau]) (by simp) | exact .same (by simp only [go_sem, reduceCtorEq, reduceIte, Nat.reduceAdd, Nat.reduceEqDiff, Nat.reduceLeDiff, Nat.reduceMul, *] <;> rfl) (by first | rfl | simp [VV.cloL, VV.clo, *]))
  · repeat' (first | exact HConv.nil | refine HConv.same (by decide) (by first | rfl | (simp only [go_sem, reduceCtorEq, reduceIte, Nat.reduceAdd, Nat.reduceEqDiff, Nat.reduceLeDiff, Nat.reduceMul, *] <;> rfl)) (by first | rfl | simp [VV.cloL, VV.clo, *]) ?_)
  rintro μ s H n ⟨i, hi, rfl, rfl, hg, rfl⟩
  generalize hL : newCells cols i = L at hg
  rcases Nat.lt_or_ge i rows with hlt | hge
  · have g1 := lt_dec hlt
    have w1 : IntKind.i64.wrap ((i : Int) + 1) = ((i + 1 : Nat) : Int) := by rw [wrap_id] <;> omega
    have hLl : Kept (L.length = i * cols) := ⟨by rw [← hL]; exact newCells_len cols i⟩
    have hib : i * cols ≤ 25 := Nat.le_trans (Nat.mul_le_mul (Nat.le_of_lt hlt) (Nat.le_refl cols)) (Nat.mul_le_mul r1 d1)
    have hL' : Kept (newCells cols i = L) := ⟨hL⟩
    clear hL
    repeat' (first
      | simp only [go_sem, reduceCtorEq, reduceIte, Nat.reduceAdd, Nat.reduceEqDiff, Nat.reduceLeDiff, Nat.reduceMul, *]
      | refine gdO_bool' _ (fun _ => ?_) (fun _ => ?_)
      | refine gdO_bool _ (fun _ => ?_) (fun _ => ?_)
      | refine gdD_bool' _ (fun _ => ?_) (fun _ => ?_)
      | refine gdD_bool _ (fun _ => ?_) (fun _ => ?_)
      | refine cdO_bool' _ (fun _ => ?_) (fun _ => ?_)
      | refine cdO_bool _ (fun _ => ?_) (fun _ => ?_)
      | refine ⟨by decide, ?_⟩
      | fail)
    have u2 := hg.un rfl rfl
    refine loopV hX (fun μ s H n => ∃ (j : Nat), j ≤ cols ∧ μ = cols - j ∧ s = slotsOf [(0, .sc (.int .i64 rows)), (1, .sc (.int .i64 cols)), (4, .pt 0 0), (5, .pt 1 0), (6, .sc (.int .i64 i)), (7, .sc (.int .i64 j))] ∧ Grow [(0, [.sc (.int .i64 0), .sc (.int .i64 0), .sc (.slice none 0 0)])] 1 [.sc (.int .i64 rows), .sc (.int .i64 cols)] (L ++ newRow i j) H ∧ n = 3) ?_
        ⟨cols + 1, round_cut 3 hn (by omega) u2 [(0, _), (1, _), (4, _), (5, _), (6, _), (7, _)] _ ⟨0, by omega, rfl, rfl, by rw [newRow, List.append_nil]; exact hg, rfl⟩ (by omega) (by simp [hm]) ?_⟩
    rotate_left
    · repeat' (first | exact List.forall_mem_nil _ | refine List.forall_mem_cons.2 ⟨?_, ?_⟩ | exact ⟨by simp only [go_sem, reduceCtorEq, reduceIte, Nat.reduceAdd, Nat.reduceEqDiff, Nat.reduceLeDiff, Nat.reduceMul, *] <;> rfl, by first | rfl | (simp [VV.under] <;> omega)⟩)
    clear hg u2
    rintro μ s H n ⟨j, hj, rfl, rfl, hg, rfl⟩
    rcases Nat.lt_or_ge j cols with hlt2 | hge2
    · have g2 := lt_dec hlt2
      have w2 : IntKind.i64.wrap ((j : Int) + 1) = ((j + 1 : Nat) : Int) := by rw [wrap_id] <;> omega
      have hln : Kept ((L ++ newRow i j).length = i * cols + j) := ⟨by rw [List.length_append, hLl.out, newRow_len]⟩
      have hsn : Kept (L ++ newRow i (j + 1) = L ++ newRow i j ++ [⟨i, j, 1, 1, []⟩]) := ⟨by rw [newRow, ← List.append_assoc]⟩
      generalize L ++ newRow i j = l at *
      have hfl := flatC_len l
      have b0 : l.length < 30 := by rw [hln.out]; omega
      have tk : ((l.map Cell.enc).flatten).take (l.length * 5) = (l.map Cell.enc).flatten := List.take_of_length_le (by omega)
      have b3 : (l.length + 1) * 56 ≤ lim := by unfold lim; omega
      have b4 : l.length + 1 ≤ 9223372036854775807 := by omega
      have b5 : l.length * 5 ≤ l.length * 5 := by omega
      have b6 : 1 * 56 ≤ lim := by unfold lim; omega
      rcases hg with ⟨hl, rfl⟩ | ⟨hl, rfl⟩
      · subst hl
        repeat' (first
          | simp only [go_sem, reduceCtorEq, reduceIte, Nat.reduceAdd, Nat.reduceEqDiff, Nat.reduceLeDiff, Nat.reduceMul, *]
          | refine gdO_bool' _ (fun _ => ?_) (fun _ => ?_)
          | refine gdO_bool _ (fun _ => ?_) (fun _ => ?_)
          | refine gdD_bool' _ (fun _ => ?_) (fun _ => ?_)
          | refine gdD_bool _ (fun _ => ?_) (fun _ => ?_)
          | refine cdO_bool' _ (fun _ => ?_) (fun _ => ?_)
          | refine cdO_bool _ (fun _ => ?_) (fun _ => ?_)
          | refine ⟨by decide, ?_⟩
          | fail)
        refine roundE (fun s => [nm (s 4), nm (s 5), nm (s 36)]) (by simp only [go_sem, reduceCtorEq, reduceIte, Nat.reduceAdd, Nat.reduceEqDiff, Nat.reduceLeDiff, Nat.reduceMul, nm_pt, nm_rf]; rfl) (rk_of hn [(0, _), (1, _), (4, _), (5, _), (6, _), (7, _)] [(0, _), (1, _), (2, _)] _ ⟨j + 1, hlt2, rfl, rfl, by rw [hsn.out]; exact .inr ⟨by simp, rfl⟩, rfl⟩ (by omega) (by simp) (by simp [tau]) (by simp) (by simp [hm]) ?_ ?_)
        · repeat' (first | exact List.forall_mem_nil _ | refine List.forall_mem_cons.2 ⟨?_, ?_⟩ | exact .toPt (by simp only [go_sem, reduceCtorEq, reduceIte, Nat.reduceAdd, Nat.reduceEqDiff, Nat.reduceLeDiff, Nat.reduceMul, *] <;> rfl) (by simp [tau]) (by simp) | exact .toRf (by simp only [go_sem, reduceCtorEq, reduceIte, Nat.reduceAdd, Nat.reduceEqDiff, Nat.reduceLeDiff, Nat.reduceMul, *] <;> rfl) (by simp [tau]) (by simp) | exact .same (by simp only [go_sem, reduceCtorEq, reduceIte, Nat.reduceAdd, Nat.reduceEqDiff, Nat.reduceLeDiff, Nat.reduceMul, *] <;> rfl) (by first | rfl | simp [VV.cloL, VV.clo, *]))
        · refine HConv.same (by decide) (by first | rfl | (simp only [go_sem, reduceCtorEq, reduceIte, Nat.reduceAdd, Nat.reduceEqDiff, Nat.reduceLeDiff, Nat.reduceMul, *] <;> rfl)) (by first | rfl | simp [VV.cloL, VV.clo, *]) ?_
          refine HConv.obj (cs := [.sc (.int .i64 rows), .sc (.int .i64 cols), .rf _ 0 _ 5]) (by decide) (by first | rfl | (simp only [go_sem, reduceCtorEq, reduceIte, Nat.reduceAdd, Nat.reduceEqDiff, Nat.reduceLeDiff, Nat.reduceMul, *] <;> rfl)) ?_ ?_
          · repeat' (first | exact CellsC.nil | exact .nil 3 | exact .nil 5 | exact .nil 6 | (exact .toRf (by first | rfl | simp [tau]) (by simp [tau]) (by simp)) | (exact .toPt (by first | rfl | simp [tau]) (by simp [tau]) (by simp)) | refine CellsC.one rfl ?_ | refine CellsC.cons ?_ rfl ?_)
          rw [flatC_snoc]
          refine HConv.obj (cs := _ ++ [.sc (.int .i64 i), .sc (.int .i64 j), .sc (.int .i64 1), .sc (.int .i64 1), .sc (.slice none 0 0)]) (by decide) (by first | rfl | (simp only [go_sem, reduceCtorEq, reduceIte, Nat.reduceAdd, Nat.reduceEqDiff, Nat.reduceLeDiff, Nat.reduceMul, *] <;> rfl)) (CellsC.append (CellsC.same (flatC_clo _)) ?_) HConv.nil
          repeat' (first | exact CellsC.nil | exact .nil 3 | exact .nil 5 | exact .nil 6 | (exact .toRf (by first | rfl | simp [tau]) (by simp [tau]) (by simp)) | (exact .toPt (by first | rfl | simp [tau]) (by simp [tau]) (by simp)) | refine CellsC.one rfl ?_ | refine CellsC.cons ?_ rfl ?_)
      · repeat' (first
          | simp only [go_sem, reduceCtorEq, reduceIte, Nat.reduceAdd, Nat.reduceEqDiff, Nat.reduceLeDiff, Nat.reduceMul, *]
          | refine gdO_bool' _ (fun _ => ?_) (fun _ => ?_)
          | refine gdO_bool _ (fun _ => ?_) (fun _ => ?_)
          | refine gdD_bool' _ (fun _ => ?_) (fun _ => ?_)
          | refine gdD_bool _ (fun _ => ?_) (fun _ => ?_)
          | refine cdO_bool' _ (fun _ => ?_) (fun _ => ?_)
          | refine cdO_bool _ (fun _ => ?_) (fun _ => ?_)
          | refine ⟨by decide, ?_⟩
          | fail)
        refine roundE (fun s => [nm (s 4), nm (s 5), nm (s 36)]) (by simp only [go_sem, reduceCtorEq, reduceIte, Nat.reduceAdd, Nat.reduceEqDiff, Nat.reduceLeDiff, Nat.reduceMul, nm_pt, nm_rf]; rfl) (rk_of hn [(0, _), (1, _), (4, _), (5, _), (6, _), (7, _)] [(0, _), (1, _), (2, _)] _ ⟨j + 1, hlt2, rfl, rfl, by rw [hsn.out]; exact .inr ⟨by simp, rfl⟩, rfl⟩ (by omega) (by simp) (by simp [tau]) (by simp) (by simp [hm]) ?_ ?_)
        · repeat' (first | exact List.forall_mem_nil _ | refine List.forall_mem_cons.2 ⟨?_, ?_⟩ | exact .toPt (by simp only [go_sem, reduceCtorEq, reduceIte, Nat.reduceAdd, Nat.reduceEqDiff, Nat.reduceLeDiff, Nat.reduceMul, *] <;> rfl) (by simp [tau]) (by simp) | exact .toRf (by simp only [go_sem, reduceCtorEq, reduceIte, Nat.reduceAdd, Nat.reduceEqDiff, Nat.reduceLeDiff, Nat.reduceMul, *] <;> rfl) (by simp [tau]) (by simp) | exact .same (by simp only [go_sem, reduceCtorEq, reduceIte, Nat.reduceAdd, Nat.reduceEqDiff, Nat.reduceLeDiff, Nat.reduceMul, *] <;> rfl) (by first | rfl | simp [VV.cloL, VV.clo, *]))
        · refine HConv.same (by decide) (by first | rfl | (simp only [go_sem, reduceCtorEq, reduceIte, Nat.reduceAdd, Nat.reduceEqDiff, Nat.reduceLeDiff, Nat.reduceMul, *] <;> rfl)) (by first | rfl | simp [VV.cloL, VV.clo, *]) ?_
          refine HConv.obj (cs := [.sc (.int .i64 rows), .sc (.int .i64 cols), .rf _ 0 _ 5]) (by decide) (by first | rfl | (simp only [go_sem, reduceCtorEq, reduceIte, Nat.reduceAdd, Nat.reduceEqDiff, Nat.reduceLeDiff, Nat.reduceMul, *] <;> rfl)) ?_ ?_
          · repeat' (first | exact CellsC.nil | exact .nil 3 | exact .nil 5 | exact .nil 6 | (exact .toRf (by first | rfl | simp [tau]) (by simp [tau]) (by simp)) | (exact .toPt (by first | rfl | simp [tau]) (by simp [tau]) (by simp)) | refine CellsC.one rfl ?_ | refine CellsC.cons ?_ rfl ?_)
          rw [flatC_snoc]
          refine HConv.obj (cs := _ ++ [.sc (.int .i64 i), .sc (.int .i64 j), .sc (.int .i64 1), .sc (.int .i64 1), .sc (.slice none 0 0)]) (by decide) (by first | rfl | (simp only [go_sem, reduceCtorEq, reduceIte, Nat.reduceAdd, Nat.reduceEqDiff, Nat.reduceLeDiff, Nat.reduceMul, *] <;> rfl)) (CellsC.append (CellsC.same (flatC_clo _)) ?_) HConv.nil
          repeat' (first | exact CellsC.nil | exact .nil 3 | exact .nil 5 | exact .nil 6 | (exact .toRf (by first | rfl | simp [tau]) (by simp [tau]) (by simp)) | (exact .toPt (by first | rfl | simp [tau]) (by simp [tau]) (by simp)) | refine CellsC.one rfl ?_ | refine CellsC.cons ?_ rfl ?_)
    · have e : j = cols := by omega
      subst e
      have g2 : decide (((j : Nat) : Int) < ((j : Nat) : Int)) = false := by simp
      have u2 := hg.un rfl rfl
      repeat' (first
        | simp only [go_sem, reduceCtorEq, reduceIte, Nat.reduceAdd, Nat.reduceEqDiff, Nat.reduceLeDiff, Nat.reduceMul, *]
        | refine gdO_bool' _ (fun _ => ?_) (fun _ => ?_)
        | refine gdO_bool _ (fun _ => ?_) (fun _ => ?_)
        | refine gdD_bool' _ (fun _ => ?_) (fun _ => ?_)
        | refine gdD_bool _ (fun _ => ?_) (fun _ => ?_)
        | refine cdO_bool' _ (fun _ => ?_) (fun _ => ?_)
        | refine cdO_bool _ (fun _ => ?_) (fun _ => ?_)
        | refine ⟨by decide, ?_⟩
        | fail)
      refine round_cut 3 hn (by omega) u2 [(0, _), (1, _), (4, _), (5, _), (6, _)] _ ⟨i + 1, hlt, rfl, rfl, by rw [newCells, hL'.out]; exact hg, rfl⟩ (by omega) (by simp [hm]) ?_
      repeat' (first | exact List.forall_mem_nil _ | refine List.forall_mem_cons.2 ⟨?_, ?_⟩ | exact ⟨by simp only [go_sem, reduceCtorEq, reduceIte, Nat.reduceAdd, Nat.reduceEqDiff, Nat.reduceLeDiff, Nat.reduceMul, *] <;> rfl, by first | rfl | (simp [VV.under] <;> omega)⟩)
  · have e : i = rows := by omega
    subst e
    have g1 : decide (((i : Nat) : Int) < ((i : Nat) : Int)) = false := by simp
    subst hL
    rcases hg with ⟨hl, rfl⟩ | ⟨hl, rfl⟩
    · rw [hl] at hlen; simp at hlen; omega
    clear hl hi
    rw [← hlen]
    clear hlen hpos
    repeat' (first
      | simp only [go_sem, reduceCtorEq, reduceIte, Nat.reduceAdd, Nat.reduceEqDiff, Nat.reduceLeDiff, Nat.reduceMul, *]
      | refine gdO_bool' _ (fun _ => ?_) (fun _ => ?_)
      | refine gdO_bool _ (fun _ => ?_) (fun _ => ?_)
      | refine gdD_bool' _ (fun _ => ?_) (fun _ => ?_)
      | refine gdD_bool _ (fun _ => ?_) (fun _ => ?_)
      | refine cdO_bool' _ (fun _ => ?_) (fun _ => ?_)
      | refine cdO_bool _ (fun _ => ?_) (fun _ => ?_)
      | refine ⟨by decide, ?_⟩
      | fail)
    refine ⟨by simp, _, by simp only [go_sem, reduceCtorEq, reduceIte, Nat.reduceAdd, Nat.reduceEqDiff, Nat.reduceLeDiff, Nat.reduceMul, resV]; rfl, ?_⟩
    refine EndV.of hn [2] _ (by simp) (by simp [tau]) (by simp) ?_ ?_
    · refine Conv.aggOf ?_
      repeat' (first | exact CellsC.nil | exact .nil 3 | exact .nil 5 | exact .nil 6 | (exact .toRf (by first | rfl | simp [tau]) (by simp [tau]) (by simp)) | (exact .toPt (by first | rfl | simp [tau]) (by simp [tau]) (by simp)) | refine CellsC.one rfl ?_ | refine CellsC.cons ?_ rfl ?_)
    · exact HConv.same (by decide) (by first | rfl | (simp only [go_sem, reduceCtorEq, reduceIte, Nat.reduceAdd, Nat.reduceEqDiff, Nat.reduceLeDiff, Nat.reduceMul, *] <;> rfl)) (flatC_clo _) HConv.nil
end Go.Proofs.Ytdmmhainianadaa

/- F26: cells in order. -/
namespace Go.Proofs.Ytdmmhainianadaa
open Go.VM Go.Lim Go.Proofs.Try
attribute [local irreducible] vwp vops vstep vdr vdr1 CallP PPost SWv gdO gdD cdO optV optW optD thenV blockV behind callO callW callvO roundV
set_option linter.unusedSimpArgs false
set_option linter.unusedVariables false
/- loop.example/limner/spec.l2Sort -/
def vc208 : VCode :=
(.seq (.reg [⟨(some 2), (.mov (.const (.slice none 0 0))), none⟩])
(.seq (.reg [⟨(some 8), (.bslice 5 0 [(.int .i64 0), (.int .i64 0), (.int .i64 0), (.int .i64 0), (.slice none 0 0)] []), none⟩, ⟨(some 3), (.mov (.tmp 8)), none⟩])
(.seq (.seq (.reg [⟨(some 4), (.mov (.const (.int .i64 0))), none⟩])
(.block 0 (.loop (.seq (.seq (.reg [⟨(some 9), (.mov (.tmp 4)), none⟩, ⟨(some 10), (.mov (.tmp 0)), none⟩, ⟨(some 11), (.len false (.tmp 10)), none⟩, ⟨(some 12), (.bin .lss .no (.tmp 9) (.tmp 11)), none⟩])
  (.cond (.tmp 12) .skip
   (.exit 0)))
  (.seq (.block 1 (.seq (.reg [⟨(some 15), (.bslice 5 0 [(.int .i64 0), (.int .i64 0), (.int .i64 0), (.int .i64 0), (.slice none 0 0)] []), none⟩, ⟨(some 5), (.mov (.tmp 15)), none⟩])
   (.seq (.reg [⟨(some 6), (.mov (.const (.bool false))), none⟩])
   (.seq (.seq (.reg [⟨(some 7), (.mov (.const (.int .i64 0))), none⟩])
   (.block 2 (.loop (.seq (.seq (.reg [⟨(some 16), (.mov (.tmp 7)), none⟩, ⟨(some 17), (.mov (.tmp 3)), none⟩, ⟨(some 18), (.len false (.tmp 17)), none⟩, ⟨(some 19), (.bin .lss .no (.tmp 16) (.tmp 18)), none⟩])
     (.cond (.tmp 19) .skip
      (.exit 2)))
     (.seq (.block 3 (.seq (.seq (.drw [(⟨(some 22), (.mov (.tmp 6)), none⟩, []), (⟨(some 23), (.un .not (.tmp 22)), none⟩, []), (⟨(some 24), (.mov (.tmp 23)), none⟩, []), (⟨(some 25), (.mov (.tmp 3)), (some (24, true))⟩, []), (⟨(some 26), (.mov (.tmp 7)), (some (24, true))⟩, []), (⟨(some 27), (.iad 5 (.tmp 25) (.tmp 26)), (some (24, true))⟩, []), (⟨(some 28), (.fad 0 (.tmp 27)), (some (24, true))⟩, []), (⟨(some 29), (.load false 1 (.tmp 28)), (some (24, true))⟩, []), (⟨(some 30), (.mov (.tmp 0)), (some (24, true))⟩, []), (⟨(some 31), (.mov (.tmp 4)), (some (24, true))⟩, []), (⟨(some 32), (.iad 5 (.tmp 30) (.tmp 31)), (some (24, true))⟩, []), (⟨(some 33), (.fad 0 (.tmp 32)), (some (24, true))⟩, []), (⟨(some 34), (.load false 1 (.tmp 33)), (some (24, true))⟩, [7]), (⟨(some 35), (.bin .gtr .no (.tmp 29) (.tmp 34)), (some (24, true))⟩, []), (⟨(some 36), (.mov (.tmp 35)), (some (24, true))⟩, []), (⟨(some 37), (.mov (.tmp 3)), (some (36, false))⟩, []), (⟨(some 38), (.mov (.tmp 7)), (some (36, false))⟩, []), (⟨(some 39), (.iad 5 (.tmp 37) (.tmp 38)), (some (36, false))⟩, []), (⟨(some 40), (.fad 0 (.tmp 39)), (some (36, false))⟩, []), (⟨(some 41), (.load false 1 (.tmp 40)), (some (36, false))⟩, []), (⟨(some 42), (.mov (.tmp 0)), (some (36, false))⟩, []), (⟨(some 43), (.mov (.tmp 4)), (some (36, false))⟩, []), (⟨(some 44), (.iad 5 (.tmp 42) (.tmp 43)), (some (36, false))⟩, []), (⟨(some 45), (.fad 0 (.tmp 44)), (some (36, false))⟩, []), (⟨(some 46), (.load false 1 (.tmp 45)), (some (36, false))⟩, [19]), (⟨(some 47), (.bin .eql .no (.tmp 41) (.tmp 46)), (some (36, false))⟩, []), (⟨(some 48), (.mov (.tmp 47)), (some (36, false))⟩, []), (⟨(some 49), (.mov (.tmp 3)), (some (48, true))⟩, []), (⟨(some 50), (.mov (.tmp 7)), (some (48, true))⟩, []), (⟨(some 51), (.iad 5 (.tmp 49) (.tmp 50)), (some (48, true))⟩, []), (⟨(some 52), (.fad 1 (.tmp 51)), (some (48, true))⟩, []), (⟨(some 53), (.load false 1 (.tmp 52)), (some (48, true))⟩, []), (⟨(some 54), (.mov (.tmp 0)), (some (48, true))⟩, []), (⟨(some 55), (.mov (.tmp 4)), (some (48, true))⟩, []), (⟨(some 56), (.iad 5 (.tmp 54) (.tmp 55)), (some (48, true))⟩, []), (⟨(some 57), (.fad 1 (.tmp 56)), (some (48, true))⟩, []), (⟨(some 58), (.load false 1 (.tmp 57)), (some (48, true))⟩, [31]), (⟨(some 59), (.bin .gtr .no (.tmp 53) (.tmp 58)), (some (48, true))⟩, []), (⟨(some 60), (.pick (.tmp 48) (.tmp 59) (.const (.bool false))), (some (36, false))⟩, []), (⟨(some 61), (.pick (.tmp 36) (.const (.bool true)) (.tmp 60)), (some (24, true))⟩, []), (⟨(some 62), (.pick (.tmp 24) (.tmp 61) (.const (.bool false))), none⟩, [])])
      (.cond (.tmp 62) (.seq (.reg [⟨(some 63), (.mov (.tmp 5)), none⟩, ⟨(some 64), (.mov (.tmp 0)), none⟩, ⟨(some 65), (.mov (.tmp 4)), none⟩, ⟨(some 66), (.iad 5 (.tmp 64) (.tmp 65)), none⟩, ⟨(some 67), (.load true 5 (.tmp 66)), none⟩, ⟨(some 68), (.bslice 5 1 [(.int .i64 0), (.int .i64 0), (.int .i64 0), (.int .i64 0), (.slice none 0 0)] [(0, 5, (.tmp 67))]), none⟩, ⟨(some 69), (.app 5 56 (.tmp 63) (.tmp 68)), none⟩, ⟨(some 5), (.mov (.tmp 69)), none⟩])
       (.reg [⟨(some 6), (.mov (.const (.bool true))), none⟩]))
       .skip))
      (.reg [⟨(some 70), (.mov (.tmp 5)), none⟩, ⟨(some 71), (.mov (.tmp 3)), none⟩, ⟨(some 72), (.mov (.tmp 7)), none⟩, ⟨(some 73), (.iad 5 (.tmp 71) (.tmp 72)), none⟩, ⟨(some 74), (.load true 5 (.tmp 73)), none⟩, ⟨(some 75), (.bslice 5 1 [(.int .i64 0), (.int .i64 0), (.int .i64 0), (.int .i64 0), (.slice none 0 0)] [(0, 5, (.tmp 74))]), none⟩, ⟨(some 76), (.app 5 56 (.tmp 70) (.tmp 75)), none⟩, ⟨(some 5), (.mov (.tmp 76)), none⟩])))
     (.reg [⟨(some 20), (.mov (.tmp 7)), none⟩, ⟨(some 21), (.bin .add .no (.tmp 20) (.const (.int .i64 1))), none⟩, ⟨(some 7), (.mov (.tmp 21)), none⟩]))))))
   (.seq (.seq (.reg [⟨(some 77), (.mov (.tmp 6)), none⟩, ⟨(some 78), (.un .not (.tmp 77)), none⟩])
   (.cond (.tmp 78) (.reg [⟨(some 79), (.mov (.tmp 5)), none⟩, ⟨(some 80), (.mov (.tmp 0)), none⟩, ⟨(some 81), (.mov (.tmp 4)), none⟩, ⟨(some 82), (.iad 5 (.tmp 80) (.tmp 81)), none⟩, ⟨(some 83), (.load true 5 (.tmp 82)), none⟩, ⟨(some 84), (.bslice 5 1 [(.int .i64 0), (.int .i64 0), (.int .i64 0), (.int .i64 0), (.slice none 0 0)] [(0, 5, (.tmp 83))]), none⟩, ⟨(some 85), (.app 5 56 (.tmp 79) (.tmp 84)), none⟩, ⟨(some 5), (.mov (.tmp 85)), none⟩])
    .skip))
   (.reg [⟨(some 86), (.mov (.tmp 5)), none⟩, ⟨(some 3), (.mov (.tmp 86)), none⟩]))))))
  (.reg [⟨(some 13), (.mov (.tmp 4)), none⟩, ⟨(some 14), (.bin .add .no (.tmp 13) (.const (.int .i64 1))), none⟩, ⟨(some 4), (.mov (.tmp 14)), none⟩]))))))
(.seq (.reg [⟨(some 87), (.mov (.tmp 3)), none⟩, ⟨(some 2), (.mov (.tmp 87)), none⟩])
.ret))))
theorem k208 : compFn prog 208 = some (88, vc208, [.t 2]) := by kernel_rfl
theorem lim56 {n : Nat} (h : n ≤ 1000) : n * 56 ≤ lim := by unfold lim; omega
theorem foldl_take {α β : Type} (f : β → α → β) (a : β) {l : List α} {k : Nat} (h : k < l.length) : (l.take (k + 1)).foldl f a = f ((l.take k).foldl f a) l[k] := by
  rw [List.take_succ_eq_append_getElem h, List.foldl_append, List.foldl_cons, List.foldl_nil]
def aheadB (x y : Cell) : Bool := decide (y.row > x.row) || ((y.row == x.row) && decide (y.col > x.col))
def insStep (x : Cell) (s : List Cell × Bool) (y : Cell) : List Cell × Bool := if (!s.2 && aheadB x y) = true then (s.1 ++ [x] ++ [y], true) else (s.1 ++ [y], s.2)
def insSt (x : Cell) (out : List Cell) : List Cell × Bool := out.foldl (insStep x) ([], false)
def insOne (x : Cell) (out : List Cell) : List Cell := if (insSt x out).2 = true then (insSt x out).1 else (insSt x out).1 ++ [x]
def sortC (l : List Cell) : List Cell := l.foldl (fun out x => insOne x out) []
theorem insStep_len (x : Cell) (s : List Cell × Bool) (y : Cell) : (insStep x s y).1.length + s.2.toNat = s.1.length + 1 + (insStep x s y).2.toNat := by
  unfold insStep
  cases h : s.2 <;> cases h2 : aheadB x y <;> simp [h, h2]
theorem insSt_len (x : Cell) (out : List Cell) : ∀ k, k ≤ out.length → (insSt x (out.take k)).1.length = k + (insSt x (out.take k)).2.toNat
  | 0, _ => by simp [insSt]
  | k + 1, h => by
    have ih := insSt_len x out k (by omega)
    unfold insSt at ih ⊢
    rw [foldl_take (insStep x) _ h]
    have := insStep_len x ((out.take k).foldl (insStep x) ([], false)) out[k]
    omega
theorem insOne_len (x : Cell) (out : List Cell) : (insOne x out).length = out.length + 1 := by
  have h := insSt_len x out out.length (by omega)
  rw [List.take_length] at h
  unfold insOne
  cases h2 : (insSt x out).2 <;> simp [h2, h]
theorem sortC_len (l : List Cell) : ∀ k, k ≤ l.length → (sortC (l.take k)).length = k
  | 0, _ => by simp [sortC]
  | k + 1, h => by
    have ih := sortC_len l k (by omega)
    unfold sortC at ih ⊢
    rw [foldl_take (fun out x => insOne x out) _ h, insOne_len, ih]
theorem drop_flat {α : Type} {enc : α → List VV} {z : Nat} (hz : ∀ x, (enc x).length = z) : ∀ (l : List α) {i : Nat} (h : i < l.length) {j : Nat}, j ≤ z → ((l.map enc).flatten).drop (i * z + j) = (enc l[i]).drop j ++ ((l.drop (i + 1)).map enc).flatten
  | x :: l, 0, _, j, hj => by
    simp only [List.map_cons, List.flatten_cons, Nat.zero_mul, Nat.zero_add, List.getElem_cons_zero, List.drop_succ_cons, List.drop_zero]
    rw [List.drop_append, hz, Nat.sub_eq_zero_of_le hj, List.drop_zero]
  | x :: l, i + 1, h, j, hj => by
    simp only [List.length_cons, Nat.add_lt_add_iff_right] at h
    simp only [List.map_cons, List.flatten_cons, List.getElem_cons_succ, List.drop_succ_cons]
    rw [List.drop_append, List.drop_eq_nil_of_le (by rw [hz, Nat.succ_mul]; omega), hz, show (i + 1) * z + j - z = i * z + j by rw [Nat.succ_mul]; omega, List.nil_append]
    exact drop_flat hz l h hj
theorem dropC (l : List Cell) {i : Nat} (h : i < l.length) {j : Nat} (hj : j ≤ 5) : ((l.map Cell.enc).flatten).drop (i * 5 + j) = (l[i]).enc.drop j ++ ((l.drop (i + 1)).map Cell.enc).flatten := drop_flat Cell.encLen l h hj
set_option maxHeartbeats 400000 in
theorem c208 {l : List Cell} (hl0 : l.length ≤ 40) : ObjC prog 208 [.rf 0 0 l.length 5] [(l.map Cell.enc).flatten] (.rf 1 0 l.length 5) [(0, (l.map Cell.enc).flatten), (1, ((sortC l).map Cell.enc).flatten)] 2 := by
  have hsl := sortC_len l l.length (by omega)
  rw [List.take_length] at hsl
  refine objC_of k208 (by simp) (by simp) (by first | rfl | simp [wfO, VV.underL, VV.under, under_signs, under_cells, under_blocks, *]) ?_
  intro X hP hm hH hn hX
  change X.n = 1 at hn
  refine vwp_ok _ ?_
  unfold vc208
  repeat' (first
    | simp only [go_sem, reduceCtorEq, reduceIte, Nat.reduceAdd, Nat.reduceEqDiff, Nat.reduceLeDiff, Nat.reduceMul, *]
    | refine gdO_bool' _ (fun _ => ?_) (fun _ => ?_)
    | refine gdO_bool _ (fun _ => ?_) (fun _ => ?_)
    | refine gdD_bool' _ (fun _ => ?_) (fun _ => ?_)
    | refine gdD_bool _ (fun _ => ?_) (fun _ => ?_)
    | refine cdO_bool' _ (fun _ => ?_) (fun _ => ?_)
    | refine cdO_bool _ (fun _ => ?_) (fun _ => ?_)
    | refine ⟨by decide, ?_⟩
    | fail)
  refine loopV hX (fun μ s H n => ∃ (i : Nat), i ≤ l.length ∧ μ = l.length - i ∧ s = slotsOf [(0, .rf 0 0 l.length 5), (3, .rf 1 0 i 5), (4, .sc (.int .i64 i))] ∧ H = heapOf [(0, (l.map Cell.enc).flatten), (1, ((sortC (l.take i)).map Cell.enc).flatten)] ∧ n = 2) ?_
    ⟨l.length + 1, roundE (fun s => [0, nm (s 3)]) (by simp only [go_sem, reduceCtorEq, reduceIte, Nat.reduceAdd, Nat.reduceEqDiff, Nat.reduceLeDiff, Nat.reduceMul, nm_rf]; rfl) (rk_of hn [(0, _), (3, _), (4, _)] [(0, _), (1, _)] _ ⟨0, by omega, rfl, rfl, rfl, rfl⟩ (by omega) (by simp) (by simp [tau]) (by simp) (by simp [hm]) ?_ ?_)⟩
  rotate_left
  · repeat' (first | exact List.forall_mem_nil _ | refine List.forall_mem_cons.2 ⟨?_, ?_⟩ | exact .toPt (by simp only [go_sem, reduceCtorEq, reduceIte, Nat.reduceAdd, Nat.reduceEqDiff, Nat.reduceLeDiff, Nat.reduceMul, *] <;> rfl) (by simp [tau]) (by simp) | exact .toRf (by simp only [go_sem, reduceCtorEq, reduceIte, Nat.reduceAdd, Nat.reduceEqDiff, Nat.reduceLeDiff, Nat.reduceMul, *] <;> rfl) (by simp [tau]) (by simp) | exact .same (by simp only [go_sem, reduceCtorEq, reduceIte, Nat.reduceAdd, Nat.reduceEqDiff, Nat.reduceLeDiff, Nat.reduceMul, *] <;> rfl) (by first | rfl | simp [VV.cloL, VV.clo, *]))
  · refine HConv.same (by decide) (by first | rfl | (simp only [go_sem, reduceCtorEq, reduceIte, Nat.reduceAdd, Nat.reduceEqDiff, Nat.reduceLeDiff, Nat.reduceMul, *] <;> rfl)) (flatC_clo _) ?_
    exact HConv.same (by decide) (by first | rfl | (simp only [go_sem, reduceCtorEq, reduceIte, Nat.reduceAdd, Nat.reduceEqDiff, Nat.reduceLeDiff, Nat.reduceMul, *] <;> rfl)) (flatC_clo _) HConv.nil
  rintro μ s H n ⟨i, hi, rfl, rfl, rfl, rfl⟩
  rcases Nat.lt_or_ge i l.length with hlt | hge
  · have g1 := lt_dec hlt
    have w1 : IntKind.i64.wrap ((i : Int) + 1) = ((i + 1 : Nat) : Int) := by rw [wrap_id] <;> omega
    have hol : Kept ((sortC (l.take i)).length = i) := ⟨sortC_len l i (by omega)⟩
    have hon : Kept (sortC (l.take (i + 1)) = insOne l[i] (sortC (l.take i))) := ⟨foldl_take (fun out x => insOne x out) _ hlt⟩
    have ex : (l[i]).enc = [.sc (.int .i64 (l[i]).row), .sc (.int .i64 (l[i]).col), .sc (.int .i64 (l[i]).down), .sc (.int .i64 (l[i]).right), .sl 3 ((l[i]).text.map Sign.enc)] := rfl
    have x0 := dropC l hlt (j := 0) (by omega)
    have x1 := dropC l hlt (j := 1) (by omega)
    generalize ((l.drop (i + 1)).map Cell.enc).flatten = R at x0 x1
    generalize hx : l[i] = x at *
    generalize hO : sortC (l.take i) = O at *
    have hsp : ∀ k, k ≤ O.length → (insSt x (O.take k)).1.length = k + (insSt x (O.take k)).2.toNat := insSt_len x O
    have hol := hol.out
    subst hol
    rw [ex] at x0 x1
    simp only [Nat.add_zero, List.drop_zero, List.drop_succ_cons, List.cons_append, List.nil_append] at x0 x1
    have i0 : (0 : Int) ≤ (O.length : Int) := by omega
    have i1 : ((O.length : Nat) : Int) < (l.length : Int) := by omega
    repeat' (first
      | simp only [go_sem, reduceCtorEq, reduceIte, Nat.reduceAdd, Nat.reduceEqDiff, Nat.reduceLeDiff, Nat.reduceMul, *]
      | refine gdO_bool' _ (fun _ => ?_) (fun _ => ?_)
      | refine gdO_bool _ (fun _ => ?_) (fun _ => ?_)
      | refine gdD_bool' _ (fun _ => ?_) (fun _ => ?_)
      | refine gdD_bool _ (fun _ => ?_) (fun _ => ?_)
      | refine cdO_bool' _ (fun _ => ?_) (fun _ => ?_)
      | refine cdO_bool _ (fun _ => ?_) (fun _ => ?_)
      | refine ⟨by decide, ?_⟩
      | fail)
    refine loopV hX (fun μ s H n => ∃ (k : Nat) (nx : List Cell) (dn : Bool), k ≤ O.length ∧ insSt x (O.take k) = (nx, dn) ∧ μ = O.length - k ∧ s = slotsOf [(0, .rf 0 0 l.length 5), (3, .rf 1 0 O.length 5), (4, .sc (.int .i64 O.length)), (5, .rf 2 0 nx.length 5), (6, .sc (.bool dn)), (7, .sc (.int .i64 k))] ∧ H = heapOf [(0, (l.map Cell.enc).flatten), (1, (O.map Cell.enc).flatten), (2, (nx.map Cell.enc).flatten)] ∧ n = 3) ?_
      ⟨O.length + 1, roundE (fun s => [0, nm (s 3), nm (s 5)]) (by simp only [go_sem, reduceCtorEq, reduceIte, Nat.reduceAdd, Nat.reduceEqDiff, Nat.reduceLeDiff, Nat.reduceMul, nm_rf]; rfl) (rk_of hn [(0, _), (3, _), (4, _), (5, .rf 2 0 0 5), (6, _), (7, _)] [(0, _), (1, _), (2, [])] _ ⟨0, [], false, by omega, rfl, rfl, rfl, rfl, rfl⟩ (by omega) (by simp) (by simp [tau]) (by simp) (by simp [hm]) ?_ ?_)⟩
    rotate_left
    · repeat' (first | exact List.forall_mem_nil _ | refine List.forall_mem_cons.2 ⟨?_, ?_⟩ | exact .toPt (by simp only [go_sem, reduceCtorEq, reduceIte, Nat.reduceAdd, Nat.reduceEqDiff, Nat.reduceLeDiff, Nat.reduceMul, *] <;> rfl) (by simp [tau]) (by simp) | exact .toRf (by simp only [go_sem, reduceCtorEq, reduceIte, Nat.reduceAdd, Nat.reduceEqDiff, Nat.reduceLeDiff, Nat.reduceMul, *] <;> rfl) (by simp [tau]) (by simp) | exact .same (by simp only [go_sem, reduceCtorEq, reduceIte, Nat.reduceAdd, Nat.reduceEqDiff, Nat.reduceLeDiff, Nat.reduceMul, *] <;> rfl) (by first | rfl | simp [VV.cloL, VV.clo, *]))
    · refine HConv.same (by decide) (by first | rfl | (simp only [go_sem, reduceCtorEq, reduceIte, Nat.reduceAdd, Nat.reduceEqDiff, Nat.reduceLeDiff, Nat.reduceMul, *] <;> rfl)) (flatC_clo _) ?_
      refine HConv.same (by decide) (by first | rfl | (simp only [go_sem, reduceCtorEq, reduceIte, Nat.reduceAdd, Nat.reduceEqDiff, Nat.reduceLeDiff, Nat.reduceMul, *] <;> rfl)) (flatC_clo _) ?_
      exact HConv.same (by decide) (by first | rfl | (simp only [go_sem, reduceCtorEq, reduceIte, Nat.reduceAdd, Nat.reduceEqDiff, Nat.reduceLeDiff, Nat.reduceMul, *] <;> rfl)) rfl HConv.nil
    rintro μ s H n ⟨k, nx, dn, hk, hst, rfl, rfl, rfl, rfl⟩
    have hst : Kept (insSt x (O.take k) = (nx, dn)) := ⟨hst⟩
    rcases Nat.lt_or_ge k O.length with hlt2 | hge2
    · have g2 := lt_dec hlt2
      have w2 : IntKind.i64.wrap ((k : Int) + 1) = ((k + 1 : Nat) : Int) := by rw [wrap_id] <;> omega
      have hsn : Kept (insSt x (O.take (k + 1)) = insStep x (nx, dn) O[k]) := ⟨by rw [← hst.out]; exact foldl_take (insStep x) _ hlt2⟩
      have ey : (O[k]).enc = [.sc (.int .i64 (O[k]).row), .sc (.int .i64 (O[k]).col), .sc (.int .i64 (O[k]).down), .sc (.int .i64 (O[k]).right), .sl 3 ((O[k]).text.map Sign.enc)] := rfl
      have y0 := dropC O hlt2 (j := 0) (by omega)
      have y1 := dropC O hlt2 (j := 1) (by omega)
      have hnl := hsp k (by omega)
      rw [hst.out] at hnl
      simp only at hnl
      have hnl' : nx.length ≤ k + 1 := by cases dn <;> simp_all
      generalize ((O.drop (k + 1)).map Cell.enc).flatten = R2 at y0 y1
      generalize O[k] = y at *
      rw [ey] at y0 y1
      simp only [Nat.add_zero, List.drop_zero, List.drop_succ_cons, List.cons_append, List.nil_append] at y0 y1
      have i2 : (0 : Int) ≤ (k : Int) := by omega
      have i3 : ((k : Nat) : Int) < (O.length : Int) := by omega
      have hfl := flatC_len nx
      have tk : ((nx.map Cell.enc).flatten).take (nx.length * 5) = (nx.map Cell.enc).flatten := List.take_of_length_le (by omega)
      have b3 : (nx.length + 1) * 56 ≤ lim := lim56 (by omega)
      have b4 : nx.length + 1 ≤ 9223372036854775807 := by omega
      have b5 : nx.length * 5 ≤ nx.length * 5 := by omega
      have b6 : nx.length * 5 + 5 ≤ nx.length * 5 + 5 := by omega
      have c2 : (nx.length + 1 + 1) * 56 ≤ lim := lim56 (by omega)
      have c3 : nx.length ≤ 9223372036854775805 := by omega
      have c1 : (nx.length + 1) * 5 ≤ ((nx.map Cell.enc).flatten ++ x.enc).length := by rw [List.length_append, hfl, Cell.encLen]; omega
      have tk2 : List.take ((nx.length + 1) * 5) ((nx.map Cell.enc).flatten ++ x.enc) = (nx.map Cell.enc).flatten ++ x.enc := List.take_of_length_le (by rw [List.length_append, hfl, Cell.encLen]; omega)
      rw [ex] at c1 tk2
      have fin : ∀ (s : Slots) (H : Heap) (n : Nat) (nx' : List Cell) (dn' : Bool), insStep x (nx, dn) y = (nx', dn') → s 0 = .rf 0 0 l.length 5 → s 3 = .rf 1 0 O.length 5 → s 4 = .sc (.int .i64 O.length) → s 5 = .rf (nm (s 5)) 0 nx'.length 5 → s 6 = .sc (.bool dn') → s 7 = .sc (.int .i64 ((k + 1 : Nat) : Int)) →
          H 0 = some (l.map Cell.enc).flatten → H 1 = some (O.map Cell.enc).flatten → H (nm (s 5)) = some (nx'.map Cell.enc).flatten → nm (s 5) ≠ 0 → nm (s 5) ≠ 1 →
          roundV X (fun μ s H n => ∃ (k : Nat) (nx : List Cell) (dn : Bool), k ≤ O.length ∧ insSt x (O.take k) = (nx, dn) ∧ μ = O.length - k ∧ s = slotsOf [(0, .rf 0 0 l.length 5), (3, .rf 1 0 O.length 5), (4, .sc (.int .i64 O.length)), (5, .rf 2 0 nx.length 5), (6, .sc (.bool dn)), (7, .sc (.int .i64 k))] ∧ H = heapOf [(0, (l.map Cell.enc).flatten), (1, (O.map Cell.enc).flatten), (2, (nx.map Cell.enc).flatten)] ∧ n = 3) (O.length - k) s H n := by
        intro s H n nx' dn' e1 s0 s3 s4 s5 s6 s7 h0 h1 h2 ne0 ne1
        generalize nm (s 5) = q at *
        refine roundN hn [0, 1, q] [(0, _), (3, _), (4, _), (5, _), (6, _), (7, _)] [(0, _), (1, _), (2, _)] _ ⟨k + 1, nx', dn', hlt2, by rw [hsn.out, e1], rfl, rfl, rfl, rfl⟩ (by omega) (by simp) (by simp [tau]) (by simp [Ne.symm ne0, Ne.symm ne1]) (by simp [hm]) ?_ ?_
        · rw [List.forall_mem_cons, List.forall_mem_cons, List.forall_mem_cons, List.forall_mem_cons, List.forall_mem_cons, List.forall_mem_cons]
          exact ⟨.toRf s0 (by simp [tau]) (by simp), .toRf s3 (by simp [tau]) (by simp), .same s4 rfl, .toRf s5 (by simp [tau]) (by simp), .same s6 rfl, .same s7 rfl, List.forall_mem_nil _⟩
        · exact HConv.same (by simp) h0 (flatC_clo _) (HConv.same (by simp) h1 (flatC_clo _) (HConv.same (by simp) h2 (flatC_clo _) HConv.nil))
      have ins : insStep x (nx, dn) y = if (!dn && aheadB x y) = true then (nx ++ [x] ++ [y], true) else (nx ++ [y], dn) := rfl
      unfold aheadB at ins
      clear hnl hsl hsn hst hsp
      cases dn
      all_goals
        repeat' (first
          | simp only [go_sem, reduceCtorEq, reduceIte, Nat.reduceAdd, Nat.reduceEqDiff, Nat.reduceLeDiff, Nat.reduceMul, *]
          | refine gdO_bool' _ (fun _ => ?_) (fun _ => ?_)
          | refine gdO_bool _ (fun _ => ?_) (fun _ => ?_)
          | refine gdD_bool' _ (fun _ => ?_) (fun _ => ?_)
          | refine gdD_bool _ (fun _ => ?_) (fun _ => ?_)
          | refine cdO_bool' _ (fun _ => ?_) (fun _ => ?_)
          | refine cdO_bool _ (fun _ => ?_) (fun _ => ?_)
          | refine ⟨by decide, ?_⟩
          | fail)
        all_goals
          try simp only [*, if_true, if_false, Bool.false_eq_true, Bool.not_false, Bool.not_true, Bool.true_and, Bool.false_and, Bool.and_true, Bool.and_false, Bool.true_or, Bool.false_or, Bool.or_true, Bool.or_false] at ins
          refine fin _ _ _ _ _ ins (by simp only [go_sem, reduceCtorEq, reduceIte, Nat.reduceAdd, Nat.reduceEqDiff, Nat.reduceLeDiff, Nat.reduceMul, *]) (by simp only [go_sem, reduceCtorEq, reduceIte, Nat.reduceAdd, Nat.reduceEqDiff, Nat.reduceLeDiff, Nat.reduceMul, *]) (by simp only [go_sem, reduceCtorEq, reduceIte, Nat.reduceAdd, Nat.reduceEqDiff, Nat.reduceLeDiff, Nat.reduceMul, *]) (by simp only [go_sem, reduceCtorEq, reduceIte, Nat.reduceAdd, Nat.reduceEqDiff, Nat.reduceLeDiff, Nat.reduceMul, *, nm_rf, List.length_append]) (by simp only [go_sem, reduceCtorEq, reduceIte, Nat.reduceAdd, Nat.reduceEqDiff, Nat.reduceLeDiff, Nat.reduceMul, *]) (by simp only [go_sem, reduceCtorEq, reduceIte, Nat.reduceAdd, Nat.reduceEqDiff, Nat.reduceLeDiff, Nat.reduceMul, *]) (by simp only [go_sem, reduceCtorEq, reduceIte, Nat.reduceAdd, Nat.reduceEqDiff, Nat.reduceLeDiff, Nat.reduceMul, *]) (by simp only [go_sem, reduceCtorEq, reduceIte, Nat.reduceAdd, Nat.reduceEqDiff, Nat.reduceLeDiff, Nat.reduceMul, *]) (by simp only [go_sem, reduceCtorEq, reduceIte, Nat.reduceAdd, Nat.reduceEqDiff, Nat.reduceLeDiff, Nat.reduceMul, *, nm_rf, List.flatten_append]) (by simp only [go_sem, reduceCtorEq, reduceIte, Nat.reduceAdd, Nat.reduceEqDiff, Nat.reduceLeDiff, Nat.reduceMul, *, nm_rf]) (by simp only [go_sem, reduceCtorEq, reduceIte, Nat.reduceAdd, Nat.reduceEqDiff, Nat.reduceLeDiff, Nat.reduceMul, *, nm_rf])
    · have e : k = O.length := by omega
      subst e
      have g2 : decide (((O.length : Nat) : Int) < ((O.length : Nat) : Int)) = false := by simp
      rw [List.take_length] at hst
      have hn1 : Kept (insOne x O = if dn = true then nx else nx ++ [x]) := ⟨by unfold insOne; rw [hst.out]⟩
      have hlen : Kept ((insOne x O).length = O.length + 1) := ⟨insOne_len x O⟩
      have hfl := flatC_len nx
      have hnl := hsp O.length (by omega)
      rw [List.take_length, hst.out] at hnl
      simp only at hnl
      have hnl' : nx.length ≤ O.length + 1 := by cases dn <;> simp_all
      have tk : ((nx.map Cell.enc).flatten).take (nx.length * 5) = (nx.map Cell.enc).flatten := List.take_of_length_le (by omega)
      have b3 : (nx.length + 1) * 56 ≤ lim := lim56 (by omega)
      have b4 : nx.length + 1 ≤ 9223372036854775807 := by omega
      have b5 : nx.length * 5 ≤ nx.length * 5 := by omega
      clear hsl hst hsp hnl
      cases dn
      · have hn1 := hn1.out
        simp only [Bool.false_eq_true, if_false] at hn1
        have hle : Kept (nx.length + 1 = O.length + 1) := ⟨by rw [← hlen.out, hn1]; simp⟩
        have hn1 := Kept.mk hn1
        repeat' (first
          | simp only [go_sem, reduceCtorEq, reduceIte, Nat.reduceAdd, Nat.reduceEqDiff, Nat.reduceLeDiff, Nat.reduceMul, *]
          | refine gdO_bool' _ (fun _ => ?_) (fun _ => ?_)
          | refine gdO_bool _ (fun _ => ?_) (fun _ => ?_)
          | refine gdD_bool' _ (fun _ => ?_) (fun _ => ?_)
          | refine gdD_bool _ (fun _ => ?_) (fun _ => ?_)
          | refine cdO_bool' _ (fun _ => ?_) (fun _ => ?_)
          | refine cdO_bool _ (fun _ => ?_) (fun _ => ?_)
          | refine ⟨by decide, ?_⟩
          | fail)
        refine roundE (fun s => [0, nm (s 3)]) (by simp only [go_sem, reduceCtorEq, reduceIte, Nat.reduceAdd, Nat.reduceEqDiff, Nat.reduceLeDiff, Nat.reduceMul, nm_rf]; rfl) (rk_of hn [(0, _), (3, .rf 1 0 (O.length + 1) 5), (4, _)] [(0, _), (1, ((insOne x O).map Cell.enc).flatten)] _ ⟨O.length + 1, hlt, rfl, rfl, by rw [hon.out], rfl⟩ (by omega) (by simp) (by simp [tau]) (by simp) (by simp [hm]) ?_ ?_)
        · rw [← hle.out]
          repeat' (first | exact List.forall_mem_nil _ | refine List.forall_mem_cons.2 ⟨?_, ?_⟩ | exact .toPt (by simp only [go_sem, reduceCtorEq, reduceIte, Nat.reduceAdd, Nat.reduceEqDiff, Nat.reduceLeDiff, Nat.reduceMul, *] <;> rfl) (by simp [tau]) (by simp) | exact .toRf (by simp only [go_sem, reduceCtorEq, reduceIte, Nat.reduceAdd, Nat.reduceEqDiff, Nat.reduceLeDiff, Nat.reduceMul, *] <;> rfl) (by simp [tau]) (by simp) | exact .same (by simp only [go_sem, reduceCtorEq, reduceIte, Nat.reduceAdd, Nat.reduceEqDiff, Nat.reduceLeDiff, Nat.reduceMul, *] <;> rfl) (by first | rfl | simp [VV.cloL, VV.clo, *]))
        · refine HConv.same (by decide) (by first | rfl | (simp only [go_sem, reduceCtorEq, reduceIte, Nat.reduceAdd, Nat.reduceEqDiff, Nat.reduceLeDiff, Nat.reduceMul, *] <;> rfl)) (flatC_clo _) ?_
          refine HConv.same (by decide) ?_ (flatC_clo _) HConv.nil
          rw [hn1.out]
          simp only [go_sem, reduceCtorEq, reduceIte, Nat.reduceAdd, Nat.reduceEqDiff, Nat.reduceLeDiff, Nat.reduceMul, *, List.flatten_append]
          try rfl
      · have hn1 := hn1.out
        simp only [if_true] at hn1
        have hle : Kept (nx.length = O.length + 1) := ⟨by rw [← hlen.out, hn1]⟩
        have hn1 := Kept.mk hn1
        repeat' (first
          | simp only [go_sem, reduceCtorEq, reduceIte, Nat.reduceAdd, Nat.reduceEqDiff, Nat.reduceLeDiff, Nat.reduceMul, *]
          | refine gdO_bool' _ (fun _ => ?_) (fun _ => ?_)
          | refine gdO_bool _ (fun _ => ?_) (fun _ => ?_)
          | refine gdD_bool' _ (fun _ => ?_) (fun _ => ?_)
          | refine gdD_bool _ (fun _ => ?_) (fun _ => ?_)
          | refine cdO_bool' _ (fun _ => ?_) (fun _ => ?_)
          | refine cdO_bool _ (fun _ => ?_) (fun _ => ?_)
          | refine ⟨by decide, ?_⟩
          | fail)
        refine roundE (fun s => [0, nm (s 3)]) (by simp only [go_sem, reduceCtorEq, reduceIte, Nat.reduceAdd, Nat.reduceEqDiff, Nat.reduceLeDiff, Nat.reduceMul, nm_rf]; rfl) (rk_of hn [(0, _), (3, .rf 1 0 (O.length + 1) 5), (4, _)] [(0, _), (1, ((insOne x O).map Cell.enc).flatten)] _ ⟨O.length + 1, hlt, rfl, rfl, by rw [hon.out], rfl⟩ (by omega) (by simp) (by simp [tau]) (by simp) (by simp [hm]) ?_ ?_)
        · rw [← hle.out]
          repeat' (first | exact List.forall_mem_nil _ | refine List.forall_mem_cons.2 ⟨?_, ?_⟩ | exact .toPt (by simp only [go_sem, reduceCtorEq, reduceIte, Nat.reduceAdd, Nat.reduceEqDiff, Nat.reduceLeDiff, Nat.reduceMul, *] <;> rfl) (by simp [tau]) (by simp) | exact .toRf (by simp only [go_sem, reduceCtorEq, reduceIte, Nat.reduceAdd, Nat.reduceEqDiff, Nat.reduceLeDiff, Nat.reduceMul, *] <;> rfl) (by simp [tau]) (by simp) | exact .same (by simp only [go_sem, reduceCtorEq, reduceIte, Nat.reduceAdd, Nat.reduceEqDiff, Nat.reduceLeDiff, Nat.reduceMul, *] <;> rfl) (by first | rfl | simp [VV.cloL, VV.clo, *]))
        · refine HConv.same (by decide) (by first | rfl | (simp only [go_sem, reduceCtorEq, reduceIte, Nat.reduceAdd, Nat.reduceEqDiff, Nat.reduceLeDiff, Nat.reduceMul, *] <;> rfl)) (flatC_clo _) ?_
          refine HConv.same (by decide) ?_ (flatC_clo _) HConv.nil
          rw [hn1.out]
          first | rfl | (simp only [go_sem, reduceCtorEq, reduceIte, Nat.reduceAdd, Nat.reduceEqDiff, Nat.reduceLeDiff, Nat.reduceMul, *] <;> rfl)
  · have e : i = l.length := by omega
    subst e
    have g1 : decide (((l.length : Nat) : Int) < ((l.length : Nat) : Int)) = false := by simp
    rw [List.take_length]
    clear hsl
    repeat' (first
      | simp only [go_sem, reduceCtorEq, reduceIte, Nat.reduceAdd, Nat.reduceEqDiff, Nat.reduceLeDiff, Nat.reduceMul, *]
      | refine gdO_bool' _ (fun _ => ?_) (fun _ => ?_)
      | refine gdO_bool _ (fun _ => ?_) (fun _ => ?_)
      | refine gdD_bool' _ (fun _ => ?_) (fun _ => ?_)
      | refine gdD_bool _ (fun _ => ?_) (fun _ => ?_)
      | refine cdO_bool' _ (fun _ => ?_) (fun _ => ?_)
      | refine cdO_bool _ (fun _ => ?_) (fun _ => ?_)
      | refine ⟨by decide, ?_⟩
      | fail)
    refine ⟨by simp, _, by simp only [go_sem, reduceCtorEq, reduceIte, Nat.reduceAdd, Nat.reduceEqDiff, Nat.reduceLeDiff, Nat.reduceMul, resV]; rfl, ?_⟩
    refine EndV.of hn [0, 1] _ (by simp) (by simp [tau]) (by simp) (.toRf rfl (by simp [tau]) (by simp)) ?_
    exact HConv.same (by simp) rfl (flatC_clo _) (HConv.same (by simp) rfl (flatC_clo _) HConv.nil)
end Go.Proofs.Ytdmmhainianadaa
