/- The law FnExactSpotRaw: for every input that can be read as data, the call returns true, and the arguments read as they did. No condition. -/
import Derived.Test.YtdmmhainianadaaRows
import Derived.WalkKit
import Derived.ProofKit
import Derived.OpenShut
import Derived.ChangeOld
import Derived.ChangeCalls
import Derived.Below
import Derived.SizedLaws
import Derived.Test.YtdmmhainianadaaV0
import Derived.Test.YtdmmhainianadaaV1
import Derived.Test.YtdmmhainianadaaF0
import Derived.Test.YtdmmhainianadaaF1
set_option linter.unusedSimpArgs false
set_option linter.unusedVariables false
namespace Go.Proofs.Ytdmmhainianadaa.fnExactSpotRaw
open Go.ChangeShapes Go.WideShapes Go.ChangeAt Go.RowKit Go.VM Go.Lim Go.Proofs.Try
set_option linter.unusedVariables false
theorem shapes : shTs Try.prog 20 Try.f6.params.toList = some [shDoc, shSpot] := by kernel_rfl
theorem isRowed : rowed Try.prog Try.f6.params.toList = true := by kernel_rfl
theorem answer {xss : List (List VV)} (h : FitsA [shDoc, shSpot] xss) : PureC Try.prog 6 (argsV [shDoc, shSpot] xss) (.sc (.bool true)) := by
  simp only [FitsA] at h
  obtain ⟨x0, _, rfl, h0, x1, _, rfl, h1, rfl⟩ := h
  obtain ⟨d0, rfl, hd0⟩ := fits_doc h0
  obtain ⟨p1, rfl, hp1⟩ := fits_spot h1
  exact c6 d0 p1 hd0
set_option maxRecDepth 100000 in
theorem lifted (os : Os) (started : os.Started) (H : Type) (enc : TypeId × Value → H) :
    ReturnsInHanded {} Try.checked os 6 .any (Rows.fnExactSpotRawSpec.pre6 enc Try.prog Try.f6 Rows.fnExactSpotRawRow.domain false) (Rows.fnExactSpotRawSpec.post enc Try.prog Try.f6 false true false false) := by
  refine returnsInHanded_of_change_sized (C := Try.checked) Fx.own started (by kernel_rfl) Try.func6
    (ChangeSpec.witness6 (enc := enc) (C := Try.checked) false ⟨#[], #[.agg #[.slice none 0 0], .agg #[.int .i64 0, .int .i64 0, .int .i64 0]], []⟩ 8 (by kernel_rfl) (by kernel_rfl) (by kernel_rfl) (by kernel_rfl)) ?_
  intro W base args ds gs before hval hW hcnd hsz _
  have hW' := hW
  obtain ⟨p, q, hA, hV, rfl, hfz, hnd⟩ := hW
  have hA : DataW.TrodAll enc Try.prog W 0 (fun _ => true) true Try.f6.params.toList args.toList ds p := hA
  obtain ⟨rfl, rfl⟩ := trodVars_none hV
  obtain ⟨xss, hfit, hrep⟩ := open_args (P := Try.prog) (f := 20) hA (fun j t v h1 h2 => hval j t v (by simpa using h1) (by simpa using h2)) shapes
  have hlen : ds.length = 2 := (trodAll_length hA).2
  obtain ⟨e0, e1, rfl⟩ : ∃ e0 e1, ds = [e0, e1] := by
    match ds, hlen with
    | [e0, e1], _ => exact ⟨e0, e1, rfl⟩
  refine ((answer hfit).calls hrep).mono fun e W' ⟨he, bel⟩ => ?_
  subst he
  exact ⟨_, rfl, _, _, _, [], _, [], hW', trodAll_mk1 (shut_bool Try.underlying4 _), args_stay Fx.laidOut bel isRowed hA, rfl, bel.frame _, fun h => by cases h⟩
theorem closed : joinedFacts Try.prog 6 Try.f6 Rows.fnExactSpotRawSpec Rows.fnExactSpotRawRow = true :=
  and_intro (and_intro (and_intro (and_intro (and_intro (and_intro (and_intro (by kernel_rfl) Fx.enters) (by rw [Fx.finals]; rfl)) (by rw [Fx.make]; rfl)) (by kernel_rfl)) (by kernel_rfl)) (by kernel_rfl)) (by kernel_rfl)
set_option maxRecDepth 100000 in
theorem closed' : joinedFacts Try.pinned.checked.prog 6 Try.f6 Rows.fnExactSpotRawSpec Rows.fnExactSpotRawRow = true := closed
set_option maxRecDepth 100000 in
theorem over : Rows.fnExactSpotRawRow.holds Try.pinned (OpenSpec.ofChange Rows.fnExactSpotRawSpec) :=
  OpenClaim.holds_of_wide 6 Try.f6 rfl rfl rfl rfl rfl rfl rfl ⟨rfl, rfl, rfl, rfl, rfl⟩ rfl rfl rfl rfl rfl (by kernel_rfl) Try.func6 closed' (of_decide_eq_true (by kernel_rfl)) (by unfold Func.isWrapper; first | (rw [if_pos (by decide +kernel)]; kernel_rfl) | (rw [if_neg (by decide +kernel)]; exact ⟨rfl, rfl⟩))
    (fun os started H enc _ => lifted os started H enc)
theorem proved : Rows.FnExactSpotRawSaid := over
#print axioms proved
end Go.Proofs.Ytdmmhainianadaa.fnExactSpotRaw
namespace Go.Proofs.Ytdmmhainianadaa
/-- The row, under a short name, for the claim. -/
theorem fnExactSpotRaw_holds : Rows.FnExactSpotRawSaid := fnExactSpotRaw.proved
end Go.Proofs.Ytdmmhainianadaa
