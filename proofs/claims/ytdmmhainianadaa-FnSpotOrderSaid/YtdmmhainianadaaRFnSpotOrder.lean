/- The law FnSpotOrder: for every input that can be read as data, the call returns true, and the arguments read as they did. No condition. -/
import Derived.Test.YtdmmhainianadaaRows
import Derived.WalkKit
import Derived.ProofKit
import Derived.OpenShut
import Derived.ChangeOld
import Derived.ChangeCalls
import Derived.Below
import Derived.SizedLaws
import Derived.Test.YtdmmhainianadaaV0
import Derived.Test.YtdmmhainianadaaV1
import Derived.Test.YtdmmhainianadaaF0
import Derived.Test.YtdmmhainianadaaF1
import Derived.Test.YtdmmhainianadaaF2
import Derived.Test.YtdmmhainianadaaF3
set_option linter.unusedSimpArgs false
set_option linter.unusedVariables false
set_option linter.unnecessarySimpa false
namespace Go.Proofs.Ytdmmhainianadaa.fnSpotOrder
open Go.ChangeShapes Go.WideShapes Go.ChangeAt Go.RowKit Go.VM Go.Lim Go.Proofs.Try
set_option linter.unusedVariables false
theorem shapes : shTs Try.prog 20 Try.f5.params.toList = some [.sl 1 (.int .u8)] := by kernel_rfl
theorem isRowed : rowed Try.prog Try.f5.params.toList = true := by kernel_rfl
theorem answer {xss : List (List VV)} (h : FitsA [.sl 1 (.int .u8)] xss) : PureC Try.prog 5 (argsV [.sl 1 (.int .u8)] xss) (.sc (.bool true)) := by
  simp only [FitsA] at h
  obtain ⟨x0, _, rfl, h0, rfl⟩ := h
  obtain ⟨l0, rfl, hl0⟩ := fits_bytes h0
  exact c5 (bytes_of hl0.2) hl0.1
set_option maxRecDepth 100000 in
theorem lifted (os : Os) (started : os.Started) (H : Type) (enc : TypeId × Value → H) :
    ReturnsInHanded {} Try.checked os 5 .any (Rows.fnSpotOrderSpec.pre6 enc Try.prog Try.f5 Rows.fnSpotOrderRow.domain false) (Rows.fnSpotOrderSpec.post enc Try.prog Try.f5 false true false false) := by
  refine returnsInHanded_of_change_sized (C := Try.checked) Fx.own started (by kernel_rfl) Try.func5
    (ChangeSpec.witness6 (enc := enc) (C := Try.checked) false ⟨#[], #[.slice none 0 0], []⟩ 8 (by kernel_rfl) (by kernel_rfl) (by kernel_rfl) (by kernel_rfl)) ?_
  intro W base args ds gs before hval hW hcnd hsz _
  have hW' := hW
  obtain ⟨p, q, hA, hV, rfl, hfz, hnd⟩ := hW
  have hA : DataW.TrodAll enc Try.prog W 0 (fun _ => true) true Try.f5.params.toList args.toList ds p := hA
  obtain ⟨rfl, rfl⟩ := trodVars_none hV
  obtain ⟨xss, hfit, hrep⟩ := open_args (P := Try.prog) (f := 20) hA (fun j t v h1 h2 => hval j t v (by simpa using h1) (by simpa using h2)) shapes
  have hlen : ds.length = 1 := (trodAll_length hA).2
  obtain ⟨e0, rfl⟩ : ∃ e0, ds = [e0] := by
    match ds, hlen with
    | [e0], _ => exact ⟨e0, rfl⟩
  refine ((answer hfit).calls hrep).mono fun e W' ⟨he, bel⟩ => ?_
  subst he
  exact ⟨_, rfl, _, _, _, [], _, [], hW', trodAll_mk1 (shut_bool Try.underlying4 _), args_stay Fx.laidOut bel isRowed hA, rfl, bel.frame _, fun h => by cases h⟩
theorem closed : joinedFacts Try.prog 5 Try.f5 Rows.fnSpotOrderSpec Rows.fnSpotOrderRow = true :=
  and_intro (and_intro (and_intro (and_intro (and_intro (and_intro (and_intro (by kernel_rfl) Fx.enters) (by rw [Fx.finals]; rfl)) (by rw [Fx.make]; rfl)) (by kernel_rfl)) (by kernel_rfl)) (by kernel_rfl)) (by kernel_rfl)
set_option maxRecDepth 100000 in
theorem closed' : joinedFacts Try.pinned.checked.prog 5 Try.f5 Rows.fnSpotOrderSpec Rows.fnSpotOrderRow = true := closed
set_option maxRecDepth 100000 in
theorem over : Rows.fnSpotOrderRow.holds Try.pinned (OpenSpec.ofChange Rows.fnSpotOrderSpec) :=
  OpenClaim.holds_of_wide 5 Try.f5 rfl rfl rfl rfl rfl rfl rfl ⟨rfl, rfl, rfl, rfl, rfl⟩ rfl rfl rfl rfl rfl (by kernel_rfl) Try.func5 closed' (of_decide_eq_true (by kernel_rfl)) (by unfold Func.isWrapper; first | (rw [if_pos (by decide +kernel)]; kernel_rfl) | (rw [if_neg (by decide +kernel)]; exact ⟨rfl, rfl⟩))
    (fun os started H enc _ => lifted os started H enc)
theorem proved : Rows.FnSpotOrderSaid := over
#print axioms proved
end Go.Proofs.Ytdmmhainianadaa.fnSpotOrder
namespace Go.Proofs.Ytdmmhainianadaa
/-- The row, under a short name, for the claim. -/
theorem fnSpotOrder_holds : Rows.FnSpotOrderSaid := fnSpotOrder.proved
end Go.Proofs.Ytdmmhainianadaa
