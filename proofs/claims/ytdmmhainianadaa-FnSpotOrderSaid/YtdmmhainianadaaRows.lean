/-
  No cell of these rows narrows 'for every input' (looked for: loops, veiled, ifaces, maps, wideKeys, modest, calm, conditions, laid).
  DERIVED. THE GIVEN ROWS OF THIS SEAT. 28 by the template 'for every input the law returns true; each argument reads behind the call as it read before'; 0 by the template 'total and deterministic' (their statements: YtdmmhainianadaaTotals.lean).
  GIVEN WITH THE SEED: the statements are not yours to turn. If you find one false, say at which input.
  Laid BY PROGRAM, IN A SANDBOX (cutbox-rows.mjs): the forced cells as the released guide's own fill.sh prints them over the translation a15a1750e86c74c1… (all of the seat's roots in one cut). By AI agents, Wed Nov 11 2026. No macro, syntax, notation, axiom, sorry.
-/
import Derived.Test.YtdmmhainianadaaChecked
import GoSem.Claim
import GoSem.ClaimJoined
import GoSem.ClaimMapViews
import Derived.JoinedTies
import Derived.KernelRfl
namespace Go.Proofs.Ytdmmhainianadaa
/- THE CELL 'sum', in the pinned program and in every row, IS THE sha256 OF THE DUMP (.gsa) THAT YtdmmhainianadaaProg.lean LOADS. Nothing in Lean hashes anything: it is a label: what it is worth is what the hold of that sum in a sandbox is worth. -/
noncomputable def Try.pinned : Pinned := { name := "ytdmmhainianadaa", sum := "a15a1750e86c74c136c345f0c5d5fa6bcd5d542fa4603e3f630999d6b194c27e", checked := Try.checked }
namespace Rows
def none {H : Type} : Left H := { results := [], args := [] }

/-- 'laws.FnExactSpotNow': WHATEVER THE INPUT: true; the input reads as it did. -/
def fnExactSpotNowSpec : ChangeSpec := { name := "fnExactSpotNow", fn := fun _ => fun
  | [d1, d2] => { results := [.lit (.bool true)], args := [d1, d2] }
  | _ => none }
def fnExactSpotNowRow : OpenClaim := { program := "ytdmmhainianadaa", sum := "a15a1750e86c74c136c345f0c5d5fa6bcd5d542fa4603e3f630999d6b194c27e", func := "loop.example/limner/laws.FnExactSpotNow", spec := "fnExactSpotNow", unfollowed := true, recurses := true, apart := false }
def FnExactSpotNowSaid : Prop := fnExactSpotNowRow.holds Try.pinned (OpenSpec.ofChange fnExactSpotNowSpec)

/-- ITS FALSE NEIGHBOUR: 'it returns false'. Refute it at one input. -/
def fnExactSpotNowWrong : ChangeSpec := { name := "fnExactSpotNow", fn := fun _ => fun
  | [d1, d2] => { results := [.lit (.bool false)], args := [d1, d2] }
  | _ => none }
def FnExactSpotNowWrongFalsely : Prop := fnExactSpotNowRow.holds Try.pinned (OpenSpec.ofChange fnExactSpotNowWrong)

/-- 'laws.FnExactSpotWas': WHATEVER THE INPUT: true; the input reads as it did. -/
def fnExactSpotWasSpec : ChangeSpec := { name := "fnExactSpotWas", fn := fun _ => fun
  | [d1, d2] => { results := [.lit (.bool true)], args := [d1, d2] }
  | _ => none }
def fnExactSpotWasRow : OpenClaim := { program := "ytdmmhainianadaa", sum := "a15a1750e86c74c136c345f0c5d5fa6bcd5d542fa4603e3f630999d6b194c27e", func := "loop.example/limner/laws.FnExactSpotWas", spec := "fnExactSpotWas", unfollowed := true, recurses := true, apart := false }
def FnExactSpotWasSaid : Prop := fnExactSpotWasRow.holds Try.pinned (OpenSpec.ofChange fnExactSpotWasSpec)

/-- ITS FALSE NEIGHBOUR: 'it returns false'. Refute it at one input. -/
def fnExactSpotWasWrong : ChangeSpec := { name := "fnExactSpotWas", fn := fun _ => fun
  | [d1, d2] => { results := [.lit (.bool false)], args := [d1, d2] }
  | _ => none }
def FnExactSpotWasWrongFalsely : Prop := fnExactSpotWasRow.holds Try.pinned (OpenSpec.ofChange fnExactSpotWasWrong)

/-- 'laws.FnSpotOrder': WHATEVER THE INPUT: true; the input reads as it did. -/
def fnSpotOrderSpec : ChangeSpec := { name := "fnSpotOrder", fn := fun _ => fun
  | [d] => { results := [.lit (.bool true)], args := [d] }
  | _ => none }
def fnSpotOrderRow : OpenClaim := { program := "ytdmmhainianadaa", sum := "a15a1750e86c74c136c345f0c5d5fa6bcd5d542fa4603e3f630999d6b194c27e", func := "loop.example/limner/laws.FnSpotOrder", spec := "fnSpotOrder", unfollowed := true, recurses := true, apart := false }
def FnSpotOrderSaid : Prop := fnSpotOrderRow.holds Try.pinned (OpenSpec.ofChange fnSpotOrderSpec)

/-- ITS FALSE NEIGHBOUR: 'it returns false'. Refute it at one input. -/
def fnSpotOrderWrong : ChangeSpec := { name := "fnSpotOrder", fn := fun _ => fun
  | [d] => { results := [.lit (.bool false)], args := [d] }
  | _ => none }
def FnSpotOrderWrongFalsely : Prop := fnSpotOrderRow.holds Try.pinned (OpenSpec.ofChange fnSpotOrderWrong)

/-- 'laws.FnExactSpotRaw': WHATEVER THE INPUT: true; the input reads as it did. -/
def fnExactSpotRawSpec : ChangeSpec := { name := "fnExactSpotRaw", fn := fun _ => fun
  | [d1, d2] => { results := [.lit (.bool true)], args := [d1, d2] }
  | _ => none }
def fnExactSpotRawRow : OpenClaim := { program := "ytdmmhainianadaa", sum := "a15a1750e86c74c136c345f0c5d5fa6bcd5d542fa4603e3f630999d6b194c27e", func := "loop.example/limner/laws.FnExactSpotRaw", spec := "fnExactSpotRaw", unfollowed := true, recurses := true, apart := false }
def FnExactSpotRawSaid : Prop := fnExactSpotRawRow.holds Try.pinned (OpenSpec.ofChange fnExactSpotRawSpec)

/-- ITS FALSE NEIGHBOUR: 'it returns false'. Refute it at one input. -/
def fnExactSpotRawWrong : ChangeSpec := { name := "fnExactSpotRaw", fn := fun _ => fun
  | [d1, d2] => { results := [.lit (.bool false)], args := [d1, d2] }
  | _ => none }
def FnExactSpotRawWrongFalsely : Prop := fnExactSpotRawRow.holds Try.pinned (OpenSpec.ofChange fnExactSpotRawWrong)

/-- 'laws.FnExactSugBy': WHATEVER THE INPUT: true; the input reads as it did. -/
def fnExactSugBySpec : ChangeSpec := { name := "fnExactSugBy", fn := fun _ => fun
  | [d] => { results := [.lit (.bool true)], args := [d] }
  | _ => none }
def fnExactSugByRow : OpenClaim := { program := "ytdmmhainianadaa", sum := "a15a1750e86c74c136c345f0c5d5fa6bcd5d542fa4603e3f630999d6b194c27e", func := "loop.example/limner/laws.FnExactSugBy", spec := "fnExactSugBy", unfollowed := true, recurses := true, apart := false }
def FnExactSugBySaid : Prop := fnExactSugByRow.holds Try.pinned (OpenSpec.ofChange fnExactSugBySpec)

/-- ITS FALSE NEIGHBOUR: 'it returns false'. Refute it at one input. -/
def fnExactSugByWrong : ChangeSpec := { name := "fnExactSugBy", fn := fun _ => fun
  | [d] => { results := [.lit (.bool false)], args := [d] }
  | _ => none }
def FnExactSugByWrongFalsely : Prop := fnExactSugByRow.holds Try.pinned (OpenSpec.ofChange fnExactSugByWrong)

/-- 'laws.FnSugTurn': WHATEVER THE INPUT: true; the input reads as it did. -/
def fnSugTurnSpec : ChangeSpec := { name := "fnSugTurn", fn := fun _ => fun
  | [d1, d2] => { results := [.lit (.bool true)], args := [d1, d2] }
  | _ => none }
def fnSugTurnRow : OpenClaim := { program := "ytdmmhainianadaa", sum := "a15a1750e86c74c136c345f0c5d5fa6bcd5d542fa4603e3f630999d6b194c27e", func := "loop.example/limner/laws.FnSugTurn", spec := "fnSugTurn", unfollowed := true, recurses := true, apart := false }
def FnSugTurnSaid : Prop := fnSugTurnRow.holds Try.pinned (OpenSpec.ofChange fnSugTurnSpec)

/-- ITS FALSE NEIGHBOUR: 'it returns false'. Refute it at one input. -/
def fnSugTurnWrong : ChangeSpec := { name := "fnSugTurn", fn := fun _ => fun
  | [d1, d2] => { results := [.lit (.bool false)], args := [d1, d2] }
  | _ => none }
def FnSugTurnWrongFalsely : Prop := fnSugTurnRow.holds Try.pinned (OpenSpec.ofChange fnSugTurnWrong)

/-- 'laws.FnSugForm': WHATEVER THE INPUT: true; the input reads as it did. -/
def fnSugFormSpec : ChangeSpec := { name := "fnSugForm", fn := fun _ => fun
  | [d] => { results := [.lit (.bool true)], args := [d] }
  | _ => none }
def fnSugFormRow : OpenClaim := { program := "ytdmmhainianadaa", sum := "a15a1750e86c74c136c345f0c5d5fa6bcd5d542fa4603e3f630999d6b194c27e", func := "loop.example/limner/laws.FnSugForm", spec := "fnSugForm", unfollowed := true, recurses := true, apart := false }
def FnSugFormSaid : Prop := fnSugFormRow.holds Try.pinned (OpenSpec.ofChange fnSugFormSpec)

/-- ITS FALSE NEIGHBOUR: 'it returns false'. Refute it at one input. -/
def fnSugFormWrong : ChangeSpec := { name := "fnSugForm", fn := fun _ => fun
  | [d] => { results := [.lit (.bool false)], args := [d] }
  | _ => none }
def FnSugFormWrongFalsely : Prop := fnSugFormRow.holds Try.pinned (OpenSpec.ofChange fnSugFormWrong)

/-- 'laws.FnSugTakeWas': WHATEVER THE INPUT: true; the input reads as it did. -/
def fnSugTakeWasSpec : ChangeSpec := { name := "fnSugTakeWas", fn := fun _ => fun
  | [d] => { results := [.lit (.bool true)], args := [d] }
  | _ => none }
def fnSugTakeWasRow : OpenClaim := { program := "ytdmmhainianadaa", sum := "a15a1750e86c74c136c345f0c5d5fa6bcd5d542fa4603e3f630999d6b194c27e", func := "loop.example/limner/laws.FnSugTakeWas", spec := "fnSugTakeWas", unfollowed := true, recurses := true, apart := false }
def FnSugTakeWasSaid : Prop := fnSugTakeWasRow.holds Try.pinned (OpenSpec.ofChange fnSugTakeWasSpec)

/-- ITS FALSE NEIGHBOUR: 'it returns false'. Refute it at one input. -/
def fnSugTakeWasWrong : ChangeSpec := { name := "fnSugTakeWas", fn := fun _ => fun
  | [d] => { results := [.lit (.bool false)], args := [d] }
  | _ => none }
def FnSugTakeWasWrongFalsely : Prop := fnSugTakeWasRow.holds Try.pinned (OpenSpec.ofChange fnSugTakeWasWrong)

/-- 'laws.FnSugOutTwice': WHATEVER THE INPUT: true; the input reads as it did. -/
def fnSugOutTwiceSpec : ChangeSpec := { name := "fnSugOutTwice", fn := fun _ => fun
  | [d] => { results := [.lit (.bool true)], args := [d] }
  | _ => none }
def fnSugOutTwiceRow : OpenClaim := { program := "ytdmmhainianadaa", sum := "a15a1750e86c74c136c345f0c5d5fa6bcd5d542fa4603e3f630999d6b194c27e", func := "loop.example/limner/laws.FnSugOutTwice", spec := "fnSugOutTwice", unfollowed := true, recurses := true, apart := false }
def FnSugOutTwiceSaid : Prop := fnSugOutTwiceRow.holds Try.pinned (OpenSpec.ofChange fnSugOutTwiceSpec)

/-- ITS FALSE NEIGHBOUR: 'it returns false'. Refute it at one input. -/
def fnSugOutTwiceWrong : ChangeSpec := { name := "fnSugOutTwice", fn := fun _ => fun
  | [d] => { results := [.lit (.bool false)], args := [d] }
  | _ => none }
def FnSugOutTwiceWrongFalsely : Prop := fnSugOutTwiceRow.holds Try.pinned (OpenSpec.ofChange fnSugOutTwiceWrong)

/-- 'laws.FnSpotRaw': WHATEVER THE INPUT: true; the input reads as it did. -/
def fnSpotRawSpec : ChangeSpec := { name := "fnSpotRaw", fn := fun _ => fun
  | [d] => { results := [.lit (.bool true)], args := [d] }
  | _ => none }
def fnSpotRawRow : OpenClaim := { program := "ytdmmhainianadaa", sum := "a15a1750e86c74c136c345f0c5d5fa6bcd5d542fa4603e3f630999d6b194c27e", func := "loop.example/limner/laws.FnSpotRaw", spec := "fnSpotRaw", unfollowed := true, recurses := true, apart := false }
def FnSpotRawSaid : Prop := fnSpotRawRow.holds Try.pinned (OpenSpec.ofChange fnSpotRawSpec)

/-- ITS FALSE NEIGHBOUR: 'it returns false'. Refute it at one input. -/
def fnSpotRawWrong : ChangeSpec := { name := "fnSpotRaw", fn := fun _ => fun
  | [d] => { results := [.lit (.bool false)], args := [d] }
  | _ => none }
def FnSpotRawWrongFalsely : Prop := fnSpotRawRow.holds Try.pinned (OpenSpec.ofChange fnSpotRawWrong)

/-- 'laws.FnSugPlain': WHATEVER THE INPUT: true; the input reads as it did. -/
def fnSugPlainSpec : ChangeSpec := { name := "fnSugPlain", fn := fun _ => fun
  | [d] => { results := [.lit (.bool true)], args := [d] }
  | _ => none }
def fnSugPlainRow : OpenClaim := { program := "ytdmmhainianadaa", sum := "a15a1750e86c74c136c345f0c5d5fa6bcd5d542fa4603e3f630999d6b194c27e", func := "loop.example/limner/laws.FnSugPlain", spec := "fnSugPlain", unfollowed := true, recurses := true, apart := false }
def FnSugPlainSaid : Prop := fnSugPlainRow.holds Try.pinned (OpenSpec.ofChange fnSugPlainSpec)

/-- ITS FALSE NEIGHBOUR: 'it returns false'. Refute it at one input. -/
def fnSugPlainWrong : ChangeSpec := { name := "fnSugPlain", fn := fun _ => fun
  | [d] => { results := [.lit (.bool false)], args := [d] }
  | _ => none }
def FnSugPlainWrongFalsely : Prop := fnSugPlainRow.holds Try.pinned (OpenSpec.ofChange fnSugPlainWrong)

/-- 'laws.FnSpotEnd': WHATEVER THE INPUT: true; the input reads as it did. -/
def fnSpotEndSpec : ChangeSpec := { name := "fnSpotEnd", fn := fun _ => fun
  | [d] => { results := [.lit (.bool true)], args := [d] }
  | _ => none }
def fnSpotEndRow : OpenClaim := { program := "ytdmmhainianadaa", sum := "a15a1750e86c74c136c345f0c5d5fa6bcd5d542fa4603e3f630999d6b194c27e", func := "loop.example/limner/laws.FnSpotEnd", spec := "fnSpotEnd", unfollowed := true, recurses := true, apart := false }
def FnSpotEndSaid : Prop := fnSpotEndRow.holds Try.pinned (OpenSpec.ofChange fnSpotEndSpec)

/-- ITS FALSE NEIGHBOUR: 'it returns false'. Refute it at one input. -/
def fnSpotEndWrong : ChangeSpec := { name := "fnSpotEnd", fn := fun _ => fun
  | [d] => { results := [.lit (.bool false)], args := [d] }
  | _ => none }
def FnSpotEndWrongFalsely : Prop := fnSpotEndRow.holds Try.pinned (OpenSpec.ofChange fnSpotEndWrong)

/-- 'laws.FnSugBy': WHATEVER THE INPUT: true; the input reads as it did. -/
def fnSugBySpec : ChangeSpec := { name := "fnSugBy", fn := fun _ => fun
  | [d] => { results := [.lit (.bool true)], args := [d] }
  | _ => none }
def fnSugByRow : OpenClaim := { program := "ytdmmhainianadaa", sum := "a15a1750e86c74c136c345f0c5d5fa6bcd5d542fa4603e3f630999d6b194c27e", func := "loop.example/limner/laws.FnSugBy", spec := "fnSugBy", unfollowed := true, recurses := true, apart := false }
def FnSugBySaid : Prop := fnSugByRow.holds Try.pinned (OpenSpec.ofChange fnSugBySpec)

/-- ITS FALSE NEIGHBOUR: 'it returns false'. Refute it at one input. -/
def fnSugByWrong : ChangeSpec := { name := "fnSugBy", fn := fun _ => fun
  | [d] => { results := [.lit (.bool false)], args := [d] }
  | _ => none }
def FnSugByWrongFalsely : Prop := fnSugByRow.holds Try.pinned (OpenSpec.ofChange fnSugByWrong)

/-- 'laws.FnSugNow': WHATEVER THE INPUT: true; the input reads as it did. -/
def fnSugNowSpec : ChangeSpec := { name := "fnSugNow", fn := fun _ => fun
  | [d] => { results := [.lit (.bool true)], args := [d] }
  | _ => none }
def fnSugNowRow : OpenClaim := { program := "ytdmmhainianadaa", sum := "a15a1750e86c74c136c345f0c5d5fa6bcd5d542fa4603e3f630999d6b194c27e", func := "loop.example/limner/laws.FnSugNow", spec := "fnSugNow", unfollowed := true, recurses := true, apart := false }
def FnSugNowSaid : Prop := fnSugNowRow.holds Try.pinned (OpenSpec.ofChange fnSugNowSpec)

/-- ITS FALSE NEIGHBOUR: 'it returns false'. Refute it at one input. -/
def fnSugNowWrong : ChangeSpec := { name := "fnSugNow", fn := fun _ => fun
  | [d] => { results := [.lit (.bool false)], args := [d] }
  | _ => none }
def FnSugNowWrongFalsely : Prop := fnSugNowRow.holds Try.pinned (OpenSpec.ofChange fnSugNowWrong)

/-- 'laws.FnSpotNow': WHATEVER THE INPUT: true; the input reads as it did. -/
def fnSpotNowSpec : ChangeSpec := { name := "fnSpotNow", fn := fun _ => fun
  | [d] => { results := [.lit (.bool true)], args := [d] }
  | _ => none }
def fnSpotNowRow : OpenClaim := { program := "ytdmmhainianadaa", sum := "a15a1750e86c74c136c345f0c5d5fa6bcd5d542fa4603e3f630999d6b194c27e", func := "loop.example/limner/laws.FnSpotNow", spec := "fnSpotNow", unfollowed := true, recurses := true, apart := false }
def FnSpotNowSaid : Prop := fnSpotNowRow.holds Try.pinned (OpenSpec.ofChange fnSpotNowSpec)

/-- ITS FALSE NEIGHBOUR: 'it returns false'. Refute it at one input. -/
def fnSpotNowWrong : ChangeSpec := { name := "fnSpotNow", fn := fun _ => fun
  | [d] => { results := [.lit (.bool false)], args := [d] }
  | _ => none }
def FnSpotNowWrongFalsely : Prop := fnSpotNowRow.holds Try.pinned (OpenSpec.ofChange fnSpotNowWrong)

/-- 'laws.FnSugTake': WHATEVER THE INPUT: true; the input reads as it did. -/
def fnSugTakeSpec : ChangeSpec := { name := "fnSugTake", fn := fun _ => fun
  | [d] => { results := [.lit (.bool true)], args := [d] }
  | _ => none }
def fnSugTakeRow : OpenClaim := { program := "ytdmmhainianadaa", sum := "a15a1750e86c74c136c345f0c5d5fa6bcd5d542fa4603e3f630999d6b194c27e", func := "loop.example/limner/laws.FnSugTake", spec := "fnSugTake", unfollowed := true, recurses := true, apart := false }
def FnSugTakeSaid : Prop := fnSugTakeRow.holds Try.pinned (OpenSpec.ofChange fnSugTakeSpec)

/-- ITS FALSE NEIGHBOUR: 'it returns false'. Refute it at one input. -/
def fnSugTakeWrong : ChangeSpec := { name := "fnSugTake", fn := fun _ => fun
  | [d] => { results := [.lit (.bool false)], args := [d] }
  | _ => none }
def FnSugTakeWrongFalsely : Prop := fnSugTakeRow.holds Try.pinned (OpenSpec.ofChange fnSugTakeWrong)

/-- 'laws.FnSugDrop': WHATEVER THE INPUT: true; the input reads as it did. -/
def fnSugDropSpec : ChangeSpec := { name := "fnSugDrop", fn := fun _ => fun
  | [d] => { results := [.lit (.bool true)], args := [d] }
  | _ => none }
def fnSugDropRow : OpenClaim := { program := "ytdmmhainianadaa", sum := "a15a1750e86c74c136c345f0c5d5fa6bcd5d542fa4603e3f630999d6b194c27e", func := "loop.example/limner/laws.FnSugDrop", spec := "fnSugDrop", unfollowed := true, recurses := true, apart := false }
def FnSugDropSaid : Prop := fnSugDropRow.holds Try.pinned (OpenSpec.ofChange fnSugDropSpec)

/-- ITS FALSE NEIGHBOUR: 'it returns false'. Refute it at one input. -/
def fnSugDropWrong : ChangeSpec := { name := "fnSugDrop", fn := fun _ => fun
  | [d] => { results := [.lit (.bool false)], args := [d] }
  | _ => none }
def FnSugDropWrongFalsely : Prop := fnSugDropRow.holds Try.pinned (OpenSpec.ofChange fnSugDropWrong)

/-- 'laws.FnExactSugOut': WHATEVER THE INPUT: true; the input reads as it did. -/
def fnExactSugOutSpec : ChangeSpec := { name := "fnExactSugOut", fn := fun _ => fun
  | [d1, d2, d3, d4] => { results := [.lit (.bool true)], args := [d1, d2, d3, d4] }
  | _ => none }
def fnExactSugOutRow : OpenClaim := { program := "ytdmmhainianadaa", sum := "a15a1750e86c74c136c345f0c5d5fa6bcd5d542fa4603e3f630999d6b194c27e", func := "loop.example/limner/laws.FnExactSugOut", spec := "fnExactSugOut", unfollowed := true, recurses := true, apart := false }
def FnExactSugOutSaid : Prop := fnExactSugOutRow.holds Try.pinned (OpenSpec.ofChange fnExactSugOutSpec)

/-- ITS FALSE NEIGHBOUR: 'it returns false'. Refute it at one input. -/
def fnExactSugOutWrong : ChangeSpec := { name := "fnExactSugOut", fn := fun _ => fun
  | [d1, d2, d3, d4] => { results := [.lit (.bool false)], args := [d1, d2, d3, d4] }
  | _ => none }
def FnExactSugOutWrongFalsely : Prop := fnExactSugOutRow.holds Try.pinned (OpenSpec.ofChange fnExactSugOutWrong)

/-- 'laws.FnExactSugDrop': WHATEVER THE INPUT: true; the input reads as it did. -/
def fnExactSugDropSpec : ChangeSpec := { name := "fnExactSugDrop", fn := fun _ => fun
  | [d1, d2] => { results := [.lit (.bool true)], args := [d1, d2] }
  | _ => none }
def fnExactSugDropRow : OpenClaim := { program := "ytdmmhainianadaa", sum := "a15a1750e86c74c136c345f0c5d5fa6bcd5d542fa4603e3f630999d6b194c27e", func := "loop.example/limner/laws.FnExactSugDrop", spec := "fnExactSugDrop", unfollowed := true, recurses := true, apart := false }
def FnExactSugDropSaid : Prop := fnExactSugDropRow.holds Try.pinned (OpenSpec.ofChange fnExactSugDropSpec)

/-- ITS FALSE NEIGHBOUR: 'it returns false'. Refute it at one input. -/
def fnExactSugDropWrong : ChangeSpec := { name := "fnExactSugDrop", fn := fun _ => fun
  | [d1, d2] => { results := [.lit (.bool false)], args := [d1, d2] }
  | _ => none }
def FnExactSugDropWrongFalsely : Prop := fnExactSugDropRow.holds Try.pinned (OpenSpec.ofChange fnExactSugDropWrong)

/-- 'laws.FnExactSugTake': WHATEVER THE INPUT: true; the input reads as it did. -/
def fnExactSugTakeSpec : ChangeSpec := { name := "fnExactSugTake", fn := fun _ => fun
  | [d1, d2] => { results := [.lit (.bool true)], args := [d1, d2] }
  | _ => none }
def fnExactSugTakeRow : OpenClaim := { program := "ytdmmhainianadaa", sum := "a15a1750e86c74c136c345f0c5d5fa6bcd5d542fa4603e3f630999d6b194c27e", func := "loop.example/limner/laws.FnExactSugTake", spec := "fnExactSugTake", unfollowed := true, recurses := true, apart := false }
def FnExactSugTakeSaid : Prop := fnExactSugTakeRow.holds Try.pinned (OpenSpec.ofChange fnExactSugTakeSpec)

/-- ITS FALSE NEIGHBOUR: 'it returns false'. Refute it at one input. -/
def fnExactSugTakeWrong : ChangeSpec := { name := "fnExactSugTake", fn := fun _ => fun
  | [d1, d2] => { results := [.lit (.bool false)], args := [d1, d2] }
  | _ => none }
def FnExactSugTakeWrongFalsely : Prop := fnExactSugTakeRow.holds Try.pinned (OpenSpec.ofChange fnExactSugTakeWrong)

/-- 'laws.FnSpotPlain': WHATEVER THE INPUT: true; the input reads as it did. -/
def fnSpotPlainSpec : ChangeSpec := { name := "fnSpotPlain", fn := fun _ => fun
  | [d] => { results := [.lit (.bool true)], args := [d] }
  | _ => none }
def fnSpotPlainRow : OpenClaim := { program := "ytdmmhainianadaa", sum := "a15a1750e86c74c136c345f0c5d5fa6bcd5d542fa4603e3f630999d6b194c27e", func := "loop.example/limner/laws.FnSpotPlain", spec := "fnSpotPlain", unfollowed := true, recurses := true, apart := false }
def FnSpotPlainSaid : Prop := fnSpotPlainRow.holds Try.pinned (OpenSpec.ofChange fnSpotPlainSpec)

/-- ITS FALSE NEIGHBOUR: 'it returns false'. Refute it at one input. -/
def fnSpotPlainWrong : ChangeSpec := { name := "fnSpotPlain", fn := fun _ => fun
  | [d] => { results := [.lit (.bool false)], args := [d] }
  | _ => none }
def FnSpotPlainWrongFalsely : Prop := fnSpotPlainRow.holds Try.pinned (OpenSpec.ofChange fnSpotPlainWrong)

/-- 'laws.FnExactSugNow': WHATEVER THE INPUT: true; the input reads as it did. -/
def fnExactSugNowSpec : ChangeSpec := { name := "fnExactSugNow", fn := fun _ => fun
  | [d] => { results := [.lit (.bool true)], args := [d] }
  | _ => none }
def fnExactSugNowRow : OpenClaim := { program := "ytdmmhainianadaa", sum := "a15a1750e86c74c136c345f0c5d5fa6bcd5d542fa4603e3f630999d6b194c27e", func := "loop.example/limner/laws.FnExactSugNow", spec := "fnExactSugNow", unfollowed := true, recurses := true, apart := false }
def FnExactSugNowSaid : Prop := fnExactSugNowRow.holds Try.pinned (OpenSpec.ofChange fnExactSugNowSpec)

/-- ITS FALSE NEIGHBOUR: 'it returns false'. Refute it at one input. -/
def fnExactSugNowWrong : ChangeSpec := { name := "fnExactSugNow", fn := fun _ => fun
  | [d] => { results := [.lit (.bool false)], args := [d] }
  | _ => none }
def FnExactSugNowWrongFalsely : Prop := fnExactSugNowRow.holds Try.pinned (OpenSpec.ofChange fnExactSugNowWrong)

/-- 'laws.FnExactSugWas': WHATEVER THE INPUT: true; the input reads as it did. -/
def fnExactSugWasSpec : ChangeSpec := { name := "fnExactSugWas", fn := fun _ => fun
  | [d] => { results := [.lit (.bool true)], args := [d] }
  | _ => none }
def fnExactSugWasRow : OpenClaim := { program := "ytdmmhainianadaa", sum := "a15a1750e86c74c136c345f0c5d5fa6bcd5d542fa4603e3f630999d6b194c27e", func := "loop.example/limner/laws.FnExactSugWas", spec := "fnExactSugWas", unfollowed := true, recurses := true, apart := false }
def FnExactSugWasSaid : Prop := fnExactSugWasRow.holds Try.pinned (OpenSpec.ofChange fnExactSugWasSpec)

/-- ITS FALSE NEIGHBOUR: 'it returns false'. Refute it at one input. -/
def fnExactSugWasWrong : ChangeSpec := { name := "fnExactSugWas", fn := fun _ => fun
  | [d] => { results := [.lit (.bool false)], args := [d] }
  | _ => none }
def FnExactSugWasWrongFalsely : Prop := fnExactSugWasRow.holds Try.pinned (OpenSpec.ofChange fnExactSugWasWrong)

/-- 'laws.FnSugOut': WHATEVER THE INPUT: true; the input reads as it did. -/
def fnSugOutSpec : ChangeSpec := { name := "fnSugOut", fn := fun _ => fun
  | [d] => { results := [.lit (.bool true)], args := [d] }
  | _ => none }
def fnSugOutRow : OpenClaim := { program := "ytdmmhainianadaa", sum := "a15a1750e86c74c136c345f0c5d5fa6bcd5d542fa4603e3f630999d6b194c27e", func := "loop.example/limner/laws.FnSugOut", spec := "fnSugOut", inPlace := ["slices.overlaps[loop.example/limner/impl.Sign]", "slices.overlaps[loop.example/limner/impl.Block]"], unfollowed := true, recurses := true, apart := false }
def FnSugOutSaid : Prop := fnSugOutRow.holds Try.pinned (OpenSpec.ofChange fnSugOutSpec)

/-- ITS FALSE NEIGHBOUR: 'it returns false'. Refute it at one input. -/
def fnSugOutWrong : ChangeSpec := { name := "fnSugOut", fn := fun _ => fun
  | [d] => { results := [.lit (.bool false)], args := [d] }
  | _ => none }
def FnSugOutWrongFalsely : Prop := fnSugOutRow.holds Try.pinned (OpenSpec.ofChange fnSugOutWrong)

/-- 'laws.FnSugInAt': WHATEVER THE INPUT: true; the input reads as it did. -/
def fnSugInAtSpec : ChangeSpec := { name := "fnSugInAt", fn := fun _ => fun
  | [d] => { results := [.lit (.bool true)], args := [d] }
  | _ => none }
def fnSugInAtRow : OpenClaim := { program := "ytdmmhainianadaa", sum := "a15a1750e86c74c136c345f0c5d5fa6bcd5d542fa4603e3f630999d6b194c27e", func := "loop.example/limner/laws.FnSugInAt", spec := "fnSugInAt", inPlace := ["slices.overlaps[loop.example/limner/impl.Sign]", "slices.overlaps[loop.example/limner/impl.Block]"], unfollowed := true, recurses := true, apart := false }
def FnSugInAtSaid : Prop := fnSugInAtRow.holds Try.pinned (OpenSpec.ofChange fnSugInAtSpec)

/-- ITS FALSE NEIGHBOUR: 'it returns false'. Refute it at one input. -/
def fnSugInAtWrong : ChangeSpec := { name := "fnSugInAt", fn := fun _ => fun
  | [d] => { results := [.lit (.bool false)], args := [d] }
  | _ => none }
def FnSugInAtWrongFalsely : Prop := fnSugInAtRow.holds Try.pinned (OpenSpec.ofChange fnSugInAtWrong)

/-- 'laws.FnSugOwn': WHATEVER THE INPUT: true; the input reads as it did. -/
def fnSugOwnSpec : ChangeSpec := { name := "fnSugOwn", fn := fun _ => fun
  | [d] => { results := [.lit (.bool true)], args := [d] }
  | _ => none }
def fnSugOwnRow : OpenClaim := { program := "ytdmmhainianadaa", sum := "a15a1750e86c74c136c345f0c5d5fa6bcd5d542fa4603e3f630999d6b194c27e", func := "loop.example/limner/laws.FnSugOwn", spec := "fnSugOwn", inPlace := ["slices.overlaps[loop.example/limner/impl.Sign]", "slices.overlaps[loop.example/limner/impl.Block]"], unfollowed := true, recurses := true, apart := false }
def FnSugOwnSaid : Prop := fnSugOwnRow.holds Try.pinned (OpenSpec.ofChange fnSugOwnSpec)

/-- ITS FALSE NEIGHBOUR: 'it returns false'. Refute it at one input. -/
def fnSugOwnWrong : ChangeSpec := { name := "fnSugOwn", fn := fun _ => fun
  | [d] => { results := [.lit (.bool false)], args := [d] }
  | _ => none }
def FnSugOwnWrongFalsely : Prop := fnSugOwnRow.holds Try.pinned (OpenSpec.ofChange fnSugOwnWrong)

/-- 'laws.FnSugBack': WHATEVER THE INPUT: true; the input reads as it did. -/
def fnSugBackSpec : ChangeSpec := { name := "fnSugBack", fn := fun _ => fun
  | [d] => { results := [.lit (.bool true)], args := [d] }
  | _ => none }
def fnSugBackRow : OpenClaim := { program := "ytdmmhainianadaa", sum := "a15a1750e86c74c136c345f0c5d5fa6bcd5d542fa4603e3f630999d6b194c27e", func := "loop.example/limner/laws.FnSugBack", spec := "fnSugBack", inPlace := ["slices.overlaps[loop.example/limner/impl.Sign]", "slices.overlaps[loop.example/limner/impl.Block]"], unfollowed := true, recurses := true, apart := false }
def FnSugBackSaid : Prop := fnSugBackRow.holds Try.pinned (OpenSpec.ofChange fnSugBackSpec)

/-- ITS FALSE NEIGHBOUR: 'it returns false'. Refute it at one input. -/
def fnSugBackWrong : ChangeSpec := { name := "fnSugBack", fn := fun _ => fun
  | [d] => { results := [.lit (.bool false)], args := [d] }
  | _ => none }
def FnSugBackWrongFalsely : Prop := fnSugBackRow.holds Try.pinned (OpenSpec.ofChange fnSugBackWrong)

/-- 'laws.FnSugWho': WHATEVER THE INPUT: true; the input reads as it did. -/
def fnSugWhoSpec : ChangeSpec := { name := "fnSugWho", fn := fun _ => fun
  | [d] => { results := [.lit (.bool true)], args := [d] }
  | _ => none }
def fnSugWhoRow : OpenClaim := { program := "ytdmmhainianadaa", sum := "a15a1750e86c74c136c345f0c5d5fa6bcd5d542fa4603e3f630999d6b194c27e", func := "loop.example/limner/laws.FnSugWho", spec := "fnSugWho", inPlace := ["slices.overlaps[loop.example/limner/impl.Sign]", "slices.overlaps[loop.example/limner/impl.Block]"], unfollowed := true, recurses := true, apart := false }
def FnSugWhoSaid : Prop := fnSugWhoRow.holds Try.pinned (OpenSpec.ofChange fnSugWhoSpec)

/-- ITS FALSE NEIGHBOUR: 'it returns false'. Refute it at one input. -/
def fnSugWhoWrong : ChangeSpec := { name := "fnSugWho", fn := fun _ => fun
  | [d] => { results := [.lit (.bool false)], args := [d] }
  | _ => none }
def FnSugWhoWrongFalsely : Prop := fnSugWhoRow.holds Try.pinned (OpenSpec.ofChange fnSugWhoWrong)

/- THE SECOND FORM. 'bulk': how many values and letters a reading holds, each counted each time it is reached (what is shared counts as often as it is met; a slice's spare places count too). A statement '..UptoSaid' is the law's where the arguments, and the package variables that the reading takes, are together of bulk at most 1048576: NARROWER than '..Said'. Prove '..Said' where nothing that the law and all that it calls make is longer than what came in: it says more and counts as full. Else prove '..UptoSaid'. A law counts once. -/
mutual
def uptoBulk {H : Type} : DataW H → Nat
  | .lit (.string bytes) => bytes.length + 1
  | .lit _ => 1
  | .nil => 1
  | .ptr d => uptoBulk d + 1
  | .slice elems spare => uptoBulkAll elems + uptoBulkAll spare + 1
  | .agg parts => uptoBulkAll parts + 1
  | .iface _ d => uptoBulk d + 1
  | .map entries => uptoBulkEntries entries + 1
  | .held _ => 1
def uptoBulkAll {H : Type} : List (DataW H) → Nat
  | [] => 0
  | d :: r => uptoBulk d + uptoBulkAll r
def uptoBulkEntries {H : Type} : List (Lit × DataW H) → Nat
  | [] => 0
  | x :: r => uptoBulkEntry x + uptoBulkEntries r
def uptoBulkEntry {H : Type} : Lit × DataW H → Nat
  | (.string bytes, d) => bytes.length + uptoBulk d + 1
  | (_, d) => uptoBulk d + 1
 end
def uptoSmall : (H : Type) → List (DataW H) → Bool := fun _ ds => decide (uptoBulkAll ds ≤ 1048576)
def OpenSpec.upto (s : _root_.Go.ChangeSpec) : _root_.Go.OpenSpec := { _root_.Go.OpenSpec.ofChange s with cond := some uptoSmall }

/-- 'laws.FnExactSpotNow', WHERE WHAT IT READS IS OF BULK AT MOST 1048576: true; the input reads as it did. -/
def fnExactSpotNowUptoRow : OpenClaim := { program := "ytdmmhainianadaa", sum := "a15a1750e86c74c136c345f0c5d5fa6bcd5d542fa4603e3f630999d6b194c27e", func := "loop.example/limner/laws.FnExactSpotNow", spec := "fnExactSpotNow", unfollowed := true, recurses := true, apart := false, narrowed := true }
def FnExactSpotNowUptoSaid : Prop := fnExactSpotNowUptoRow.holds Try.pinned (OpenSpec.upto fnExactSpotNowSpec)

/-- 'laws.FnExactSpotWas', WHERE WHAT IT READS IS OF BULK AT MOST 1048576: true; the input reads as it did. -/
def fnExactSpotWasUptoRow : OpenClaim := { program := "ytdmmhainianadaa", sum := "a15a1750e86c74c136c345f0c5d5fa6bcd5d542fa4603e3f630999d6b194c27e", func := "loop.example/limner/laws.FnExactSpotWas", spec := "fnExactSpotWas", unfollowed := true, recurses := true, apart := false, narrowed := true }
def FnExactSpotWasUptoSaid : Prop := fnExactSpotWasUptoRow.holds Try.pinned (OpenSpec.upto fnExactSpotWasSpec)

/-- 'laws.FnSpotOrder', WHERE WHAT IT READS IS OF BULK AT MOST 1048576: true; the input reads as it did. -/
def fnSpotOrderUptoRow : OpenClaim := { program := "ytdmmhainianadaa", sum := "a15a1750e86c74c136c345f0c5d5fa6bcd5d542fa4603e3f630999d6b194c27e", func := "loop.example/limner/laws.FnSpotOrder", spec := "fnSpotOrder", unfollowed := true, recurses := true, apart := false, narrowed := true }
def FnSpotOrderUptoSaid : Prop := fnSpotOrderUptoRow.holds Try.pinned (OpenSpec.upto fnSpotOrderSpec)

/-- 'laws.FnExactSpotRaw', WHERE WHAT IT READS IS OF BULK AT MOST 1048576: true; the input reads as it did. -/
def fnExactSpotRawUptoRow : OpenClaim := { program := "ytdmmhainianadaa", sum := "a15a1750e86c74c136c345f0c5d5fa6bcd5d542fa4603e3f630999d6b194c27e", func := "loop.example/limner/laws.FnExactSpotRaw", spec := "fnExactSpotRaw", unfollowed := true, recurses := true, apart := false, narrowed := true }
def FnExactSpotRawUptoSaid : Prop := fnExactSpotRawUptoRow.holds Try.pinned (OpenSpec.upto fnExactSpotRawSpec)

/-- 'laws.FnExactSugBy', WHERE WHAT IT READS IS OF BULK AT MOST 1048576: true; the input reads as it did. -/
def fnExactSugByUptoRow : OpenClaim := { program := "ytdmmhainianadaa", sum := "a15a1750e86c74c136c345f0c5d5fa6bcd5d542fa4603e3f630999d6b194c27e", func := "loop.example/limner/laws.FnExactSugBy", spec := "fnExactSugBy", unfollowed := true, recurses := true, apart := false, narrowed := true }
def FnExactSugByUptoSaid : Prop := fnExactSugByUptoRow.holds Try.pinned (OpenSpec.upto fnExactSugBySpec)

/-- 'laws.FnSugTurn', WHERE WHAT IT READS IS OF BULK AT MOST 1048576: true; the input reads as it did. -/
def fnSugTurnUptoRow : OpenClaim := { program := "ytdmmhainianadaa", sum := "a15a1750e86c74c136c345f0c5d5fa6bcd5d542fa4603e3f630999d6b194c27e", func := "loop.example/limner/laws.FnSugTurn", spec := "fnSugTurn", unfollowed := true, recurses := true, apart := false, narrowed := true }
def FnSugTurnUptoSaid : Prop := fnSugTurnUptoRow.holds Try.pinned (OpenSpec.upto fnSugTurnSpec)

/-- 'laws.FnSugForm', WHERE WHAT IT READS IS OF BULK AT MOST 1048576: true; the input reads as it did. -/
def fnSugFormUptoRow : OpenClaim := { program := "ytdmmhainianadaa", sum := "a15a1750e86c74c136c345f0c5d5fa6bcd5d542fa4603e3f630999d6b194c27e", func := "loop.example/limner/laws.FnSugForm", spec := "fnSugForm", unfollowed := true, recurses := true, apart := false, narrowed := true }
def FnSugFormUptoSaid : Prop := fnSugFormUptoRow.holds Try.pinned (OpenSpec.upto fnSugFormSpec)

/-- 'laws.FnSugTakeWas', WHERE WHAT IT READS IS OF BULK AT MOST 1048576: true; the input reads as it did. -/
def fnSugTakeWasUptoRow : OpenClaim := { program := "ytdmmhainianadaa", sum := "a15a1750e86c74c136c345f0c5d5fa6bcd5d542fa4603e3f630999d6b194c27e", func := "loop.example/limner/laws.FnSugTakeWas", spec := "fnSugTakeWas", unfollowed := true, recurses := true, apart := false, narrowed := true }
def FnSugTakeWasUptoSaid : Prop := fnSugTakeWasUptoRow.holds Try.pinned (OpenSpec.upto fnSugTakeWasSpec)

/-- 'laws.FnSugOutTwice', WHERE WHAT IT READS IS OF BULK AT MOST 1048576: true; the input reads as it did. -/
def fnSugOutTwiceUptoRow : OpenClaim := { program := "ytdmmhainianadaa", sum := "a15a1750e86c74c136c345f0c5d5fa6bcd5d542fa4603e3f630999d6b194c27e", func := "loop.example/limner/laws.FnSugOutTwice", spec := "fnSugOutTwice", unfollowed := true, recurses := true, apart := false, narrowed := true }
def FnSugOutTwiceUptoSaid : Prop := fnSugOutTwiceUptoRow.holds Try.pinned (OpenSpec.upto fnSugOutTwiceSpec)

/-- 'laws.FnSpotRaw', WHERE WHAT IT READS IS OF BULK AT MOST 1048576: true; the input reads as it did. -/
def fnSpotRawUptoRow : OpenClaim := { program := "ytdmmhainianadaa", sum := "a15a1750e86c74c136c345f0c5d5fa6bcd5d542fa4603e3f630999d6b194c27e", func := "loop.example/limner/laws.FnSpotRaw", spec := "fnSpotRaw", unfollowed := true, recurses := true, apart := false, narrowed := true }
def FnSpotRawUptoSaid : Prop := fnSpotRawUptoRow.holds Try.pinned (OpenSpec.upto fnSpotRawSpec)

/-- 'laws.FnSugPlain', WHERE WHAT IT READS IS OF BULK AT MOST 1048576: true; the input reads as it did. -/
def fnSugPlainUptoRow : OpenClaim := { program := "ytdmmhainianadaa", sum := "a15a1750e86c74c136c345f0c5d5fa6bcd5d542fa4603e3f630999d6b194c27e", func := "loop.example/limner/laws.FnSugPlain", spec := "fnSugPlain", unfollowed := true, recurses := true, apart := false, narrowed := true }
def FnSugPlainUptoSaid : Prop := fnSugPlainUptoRow.holds Try.pinned (OpenSpec.upto fnSugPlainSpec)

/-- 'laws.FnSpotEnd', WHERE WHAT IT READS IS OF BULK AT MOST 1048576: true; the input reads as it did. -/
def fnSpotEndUptoRow : OpenClaim := { program := "ytdmmhainianadaa", sum := "a15a1750e86c74c136c345f0c5d5fa6bcd5d542fa4603e3f630999d6b194c27e", func := "loop.example/limner/laws.FnSpotEnd", spec := "fnSpotEnd", unfollowed := true, recurses := true, apart := false, narrowed := true }
def FnSpotEndUptoSaid : Prop := fnSpotEndUptoRow.holds Try.pinned (OpenSpec.upto fnSpotEndSpec)

/-- 'laws.FnSugBy', WHERE WHAT IT READS IS OF BULK AT MOST 1048576: true; the input reads as it did. -/
def fnSugByUptoRow : OpenClaim := { program := "ytdmmhainianadaa", sum := "a15a1750e86c74c136c345f0c5d5fa6bcd5d542fa4603e3f630999d6b194c27e", func := "loop.example/limner/laws.FnSugBy", spec := "fnSugBy", unfollowed := true, recurses := true, apart := false, narrowed := true }
def FnSugByUptoSaid : Prop := fnSugByUptoRow.holds Try.pinned (OpenSpec.upto fnSugBySpec)

/-- 'laws.FnSugNow', WHERE WHAT IT READS IS OF BULK AT MOST 1048576: true; the input reads as it did. -/
def fnSugNowUptoRow : OpenClaim := { program := "ytdmmhainianadaa", sum := "a15a1750e86c74c136c345f0c5d5fa6bcd5d542fa4603e3f630999d6b194c27e", func := "loop.example/limner/laws.FnSugNow", spec := "fnSugNow", unfollowed := true, recurses := true, apart := false, narrowed := true }
def FnSugNowUptoSaid : Prop := fnSugNowUptoRow.holds Try.pinned (OpenSpec.upto fnSugNowSpec)

/-- 'laws.FnSpotNow', WHERE WHAT IT READS IS OF BULK AT MOST 1048576: true; the input reads as it did. -/
def fnSpotNowUptoRow : OpenClaim := { program := "ytdmmhainianadaa", sum := "a15a1750e86c74c136c345f0c5d5fa6bcd5d542fa4603e3f630999d6b194c27e", func := "loop.example/limner/laws.FnSpotNow", spec := "fnSpotNow", unfollowed := true, recurses := true, apart := false, narrowed := true }
def FnSpotNowUptoSaid : Prop := fnSpotNowUptoRow.holds Try.pinned (OpenSpec.upto fnSpotNowSpec)

/-- 'laws.FnSugTake', WHERE WHAT IT READS IS OF BULK AT MOST 1048576: true; the input reads as it did. -/
def fnSugTakeUptoRow : OpenClaim := { program := "ytdmmhainianadaa", sum := "a15a1750e86c74c136c345f0c5d5fa6bcd5d542fa4603e3f630999d6b194c27e", func := "loop.example/limner/laws.FnSugTake", spec := "fnSugTake", unfollowed := true, recurses := true, apart := false, narrowed := true }
def FnSugTakeUptoSaid : Prop := fnSugTakeUptoRow.holds Try.pinned (OpenSpec.upto fnSugTakeSpec)

/-- 'laws.FnSugDrop', WHERE WHAT IT READS IS OF BULK AT MOST 1048576: true; the input reads as it did. -/
def fnSugDropUptoRow : OpenClaim := { program := "ytdmmhainianadaa", sum := "a15a1750e86c74c136c345f0c5d5fa6bcd5d542fa4603e3f630999d6b194c27e", func := "loop.example/limner/laws.FnSugDrop", spec := "fnSugDrop", unfollowed := true, recurses := true, apart := false, narrowed := true }
def FnSugDropUptoSaid : Prop := fnSugDropUptoRow.holds Try.pinned (OpenSpec.upto fnSugDropSpec)

/-- 'laws.FnExactSugOut', WHERE WHAT IT READS IS OF BULK AT MOST 1048576: true; the input reads as it did. -/
def fnExactSugOutUptoRow : OpenClaim := { program := "ytdmmhainianadaa", sum := "a15a1750e86c74c136c345f0c5d5fa6bcd5d542fa4603e3f630999d6b194c27e", func := "loop.example/limner/laws.FnExactSugOut", spec := "fnExactSugOut", unfollowed := true, recurses := true, apart := false, narrowed := true }
def FnExactSugOutUptoSaid : Prop := fnExactSugOutUptoRow.holds Try.pinned (OpenSpec.upto fnExactSugOutSpec)

/-- 'laws.FnExactSugDrop', WHERE WHAT IT READS IS OF BULK AT MOST 1048576: true; the input reads as it did. -/
def fnExactSugDropUptoRow : OpenClaim := { program := "ytdmmhainianadaa", sum := "a15a1750e86c74c136c345f0c5d5fa6bcd5d542fa4603e3f630999d6b194c27e", func := "loop.example/limner/laws.FnExactSugDrop", spec := "fnExactSugDrop", unfollowed := true, recurses := true, apart := false, narrowed := true }
def FnExactSugDropUptoSaid : Prop := fnExactSugDropUptoRow.holds Try.pinned (OpenSpec.upto fnExactSugDropSpec)

/-- 'laws.FnExactSugTake', WHERE WHAT IT READS IS OF BULK AT MOST 1048576: true; the input reads as it did. -/
def fnExactSugTakeUptoRow : OpenClaim := { program := "ytdmmhainianadaa", sum := "a15a1750e86c74c136c345f0c5d5fa6bcd5d542fa4603e3f630999d6b194c27e", func := "loop.example/limner/laws.FnExactSugTake", spec := "fnExactSugTake", unfollowed := true, recurses := true, apart := false, narrowed := true }
def FnExactSugTakeUptoSaid : Prop := fnExactSugTakeUptoRow.holds Try.pinned (OpenSpec.upto fnExactSugTakeSpec)

/-- 'laws.FnSpotPlain', WHERE WHAT IT READS IS OF BULK AT MOST 1048576: true; the input reads as it did. -/
def fnSpotPlainUptoRow : OpenClaim := { program := "ytdmmhainianadaa", sum := "a15a1750e86c74c136c345f0c5d5fa6bcd5d542fa4603e3f630999d6b194c27e", func := "loop.example/limner/laws.FnSpotPlain", spec := "fnSpotPlain", unfollowed := true, recurses := true, apart := false, narrowed := true }
def FnSpotPlainUptoSaid : Prop := fnSpotPlainUptoRow.holds Try.pinned (OpenSpec.upto fnSpotPlainSpec)

/-- 'laws.FnExactSugNow', WHERE WHAT IT READS IS OF BULK AT MOST 1048576: true; the input reads as it did. -/
def fnExactSugNowUptoRow : OpenClaim := { program := "ytdmmhainianadaa", sum := "a15a1750e86c74c136c345f0c5d5fa6bcd5d542fa4603e3f630999d6b194c27e", func := "loop.example/limner/laws.FnExactSugNow", spec := "fnExactSugNow", unfollowed := true, recurses := true, apart := false, narrowed := true }
def FnExactSugNowUptoSaid : Prop := fnExactSugNowUptoRow.holds Try.pinned (OpenSpec.upto fnExactSugNowSpec)

/-- 'laws.FnExactSugWas', WHERE WHAT IT READS IS OF BULK AT MOST 1048576: true; the input reads as it did. -/
def fnExactSugWasUptoRow : OpenClaim := { program := "ytdmmhainianadaa", sum := "a15a1750e86c74c136c345f0c5d5fa6bcd5d542fa4603e3f630999d6b194c27e", func := "loop.example/limner/laws.FnExactSugWas", spec := "fnExactSugWas", unfollowed := true, recurses := true, apart := false, narrowed := true }
def FnExactSugWasUptoSaid : Prop := fnExactSugWasUptoRow.holds Try.pinned (OpenSpec.upto fnExactSugWasSpec)

/-- 'laws.FnSugOut', WHERE WHAT IT READS IS OF BULK AT MOST 1048576: true; the input reads as it did. -/
def fnSugOutUptoRow : OpenClaim := { program := "ytdmmhainianadaa", sum := "a15a1750e86c74c136c345f0c5d5fa6bcd5d542fa4603e3f630999d6b194c27e", func := "loop.example/limner/laws.FnSugOut", spec := "fnSugOut", inPlace := ["slices.overlaps[loop.example/limner/impl.Sign]", "slices.overlaps[loop.example/limner/impl.Block]"], unfollowed := true, recurses := true, apart := false, narrowed := true }
def FnSugOutUptoSaid : Prop := fnSugOutUptoRow.holds Try.pinned (OpenSpec.upto fnSugOutSpec)

/-- 'laws.FnSugInAt', WHERE WHAT IT READS IS OF BULK AT MOST 1048576: true; the input reads as it did. -/
def fnSugInAtUptoRow : OpenClaim := { program := "ytdmmhainianadaa", sum := "a15a1750e86c74c136c345f0c5d5fa6bcd5d542fa4603e3f630999d6b194c27e", func := "loop.example/limner/laws.FnSugInAt", spec := "fnSugInAt", inPlace := ["slices.overlaps[loop.example/limner/impl.Sign]", "slices.overlaps[loop.example/limner/impl.Block]"], unfollowed := true, recurses := true, apart := false, narrowed := true }
def FnSugInAtUptoSaid : Prop := fnSugInAtUptoRow.holds Try.pinned (OpenSpec.upto fnSugInAtSpec)

/-- 'laws.FnSugOwn', WHERE WHAT IT READS IS OF BULK AT MOST 1048576: true; the input reads as it did. -/
def fnSugOwnUptoRow : OpenClaim := { program := "ytdmmhainianadaa", sum := "a15a1750e86c74c136c345f0c5d5fa6bcd5d542fa4603e3f630999d6b194c27e", func := "loop.example/limner/laws.FnSugOwn", spec := "fnSugOwn", inPlace := ["slices.overlaps[loop.example/limner/impl.Sign]", "slices.overlaps[loop.example/limner/impl.Block]"], unfollowed := true, recurses := true, apart := false, narrowed := true }
def FnSugOwnUptoSaid : Prop := fnSugOwnUptoRow.holds Try.pinned (OpenSpec.upto fnSugOwnSpec)

/-- 'laws.FnSugBack', WHERE WHAT IT READS IS OF BULK AT MOST 1048576: true; the input reads as it did. -/
def fnSugBackUptoRow : OpenClaim := { program := "ytdmmhainianadaa", sum := "a15a1750e86c74c136c345f0c5d5fa6bcd5d542fa4603e3f630999d6b194c27e", func := "loop.example/limner/laws.FnSugBack", spec := "fnSugBack", inPlace := ["slices.overlaps[loop.example/limner/impl.Sign]", "slices.overlaps[loop.example/limner/impl.Block]"], unfollowed := true, recurses := true, apart := false, narrowed := true }
def FnSugBackUptoSaid : Prop := fnSugBackUptoRow.holds Try.pinned (OpenSpec.upto fnSugBackSpec)

/-- 'laws.FnSugWho', WHERE WHAT IT READS IS OF BULK AT MOST 1048576: true; the input reads as it did. -/
def fnSugWhoUptoRow : OpenClaim := { program := "ytdmmhainianadaa", sum := "a15a1750e86c74c136c345f0c5d5fa6bcd5d542fa4603e3f630999d6b194c27e", func := "loop.example/limner/laws.FnSugWho", spec := "fnSugWho", inPlace := ["slices.overlaps[loop.example/limner/impl.Sign]", "slices.overlaps[loop.example/limner/impl.Block]"], unfollowed := true, recurses := true, apart := false, narrowed := true }
def FnSugWhoUptoSaid : Prop := fnSugWhoUptoRow.holds Try.pinned (OpenSpec.upto fnSugWhoSpec)

end Rows
end Go.Proofs.Ytdmmhainianadaa
