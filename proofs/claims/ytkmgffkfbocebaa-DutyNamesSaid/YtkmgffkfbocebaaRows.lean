/-
  No cell of these rows narrows 'for every input' (looked for: loops, veiled, ifaces, maps, wideKeys, modest, calm, conditions, laid).
  DERIVED. THE GIVEN ROWS OF THIS SEAT. 16 by the template 'for every input the law returns true; each argument reads behind the call as it read before'; 0 by the template 'total and deterministic' (their statements: YtkmgffkfbocebaaTotals.lean).
  GIVEN WITH THE SEED: the statements are not yours to turn. If you find one false, say at which input.
  Laid BY PROGRAM, IN A SANDBOX (cutbox-rows.mjs): the forced cells as the released guide's own fill.sh prints them over the translation 8bbdc05d819f1837… (all of the seat's roots in one cut). By AI agents, Wed Nov 11 2026. No macro, syntax, notation, axiom, sorry.
-/
import Derived.Test.YtkmgffkfbocebaaChecked
import GoSem.Claim
import GoSem.ClaimJoined
import GoSem.ClaimMapViews
import Derived.JoinedTies
import Derived.KernelRfl
namespace Go.Proofs.Ytkmgffkfbocebaa
/- THE CELL 'sum', in the pinned program and in every row, IS THE sha256 OF THE DUMP (.gsa) THAT YtkmgffkfbocebaaProg.lean LOADS. Nothing in Lean hashes anything: it is a label: what it is worth is what the hold of that sum in a sandbox is worth. -/
noncomputable def Try.pinned : Pinned := { name := "ytkmgffkfbocebaa", sum := "8bbdc05d819f18372977b3bb211c174ecc590305a35ee994b21559cdf79ada63", checked := Try.checked }
namespace Rows
def none {H : Type} : Left H := { results := [], args := [] }

/-- 'saccharumlaw10.DutyPlays': WHATEVER THE INPUT: true; the input reads as it did. -/
def dutyPlaysSpec : ChangeSpec := { name := "dutyPlays", fn := fun _ => fun
  | [d1, d2] => { results := [.lit (.bool true)], args := [d1, d2] }
  | _ => none }
def dutyPlaysRow : OpenClaim := { program := "ytkmgffkfbocebaa", sum := "8bbdc05d819f18372977b3bb211c174ecc590305a35ee994b21559cdf79ada63", func := "saccharum/saccharumlaw10.DutyPlays", spec := "dutyPlays", unfollowed := true, recurses := true, plainKeys := false, apart := false }
def DutyPlaysSaid : Prop := dutyPlaysRow.holds Try.pinned (OpenSpec.ofChange dutyPlaysSpec)

/-- ITS FALSE NEIGHBOUR: 'it returns false'. Refute it at one input. -/
def dutyPlaysWrong : ChangeSpec := { name := "dutyPlays", fn := fun _ => fun
  | [d1, d2] => { results := [.lit (.bool false)], args := [d1, d2] }
  | _ => none }
def DutyPlaysWrongFalsely : Prop := dutyPlaysRow.holds Try.pinned (OpenSpec.ofChange dutyPlaysWrong)

/-- 'saccharumlaw10.DutyBounds': WHATEVER THE INPUT: true; the input reads as it did. -/
def dutyBoundsSpec : ChangeSpec := { name := "dutyBounds", fn := fun _ => fun
  | [d] => { results := [.lit (.bool true)], args := [d] }
  | _ => none }
def dutyBoundsRow : OpenClaim := { program := "ytkmgffkfbocebaa", sum := "8bbdc05d819f18372977b3bb211c174ecc590305a35ee994b21559cdf79ada63", func := "saccharum/saccharumlaw10.DutyBounds", spec := "dutyBounds", unfollowed := true, recurses := true, plainKeys := false, apart := false }
def DutyBoundsSaid : Prop := dutyBoundsRow.holds Try.pinned (OpenSpec.ofChange dutyBoundsSpec)

/-- ITS FALSE NEIGHBOUR: 'it returns false'. Refute it at one input. -/
def dutyBoundsWrong : ChangeSpec := { name := "dutyBounds", fn := fun _ => fun
  | [d] => { results := [.lit (.bool false)], args := [d] }
  | _ => none }
def DutyBoundsWrongFalsely : Prop := dutyBoundsRow.holds Try.pinned (OpenSpec.ofChange dutyBoundsWrong)

/-- 'saccharumlaw10.DutyPays': WHATEVER THE INPUT: true; the input reads as it did. -/
def dutyPaysSpec : ChangeSpec := { name := "dutyPays", fn := fun _ => fun
  | [d1, d2, d3] => { results := [.lit (.bool true)], args := [d1, d2, d3] }
  | _ => none }
def dutyPaysRow : OpenClaim := { program := "ytkmgffkfbocebaa", sum := "8bbdc05d819f18372977b3bb211c174ecc590305a35ee994b21559cdf79ada63", func := "saccharum/saccharumlaw10.DutyPays", spec := "dutyPays", unfollowed := true, recurses := true, plainKeys := false, apart := false }
def DutyPaysSaid : Prop := dutyPaysRow.holds Try.pinned (OpenSpec.ofChange dutyPaysSpec)

/-- ITS FALSE NEIGHBOUR: 'it returns false'. Refute it at one input. -/
def dutyPaysWrong : ChangeSpec := { name := "dutyPays", fn := fun _ => fun
  | [d1, d2, d3] => { results := [.lit (.bool false)], args := [d1, d2, d3] }
  | _ => none }
def DutyPaysWrongFalsely : Prop := dutyPaysRow.holds Try.pinned (OpenSpec.ofChange dutyPaysWrong)

/-- 'saccharumlaw10.DutyLeaves': WHATEVER THE INPUT: true; the input reads as it did. -/
def dutyLeavesSpec : ChangeSpec := { name := "dutyLeaves", fn := fun _ => fun
  | [d] => { results := [.lit (.bool true)], args := [d] }
  | _ => none }
def dutyLeavesRow : OpenClaim := { program := "ytkmgffkfbocebaa", sum := "8bbdc05d819f18372977b3bb211c174ecc590305a35ee994b21559cdf79ada63", func := "saccharum/saccharumlaw10.DutyLeaves", spec := "dutyLeaves", unfollowed := true, recurses := true, plainKeys := false, apart := false }
def DutyLeavesSaid : Prop := dutyLeavesRow.holds Try.pinned (OpenSpec.ofChange dutyLeavesSpec)

/-- ITS FALSE NEIGHBOUR: 'it returns false'. Refute it at one input. -/
def dutyLeavesWrong : ChangeSpec := { name := "dutyLeaves", fn := fun _ => fun
  | [d] => { results := [.lit (.bool false)], args := [d] }
  | _ => none }
def DutyLeavesWrongFalsely : Prop := dutyLeavesRow.holds Try.pinned (OpenSpec.ofChange dutyLeavesWrong)

/-- 'saccharumlaw10.DutyNames': WHATEVER THE INPUT: true; the input reads as it did. -/
def dutyNamesSpec : ChangeSpec := { name := "dutyNames", fn := fun _ => fun
  | [] => { results := [.lit (.bool true)], args := [] }
  | _ => none }
def dutyNamesRow : OpenClaim := { program := "ytkmgffkfbocebaa", sum := "8bbdc05d819f18372977b3bb211c174ecc590305a35ee994b21559cdf79ada63", func := "saccharum/saccharumlaw10.DutyNames", spec := "dutyNames", unfollowed := true, recurses := true, plainKeys := false, apart := false }
def DutyNamesSaid : Prop := dutyNamesRow.holds Try.pinned (OpenSpec.ofChange dutyNamesSpec)

/-- ITS FALSE NEIGHBOUR: 'it returns false'. Refute it at one input. -/
def dutyNamesWrong : ChangeSpec := { name := "dutyNames", fn := fun _ => fun
  | [] => { results := [.lit (.bool false)], args := [] }
  | _ => none }
def DutyNamesWrongFalsely : Prop := dutyNamesRow.holds Try.pinned (OpenSpec.ofChange dutyNamesWrong)

/-- 'saccharumlaw10.DutyTruth': WHATEVER THE INPUT: true; the input reads as it did. -/
def dutyTruthSpec : ChangeSpec := { name := "dutyTruth", fn := fun _ => fun
  | [d1, d2] => { results := [.lit (.bool true)], args := [d1, d2] }
  | _ => none }
def dutyTruthRow : OpenClaim := { program := "ytkmgffkfbocebaa", sum := "8bbdc05d819f18372977b3bb211c174ecc590305a35ee994b21559cdf79ada63", func := "saccharum/saccharumlaw10.DutyTruth", spec := "dutyTruth", unfollowed := true, recurses := true, plainKeys := false, apart := false }
def DutyTruthSaid : Prop := dutyTruthRow.holds Try.pinned (OpenSpec.ofChange dutyTruthSpec)

/-- ITS FALSE NEIGHBOUR: 'it returns false'. Refute it at one input. -/
def dutyTruthWrong : ChangeSpec := { name := "dutyTruth", fn := fun _ => fun
  | [d1, d2] => { results := [.lit (.bool false)], args := [d1, d2] }
  | _ => none }
def DutyTruthWrongFalsely : Prop := dutyTruthRow.holds Try.pinned (OpenSpec.ofChange dutyTruthWrong)

/-- 'saccharumlaw10.DutyEnds': WHATEVER THE INPUT: true; the input reads as it did. -/
def dutyEndsSpec : ChangeSpec := { name := "dutyEnds", fn := fun _ => fun
  | [d] => { results := [.lit (.bool true)], args := [d] }
  | _ => none }
def dutyEndsRow : OpenClaim := { program := "ytkmgffkfbocebaa", sum := "8bbdc05d819f18372977b3bb211c174ecc590305a35ee994b21559cdf79ada63", func := "saccharum/saccharumlaw10.DutyEnds", spec := "dutyEnds", unfollowed := true, recurses := true, plainKeys := false, apart := false }
def DutyEndsSaid : Prop := dutyEndsRow.holds Try.pinned (OpenSpec.ofChange dutyEndsSpec)

/-- ITS FALSE NEIGHBOUR: 'it returns false'. Refute it at one input. -/
def dutyEndsWrong : ChangeSpec := { name := "dutyEnds", fn := fun _ => fun
  | [d] => { results := [.lit (.bool false)], args := [d] }
  | _ => none }
def DutyEndsWrongFalsely : Prop := dutyEndsRow.holds Try.pinned (OpenSpec.ofChange dutyEndsWrong)

/-- 'saccharumlaw10.DutyBack': WHATEVER THE INPUT: true; the input reads as it did. -/
def dutyBackSpec : ChangeSpec := { name := "dutyBack", fn := fun _ => fun
  | [d1, d2, d3, d4] => { results := [.lit (.bool true)], args := [d1, d2, d3, d4] }
  | _ => none }
def dutyBackRow : OpenClaim := { program := "ytkmgffkfbocebaa", sum := "8bbdc05d819f18372977b3bb211c174ecc590305a35ee994b21559cdf79ada63", func := "saccharum/saccharumlaw10.DutyBack", spec := "dutyBack", unfollowed := true, recurses := true, plainKeys := false, apart := false }
def DutyBackSaid : Prop := dutyBackRow.holds Try.pinned (OpenSpec.ofChange dutyBackSpec)

/-- ITS FALSE NEIGHBOUR: 'it returns false'. Refute it at one input. -/
def dutyBackWrong : ChangeSpec := { name := "dutyBack", fn := fun _ => fun
  | [d1, d2, d3, d4] => { results := [.lit (.bool false)], args := [d1, d2, d3, d4] }
  | _ => none }
def DutyBackWrongFalsely : Prop := dutyBackRow.holds Try.pinned (OpenSpec.ofChange dutyBackWrong)

/-- 'saccharumlaw10.DutyMore': WHATEVER THE INPUT: true; the input reads as it did. -/
def dutyMoreSpec : ChangeSpec := { name := "dutyMore", fn := fun _ => fun
  | [d1, d2, d3, d4, d5] => { results := [.lit (.bool true)], args := [d1, d2, d3, d4, d5] }
  | _ => none }
def dutyMoreRow : OpenClaim := { program := "ytkmgffkfbocebaa", sum := "8bbdc05d819f18372977b3bb211c174ecc590305a35ee994b21559cdf79ada63", func := "saccharum/saccharumlaw10.DutyMore", spec := "dutyMore", unfollowed := true, recurses := true, plainKeys := false, apart := false }
def DutyMoreSaid : Prop := dutyMoreRow.holds Try.pinned (OpenSpec.ofChange dutyMoreSpec)

/-- ITS FALSE NEIGHBOUR: 'it returns false'. Refute it at one input. -/
def dutyMoreWrong : ChangeSpec := { name := "dutyMore", fn := fun _ => fun
  | [d1, d2, d3, d4, d5] => { results := [.lit (.bool false)], args := [d1, d2, d3, d4, d5] }
  | _ => none }
def DutyMoreWrongFalsely : Prop := dutyMoreRow.holds Try.pinned (OpenSpec.ofChange dutyMoreWrong)

/-- 'saccharumlaw10.DutyOrder': WHATEVER THE INPUT: true; the input reads as it did. -/
def dutyOrderSpec : ChangeSpec := { name := "dutyOrder", fn := fun _ => fun
  | [d1, d2] => { results := [.lit (.bool true)], args := [d1, d2] }
  | _ => none }
def dutyOrderRow : OpenClaim := { program := "ytkmgffkfbocebaa", sum := "8bbdc05d819f18372977b3bb211c174ecc590305a35ee994b21559cdf79ada63", func := "saccharum/saccharumlaw10.DutyOrder", spec := "dutyOrder", unfollowed := true, recurses := true, plainKeys := false, apart := false }
def DutyOrderSaid : Prop := dutyOrderRow.holds Try.pinned (OpenSpec.ofChange dutyOrderSpec)

/-- ITS FALSE NEIGHBOUR: 'it returns false'. Refute it at one input. -/
def dutyOrderWrong : ChangeSpec := { name := "dutyOrder", fn := fun _ => fun
  | [d1, d2] => { results := [.lit (.bool false)], args := [d1, d2] }
  | _ => none }
def DutyOrderWrongFalsely : Prop := dutyOrderRow.holds Try.pinned (OpenSpec.ofChange dutyOrderWrong)

/-- 'saccharumlaw10.DutyStill': WHATEVER THE INPUT: true; the input reads as it did. -/
def dutyStillSpec : ChangeSpec := { name := "dutyStill", fn := fun _ => fun
  | [d1, d2, d3, d4] => { results := [.lit (.bool true)], args := [d1, d2, d3, d4] }
  | _ => none }
def dutyStillRow : OpenClaim := { program := "ytkmgffkfbocebaa", sum := "8bbdc05d819f18372977b3bb211c174ecc590305a35ee994b21559cdf79ada63", func := "saccharum/saccharumlaw10.DutyStill", spec := "dutyStill", unfollowed := true, recurses := true, plainKeys := false, apart := false }
def DutyStillSaid : Prop := dutyStillRow.holds Try.pinned (OpenSpec.ofChange dutyStillSpec)

/-- ITS FALSE NEIGHBOUR: 'it returns false'. Refute it at one input. -/
def dutyStillWrong : ChangeSpec := { name := "dutyStill", fn := fun _ => fun
  | [d1, d2, d3, d4] => { results := [.lit (.bool false)], args := [d1, d2, d3, d4] }
  | _ => none }
def DutyStillWrongFalsely : Prop := dutyStillRow.holds Try.pinned (OpenSpec.ofChange dutyStillWrong)

/-- 'saccharumlaw10.DutyFewest': WHATEVER THE INPUT: true; the input reads as it did. -/
def dutyFewestSpec : ChangeSpec := { name := "dutyFewest", fn := fun _ => fun
  | [d1, d2] => { results := [.lit (.bool true)], args := [d1, d2] }
  | _ => none }
def dutyFewestRow : OpenClaim := { program := "ytkmgffkfbocebaa", sum := "8bbdc05d819f18372977b3bb211c174ecc590305a35ee994b21559cdf79ada63", func := "saccharum/saccharumlaw10.DutyFewest", spec := "dutyFewest", unfollowed := true, recurses := true, plainKeys := false, apart := false }
def DutyFewestSaid : Prop := dutyFewestRow.holds Try.pinned (OpenSpec.ofChange dutyFewestSpec)

/-- ITS FALSE NEIGHBOUR: 'it returns false'. Refute it at one input. -/
def dutyFewestWrong : ChangeSpec := { name := "dutyFewest", fn := fun _ => fun
  | [d1, d2] => { results := [.lit (.bool false)], args := [d1, d2] }
  | _ => none }
def DutyFewestWrongFalsely : Prop := dutyFewestRow.holds Try.pinned (OpenSpec.ofChange dutyFewestWrong)

/-- 'saccharumlaw10.DutyStates': WHATEVER THE INPUT: true; the input reads as it did. -/
def dutyStatesSpec : ChangeSpec := { name := "dutyStates", fn := fun _ => fun
  | [d1, d2, d3, d4] => { results := [.lit (.bool true)], args := [d1, d2, d3, d4] }
  | _ => none }
def dutyStatesRow : OpenClaim := { program := "ytkmgffkfbocebaa", sum := "8bbdc05d819f18372977b3bb211c174ecc590305a35ee994b21559cdf79ada63", func := "saccharum/saccharumlaw10.DutyStates", spec := "dutyStates", unfollowed := true, recurses := true, plainKeys := false, apart := false }
def DutyStatesSaid : Prop := dutyStatesRow.holds Try.pinned (OpenSpec.ofChange dutyStatesSpec)

/-- ITS FALSE NEIGHBOUR: 'it returns false'. Refute it at one input. -/
def dutyStatesWrong : ChangeSpec := { name := "dutyStates", fn := fun _ => fun
  | [d1, d2, d3, d4] => { results := [.lit (.bool false)], args := [d1, d2, d3, d4] }
  | _ => none }
def DutyStatesWrongFalsely : Prop := dutyStatesRow.holds Try.pinned (OpenSpec.ofChange dutyStatesWrong)

/-- 'saccharumlaw10.DutyLeft': WHATEVER THE INPUT: true; the input reads as it did. -/
def dutyLeftSpec : ChangeSpec := { name := "dutyLeft", fn := fun _ => fun
  | [d1, d2] => { results := [.lit (.bool true)], args := [d1, d2] }
  | _ => none }
def dutyLeftRow : OpenClaim := { program := "ytkmgffkfbocebaa", sum := "8bbdc05d819f18372977b3bb211c174ecc590305a35ee994b21559cdf79ada63", func := "saccharum/saccharumlaw10.DutyLeft", spec := "dutyLeft", unfollowed := true, recurses := true, plainKeys := false, apart := false }
def DutyLeftSaid : Prop := dutyLeftRow.holds Try.pinned (OpenSpec.ofChange dutyLeftSpec)

/-- ITS FALSE NEIGHBOUR: 'it returns false'. Refute it at one input. -/
def dutyLeftWrong : ChangeSpec := { name := "dutyLeft", fn := fun _ => fun
  | [d1, d2] => { results := [.lit (.bool false)], args := [d1, d2] }
  | _ => none }
def DutyLeftWrongFalsely : Prop := dutyLeftRow.holds Try.pinned (OpenSpec.ofChange dutyLeftWrong)

/-- 'saccharumlaw10.DutyWider': WHATEVER THE INPUT: true; the input reads as it did. -/
def dutyWiderSpec : ChangeSpec := { name := "dutyWider", fn := fun _ => fun
  | [d1, d2, d3] => { results := [.lit (.bool true)], args := [d1, d2, d3] }
  | _ => none }
def dutyWiderRow : OpenClaim := { program := "ytkmgffkfbocebaa", sum := "8bbdc05d819f18372977b3bb211c174ecc590305a35ee994b21559cdf79ada63", func := "saccharum/saccharumlaw10.DutyWider", spec := "dutyWider", unfollowed := true, recurses := true, plainKeys := false, apart := false }
def DutyWiderSaid : Prop := dutyWiderRow.holds Try.pinned (OpenSpec.ofChange dutyWiderSpec)

/-- ITS FALSE NEIGHBOUR: 'it returns false'. Refute it at one input. -/
def dutyWiderWrong : ChangeSpec := { name := "dutyWider", fn := fun _ => fun
  | [d1, d2, d3] => { results := [.lit (.bool false)], args := [d1, d2, d3] }
  | _ => none }
def DutyWiderWrongFalsely : Prop := dutyWiderRow.holds Try.pinned (OpenSpec.ofChange dutyWiderWrong)

/-- 'saccharumlaw10.DutyScaled': WHATEVER THE INPUT: true; the input reads as it did. -/
def dutyScaledSpec : ChangeSpec := { name := "dutyScaled", fn := fun _ => fun
  | [d1, d2] => { results := [.lit (.bool true)], args := [d1, d2] }
  | _ => none }
def dutyScaledRow : OpenClaim := { program := "ytkmgffkfbocebaa", sum := "8bbdc05d819f18372977b3bb211c174ecc590305a35ee994b21559cdf79ada63", func := "saccharum/saccharumlaw10.DutyScaled", spec := "dutyScaled", unfollowed := true, recurses := true, plainKeys := false, apart := false }
def DutyScaledSaid : Prop := dutyScaledRow.holds Try.pinned (OpenSpec.ofChange dutyScaledSpec)

/-- ITS FALSE NEIGHBOUR: 'it returns false'. Refute it at one input. -/
def dutyScaledWrong : ChangeSpec := { name := "dutyScaled", fn := fun _ => fun
  | [d1, d2] => { results := [.lit (.bool false)], args := [d1, d2] }
  | _ => none }
def DutyScaledWrongFalsely : Prop := dutyScaledRow.holds Try.pinned (OpenSpec.ofChange dutyScaledWrong)

/- THE SECOND FORM. 'bulk': how many values and letters a reading holds, each counted each time it is reached (what is shared counts as often as it is met; a slice's spare places count too). A statement '..UptoSaid' is the law's where the arguments, and the package variables that the reading takes, are together of bulk at most 1048576: NARROWER than '..Said'. Prove '..Said' where nothing that the law and all that it calls make is longer than what came in: it says more and counts as full. Else prove '..UptoSaid'. A law counts once. -/
mutual
def uptoBulk {H : Type} : DataW H → Nat
  | .lit (.string bytes) => bytes.length + 1
  | .lit _ => 1
  | .nil => 1
  | .ptr d => uptoBulk d + 1
  | .slice elems spare => uptoBulkAll elems + uptoBulkAll spare + 1
  | .agg parts => uptoBulkAll parts + 1
  | .iface _ d => uptoBulk d + 1
  | .map entries => uptoBulkEntries entries + 1
  | .held _ => 1
def uptoBulkAll {H : Type} : List (DataW H) → Nat
  | [] => 0
  | d :: r => uptoBulk d + uptoBulkAll r
def uptoBulkEntries {H : Type} : List (Lit × DataW H) → Nat
  | [] => 0
  | x :: r => uptoBulkEntry x + uptoBulkEntries r
def uptoBulkEntry {H : Type} : Lit × DataW H → Nat
  | (.string bytes, d) => bytes.length + uptoBulk d + 1
  | (_, d) => uptoBulk d + 1
 end
def uptoSmall : (H : Type) → List (DataW H) → Bool := fun _ ds => decide (uptoBulkAll ds ≤ 1048576)
def OpenSpec.upto (s : _root_.Go.ChangeSpec) : _root_.Go.OpenSpec := { _root_.Go.OpenSpec.ofChange s with cond := some uptoSmall }

/-- 'saccharumlaw10.DutyPlays', WHERE WHAT IT READS IS OF BULK AT MOST 1048576: true; the input reads as it did. -/
def dutyPlaysUptoRow : OpenClaim := { program := "ytkmgffkfbocebaa", sum := "8bbdc05d819f18372977b3bb211c174ecc590305a35ee994b21559cdf79ada63", func := "saccharum/saccharumlaw10.DutyPlays", spec := "dutyPlays", unfollowed := true, recurses := true, plainKeys := false, apart := false, narrowed := true }
def DutyPlaysUptoSaid : Prop := dutyPlaysUptoRow.holds Try.pinned (OpenSpec.upto dutyPlaysSpec)

/-- 'saccharumlaw10.DutyBounds', WHERE WHAT IT READS IS OF BULK AT MOST 1048576: true; the input reads as it did. -/
def dutyBoundsUptoRow : OpenClaim := { program := "ytkmgffkfbocebaa", sum := "8bbdc05d819f18372977b3bb211c174ecc590305a35ee994b21559cdf79ada63", func := "saccharum/saccharumlaw10.DutyBounds", spec := "dutyBounds", unfollowed := true, recurses := true, plainKeys := false, apart := false, narrowed := true }
def DutyBoundsUptoSaid : Prop := dutyBoundsUptoRow.holds Try.pinned (OpenSpec.upto dutyBoundsSpec)

/-- 'saccharumlaw10.DutyPays', WHERE WHAT IT READS IS OF BULK AT MOST 1048576: true; the input reads as it did. -/
def dutyPaysUptoRow : OpenClaim := { program := "ytkmgffkfbocebaa", sum := "8bbdc05d819f18372977b3bb211c174ecc590305a35ee994b21559cdf79ada63", func := "saccharum/saccharumlaw10.DutyPays", spec := "dutyPays", unfollowed := true, recurses := true, plainKeys := false, apart := false, narrowed := true }
def DutyPaysUptoSaid : Prop := dutyPaysUptoRow.holds Try.pinned (OpenSpec.upto dutyPaysSpec)

/-- 'saccharumlaw10.DutyLeaves', WHERE WHAT IT READS IS OF BULK AT MOST 1048576: true; the input reads as it did. -/
def dutyLeavesUptoRow : OpenClaim := { program := "ytkmgffkfbocebaa", sum := "8bbdc05d819f18372977b3bb211c174ecc590305a35ee994b21559cdf79ada63", func := "saccharum/saccharumlaw10.DutyLeaves", spec := "dutyLeaves", unfollowed := true, recurses := true, plainKeys := false, apart := false, narrowed := true }
def DutyLeavesUptoSaid : Prop := dutyLeavesUptoRow.holds Try.pinned (OpenSpec.upto dutyLeavesSpec)

/-- 'saccharumlaw10.DutyNames', WHERE WHAT IT READS IS OF BULK AT MOST 1048576: true; the input reads as it did. -/
def dutyNamesUptoRow : OpenClaim := { program := "ytkmgffkfbocebaa", sum := "8bbdc05d819f18372977b3bb211c174ecc590305a35ee994b21559cdf79ada63", func := "saccharum/saccharumlaw10.DutyNames", spec := "dutyNames", unfollowed := true, recurses := true, plainKeys := false, apart := false, narrowed := true }
def DutyNamesUptoSaid : Prop := dutyNamesUptoRow.holds Try.pinned (OpenSpec.upto dutyNamesSpec)

/-- 'saccharumlaw10.DutyTruth', WHERE WHAT IT READS IS OF BULK AT MOST 1048576: true; the input reads as it did. -/
def dutyTruthUptoRow : OpenClaim := { program := "ytkmgffkfbocebaa", sum := "8bbdc05d819f18372977b3bb211c174ecc590305a35ee994b21559cdf79ada63", func := "saccharum/saccharumlaw10.DutyTruth", spec := "dutyTruth", unfollowed := true, recurses := true, plainKeys := false, apart := false, narrowed := true }
def DutyTruthUptoSaid : Prop := dutyTruthUptoRow.holds Try.pinned (OpenSpec.upto dutyTruthSpec)

/-- 'saccharumlaw10.DutyEnds', WHERE WHAT IT READS IS OF BULK AT MOST 1048576: true; the input reads as it did. -/
def dutyEndsUptoRow : OpenClaim := { program := "ytkmgffkfbocebaa", sum := "8bbdc05d819f18372977b3bb211c174ecc590305a35ee994b21559cdf79ada63", func := "saccharum/saccharumlaw10.DutyEnds", spec := "dutyEnds", unfollowed := true, recurses := true, plainKeys := false, apart := false, narrowed := true }
def DutyEndsUptoSaid : Prop := dutyEndsUptoRow.holds Try.pinned (OpenSpec.upto dutyEndsSpec)

/-- 'saccharumlaw10.DutyBack', WHERE WHAT IT READS IS OF BULK AT MOST 1048576: true; the input reads as it did. -/
def dutyBackUptoRow : OpenClaim := { program := "ytkmgffkfbocebaa", sum := "8bbdc05d819f18372977b3bb211c174ecc590305a35ee994b21559cdf79ada63", func := "saccharum/saccharumlaw10.DutyBack", spec := "dutyBack", unfollowed := true, recurses := true, plainKeys := false, apart := false, narrowed := true }
def DutyBackUptoSaid : Prop := dutyBackUptoRow.holds Try.pinned (OpenSpec.upto dutyBackSpec)

/-- 'saccharumlaw10.DutyMore', WHERE WHAT IT READS IS OF BULK AT MOST 1048576: true; the input reads as it did. -/
def dutyMoreUptoRow : OpenClaim := { program := "ytkmgffkfbocebaa", sum := "8bbdc05d819f18372977b3bb211c174ecc590305a35ee994b21559cdf79ada63", func := "saccharum/saccharumlaw10.DutyMore", spec := "dutyMore", unfollowed := true, recurses := true, plainKeys := false, apart := false, narrowed := true }
def DutyMoreUptoSaid : Prop := dutyMoreUptoRow.holds Try.pinned (OpenSpec.upto dutyMoreSpec)

/-- 'saccharumlaw10.DutyOrder', WHERE WHAT IT READS IS OF BULK AT MOST 1048576: true; the input reads as it did. -/
def dutyOrderUptoRow : OpenClaim := { program := "ytkmgffkfbocebaa", sum := "8bbdc05d819f18372977b3bb211c174ecc590305a35ee994b21559cdf79ada63", func := "saccharum/saccharumlaw10.DutyOrder", spec := "dutyOrder", unfollowed := true, recurses := true, plainKeys := false, apart := false, narrowed := true }
def DutyOrderUptoSaid : Prop := dutyOrderUptoRow.holds Try.pinned (OpenSpec.upto dutyOrderSpec)

/-- 'saccharumlaw10.DutyStill', WHERE WHAT IT READS IS OF BULK AT MOST 1048576: true; the input reads as it did. -/
def dutyStillUptoRow : OpenClaim := { program := "ytkmgffkfbocebaa", sum := "8bbdc05d819f18372977b3bb211c174ecc590305a35ee994b21559cdf79ada63", func := "saccharum/saccharumlaw10.DutyStill", spec := "dutyStill", unfollowed := true, recurses := true, plainKeys := false, apart := false, narrowed := true }
def DutyStillUptoSaid : Prop := dutyStillUptoRow.holds Try.pinned (OpenSpec.upto dutyStillSpec)

/-- 'saccharumlaw10.DutyFewest', WHERE WHAT IT READS IS OF BULK AT MOST 1048576: true; the input reads as it did. -/
def dutyFewestUptoRow : OpenClaim := { program := "ytkmgffkfbocebaa", sum := "8bbdc05d819f18372977b3bb211c174ecc590305a35ee994b21559cdf79ada63", func := "saccharum/saccharumlaw10.DutyFewest", spec := "dutyFewest", unfollowed := true, recurses := true, plainKeys := false, apart := false, narrowed := true }
def DutyFewestUptoSaid : Prop := dutyFewestUptoRow.holds Try.pinned (OpenSpec.upto dutyFewestSpec)

/-- 'saccharumlaw10.DutyStates', WHERE WHAT IT READS IS OF BULK AT MOST 1048576: true; the input reads as it did. -/
def dutyStatesUptoRow : OpenClaim := { program := "ytkmgffkfbocebaa", sum := "8bbdc05d819f18372977b3bb211c174ecc590305a35ee994b21559cdf79ada63", func := "saccharum/saccharumlaw10.DutyStates", spec := "dutyStates", unfollowed := true, recurses := true, plainKeys := false, apart := false, narrowed := true }
def DutyStatesUptoSaid : Prop := dutyStatesUptoRow.holds Try.pinned (OpenSpec.upto dutyStatesSpec)

/-- 'saccharumlaw10.DutyLeft', WHERE WHAT IT READS IS OF BULK AT MOST 1048576: true; the input reads as it did. -/
def dutyLeftUptoRow : OpenClaim := { program := "ytkmgffkfbocebaa", sum := "8bbdc05d819f18372977b3bb211c174ecc590305a35ee994b21559cdf79ada63", func := "saccharum/saccharumlaw10.DutyLeft", spec := "dutyLeft", unfollowed := true, recurses := true, plainKeys := false, apart := false, narrowed := true }
def DutyLeftUptoSaid : Prop := dutyLeftUptoRow.holds Try.pinned (OpenSpec.upto dutyLeftSpec)

/-- 'saccharumlaw10.DutyWider', WHERE WHAT IT READS IS OF BULK AT MOST 1048576: true; the input reads as it did. -/
def dutyWiderUptoRow : OpenClaim := { program := "ytkmgffkfbocebaa", sum := "8bbdc05d819f18372977b3bb211c174ecc590305a35ee994b21559cdf79ada63", func := "saccharum/saccharumlaw10.DutyWider", spec := "dutyWider", unfollowed := true, recurses := true, plainKeys := false, apart := false, narrowed := true }
def DutyWiderUptoSaid : Prop := dutyWiderUptoRow.holds Try.pinned (OpenSpec.upto dutyWiderSpec)

/-- 'saccharumlaw10.DutyScaled', WHERE WHAT IT READS IS OF BULK AT MOST 1048576: true; the input reads as it did. -/
def dutyScaledUptoRow : OpenClaim := { program := "ytkmgffkfbocebaa", sum := "8bbdc05d819f18372977b3bb211c174ecc590305a35ee994b21559cdf79ada63", func := "saccharum/saccharumlaw10.DutyScaled", spec := "dutyScaled", unfollowed := true, recurses := true, plainKeys := false, apart := false, narrowed := true }
def DutyScaledUptoSaid : Prop := dutyScaledUptoRow.holds Try.pinned (OpenSpec.upto dutyScaledSpec)

end Rows
end Go.Proofs.Ytkmgffkfbocebaa
