/-
  No cell of these rows narrows 'for every input' (looked for: loops, veiled, ifaces, maps, wideKeys, modest, calm, conditions, laid).
  DERIVED. THE GIVEN ROWS OF THIS SEAT. 10 by the template 'for every input the law returns true; each argument reads behind the call as it read before'; 0 by the template 'total and deterministic' (their statements: YtbgiddcgdgdmbaaGreatTotals.lean).
  GIVEN WITH THE SEED: the statements are not yours to turn. If you find one false, say at which input.
  Laid BY PROGRAM, IN A SANDBOX (cutbox-rows.mjs): the forced cells as the released guide's own fill.sh prints them over the translation db1b70d2140c47c3… (all of the seat's roots in one cut). By AI agents, Wed Nov 11 2026. No macro, syntax, notation, axiom, sorry.
-/
import Derived.Test.YtbgiddcgdgdmbaaGreatChecked
import GoSem.Claim
import GoSem.ClaimJoined
import GoSem.ClaimMapViews
import Derived.JoinedTies
import Derived.KernelRfl
namespace Go.Proofs.YtbgiddcgdgdmbaaGreat
/- THE CELL 'sum', in the pinned program and in every row, IS THE sha256 OF THE DUMP (.gsa) THAT YtbgiddcgdgdmbaaGreatProg.lean LOADS. Nothing in Lean hashes anything: it is a label: what it is worth is what the hold of that sum in a sandbox is worth. -/
noncomputable def Tryz.pinned : Pinned := { name := "ytbgiddcgdgdmbaagreat", sum := "db1b70d2140c47c37e952232ed85b395d82cedcb484db8cb884b20620217b673", checked := Tryz.checked }
namespace Rows
def none {H : Type} : Left H := { results := [], args := [] }

/-- 'saccharumlaw06.WortPlays': WHATEVER THE INPUT: true; the input reads as it did. -/
def wortPlaysSpec : ChangeSpec := { name := "wortPlays", fn := fun _ => fun
  | [d1, d2] => { results := [.lit (.bool true)], args := [d1, d2] }
  | _ => none }
def wortPlaysRow : OpenClaim := { program := "ytbgiddcgdgdmbaagreat", sum := "db1b70d2140c47c37e952232ed85b395d82cedcb484db8cb884b20620217b673", func := "saccharum/saccharumlaw06.WortPlays", spec := "wortPlays", unfollowed := true, recurses := true, plainKeys := false, apart := false }
def WortPlaysSaid : Prop := wortPlaysRow.holds Tryz.pinned (OpenSpec.ofChange wortPlaysSpec)

/-- ITS FALSE NEIGHBOUR: 'it returns false'. Refute it at one input. -/
def wortPlaysWrong : ChangeSpec := { name := "wortPlays", fn := fun _ => fun
  | [d1, d2] => { results := [.lit (.bool false)], args := [d1, d2] }
  | _ => none }
def WortPlaysWrongFalsely : Prop := wortPlaysRow.holds Tryz.pinned (OpenSpec.ofChange wortPlaysWrong)

/-- 'saccharumlaw06.WortBounds': WHATEVER THE INPUT: true; the input reads as it did. -/
def wortBoundsSpec : ChangeSpec := { name := "wortBounds", fn := fun _ => fun
  | [d] => { results := [.lit (.bool true)], args := [d] }
  | _ => none }
def wortBoundsRow : OpenClaim := { program := "ytbgiddcgdgdmbaagreat", sum := "db1b70d2140c47c37e952232ed85b395d82cedcb484db8cb884b20620217b673", func := "saccharum/saccharumlaw06.WortBounds", spec := "wortBounds", unfollowed := true, recurses := true, plainKeys := false, apart := false }
def WortBoundsSaid : Prop := wortBoundsRow.holds Tryz.pinned (OpenSpec.ofChange wortBoundsSpec)

/-- ITS FALSE NEIGHBOUR: 'it returns false'. Refute it at one input. -/
def wortBoundsWrong : ChangeSpec := { name := "wortBounds", fn := fun _ => fun
  | [d] => { results := [.lit (.bool false)], args := [d] }
  | _ => none }
def WortBoundsWrongFalsely : Prop := wortBoundsRow.holds Tryz.pinned (OpenSpec.ofChange wortBoundsWrong)

/-- 'saccharumlaw06.WortLeaves': WHATEVER THE INPUT: true; the input reads as it did. -/
def wortLeavesSpec : ChangeSpec := { name := "wortLeaves", fn := fun _ => fun
  | [d1, d2] => { results := [.lit (.bool true)], args := [d1, d2] }
  | _ => none }
def wortLeavesRow : OpenClaim := { program := "ytbgiddcgdgdmbaagreat", sum := "db1b70d2140c47c37e952232ed85b395d82cedcb484db8cb884b20620217b673", func := "saccharum/saccharumlaw06.WortLeaves", spec := "wortLeaves", unfollowed := true, recurses := true, plainKeys := false, apart := false }
def WortLeavesSaid : Prop := wortLeavesRow.holds Tryz.pinned (OpenSpec.ofChange wortLeavesSpec)

/-- ITS FALSE NEIGHBOUR: 'it returns false'. Refute it at one input. -/
def wortLeavesWrong : ChangeSpec := { name := "wortLeaves", fn := fun _ => fun
  | [d1, d2] => { results := [.lit (.bool false)], args := [d1, d2] }
  | _ => none }
def WortLeavesWrongFalsely : Prop := wortLeavesRow.holds Tryz.pinned (OpenSpec.ofChange wortLeavesWrong)

/-- 'saccharumlaw06.WortPlans': WHATEVER THE INPUT: true; the input reads as it did. -/
def wortPlansSpec : ChangeSpec := { name := "wortPlans", fn := fun _ => fun
  | [d1, d2, d3, d4, d5] => { results := [.lit (.bool true)], args := [d1, d2, d3, d4, d5] }
  | _ => none }
def wortPlansRow : OpenClaim := { program := "ytbgiddcgdgdmbaagreat", sum := "db1b70d2140c47c37e952232ed85b395d82cedcb484db8cb884b20620217b673", func := "saccharum/saccharumlaw06.WortPlans", spec := "wortPlans", unfollowed := true, recurses := true, plainKeys := false, apart := false }
def WortPlansSaid : Prop := wortPlansRow.holds Tryz.pinned (OpenSpec.ofChange wortPlansSpec)

/-- ITS FALSE NEIGHBOUR: 'it returns false'. Refute it at one input. -/
def wortPlansWrong : ChangeSpec := { name := "wortPlans", fn := fun _ => fun
  | [d1, d2, d3, d4, d5] => { results := [.lit (.bool false)], args := [d1, d2, d3, d4, d5] }
  | _ => none }
def WortPlansWrongFalsely : Prop := wortPlansRow.holds Tryz.pinned (OpenSpec.ofChange wortPlansWrong)

/-- 'saccharumlaw06.WortTruth': WHATEVER THE INPUT: true; the input reads as it did. -/
def wortTruthSpec : ChangeSpec := { name := "wortTruth", fn := fun _ => fun
  | [d1, d2] => { results := [.lit (.bool true)], args := [d1, d2] }
  | _ => none }
def wortTruthRow : OpenClaim := { program := "ytbgiddcgdgdmbaagreat", sum := "db1b70d2140c47c37e952232ed85b395d82cedcb484db8cb884b20620217b673", func := "saccharum/saccharumlaw06.WortTruth", spec := "wortTruth", unfollowed := true, recurses := true, plainKeys := false, apart := false }
def WortTruthSaid : Prop := wortTruthRow.holds Tryz.pinned (OpenSpec.ofChange wortTruthSpec)

/-- ITS FALSE NEIGHBOUR: 'it returns false'. Refute it at one input. -/
def wortTruthWrong : ChangeSpec := { name := "wortTruth", fn := fun _ => fun
  | [d1, d2] => { results := [.lit (.bool false)], args := [d1, d2] }
  | _ => none }
def WortTruthWrongFalsely : Prop := wortTruthRow.holds Tryz.pinned (OpenSpec.ofChange wortTruthWrong)

/-- 'saccharumlaw06.WortEnds': WHATEVER THE INPUT: true; the input reads as it did. -/
def wortEndsSpec : ChangeSpec := { name := "wortEnds", fn := fun _ => fun
  | [d1, d2] => { results := [.lit (.bool true)], args := [d1, d2] }
  | _ => none }
def wortEndsRow : OpenClaim := { program := "ytbgiddcgdgdmbaagreat", sum := "db1b70d2140c47c37e952232ed85b395d82cedcb484db8cb884b20620217b673", func := "saccharum/saccharumlaw06.WortEnds", spec := "wortEnds", unfollowed := true, recurses := true, plainKeys := false, apart := false }
def WortEndsSaid : Prop := wortEndsRow.holds Tryz.pinned (OpenSpec.ofChange wortEndsSpec)

/-- ITS FALSE NEIGHBOUR: 'it returns false'. Refute it at one input. -/
def wortEndsWrong : ChangeSpec := { name := "wortEnds", fn := fun _ => fun
  | [d1, d2] => { results := [.lit (.bool false)], args := [d1, d2] }
  | _ => none }
def WortEndsWrongFalsely : Prop := wortEndsRow.holds Tryz.pinned (OpenSpec.ofChange wortEndsWrong)

/-- 'saccharumlaw06.WortMixes': WHATEVER THE INPUT: true; the input reads as it did. -/
def wortMixesSpec : ChangeSpec := { name := "wortMixes", fn := fun _ => fun
  | [d1, d2] => { results := [.lit (.bool true)], args := [d1, d2] }
  | _ => none }
def wortMixesRow : OpenClaim := { program := "ytbgiddcgdgdmbaagreat", sum := "db1b70d2140c47c37e952232ed85b395d82cedcb484db8cb884b20620217b673", func := "saccharum/saccharumlaw06.WortMixes", spec := "wortMixes", unfollowed := true, recurses := true, plainKeys := false, apart := false }
def WortMixesSaid : Prop := wortMixesRow.holds Tryz.pinned (OpenSpec.ofChange wortMixesSpec)

/-- ITS FALSE NEIGHBOUR: 'it returns false'. Refute it at one input. -/
def wortMixesWrong : ChangeSpec := { name := "wortMixes", fn := fun _ => fun
  | [d1, d2] => { results := [.lit (.bool false)], args := [d1, d2] }
  | _ => none }
def WortMixesWrongFalsely : Prop := wortMixesRow.holds Tryz.pinned (OpenSpec.ofChange wortMixesWrong)

/-- 'saccharumlaw06.WortApart': WHATEVER THE INPUT: true; the input reads as it did. -/
def wortApartSpec : ChangeSpec := { name := "wortApart", fn := fun _ => fun
  | [d1, d2] => { results := [.lit (.bool true)], args := [d1, d2] }
  | _ => none }
def wortApartRow : OpenClaim := { program := "ytbgiddcgdgdmbaagreat", sum := "db1b70d2140c47c37e952232ed85b395d82cedcb484db8cb884b20620217b673", func := "saccharum/saccharumlaw06.WortApart", spec := "wortApart", unfollowed := true, recurses := true, plainKeys := false, apart := false }
def WortApartSaid : Prop := wortApartRow.holds Tryz.pinned (OpenSpec.ofChange wortApartSpec)

/-- ITS FALSE NEIGHBOUR: 'it returns false'. Refute it at one input. -/
def wortApartWrong : ChangeSpec := { name := "wortApart", fn := fun _ => fun
  | [d1, d2] => { results := [.lit (.bool false)], args := [d1, d2] }
  | _ => none }
def WortApartWrongFalsely : Prop := wortApartRow.holds Tryz.pinned (OpenSpec.ofChange wortApartWrong)

/-- 'saccharumlaw06.WortReads': WHATEVER THE INPUT: true; the input reads as it did. -/
def wortReadsSpec : ChangeSpec := { name := "wortReads", fn := fun _ => fun
  | [d1, d2, d3, d4, d5] => { results := [.lit (.bool true)], args := [d1, d2, d3, d4, d5] }
  | _ => none }
def wortReadsRow : OpenClaim := { program := "ytbgiddcgdgdmbaagreat", sum := "db1b70d2140c47c37e952232ed85b395d82cedcb484db8cb884b20620217b673", func := "saccharum/saccharumlaw06.WortReads", spec := "wortReads", unfollowed := true, recurses := true, plainKeys := false, apart := false }
def WortReadsSaid : Prop := wortReadsRow.holds Tryz.pinned (OpenSpec.ofChange wortReadsSpec)

/-- ITS FALSE NEIGHBOUR: 'it returns false'. Refute it at one input. -/
def wortReadsWrong : ChangeSpec := { name := "wortReads", fn := fun _ => fun
  | [d1, d2, d3, d4, d5] => { results := [.lit (.bool false)], args := [d1, d2, d3, d4, d5] }
  | _ => none }
def WortReadsWrongFalsely : Prop := wortReadsRow.holds Tryz.pinned (OpenSpec.ofChange wortReadsWrong)

/-- 'saccharumlaw06.WortFewer': WHATEVER THE INPUT: true; the input reads as it did. -/
def wortFewerSpec : ChangeSpec := { name := "wortFewer", fn := fun _ => fun
  | [d1, d2, d3, d4] => { results := [.lit (.bool true)], args := [d1, d2, d3, d4] }
  | _ => none }
def wortFewerRow : OpenClaim := { program := "ytbgiddcgdgdmbaagreat", sum := "db1b70d2140c47c37e952232ed85b395d82cedcb484db8cb884b20620217b673", func := "saccharum/saccharumlaw06.WortFewer", spec := "wortFewer", unfollowed := true, recurses := true, plainKeys := false, apart := false }
def WortFewerSaid : Prop := wortFewerRow.holds Tryz.pinned (OpenSpec.ofChange wortFewerSpec)

/-- ITS FALSE NEIGHBOUR: 'it returns false'. Refute it at one input. -/
def wortFewerWrong : ChangeSpec := { name := "wortFewer", fn := fun _ => fun
  | [d1, d2, d3, d4] => { results := [.lit (.bool false)], args := [d1, d2, d3, d4] }
  | _ => none }
def WortFewerWrongFalsely : Prop := wortFewerRow.holds Tryz.pinned (OpenSpec.ofChange wortFewerWrong)

/- THE SECOND FORM. 'bulk': how many values and letters a reading holds, each counted each time it is reached (what is shared counts as often as it is met; a slice's spare places count too). A statement '..UptoSaid' is the law's where the arguments, and the package variables that the reading takes, are together of bulk at most 1048576: NARROWER than '..Said'. Prove '..Said' where nothing that the law and all that it calls make is longer than what came in: it says more and counts as full. Else prove '..UptoSaid'. A law counts once. -/
mutual
def uptoBulk {H : Type} : DataW H → Nat
  | .lit (.string bytes) => bytes.length + 1
  | .lit _ => 1
  | .nil => 1
  | .ptr d => uptoBulk d + 1
  | .slice elems spare => uptoBulkAll elems + uptoBulkAll spare + 1
  | .agg parts => uptoBulkAll parts + 1
  | .iface _ d => uptoBulk d + 1
  | .map entries => uptoBulkEntries entries + 1
  | .held _ => 1
def uptoBulkAll {H : Type} : List (DataW H) → Nat
  | [] => 0
  | d :: r => uptoBulk d + uptoBulkAll r
def uptoBulkEntries {H : Type} : List (Lit × DataW H) → Nat
  | [] => 0
  | x :: r => uptoBulkEntry x + uptoBulkEntries r
def uptoBulkEntry {H : Type} : Lit × DataW H → Nat
  | (.string bytes, d) => bytes.length + uptoBulk d + 1
  | (_, d) => uptoBulk d + 1
 end
def uptoSmall : (H : Type) → List (DataW H) → Bool := fun _ ds => decide (uptoBulkAll ds ≤ 1048576)
def OpenSpec.upto (s : _root_.Go.ChangeSpec) : _root_.Go.OpenSpec := { _root_.Go.OpenSpec.ofChange s with cond := some uptoSmall }

/-- 'saccharumlaw06.WortPlays', WHERE WHAT IT READS IS OF BULK AT MOST 1048576: true; the input reads as it did. -/
def wortPlaysUptoRow : OpenClaim := { program := "ytbgiddcgdgdmbaagreat", sum := "db1b70d2140c47c37e952232ed85b395d82cedcb484db8cb884b20620217b673", func := "saccharum/saccharumlaw06.WortPlays", spec := "wortPlays", unfollowed := true, recurses := true, plainKeys := false, apart := false, narrowed := true }
def WortPlaysUptoSaid : Prop := wortPlaysUptoRow.holds Tryz.pinned (OpenSpec.upto wortPlaysSpec)

/-- 'saccharumlaw06.WortBounds', WHERE WHAT IT READS IS OF BULK AT MOST 1048576: true; the input reads as it did. -/
def wortBoundsUptoRow : OpenClaim := { program := "ytbgiddcgdgdmbaagreat", sum := "db1b70d2140c47c37e952232ed85b395d82cedcb484db8cb884b20620217b673", func := "saccharum/saccharumlaw06.WortBounds", spec := "wortBounds", unfollowed := true, recurses := true, plainKeys := false, apart := false, narrowed := true }
def WortBoundsUptoSaid : Prop := wortBoundsUptoRow.holds Tryz.pinned (OpenSpec.upto wortBoundsSpec)

/-- 'saccharumlaw06.WortLeaves', WHERE WHAT IT READS IS OF BULK AT MOST 1048576: true; the input reads as it did. -/
def wortLeavesUptoRow : OpenClaim := { program := "ytbgiddcgdgdmbaagreat", sum := "db1b70d2140c47c37e952232ed85b395d82cedcb484db8cb884b20620217b673", func := "saccharum/saccharumlaw06.WortLeaves", spec := "wortLeaves", unfollowed := true, recurses := true, plainKeys := false, apart := false, narrowed := true }
def WortLeavesUptoSaid : Prop := wortLeavesUptoRow.holds Tryz.pinned (OpenSpec.upto wortLeavesSpec)

/-- 'saccharumlaw06.WortPlans', WHERE WHAT IT READS IS OF BULK AT MOST 1048576: true; the input reads as it did. -/
def wortPlansUptoRow : OpenClaim := { program := "ytbgiddcgdgdmbaagreat", sum := "db1b70d2140c47c37e952232ed85b395d82cedcb484db8cb884b20620217b673", func := "saccharum/saccharumlaw06.WortPlans", spec := "wortPlans", unfollowed := true, recurses := true, plainKeys := false, apart := false, narrowed := true }
def WortPlansUptoSaid : Prop := wortPlansUptoRow.holds Tryz.pinned (OpenSpec.upto wortPlansSpec)

/-- 'saccharumlaw06.WortTruth', WHERE WHAT IT READS IS OF BULK AT MOST 1048576: true; the input reads as it did. -/
def wortTruthUptoRow : OpenClaim := { program := "ytbgiddcgdgdmbaagreat", sum := "db1b70d2140c47c37e952232ed85b395d82cedcb484db8cb884b20620217b673", func := "saccharum/saccharumlaw06.WortTruth", spec := "wortTruth", unfollowed := true, recurses := true, plainKeys := false, apart := false, narrowed := true }
def WortTruthUptoSaid : Prop := wortTruthUptoRow.holds Tryz.pinned (OpenSpec.upto wortTruthSpec)

/-- 'saccharumlaw06.WortEnds', WHERE WHAT IT READS IS OF BULK AT MOST 1048576: true; the input reads as it did. -/
def wortEndsUptoRow : OpenClaim := { program := "ytbgiddcgdgdmbaagreat", sum := "db1b70d2140c47c37e952232ed85b395d82cedcb484db8cb884b20620217b673", func := "saccharum/saccharumlaw06.WortEnds", spec := "wortEnds", unfollowed := true, recurses := true, plainKeys := false, apart := false, narrowed := true }
def WortEndsUptoSaid : Prop := wortEndsUptoRow.holds Tryz.pinned (OpenSpec.upto wortEndsSpec)

/-- 'saccharumlaw06.WortMixes', WHERE WHAT IT READS IS OF BULK AT MOST 1048576: true; the input reads as it did. -/
def wortMixesUptoRow : OpenClaim := { program := "ytbgiddcgdgdmbaagreat", sum := "db1b70d2140c47c37e952232ed85b395d82cedcb484db8cb884b20620217b673", func := "saccharum/saccharumlaw06.WortMixes", spec := "wortMixes", unfollowed := true, recurses := true, plainKeys := false, apart := false, narrowed := true }
def WortMixesUptoSaid : Prop := wortMixesUptoRow.holds Tryz.pinned (OpenSpec.upto wortMixesSpec)

/-- 'saccharumlaw06.WortApart', WHERE WHAT IT READS IS OF BULK AT MOST 1048576: true; the input reads as it did. -/
def wortApartUptoRow : OpenClaim := { program := "ytbgiddcgdgdmbaagreat", sum := "db1b70d2140c47c37e952232ed85b395d82cedcb484db8cb884b20620217b673", func := "saccharum/saccharumlaw06.WortApart", spec := "wortApart", unfollowed := true, recurses := true, plainKeys := false, apart := false, narrowed := true }
def WortApartUptoSaid : Prop := wortApartUptoRow.holds Tryz.pinned (OpenSpec.upto wortApartSpec)

/-- 'saccharumlaw06.WortReads', WHERE WHAT IT READS IS OF BULK AT MOST 1048576: true; the input reads as it did. -/
def wortReadsUptoRow : OpenClaim := { program := "ytbgiddcgdgdmbaagreat", sum := "db1b70d2140c47c37e952232ed85b395d82cedcb484db8cb884b20620217b673", func := "saccharum/saccharumlaw06.WortReads", spec := "wortReads", unfollowed := true, recurses := true, plainKeys := false, apart := false, narrowed := true }
def WortReadsUptoSaid : Prop := wortReadsUptoRow.holds Tryz.pinned (OpenSpec.upto wortReadsSpec)

/-- 'saccharumlaw06.WortFewer', WHERE WHAT IT READS IS OF BULK AT MOST 1048576: true; the input reads as it did. -/
def wortFewerUptoRow : OpenClaim := { program := "ytbgiddcgdgdmbaagreat", sum := "db1b70d2140c47c37e952232ed85b395d82cedcb484db8cb884b20620217b673", func := "saccharum/saccharumlaw06.WortFewer", spec := "wortFewer", unfollowed := true, recurses := true, plainKeys := false, apart := false, narrowed := true }
def WortFewerUptoSaid : Prop := wortFewerUptoRow.holds Tryz.pinned (OpenSpec.upto wortFewerSpec)

end Rows
end Go.Proofs.YtbgiddcgdgdmbaaGreat
