/-
  No cell of these rows narrows 'for every input' (looked for: loops, veiled, ifaces, maps, wideKeys, modest, calm, conditions, laid).
  DERIVED. THE GIVEN ROWS OF THIS SEAT. 6 by the template 'for every input the law returns true; each argument reads behind the call as it read before'; 0 by the template 'total and deterministic' (their statements: YtbgiddcgdgdmbaaTotals.lean).
  GIVEN WITH THE SEED: the statements are not yours to turn. If you find one false, say at which input.
  Laid BY PROGRAM, IN A SANDBOX (cutbox-rows.mjs): the forced cells as the released guide's own fill.sh prints them over the translation cd774339870325bb… (all of the seat's roots in one cut). By AI agents, Wed Nov 11 2026. No macro, syntax, notation, axiom, sorry.
-/
import Derived.Test.YtbgiddcgdgdmbaaChecked
import GoSem.Claim
import GoSem.ClaimJoined
import GoSem.ClaimMapViews
import Derived.JoinedTies
import Derived.KernelRfl
namespace Go.Proofs.Ytbgiddcgdgdmbaa
/- THE CELL 'sum', in the pinned program and in every row, IS THE sha256 OF THE DUMP (.gsa) THAT YtbgiddcgdgdmbaaProg.lean LOADS. Nothing in Lean hashes anything: it is a label: what it is worth is what the hold of that sum in a sandbox is worth. -/
noncomputable def Try.pinned : Pinned := { name := "ytbgiddcgdgdmbaa", sum := "cd774339870325bb72c7f42afdc42a3147402f5c35be1ae83b0eac1cb2ce7aa1", checked := Try.checked }
namespace Rows
def none {H : Type} : Left H := { results := [], args := [] }

/-- 'saccharumtop.TopBlended': WHATEVER THE INPUT: true; the input reads as it did. -/
def topBlendedSpec : ChangeSpec := { name := "topBlended", fn := fun _ => fun
  | [d1, d2] => { results := [.lit (.bool true)], args := [d1, d2] }
  | _ => none }
def topBlendedRow : OpenClaim := { program := "ytbgiddcgdgdmbaa", sum := "cd774339870325bb72c7f42afdc42a3147402f5c35be1ae83b0eac1cb2ce7aa1", func := "saccharum/saccharumtop.TopBlended", spec := "topBlended", unfollowed := true, recurses := true, plainKeys := false, apart := false }
def TopBlendedSaid : Prop := topBlendedRow.holds Try.pinned (OpenSpec.ofChange topBlendedSpec)

/-- ITS FALSE NEIGHBOUR: 'it returns false'. Refute it at one input. -/
def topBlendedWrong : ChangeSpec := { name := "topBlended", fn := fun _ => fun
  | [d1, d2] => { results := [.lit (.bool false)], args := [d1, d2] }
  | _ => none }
def TopBlendedWrongFalsely : Prop := topBlendedRow.holds Try.pinned (OpenSpec.ofChange topBlendedWrong)

/-- 'saccharumtop.TopBonded': WHATEVER THE INPUT: true; the input reads as it did. -/
def topBondedSpec : ChangeSpec := { name := "topBonded", fn := fun _ => fun
  | [d1, d2] => { results := [.lit (.bool true)], args := [d1, d2] }
  | _ => none }
def topBondedRow : OpenClaim := { program := "ytbgiddcgdgdmbaa", sum := "cd774339870325bb72c7f42afdc42a3147402f5c35be1ae83b0eac1cb2ce7aa1", func := "saccharum/saccharumtop.TopBonded", spec := "topBonded", unfollowed := true, recurses := true, plainKeys := false, apart := false }
def TopBondedSaid : Prop := topBondedRow.holds Try.pinned (OpenSpec.ofChange topBondedSpec)

/-- ITS FALSE NEIGHBOUR: 'it returns false'. Refute it at one input. -/
def topBondedWrong : ChangeSpec := { name := "topBonded", fn := fun _ => fun
  | [d1, d2] => { results := [.lit (.bool false)], args := [d1, d2] }
  | _ => none }
def TopBondedWrongFalsely : Prop := topBondedRow.holds Try.pinned (OpenSpec.ofChange topBondedWrong)

/-- 'saccharumlaw06.WortMade': WHATEVER THE INPUT: true; the input reads as it did. -/
def wortMadeSpec : ChangeSpec := { name := "wortMade", fn := fun _ => fun
  | [d1, d2, d3, d4] => { results := [.lit (.bool true)], args := [d1, d2, d3, d4] }
  | _ => none }
def wortMadeRow : OpenClaim := { program := "ytbgiddcgdgdmbaa", sum := "cd774339870325bb72c7f42afdc42a3147402f5c35be1ae83b0eac1cb2ce7aa1", func := "saccharum/saccharumlaw06.WortMade", spec := "wortMade", unfollowed := true, recurses := true, plainKeys := false, apart := false }
def WortMadeSaid : Prop := wortMadeRow.holds Try.pinned (OpenSpec.ofChange wortMadeSpec)

/-- ITS FALSE NEIGHBOUR: 'it returns false'. Refute it at one input. -/
def wortMadeWrong : ChangeSpec := { name := "wortMade", fn := fun _ => fun
  | [d1, d2, d3, d4] => { results := [.lit (.bool false)], args := [d1, d2, d3, d4] }
  | _ => none }
def WortMadeWrongFalsely : Prop := wortMadeRow.holds Try.pinned (OpenSpec.ofChange wortMadeWrong)

/-- 'saccharumlaw06.WortNames': WHATEVER THE INPUT: true; the input reads as it did. -/
def wortNamesSpec : ChangeSpec := { name := "wortNames", fn := fun _ => fun
  | [] => { results := [.lit (.bool true)], args := [] }
  | _ => none }
def wortNamesRow : OpenClaim := { program := "ytbgiddcgdgdmbaa", sum := "cd774339870325bb72c7f42afdc42a3147402f5c35be1ae83b0eac1cb2ce7aa1", func := "saccharum/saccharumlaw06.WortNames", spec := "wortNames", unfollowed := true, recurses := true, plainKeys := false, apart := false }
def WortNamesSaid : Prop := wortNamesRow.holds Try.pinned (OpenSpec.ofChange wortNamesSpec)

/-- ITS FALSE NEIGHBOUR: 'it returns false'. Refute it at one input. -/
def wortNamesWrong : ChangeSpec := { name := "wortNames", fn := fun _ => fun
  | [] => { results := [.lit (.bool false)], args := [] }
  | _ => none }
def WortNamesWrongFalsely : Prop := wortNamesRow.holds Try.pinned (OpenSpec.ofChange wortNamesWrong)

/-- 'saccharumlaw06.WortBeer': WHATEVER THE INPUT: true; the input reads as it did. -/
def wortBeerSpec : ChangeSpec := { name := "wortBeer", fn := fun _ => fun
  | [d1, d2, d3, d4] => { results := [.lit (.bool true)], args := [d1, d2, d3, d4] }
  | _ => none }
def wortBeerRow : OpenClaim := { program := "ytbgiddcgdgdmbaa", sum := "cd774339870325bb72c7f42afdc42a3147402f5c35be1ae83b0eac1cb2ce7aa1", func := "saccharum/saccharumlaw06.WortBeer", spec := "wortBeer", unfollowed := true, recurses := true, plainKeys := false, apart := false }
def WortBeerSaid : Prop := wortBeerRow.holds Try.pinned (OpenSpec.ofChange wortBeerSpec)

/-- ITS FALSE NEIGHBOUR: 'it returns false'. Refute it at one input. -/
def wortBeerWrong : ChangeSpec := { name := "wortBeer", fn := fun _ => fun
  | [d1, d2, d3, d4] => { results := [.lit (.bool false)], args := [d1, d2, d3, d4] }
  | _ => none }
def WortBeerWrongFalsely : Prop := wortBeerRow.holds Try.pinned (OpenSpec.ofChange wortBeerWrong)

/-- 'saccharumlaw06.WortWider': WHATEVER THE INPUT: true; the input reads as it did. -/
def wortWiderSpec : ChangeSpec := { name := "wortWider", fn := fun _ => fun
  | [d1, d2, d3, d4, d5, d6, d7, d8] => { results := [.lit (.bool true)], args := [d1, d2, d3, d4, d5, d6, d7, d8] }
  | _ => none }
def wortWiderRow : OpenClaim := { program := "ytbgiddcgdgdmbaa", sum := "cd774339870325bb72c7f42afdc42a3147402f5c35be1ae83b0eac1cb2ce7aa1", func := "saccharum/saccharumlaw06.WortWider", spec := "wortWider", unfollowed := true, recurses := true, plainKeys := false, apart := false }
def WortWiderSaid : Prop := wortWiderRow.holds Try.pinned (OpenSpec.ofChange wortWiderSpec)

/-- ITS FALSE NEIGHBOUR: 'it returns false'. Refute it at one input. -/
def wortWiderWrong : ChangeSpec := { name := "wortWider", fn := fun _ => fun
  | [d1, d2, d3, d4, d5, d6, d7, d8] => { results := [.lit (.bool false)], args := [d1, d2, d3, d4, d5, d6, d7, d8] }
  | _ => none }
def WortWiderWrongFalsely : Prop := wortWiderRow.holds Try.pinned (OpenSpec.ofChange wortWiderWrong)

/- THE SECOND FORM. 'bulk': how many values and letters a reading holds, each counted each time it is reached (what is shared counts as often as it is met; a slice's spare places count too). A statement '..UptoSaid' is the law's where the arguments, and the package variables that the reading takes, are together of bulk at most 1048576: NARROWER than '..Said'. Prove '..Said' where nothing that the law and all that it calls make is longer than what came in: it says more and counts as full. Else prove '..UptoSaid'. A law counts once. -/
mutual
def uptoBulk {H : Type} : DataW H → Nat
  | .lit (.string bytes) => bytes.length + 1
  | .lit _ => 1
  | .nil => 1
  | .ptr d => uptoBulk d + 1
  | .slice elems spare => uptoBulkAll elems + uptoBulkAll spare + 1
  | .agg parts => uptoBulkAll parts + 1
  | .iface _ d => uptoBulk d + 1
  | .map entries => uptoBulkEntries entries + 1
  | .held _ => 1
def uptoBulkAll {H : Type} : List (DataW H) → Nat
  | [] => 0
  | d :: r => uptoBulk d + uptoBulkAll r
def uptoBulkEntries {H : Type} : List (Lit × DataW H) → Nat
  | [] => 0
  | x :: r => uptoBulkEntry x + uptoBulkEntries r
def uptoBulkEntry {H : Type} : Lit × DataW H → Nat
  | (.string bytes, d) => bytes.length + uptoBulk d + 1
  | (_, d) => uptoBulk d + 1
 end
def uptoSmall : (H : Type) → List (DataW H) → Bool := fun _ ds => decide (uptoBulkAll ds ≤ 1048576)
def OpenSpec.upto (s : _root_.Go.ChangeSpec) : _root_.Go.OpenSpec := { _root_.Go.OpenSpec.ofChange s with cond := some uptoSmall }

/-- 'saccharumtop.TopBlended', WHERE WHAT IT READS IS OF BULK AT MOST 1048576: true; the input reads as it did. -/
def topBlendedUptoRow : OpenClaim := { program := "ytbgiddcgdgdmbaa", sum := "cd774339870325bb72c7f42afdc42a3147402f5c35be1ae83b0eac1cb2ce7aa1", func := "saccharum/saccharumtop.TopBlended", spec := "topBlended", unfollowed := true, recurses := true, plainKeys := false, apart := false, narrowed := true }
def TopBlendedUptoSaid : Prop := topBlendedUptoRow.holds Try.pinned (OpenSpec.upto topBlendedSpec)

/-- 'saccharumtop.TopBonded', WHERE WHAT IT READS IS OF BULK AT MOST 1048576: true; the input reads as it did. -/
def topBondedUptoRow : OpenClaim := { program := "ytbgiddcgdgdmbaa", sum := "cd774339870325bb72c7f42afdc42a3147402f5c35be1ae83b0eac1cb2ce7aa1", func := "saccharum/saccharumtop.TopBonded", spec := "topBonded", unfollowed := true, recurses := true, plainKeys := false, apart := false, narrowed := true }
def TopBondedUptoSaid : Prop := topBondedUptoRow.holds Try.pinned (OpenSpec.upto topBondedSpec)

/-- 'saccharumlaw06.WortMade', WHERE WHAT IT READS IS OF BULK AT MOST 1048576: true; the input reads as it did. -/
def wortMadeUptoRow : OpenClaim := { program := "ytbgiddcgdgdmbaa", sum := "cd774339870325bb72c7f42afdc42a3147402f5c35be1ae83b0eac1cb2ce7aa1", func := "saccharum/saccharumlaw06.WortMade", spec := "wortMade", unfollowed := true, recurses := true, plainKeys := false, apart := false, narrowed := true }
def WortMadeUptoSaid : Prop := wortMadeUptoRow.holds Try.pinned (OpenSpec.upto wortMadeSpec)

/-- 'saccharumlaw06.WortNames', WHERE WHAT IT READS IS OF BULK AT MOST 1048576: true; the input reads as it did. -/
def wortNamesUptoRow : OpenClaim := { program := "ytbgiddcgdgdmbaa", sum := "cd774339870325bb72c7f42afdc42a3147402f5c35be1ae83b0eac1cb2ce7aa1", func := "saccharum/saccharumlaw06.WortNames", spec := "wortNames", unfollowed := true, recurses := true, plainKeys := false, apart := false, narrowed := true }
def WortNamesUptoSaid : Prop := wortNamesUptoRow.holds Try.pinned (OpenSpec.upto wortNamesSpec)

/-- 'saccharumlaw06.WortBeer', WHERE WHAT IT READS IS OF BULK AT MOST 1048576: true; the input reads as it did. -/
def wortBeerUptoRow : OpenClaim := { program := "ytbgiddcgdgdmbaa", sum := "cd774339870325bb72c7f42afdc42a3147402f5c35be1ae83b0eac1cb2ce7aa1", func := "saccharum/saccharumlaw06.WortBeer", spec := "wortBeer", unfollowed := true, recurses := true, plainKeys := false, apart := false, narrowed := true }
def WortBeerUptoSaid : Prop := wortBeerUptoRow.holds Try.pinned (OpenSpec.upto wortBeerSpec)

/-- 'saccharumlaw06.WortWider', WHERE WHAT IT READS IS OF BULK AT MOST 1048576: true; the input reads as it did. -/
def wortWiderUptoRow : OpenClaim := { program := "ytbgiddcgdgdmbaa", sum := "cd774339870325bb72c7f42afdc42a3147402f5c35be1ae83b0eac1cb2ce7aa1", func := "saccharum/saccharumlaw06.WortWider", spec := "wortWider", unfollowed := true, recurses := true, plainKeys := false, apart := false, narrowed := true }
def WortWiderUptoSaid : Prop := wortWiderUptoRow.holds Try.pinned (OpenSpec.upto wortWiderSpec)

end Rows
end Go.Proofs.Ytbgiddcgdgdmbaa
