/-
  No cell of these rows narrows 'for every input' (looked for: loops, veiled, ifaces, maps, wideKeys, modest, calm, conditions, laid).
  DERIVED. THE GIVEN ROWS OF THIS SEAT. 8 by the template 'for every input the law returns true; each argument reads behind the call as it read before'; 0 by the template 'total and deterministic' (their statements: YtkaikgbcnmfppaaTotals.lean).
  GIVEN WITH THE SEED: the statements are not yours to turn. If you find one false, say at which input.
  Laid BY PROGRAM, IN A SANDBOX (cutbox-rows.mjs): the forced cells as the released guide's own fill.sh prints them over the translation 571a8a0534fd1ba3… (all of the seat's roots in one cut). By AI agents, Wed Nov 11 2026. No macro, syntax, notation, axiom, sorry.
-/
import Derived.Test.YtkaikgbcnmfppaaChecked
import GoSem.Claim
import GoSem.ClaimJoined
import GoSem.ClaimMapViews
import Derived.JoinedTies
import Derived.KernelRfl
namespace Go.Proofs.Ytkaikgbcnmfppaa
/- THE CELL 'sum', in the pinned program and in every row, IS THE sha256 OF THE DUMP (.gsa) THAT YtkaikgbcnmfppaaProg.lean LOADS. Nothing in Lean hashes anything: it is a label: what it is worth is what the hold of that sum in a sandbox is worth. -/
noncomputable def Try.pinned : Pinned := { name := "ytkaikgbcnmfppaa", sum := "571a8a0534fd1ba3e63c0b4c338e358747630eaca7bf130d7d8475a341dd198f", checked := Try.checked }
namespace Rows
def none {H : Type} : Left H := { results := [], args := [] }

/-- 'juntolaw17.NetChecks': WHATEVER THE INPUT: true; the input reads as it did. -/
def netChecksSpec : ChangeSpec := { name := "netChecks", fn := fun _ => fun
  | [d] => { results := [.lit (.bool true)], args := [d] }
  | _ => none }
def netChecksRow : OpenClaim := { program := "ytkaikgbcnmfppaa", sum := "571a8a0534fd1ba3e63c0b4c338e358747630eaca7bf130d7d8475a341dd198f", func := "junto/juntolaw17.NetChecks", spec := "netChecks", unfollowed := true, recurses := true, plainKeys := false, apart := false }
def NetChecksSaid : Prop := netChecksRow.holds Try.pinned (OpenSpec.ofChange netChecksSpec)

/-- ITS FALSE NEIGHBOUR: 'it returns false'. Refute it at one input. -/
def netChecksWrong : ChangeSpec := { name := "netChecks", fn := fun _ => fun
  | [d] => { results := [.lit (.bool false)], args := [d] }
  | _ => none }
def NetChecksWrongFalsely : Prop := netChecksRow.holds Try.pinned (OpenSpec.ofChange netChecksWrong)

/-- 'juntolaw17.NetBegins': WHATEVER THE INPUT: true; the input reads as it did. -/
def netBeginsSpec : ChangeSpec := { name := "netBegins", fn := fun _ => fun
  | [d1, d2, d3, d4] => { results := [.lit (.bool true)], args := [d1, d2, d3, d4] }
  | _ => none }
def netBeginsRow : OpenClaim := { program := "ytkaikgbcnmfppaa", sum := "571a8a0534fd1ba3e63c0b4c338e358747630eaca7bf130d7d8475a341dd198f", func := "junto/juntolaw17.NetBegins", spec := "netBegins", unfollowed := true, recurses := true, plainKeys := false, apart := false }
def NetBeginsSaid : Prop := netBeginsRow.holds Try.pinned (OpenSpec.ofChange netBeginsSpec)

/-- ITS FALSE NEIGHBOUR: 'it returns false'. Refute it at one input. -/
def netBeginsWrong : ChangeSpec := { name := "netBegins", fn := fun _ => fun
  | [d1, d2, d3, d4] => { results := [.lit (.bool false)], args := [d1, d2, d3, d4] }
  | _ => none }
def NetBeginsWrongFalsely : Prop := netBeginsRow.holds Try.pinned (OpenSpec.ofChange netBeginsWrong)

/-- 'juntolaw17.NetRounds': WHATEVER THE INPUT: true; the input reads as it did. -/
def netRoundsSpec : ChangeSpec := { name := "netRounds", fn := fun _ => fun
  | [d1, d2, d3] => { results := [.lit (.bool true)], args := [d1, d2, d3] }
  | _ => none }
def netRoundsRow : OpenClaim := { program := "ytkaikgbcnmfppaa", sum := "571a8a0534fd1ba3e63c0b4c338e358747630eaca7bf130d7d8475a341dd198f", func := "junto/juntolaw17.NetRounds", spec := "netRounds", unfollowed := true, recurses := true, plainKeys := false, apart := false }
def NetRoundsSaid : Prop := netRoundsRow.holds Try.pinned (OpenSpec.ofChange netRoundsSpec)

/-- ITS FALSE NEIGHBOUR: 'it returns false'. Refute it at one input. -/
def netRoundsWrong : ChangeSpec := { name := "netRounds", fn := fun _ => fun
  | [d1, d2, d3] => { results := [.lit (.bool false)], args := [d1, d2, d3] }
  | _ => none }
def NetRoundsWrongFalsely : Prop := netRoundsRow.holds Try.pinned (OpenSpec.ofChange netRoundsWrong)

/-- 'juntolaw17.NetReads': WHATEVER THE INPUT: true; the input reads as it did. -/
def netReadsSpec : ChangeSpec := { name := "netReads", fn := fun _ => fun
  | [d1, d2, d3] => { results := [.lit (.bool true)], args := [d1, d2, d3] }
  | _ => none }
def netReadsRow : OpenClaim := { program := "ytkaikgbcnmfppaa", sum := "571a8a0534fd1ba3e63c0b4c338e358747630eaca7bf130d7d8475a341dd198f", func := "junto/juntolaw17.NetReads", spec := "netReads", unfollowed := true, recurses := true, plainKeys := false, apart := false }
def NetReadsSaid : Prop := netReadsRow.holds Try.pinned (OpenSpec.ofChange netReadsSpec)

/-- ITS FALSE NEIGHBOUR: 'it returns false'. Refute it at one input. -/
def netReadsWrong : ChangeSpec := { name := "netReads", fn := fun _ => fun
  | [d1, d2, d3] => { results := [.lit (.bool false)], args := [d1, d2, d3] }
  | _ => none }
def NetReadsWrongFalsely : Prop := netReadsRow.holds Try.pinned (OpenSpec.ofChange netReadsWrong)

/-- 'juntolaw17.NetHonest': WHATEVER THE INPUT: true; the input reads as it did. -/
def netHonestSpec : ChangeSpec := { name := "netHonest", fn := fun _ => fun
  | [d1, d2, d3] => { results := [.lit (.bool true)], args := [d1, d2, d3] }
  | _ => none }
def netHonestRow : OpenClaim := { program := "ytkaikgbcnmfppaa", sum := "571a8a0534fd1ba3e63c0b4c338e358747630eaca7bf130d7d8475a341dd198f", func := "junto/juntolaw17.NetHonest", spec := "netHonest", unfollowed := true, recurses := true, plainKeys := false, apart := false }
def NetHonestSaid : Prop := netHonestRow.holds Try.pinned (OpenSpec.ofChange netHonestSpec)

/-- ITS FALSE NEIGHBOUR: 'it returns false'. Refute it at one input. -/
def netHonestWrong : ChangeSpec := { name := "netHonest", fn := fun _ => fun
  | [d1, d2, d3] => { results := [.lit (.bool false)], args := [d1, d2, d3] }
  | _ => none }
def NetHonestWrongFalsely : Prop := netHonestRow.holds Try.pinned (OpenSpec.ofChange netHonestWrong)

/-- 'juntolaw17.NetApart': WHATEVER THE INPUT: true; the input reads as it did. -/
def netApartSpec : ChangeSpec := { name := "netApart", fn := fun _ => fun
  | [d1, d2, d3] => { results := [.lit (.bool true)], args := [d1, d2, d3] }
  | _ => none }
def netApartRow : OpenClaim := { program := "ytkaikgbcnmfppaa", sum := "571a8a0534fd1ba3e63c0b4c338e358747630eaca7bf130d7d8475a341dd198f", func := "junto/juntolaw17.NetApart", spec := "netApart", unfollowed := true, recurses := true, plainKeys := false, apart := false }
def NetApartSaid : Prop := netApartRow.holds Try.pinned (OpenSpec.ofChange netApartSpec)

/-- ITS FALSE NEIGHBOUR: 'it returns false'. Refute it at one input. -/
def netApartWrong : ChangeSpec := { name := "netApart", fn := fun _ => fun
  | [d1, d2, d3] => { results := [.lit (.bool false)], args := [d1, d2, d3] }
  | _ => none }
def NetApartWrongFalsely : Prop := netApartRow.holds Try.pinned (OpenSpec.ofChange netApartWrong)

/-- 'juntolaw17.NetGroups': WHATEVER THE INPUT: true; the input reads as it did. -/
def netGroupsSpec : ChangeSpec := { name := "netGroups", fn := fun _ => fun
  | [d1, d2] => { results := [.lit (.bool true)], args := [d1, d2] }
  | _ => none }
def netGroupsRow : OpenClaim := { program := "ytkaikgbcnmfppaa", sum := "571a8a0534fd1ba3e63c0b4c338e358747630eaca7bf130d7d8475a341dd198f", func := "junto/juntolaw17.NetGroups", spec := "netGroups", unfollowed := true, recurses := true, plainKeys := false, apart := false }
def NetGroupsSaid : Prop := netGroupsRow.holds Try.pinned (OpenSpec.ofChange netGroupsSpec)

/-- ITS FALSE NEIGHBOUR: 'it returns false'. Refute it at one input. -/
def netGroupsWrong : ChangeSpec := { name := "netGroups", fn := fun _ => fun
  | [d1, d2] => { results := [.lit (.bool false)], args := [d1, d2] }
  | _ => none }
def NetGroupsWrongFalsely : Prop := netGroupsRow.holds Try.pinned (OpenSpec.ofChange netGroupsWrong)

/-- 'juntolaw17.NetDraws': WHATEVER THE INPUT: true; the input reads as it did. -/
def netDrawsSpec : ChangeSpec := { name := "netDraws", fn := fun _ => fun
  | [d1, d2, d3] => { results := [.lit (.bool true)], args := [d1, d2, d3] }
  | _ => none }
def netDrawsRow : OpenClaim := { program := "ytkaikgbcnmfppaa", sum := "571a8a0534fd1ba3e63c0b4c338e358747630eaca7bf130d7d8475a341dd198f", func := "junto/juntolaw17.NetDraws", spec := "netDraws", unfollowed := true, recurses := true, plainKeys := false, apart := false }
def NetDrawsSaid : Prop := netDrawsRow.holds Try.pinned (OpenSpec.ofChange netDrawsSpec)

/-- ITS FALSE NEIGHBOUR: 'it returns false'. Refute it at one input. -/
def netDrawsWrong : ChangeSpec := { name := "netDraws", fn := fun _ => fun
  | [d1, d2, d3] => { results := [.lit (.bool false)], args := [d1, d2, d3] }
  | _ => none }
def NetDrawsWrongFalsely : Prop := netDrawsRow.holds Try.pinned (OpenSpec.ofChange netDrawsWrong)

/- THE SECOND FORM. 'bulk': how many values and letters a reading holds, each counted each time it is reached (what is shared counts as often as it is met; a slice's spare places count too). A statement '..UptoSaid' is the law's where the arguments, and the package variables that the reading takes, are together of bulk at most 1048576: NARROWER than '..Said'. Prove '..Said' where nothing that the law and all that it calls make is longer than what came in: it says more and counts as full. Else prove '..UptoSaid'. A law counts once. -/
mutual
def uptoBulk {H : Type} : DataW H → Nat
  | .lit (.string bytes) => bytes.length + 1
  | .lit _ => 1
  | .nil => 1
  | .ptr d => uptoBulk d + 1
  | .slice elems spare => uptoBulkAll elems + uptoBulkAll spare + 1
  | .agg parts => uptoBulkAll parts + 1
  | .iface _ d => uptoBulk d + 1
  | .map entries => uptoBulkEntries entries + 1
  | .held _ => 1
def uptoBulkAll {H : Type} : List (DataW H) → Nat
  | [] => 0
  | d :: r => uptoBulk d + uptoBulkAll r
def uptoBulkEntries {H : Type} : List (Lit × DataW H) → Nat
  | [] => 0
  | x :: r => uptoBulkEntry x + uptoBulkEntries r
def uptoBulkEntry {H : Type} : Lit × DataW H → Nat
  | (.string bytes, d) => bytes.length + uptoBulk d + 1
  | (_, d) => uptoBulk d + 1
 end
def uptoSmall : (H : Type) → List (DataW H) → Bool := fun _ ds => decide (uptoBulkAll ds ≤ 1048576)
def OpenSpec.upto (s : _root_.Go.ChangeSpec) : _root_.Go.OpenSpec := { _root_.Go.OpenSpec.ofChange s with cond := some uptoSmall }

/-- 'juntolaw17.NetChecks', WHERE WHAT IT READS IS OF BULK AT MOST 1048576: true; the input reads as it did. -/
def netChecksUptoRow : OpenClaim := { program := "ytkaikgbcnmfppaa", sum := "571a8a0534fd1ba3e63c0b4c338e358747630eaca7bf130d7d8475a341dd198f", func := "junto/juntolaw17.NetChecks", spec := "netChecks", unfollowed := true, recurses := true, plainKeys := false, apart := false, narrowed := true }
def NetChecksUptoSaid : Prop := netChecksUptoRow.holds Try.pinned (OpenSpec.upto netChecksSpec)

/-- 'juntolaw17.NetBegins', WHERE WHAT IT READS IS OF BULK AT MOST 1048576: true; the input reads as it did. -/
def netBeginsUptoRow : OpenClaim := { program := "ytkaikgbcnmfppaa", sum := "571a8a0534fd1ba3e63c0b4c338e358747630eaca7bf130d7d8475a341dd198f", func := "junto/juntolaw17.NetBegins", spec := "netBegins", unfollowed := true, recurses := true, plainKeys := false, apart := false, narrowed := true }
def NetBeginsUptoSaid : Prop := netBeginsUptoRow.holds Try.pinned (OpenSpec.upto netBeginsSpec)

/-- 'juntolaw17.NetRounds', WHERE WHAT IT READS IS OF BULK AT MOST 1048576: true; the input reads as it did. -/
def netRoundsUptoRow : OpenClaim := { program := "ytkaikgbcnmfppaa", sum := "571a8a0534fd1ba3e63c0b4c338e358747630eaca7bf130d7d8475a341dd198f", func := "junto/juntolaw17.NetRounds", spec := "netRounds", unfollowed := true, recurses := true, plainKeys := false, apart := false, narrowed := true }
def NetRoundsUptoSaid : Prop := netRoundsUptoRow.holds Try.pinned (OpenSpec.upto netRoundsSpec)

/-- 'juntolaw17.NetReads', WHERE WHAT IT READS IS OF BULK AT MOST 1048576: true; the input reads as it did. -/
def netReadsUptoRow : OpenClaim := { program := "ytkaikgbcnmfppaa", sum := "571a8a0534fd1ba3e63c0b4c338e358747630eaca7bf130d7d8475a341dd198f", func := "junto/juntolaw17.NetReads", spec := "netReads", unfollowed := true, recurses := true, plainKeys := false, apart := false, narrowed := true }
def NetReadsUptoSaid : Prop := netReadsUptoRow.holds Try.pinned (OpenSpec.upto netReadsSpec)

/-- 'juntolaw17.NetHonest', WHERE WHAT IT READS IS OF BULK AT MOST 1048576: true; the input reads as it did. -/
def netHonestUptoRow : OpenClaim := { program := "ytkaikgbcnmfppaa", sum := "571a8a0534fd1ba3e63c0b4c338e358747630eaca7bf130d7d8475a341dd198f", func := "junto/juntolaw17.NetHonest", spec := "netHonest", unfollowed := true, recurses := true, plainKeys := false, apart := false, narrowed := true }
def NetHonestUptoSaid : Prop := netHonestUptoRow.holds Try.pinned (OpenSpec.upto netHonestSpec)

/-- 'juntolaw17.NetApart', WHERE WHAT IT READS IS OF BULK AT MOST 1048576: true; the input reads as it did. -/
def netApartUptoRow : OpenClaim := { program := "ytkaikgbcnmfppaa", sum := "571a8a0534fd1ba3e63c0b4c338e358747630eaca7bf130d7d8475a341dd198f", func := "junto/juntolaw17.NetApart", spec := "netApart", unfollowed := true, recurses := true, plainKeys := false, apart := false, narrowed := true }
def NetApartUptoSaid : Prop := netApartUptoRow.holds Try.pinned (OpenSpec.upto netApartSpec)

/-- 'juntolaw17.NetGroups', WHERE WHAT IT READS IS OF BULK AT MOST 1048576: true; the input reads as it did. -/
def netGroupsUptoRow : OpenClaim := { program := "ytkaikgbcnmfppaa", sum := "571a8a0534fd1ba3e63c0b4c338e358747630eaca7bf130d7d8475a341dd198f", func := "junto/juntolaw17.NetGroups", spec := "netGroups", unfollowed := true, recurses := true, plainKeys := false, apart := false, narrowed := true }
def NetGroupsUptoSaid : Prop := netGroupsUptoRow.holds Try.pinned (OpenSpec.upto netGroupsSpec)

/-- 'juntolaw17.NetDraws', WHERE WHAT IT READS IS OF BULK AT MOST 1048576: true; the input reads as it did. -/
def netDrawsUptoRow : OpenClaim := { program := "ytkaikgbcnmfppaa", sum := "571a8a0534fd1ba3e63c0b4c338e358747630eaca7bf130d7d8475a341dd198f", func := "junto/juntolaw17.NetDraws", spec := "netDraws", unfollowed := true, recurses := true, plainKeys := false, apart := false, narrowed := true }
def NetDrawsUptoSaid : Prop := netDrawsUptoRow.holds Try.pinned (OpenSpec.upto netDrawsSpec)

end Rows
end Go.Proofs.Ytkaikgbcnmfppaa
