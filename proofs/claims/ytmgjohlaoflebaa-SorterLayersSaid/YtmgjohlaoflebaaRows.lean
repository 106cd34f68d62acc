/-
  No cell of these rows narrows 'for every input' (looked for: loops, veiled, ifaces, maps, wideKeys, modest, calm, conditions, laid).
  DERIVED. THE GIVEN ROWS OF THIS SEAT. 8 by the template 'for every input the law returns true; each argument reads behind the call as it read before'; 0 by the template 'total and deterministic' (their statements: YtmgjohlaoflebaaTotals.lean).
  GIVEN WITH THE SEED: the statements are not yours to turn. If you find one false, say at which input.
  Laid BY PROGRAM, IN A SANDBOX (cutbox-rows.mjs): the forced cells as the released guide's own fill.sh prints them over the translation e3f3039f7c863965… (all of the seat's roots in one cut). By AI agents, Wed Nov 11 2026. No macro, syntax, notation, axiom, sorry.
-/
import Derived.Test.YtmgjohlaoflebaaChecked
import GoSem.Claim
import GoSem.ClaimJoined
import GoSem.ClaimMapViews
import Derived.JoinedTies
import Derived.KernelRfl
namespace Go.Proofs.Ytmgjohlaoflebaa
/- THE CELL 'sum', in the pinned program and in every row, IS THE sha256 OF THE DUMP (.gsa) THAT YtmgjohlaoflebaaProg.lean LOADS. Nothing in Lean hashes anything: it is a label: what it is worth is what the hold of that sum in a sandbox is worth. -/
noncomputable def Try.pinned : Pinned := { name := "ytmgjohlaoflebaa", sum := "e3f3039f7c8639651b3f27635fecf6d12be33720260da6102db5b5f782f0366a", checked := Try.checked }
namespace Rows
def none {H : Type} : Left H := { results := [], args := [] }

/-- 'juntolaw14.SorterNetworks': WHATEVER THE INPUT: true; the input reads as it did. -/
def sorterNetworksSpec : ChangeSpec := { name := "sorterNetworks", fn := fun _ => fun
  | [d] => { results := [.lit (.bool true)], args := [d] }
  | _ => none }
def sorterNetworksRow : OpenClaim := { program := "ytmgjohlaoflebaa", sum := "e3f3039f7c8639651b3f27635fecf6d12be33720260da6102db5b5f782f0366a", func := "junto/juntolaw14.SorterNetworks", spec := "sorterNetworks", unfollowed := true, recurses := true, apart := false }
def SorterNetworksSaid : Prop := sorterNetworksRow.holds Try.pinned (OpenSpec.ofChange sorterNetworksSpec)

/-- ITS FALSE NEIGHBOUR: 'it returns false'. Refute it at one input. -/
def sorterNetworksWrong : ChangeSpec := { name := "sorterNetworks", fn := fun _ => fun
  | [d] => { results := [.lit (.bool false)], args := [d] }
  | _ => none }
def SorterNetworksWrongFalsely : Prop := sorterNetworksRow.holds Try.pinned (OpenSpec.ofChange sorterNetworksWrong)

/-- 'juntolaw14.SorterChecks': WHATEVER THE INPUT: true; the input reads as it did. -/
def sorterChecksSpec : ChangeSpec := { name := "sorterChecks", fn := fun _ => fun
  | [d1, d2] => { results := [.lit (.bool true)], args := [d1, d2] }
  | _ => none }
def sorterChecksRow : OpenClaim := { program := "ytmgjohlaoflebaa", sum := "e3f3039f7c8639651b3f27635fecf6d12be33720260da6102db5b5f782f0366a", func := "junto/juntolaw14.SorterChecks", spec := "sorterChecks", unfollowed := true, recurses := true, apart := false }
def SorterChecksSaid : Prop := sorterChecksRow.holds Try.pinned (OpenSpec.ofChange sorterChecksSpec)

/-- ITS FALSE NEIGHBOUR: 'it returns false'. Refute it at one input. -/
def sorterChecksWrong : ChangeSpec := { name := "sorterChecks", fn := fun _ => fun
  | [d1, d2] => { results := [.lit (.bool false)], args := [d1, d2] }
  | _ => none }
def SorterChecksWrongFalsely : Prop := sorterChecksRow.holds Try.pinned (OpenSpec.ofChange sorterChecksWrong)

/-- 'juntolaw14.SorterSorts': WHATEVER THE INPUT: true; the input reads as it did. -/
def sorterSortsSpec : ChangeSpec := { name := "sorterSorts", fn := fun _ => fun
  | [d1, d2] => { results := [.lit (.bool true)], args := [d1, d2] }
  | _ => none }
def sorterSortsRow : OpenClaim := { program := "ytmgjohlaoflebaa", sum := "e3f3039f7c8639651b3f27635fecf6d12be33720260da6102db5b5f782f0366a", func := "junto/juntolaw14.SorterSorts", spec := "sorterSorts", unfollowed := true, recurses := true, apart := false }
def SorterSortsSaid : Prop := sorterSortsRow.holds Try.pinned (OpenSpec.ofChange sorterSortsSpec)

/-- ITS FALSE NEIGHBOUR: 'it returns false'. Refute it at one input. -/
def sorterSortsWrong : ChangeSpec := { name := "sorterSorts", fn := fun _ => fun
  | [d1, d2] => { results := [.lit (.bool false)], args := [d1, d2] }
  | _ => none }
def SorterSortsWrongFalsely : Prop := sorterSortsRow.holds Try.pinned (OpenSpec.ofChange sorterSortsWrong)

/-- 'juntolaw14.SorterNoughts': WHATEVER THE INPUT: true; the input reads as it did. -/
def sorterNoughtsSpec : ChangeSpec := { name := "sorterNoughts", fn := fun _ => fun
  | [d1, d2] => { results := [.lit (.bool true)], args := [d1, d2] }
  | _ => none }
def sorterNoughtsRow : OpenClaim := { program := "ytmgjohlaoflebaa", sum := "e3f3039f7c8639651b3f27635fecf6d12be33720260da6102db5b5f782f0366a", func := "junto/juntolaw14.SorterNoughts", spec := "sorterNoughts", unfollowed := true, recurses := true, apart := false }
def SorterNoughtsSaid : Prop := sorterNoughtsRow.holds Try.pinned (OpenSpec.ofChange sorterNoughtsSpec)

/-- ITS FALSE NEIGHBOUR: 'it returns false'. Refute it at one input. -/
def sorterNoughtsWrong : ChangeSpec := { name := "sorterNoughts", fn := fun _ => fun
  | [d1, d2] => { results := [.lit (.bool false)], args := [d1, d2] }
  | _ => none }
def SorterNoughtsWrongFalsely : Prop := sorterNoughtsRow.holds Try.pinned (OpenSpec.ofChange sorterNoughtsWrong)

/-- 'juntolaw14.SorterRuns': WHATEVER THE INPUT: true; the input reads as it did. -/
def sorterRunsSpec : ChangeSpec := { name := "sorterRuns", fn := fun _ => fun
  | [d1, d2] => { results := [.lit (.bool true)], args := [d1, d2] }
  | _ => none }
def sorterRunsRow : OpenClaim := { program := "ytmgjohlaoflebaa", sum := "e3f3039f7c8639651b3f27635fecf6d12be33720260da6102db5b5f782f0366a", func := "junto/juntolaw14.SorterRuns", spec := "sorterRuns", unfollowed := true, recurses := true, apart := false }
def SorterRunsSaid : Prop := sorterRunsRow.holds Try.pinned (OpenSpec.ofChange sorterRunsSpec)

/-- ITS FALSE NEIGHBOUR: 'it returns false'. Refute it at one input. -/
def sorterRunsWrong : ChangeSpec := { name := "sorterRuns", fn := fun _ => fun
  | [d1, d2] => { results := [.lit (.bool false)], args := [d1, d2] }
  | _ => none }
def SorterRunsWrongFalsely : Prop := sorterRunsRow.holds Try.pinned (OpenSpec.ofChange sorterRunsWrong)

/-- 'juntolaw14.SorterRight': WHATEVER THE INPUT: true; the input reads as it did. -/
def sorterRightSpec : ChangeSpec := { name := "sorterRight", fn := fun _ => fun
  | [d] => { results := [.lit (.bool true)], args := [d] }
  | _ => none }
def sorterRightRow : OpenClaim := { program := "ytmgjohlaoflebaa", sum := "e3f3039f7c8639651b3f27635fecf6d12be33720260da6102db5b5f782f0366a", func := "junto/juntolaw14.SorterRight", spec := "sorterRight", unfollowed := true, recurses := true, apart := false }
def SorterRightSaid : Prop := sorterRightRow.holds Try.pinned (OpenSpec.ofChange sorterRightSpec)

/-- ITS FALSE NEIGHBOUR: 'it returns false'. Refute it at one input. -/
def sorterRightWrong : ChangeSpec := { name := "sorterRight", fn := fun _ => fun
  | [d] => { results := [.lit (.bool false)], args := [d] }
  | _ => none }
def SorterRightWrongFalsely : Prop := sorterRightRow.holds Try.pinned (OpenSpec.ofChange sorterRightWrong)

/-- 'juntolaw14.SorterRounds': WHATEVER THE INPUT: true; the input reads as it did. -/
def sorterRoundsSpec : ChangeSpec := { name := "sorterRounds", fn := fun _ => fun
  | [d1, d2] => { results := [.lit (.bool true)], args := [d1, d2] }
  | _ => none }
def sorterRoundsRow : OpenClaim := { program := "ytmgjohlaoflebaa", sum := "e3f3039f7c8639651b3f27635fecf6d12be33720260da6102db5b5f782f0366a", func := "junto/juntolaw14.SorterRounds", spec := "sorterRounds", unfollowed := true, recurses := true, apart := false }
def SorterRoundsSaid : Prop := sorterRoundsRow.holds Try.pinned (OpenSpec.ofChange sorterRoundsSpec)

/-- ITS FALSE NEIGHBOUR: 'it returns false'. Refute it at one input. -/
def sorterRoundsWrong : ChangeSpec := { name := "sorterRounds", fn := fun _ => fun
  | [d1, d2] => { results := [.lit (.bool false)], args := [d1, d2] }
  | _ => none }
def SorterRoundsWrongFalsely : Prop := sorterRoundsRow.holds Try.pinned (OpenSpec.ofChange sorterRoundsWrong)

/-- 'juntolaw14.SorterLayers': WHATEVER THE INPUT: true; the input reads as it did. -/
def sorterLayersSpec : ChangeSpec := { name := "sorterLayers", fn := fun _ => fun
  | [d1, d2] => { results := [.lit (.bool true)], args := [d1, d2] }
  | _ => none }
def sorterLayersRow : OpenClaim := { program := "ytmgjohlaoflebaa", sum := "e3f3039f7c8639651b3f27635fecf6d12be33720260da6102db5b5f782f0366a", func := "junto/juntolaw14.SorterLayers", spec := "sorterLayers", unfollowed := true, recurses := true, apart := false }
def SorterLayersSaid : Prop := sorterLayersRow.holds Try.pinned (OpenSpec.ofChange sorterLayersSpec)

/-- ITS FALSE NEIGHBOUR: 'it returns false'. Refute it at one input. -/
def sorterLayersWrong : ChangeSpec := { name := "sorterLayers", fn := fun _ => fun
  | [d1, d2] => { results := [.lit (.bool false)], args := [d1, d2] }
  | _ => none }
def SorterLayersWrongFalsely : Prop := sorterLayersRow.holds Try.pinned (OpenSpec.ofChange sorterLayersWrong)

/- THE SECOND FORM. 'bulk': how many values and letters a reading holds, each counted each time it is reached (what is shared counts as often as it is met; a slice's spare places count too). A statement '..UptoSaid' is the law's where the arguments, and the package variables that the reading takes, are together of bulk at most 1048576: NARROWER than '..Said'. Prove '..Said' where nothing that the law and all that it calls make is longer than what came in: it says more and counts as full. Else prove '..UptoSaid'. A law counts once. -/
mutual
def uptoBulk {H : Type} : DataW H → Nat
  | .lit (.string bytes) => bytes.length + 1
  | .lit _ => 1
  | .nil => 1
  | .ptr d => uptoBulk d + 1
  | .slice elems spare => uptoBulkAll elems + uptoBulkAll spare + 1
  | .agg parts => uptoBulkAll parts + 1
  | .iface _ d => uptoBulk d + 1
  | .map entries => uptoBulkEntries entries + 1
  | .held _ => 1
def uptoBulkAll {H : Type} : List (DataW H) → Nat
  | [] => 0
  | d :: r => uptoBulk d + uptoBulkAll r
def uptoBulkEntries {H : Type} : List (Lit × DataW H) → Nat
  | [] => 0
  | x :: r => uptoBulkEntry x + uptoBulkEntries r
def uptoBulkEntry {H : Type} : Lit × DataW H → Nat
  | (.string bytes, d) => bytes.length + uptoBulk d + 1
  | (_, d) => uptoBulk d + 1
 end
def uptoSmall : (H : Type) → List (DataW H) → Bool := fun _ ds => decide (uptoBulkAll ds ≤ 1048576)
def OpenSpec.upto (s : _root_.Go.ChangeSpec) : _root_.Go.OpenSpec := { _root_.Go.OpenSpec.ofChange s with cond := some uptoSmall }

/-- 'juntolaw14.SorterNetworks', WHERE WHAT IT READS IS OF BULK AT MOST 1048576: true; the input reads as it did. -/
def sorterNetworksUptoRow : OpenClaim := { program := "ytmgjohlaoflebaa", sum := "e3f3039f7c8639651b3f27635fecf6d12be33720260da6102db5b5f782f0366a", func := "junto/juntolaw14.SorterNetworks", spec := "sorterNetworks", unfollowed := true, recurses := true, apart := false, narrowed := true }
def SorterNetworksUptoSaid : Prop := sorterNetworksUptoRow.holds Try.pinned (OpenSpec.upto sorterNetworksSpec)

/-- 'juntolaw14.SorterChecks', WHERE WHAT IT READS IS OF BULK AT MOST 1048576: true; the input reads as it did. -/
def sorterChecksUptoRow : OpenClaim := { program := "ytmgjohlaoflebaa", sum := "e3f3039f7c8639651b3f27635fecf6d12be33720260da6102db5b5f782f0366a", func := "junto/juntolaw14.SorterChecks", spec := "sorterChecks", unfollowed := true, recurses := true, apart := false, narrowed := true }
def SorterChecksUptoSaid : Prop := sorterChecksUptoRow.holds Try.pinned (OpenSpec.upto sorterChecksSpec)

/-- 'juntolaw14.SorterSorts', WHERE WHAT IT READS IS OF BULK AT MOST 1048576: true; the input reads as it did. -/
def sorterSortsUptoRow : OpenClaim := { program := "ytmgjohlaoflebaa", sum := "e3f3039f7c8639651b3f27635fecf6d12be33720260da6102db5b5f782f0366a", func := "junto/juntolaw14.SorterSorts", spec := "sorterSorts", unfollowed := true, recurses := true, apart := false, narrowed := true }
def SorterSortsUptoSaid : Prop := sorterSortsUptoRow.holds Try.pinned (OpenSpec.upto sorterSortsSpec)

/-- 'juntolaw14.SorterNoughts', WHERE WHAT IT READS IS OF BULK AT MOST 1048576: true; the input reads as it did. -/
def sorterNoughtsUptoRow : OpenClaim := { program := "ytmgjohlaoflebaa", sum := "e3f3039f7c8639651b3f27635fecf6d12be33720260da6102db5b5f782f0366a", func := "junto/juntolaw14.SorterNoughts", spec := "sorterNoughts", unfollowed := true, recurses := true, apart := false, narrowed := true }
def SorterNoughtsUptoSaid : Prop := sorterNoughtsUptoRow.holds Try.pinned (OpenSpec.upto sorterNoughtsSpec)

/-- 'juntolaw14.SorterRuns', WHERE WHAT IT READS IS OF BULK AT MOST 1048576: true; the input reads as it did. -/
def sorterRunsUptoRow : OpenClaim := { program := "ytmgjohlaoflebaa", sum := "e3f3039f7c8639651b3f27635fecf6d12be33720260da6102db5b5f782f0366a", func := "junto/juntolaw14.SorterRuns", spec := "sorterRuns", unfollowed := true, recurses := true, apart := false, narrowed := true }
def SorterRunsUptoSaid : Prop := sorterRunsUptoRow.holds Try.pinned (OpenSpec.upto sorterRunsSpec)

/-- 'juntolaw14.SorterRight', WHERE WHAT IT READS IS OF BULK AT MOST 1048576: true; the input reads as it did. -/
def sorterRightUptoRow : OpenClaim := { program := "ytmgjohlaoflebaa", sum := "e3f3039f7c8639651b3f27635fecf6d12be33720260da6102db5b5f782f0366a", func := "junto/juntolaw14.SorterRight", spec := "sorterRight", unfollowed := true, recurses := true, apart := false, narrowed := true }
def SorterRightUptoSaid : Prop := sorterRightUptoRow.holds Try.pinned (OpenSpec.upto sorterRightSpec)

/-- 'juntolaw14.SorterRounds', WHERE WHAT IT READS IS OF BULK AT MOST 1048576: true; the input reads as it did. -/
def sorterRoundsUptoRow : OpenClaim := { program := "ytmgjohlaoflebaa", sum := "e3f3039f7c8639651b3f27635fecf6d12be33720260da6102db5b5f782f0366a", func := "junto/juntolaw14.SorterRounds", spec := "sorterRounds", unfollowed := true, recurses := true, apart := false, narrowed := true }
def SorterRoundsUptoSaid : Prop := sorterRoundsUptoRow.holds Try.pinned (OpenSpec.upto sorterRoundsSpec)

/-- 'juntolaw14.SorterLayers', WHERE WHAT IT READS IS OF BULK AT MOST 1048576: true; the input reads as it did. -/
def sorterLayersUptoRow : OpenClaim := { program := "ytmgjohlaoflebaa", sum := "e3f3039f7c8639651b3f27635fecf6d12be33720260da6102db5b5f782f0366a", func := "junto/juntolaw14.SorterLayers", spec := "sorterLayers", unfollowed := true, recurses := true, apart := false, narrowed := true }
def SorterLayersUptoSaid : Prop := sorterLayersUptoRow.holds Try.pinned (OpenSpec.upto sorterLayersSpec)

end Rows
end Go.Proofs.Ytmgjohlaoflebaa
