/-
  No cell of these rows narrows 'for every input' (looked for: loops, veiled, ifaces, maps, wideKeys, modest, calm, conditions, laid).
  DERIVED. THE GIVEN ROWS OF THIS SEAT. 12 by the template 'for every input the law returns true; each argument reads behind the call as it read before'; 0 by the template 'total and deterministic' (their statements: YtpdlbiahfmidoaaTotals.lean).
  GIVEN WITH THE SEED: the statements are not yours to turn. If you find one false, say at which input.
  Laid BY PROGRAM, IN A SANDBOX (cutbox-rows.mjs): the forced cells as the released guide's own fill.sh prints them over the translation c71fc8f216674113… (all of the seat's roots in one cut). By AI agents, Wed Nov 11 2026. No macro, syntax, notation, axiom, sorry.
-/
import Derived.Test.YtpdlbiahfmidoaaChecked
import GoSem.Claim
import GoSem.ClaimJoined
import GoSem.ClaimMapViews
import Derived.JoinedTies
import Derived.KernelRfl
namespace Go.Proofs.Ytpdlbiahfmidoaa
/- THE CELL 'sum', in the pinned program and in every row, IS THE sha256 OF THE DUMP (.gsa) THAT YtpdlbiahfmidoaaProg.lean LOADS. Nothing in Lean hashes anything: it is a label: what it is worth is what the hold of that sum in a sandbox is worth. -/
noncomputable def Try.pinned : Pinned := { name := "ytpdlbiahfmidoaa", sum := "c71fc8f216674113f67e866a68f7d0b6fe7f28c8cc722b41ab1cb8ccc9669a44", checked := Try.checked }
namespace Rows
def none {H : Type} : Left H := { results := [], args := [] }

/-- 'juntolaw01.FieldIs': WHATEVER THE INPUT: true; the input reads as it did. -/
def fieldIsSpec : ChangeSpec := { name := "fieldIs", fn := fun _ => fun
  | [d] => { results := [.lit (.bool true)], args := [d] }
  | _ => none }
def fieldIsRow : OpenClaim := { program := "ytpdlbiahfmidoaa", sum := "c71fc8f216674113f67e866a68f7d0b6fe7f28c8cc722b41ab1cb8ccc9669a44", func := "junto/juntolaw01.FieldIs", spec := "fieldIs", apart := false }
def FieldIsSaid : Prop := fieldIsRow.holds Try.pinned (OpenSpec.ofChange fieldIsSpec)

/-- ITS FALSE NEIGHBOUR: 'it returns false'. Refute it at one input. -/
def fieldIsWrong : ChangeSpec := { name := "fieldIs", fn := fun _ => fun
  | [d] => { results := [.lit (.bool false)], args := [d] }
  | _ => none }
def FieldIsWrongFalsely : Prop := fieldIsRow.holds Try.pinned (OpenSpec.ofChange fieldIsWrong)

/-- 'juntolaw01.FieldInts': WHATEVER THE INPUT: true; the input reads as it did. -/
def fieldIntsSpec : ChangeSpec := { name := "fieldInts", fn := fun _ => fun
  | [d1, d2] => { results := [.lit (.bool true)], args := [d1, d2] }
  | _ => none }
def fieldIntsRow : OpenClaim := { program := "ytpdlbiahfmidoaa", sum := "c71fc8f216674113f67e866a68f7d0b6fe7f28c8cc722b41ab1cb8ccc9669a44", func := "junto/juntolaw01.FieldInts", spec := "fieldInts", apart := false }
def FieldIntsSaid : Prop := fieldIntsRow.holds Try.pinned (OpenSpec.ofChange fieldIntsSpec)

/-- ITS FALSE NEIGHBOUR: 'it returns false'. Refute it at one input. -/
def fieldIntsWrong : ChangeSpec := { name := "fieldInts", fn := fun _ => fun
  | [d1, d2] => { results := [.lit (.bool false)], args := [d1, d2] }
  | _ => none }
def FieldIntsWrongFalsely : Prop := fieldIntsRow.holds Try.pinned (OpenSpec.ofChange fieldIntsWrong)

/-- 'juntolaw01.FieldDraws': WHATEVER THE INPUT: true; the input reads as it did. -/
def fieldDrawsSpec : ChangeSpec := { name := "fieldDraws", fn := fun _ => fun
  | [d1, d2, d3] => { results := [.lit (.bool true)], args := [d1, d2, d3] }
  | _ => none }
def fieldDrawsRow : OpenClaim := { program := "ytpdlbiahfmidoaa", sum := "c71fc8f216674113f67e866a68f7d0b6fe7f28c8cc722b41ab1cb8ccc9669a44", func := "junto/juntolaw01.FieldDraws", spec := "fieldDraws", apart := false }
def FieldDrawsSaid : Prop := fieldDrawsRow.holds Try.pinned (OpenSpec.ofChange fieldDrawsSpec)

/-- ITS FALSE NEIGHBOUR: 'it returns false'. Refute it at one input. -/
def fieldDrawsWrong : ChangeSpec := { name := "fieldDraws", fn := fun _ => fun
  | [d1, d2, d3] => { results := [.lit (.bool false)], args := [d1, d2, d3] }
  | _ => none }
def FieldDrawsWrongFalsely : Prop := fieldDrawsRow.holds Try.pinned (OpenSpec.ofChange fieldDrawsWrong)

/-- 'juntolaw01.FieldTapes': WHATEVER THE INPUT: true; the input reads as it did. -/
def fieldTapesSpec : ChangeSpec := { name := "fieldTapes", fn := fun _ => fun
  | [d1, d2, d3] => { results := [.lit (.bool true)], args := [d1, d2, d3] }
  | _ => none }
def fieldTapesRow : OpenClaim := { program := "ytpdlbiahfmidoaa", sum := "c71fc8f216674113f67e866a68f7d0b6fe7f28c8cc722b41ab1cb8ccc9669a44", func := "junto/juntolaw01.FieldTapes", spec := "fieldTapes", apart := false }
def FieldTapesSaid : Prop := fieldTapesRow.holds Try.pinned (OpenSpec.ofChange fieldTapesSpec)

/-- ITS FALSE NEIGHBOUR: 'it returns false'. Refute it at one input. -/
def fieldTapesWrong : ChangeSpec := { name := "fieldTapes", fn := fun _ => fun
  | [d1, d2, d3] => { results := [.lit (.bool false)], args := [d1, d2, d3] }
  | _ => none }
def FieldTapesWrongFalsely : Prop := fieldTapesRow.holds Try.pinned (OpenSpec.ofChange fieldTapesWrong)

/-- 'juntolaw01.FieldPowers': WHATEVER THE INPUT: true; the input reads as it did. -/
def fieldPowersSpec : ChangeSpec := { name := "fieldPowers", fn := fun _ => fun
  | [d1, d2, d3] => { results := [.lit (.bool true)], args := [d1, d2, d3] }
  | _ => none }
def fieldPowersRow : OpenClaim := { program := "ytpdlbiahfmidoaa", sum := "c71fc8f216674113f67e866a68f7d0b6fe7f28c8cc722b41ab1cb8ccc9669a44", func := "junto/juntolaw01.FieldPowers", spec := "fieldPowers", recurses := true, apart := false }
def FieldPowersSaid : Prop := fieldPowersRow.holds Try.pinned (OpenSpec.ofChange fieldPowersSpec)

/-- ITS FALSE NEIGHBOUR: 'it returns false'. Refute it at one input. -/
def fieldPowersWrong : ChangeSpec := { name := "fieldPowers", fn := fun _ => fun
  | [d1, d2, d3] => { results := [.lit (.bool false)], args := [d1, d2, d3] }
  | _ => none }
def FieldPowersWrongFalsely : Prop := fieldPowersRow.holds Try.pinned (OpenSpec.ofChange fieldPowersWrong)

/-- 'juntolaw01.FieldRoots': WHATEVER THE INPUT: true; the input reads as it did. -/
def fieldRootsSpec : ChangeSpec := { name := "fieldRoots", fn := fun _ => fun
  | [d1, d2] => { results := [.lit (.bool true)], args := [d1, d2] }
  | _ => none }
def fieldRootsRow : OpenClaim := { program := "ytpdlbiahfmidoaa", sum := "c71fc8f216674113f67e866a68f7d0b6fe7f28c8cc722b41ab1cb8ccc9669a44", func := "junto/juntolaw01.FieldRoots", spec := "fieldRoots", apart := false }
def FieldRootsSaid : Prop := fieldRootsRow.holds Try.pinned (OpenSpec.ofChange fieldRootsSpec)

/-- ITS FALSE NEIGHBOUR: 'it returns false'. Refute it at one input. -/
def fieldRootsWrong : ChangeSpec := { name := "fieldRoots", fn := fun _ => fun
  | [d1, d2] => { results := [.lit (.bool false)], args := [d1, d2] }
  | _ => none }
def FieldRootsWrongFalsely : Prop := fieldRootsRow.holds Try.pinned (OpenSpec.ofChange fieldRootsWrong)

/-- 'juntolaw01.FieldQuotients': WHATEVER THE INPUT: true; the input reads as it did. -/
def fieldQuotientsSpec : ChangeSpec := { name := "fieldQuotients", fn := fun _ => fun
  | [d1, d2, d3] => { results := [.lit (.bool true)], args := [d1, d2, d3] }
  | _ => none }
def fieldQuotientsRow : OpenClaim := { program := "ytpdlbiahfmidoaa", sum := "c71fc8f216674113f67e866a68f7d0b6fe7f28c8cc722b41ab1cb8ccc9669a44", func := "junto/juntolaw01.FieldQuotients", spec := "fieldQuotients", recurses := true, apart := false }
def FieldQuotientsSaid : Prop := fieldQuotientsRow.holds Try.pinned (OpenSpec.ofChange fieldQuotientsSpec)

/-- ITS FALSE NEIGHBOUR: 'it returns false'. Refute it at one input. -/
def fieldQuotientsWrong : ChangeSpec := { name := "fieldQuotients", fn := fun _ => fun
  | [d1, d2, d3] => { results := [.lit (.bool false)], args := [d1, d2, d3] }
  | _ => none }
def FieldQuotientsWrongFalsely : Prop := fieldQuotientsRow.holds Try.pinned (OpenSpec.ofChange fieldQuotientsWrong)

/-- 'juntolaw01.FieldSums': WHATEVER THE INPUT: true; the input reads as it did. -/
def fieldSumsSpec : ChangeSpec := { name := "fieldSums", fn := fun _ => fun
  | [d1, d2, d3] => { results := [.lit (.bool true)], args := [d1, d2, d3] }
  | _ => none }
def fieldSumsRow : OpenClaim := { program := "ytpdlbiahfmidoaa", sum := "c71fc8f216674113f67e866a68f7d0b6fe7f28c8cc722b41ab1cb8ccc9669a44", func := "junto/juntolaw01.FieldSums", spec := "fieldSums", unfollowed := true, recurses := true, apart := false }
def FieldSumsSaid : Prop := fieldSumsRow.holds Try.pinned (OpenSpec.ofChange fieldSumsSpec)

/-- ITS FALSE NEIGHBOUR: 'it returns false'. Refute it at one input. -/
def fieldSumsWrong : ChangeSpec := { name := "fieldSums", fn := fun _ => fun
  | [d1, d2, d3] => { results := [.lit (.bool false)], args := [d1, d2, d3] }
  | _ => none }
def FieldSumsWrongFalsely : Prop := fieldSumsRow.holds Try.pinned (OpenSpec.ofChange fieldSumsWrong)

/-- 'juntolaw01.FieldRing': WHATEVER THE INPUT: true; the input reads as it did. -/
def fieldRingSpec : ChangeSpec := { name := "fieldRing", fn := fun _ => fun
  | [d1, d2] => { results := [.lit (.bool true)], args := [d1, d2] }
  | _ => none }
def fieldRingRow : OpenClaim := { program := "ytpdlbiahfmidoaa", sum := "c71fc8f216674113f67e866a68f7d0b6fe7f28c8cc722b41ab1cb8ccc9669a44", func := "junto/juntolaw01.FieldRing", spec := "fieldRing", unfollowed := true, recurses := true, apart := false }
def FieldRingSaid : Prop := fieldRingRow.holds Try.pinned (OpenSpec.ofChange fieldRingSpec)

/-- ITS FALSE NEIGHBOUR: 'it returns false'. Refute it at one input. -/
def fieldRingWrong : ChangeSpec := { name := "fieldRing", fn := fun _ => fun
  | [d1, d2] => { results := [.lit (.bool false)], args := [d1, d2] }
  | _ => none }
def FieldRingWrongFalsely : Prop := fieldRingRow.holds Try.pinned (OpenSpec.ofChange fieldRingWrong)

/-- 'juntolaw01.FieldInverses': WHATEVER THE INPUT: true; the input reads as it did. -/
def fieldInversesSpec : ChangeSpec := { name := "fieldInverses", fn := fun _ => fun
  | [d1, d2] => { results := [.lit (.bool true)], args := [d1, d2] }
  | _ => none }
def fieldInversesRow : OpenClaim := { program := "ytpdlbiahfmidoaa", sum := "c71fc8f216674113f67e866a68f7d0b6fe7f28c8cc722b41ab1cb8ccc9669a44", func := "junto/juntolaw01.FieldInverses", spec := "fieldInverses", recurses := true, apart := false }
def FieldInversesSaid : Prop := fieldInversesRow.holds Try.pinned (OpenSpec.ofChange fieldInversesSpec)

/-- ITS FALSE NEIGHBOUR: 'it returns false'. Refute it at one input. -/
def fieldInversesWrong : ChangeSpec := { name := "fieldInverses", fn := fun _ => fun
  | [d1, d2] => { results := [.lit (.bool false)], args := [d1, d2] }
  | _ => none }
def FieldInversesWrongFalsely : Prop := fieldInversesRow.holds Try.pinned (OpenSpec.ofChange fieldInversesWrong)

/-- 'juntolaw01.FieldFermat': WHATEVER THE INPUT: true; the input reads as it did. -/
def fieldFermatSpec : ChangeSpec := { name := "fieldFermat", fn := fun _ => fun
  | [d1, d2] => { results := [.lit (.bool true)], args := [d1, d2] }
  | _ => none }
def fieldFermatRow : OpenClaim := { program := "ytpdlbiahfmidoaa", sum := "c71fc8f216674113f67e866a68f7d0b6fe7f28c8cc722b41ab1cb8ccc9669a44", func := "junto/juntolaw01.FieldFermat", spec := "fieldFermat", unfollowed := true, recurses := true, apart := false }
def FieldFermatSaid : Prop := fieldFermatRow.holds Try.pinned (OpenSpec.ofChange fieldFermatSpec)

/-- ITS FALSE NEIGHBOUR: 'it returns false'. Refute it at one input. -/
def fieldFermatWrong : ChangeSpec := { name := "fieldFermat", fn := fun _ => fun
  | [d1, d2] => { results := [.lit (.bool false)], args := [d1, d2] }
  | _ => none }
def FieldFermatWrongFalsely : Prop := fieldFermatRow.holds Try.pinned (OpenSpec.ofChange fieldFermatWrong)

/-- 'juntolaw01.FieldLists': WHATEVER THE INPUT: true; the input reads as it did. -/
def fieldListsSpec : ChangeSpec := { name := "fieldLists", fn := fun _ => fun
  | [d1, d2, d3] => { results := [.lit (.bool true)], args := [d1, d2, d3] }
  | _ => none }
def fieldListsRow : OpenClaim := { program := "ytpdlbiahfmidoaa", sum := "c71fc8f216674113f67e866a68f7d0b6fe7f28c8cc722b41ab1cb8ccc9669a44", func := "junto/juntolaw01.FieldLists", spec := "fieldLists", apart := false }
def FieldListsSaid : Prop := fieldListsRow.holds Try.pinned (OpenSpec.ofChange fieldListsSpec)

/-- ITS FALSE NEIGHBOUR: 'it returns false'. Refute it at one input. -/
def fieldListsWrong : ChangeSpec := { name := "fieldLists", fn := fun _ => fun
  | [d1, d2, d3] => { results := [.lit (.bool false)], args := [d1, d2, d3] }
  | _ => none }
def FieldListsWrongFalsely : Prop := fieldListsRow.holds Try.pinned (OpenSpec.ofChange fieldListsWrong)

/- THE SECOND FORM. 'bulk': how many values and letters a reading holds, each counted each time it is reached (what is shared counts as often as it is met; a slice's spare places count too). A statement '..UptoSaid' is the law's where the arguments, and the package variables that the reading takes, are together of bulk at most 1048576: NARROWER than '..Said'. Prove '..Said' where nothing that the law and all that it calls make is longer than what came in: it says more and counts as full. Else prove '..UptoSaid'. A law counts once. -/
mutual
def uptoBulk {H : Type} : DataW H → Nat
  | .lit (.string bytes) => bytes.length + 1
  | .lit _ => 1
  | .nil => 1
  | .ptr d => uptoBulk d + 1
  | .slice elems spare => uptoBulkAll elems + uptoBulkAll spare + 1
  | .agg parts => uptoBulkAll parts + 1
  | .iface _ d => uptoBulk d + 1
  | .map entries => uptoBulkEntries entries + 1
  | .held _ => 1
def uptoBulkAll {H : Type} : List (DataW H) → Nat
  | [] => 0
  | d :: r => uptoBulk d + uptoBulkAll r
def uptoBulkEntries {H : Type} : List (Lit × DataW H) → Nat
  | [] => 0
  | x :: r => uptoBulkEntry x + uptoBulkEntries r
def uptoBulkEntry {H : Type} : Lit × DataW H → Nat
  | (.string bytes, d) => bytes.length + uptoBulk d + 1
  | (_, d) => uptoBulk d + 1
 end
def uptoSmall : (H : Type) → List (DataW H) → Bool := fun _ ds => decide (uptoBulkAll ds ≤ 1048576)
def OpenSpec.upto (s : _root_.Go.ChangeSpec) : _root_.Go.OpenSpec := { _root_.Go.OpenSpec.ofChange s with cond := some uptoSmall }

/-- 'juntolaw01.FieldIs', WHERE WHAT IT READS IS OF BULK AT MOST 1048576: true; the input reads as it did. -/
def fieldIsUptoRow : OpenClaim := { program := "ytpdlbiahfmidoaa", sum := "c71fc8f216674113f67e866a68f7d0b6fe7f28c8cc722b41ab1cb8ccc9669a44", func := "junto/juntolaw01.FieldIs", spec := "fieldIs", apart := false, narrowed := true }
def FieldIsUptoSaid : Prop := fieldIsUptoRow.holds Try.pinned (OpenSpec.upto fieldIsSpec)

/-- 'juntolaw01.FieldInts', WHERE WHAT IT READS IS OF BULK AT MOST 1048576: true; the input reads as it did. -/
def fieldIntsUptoRow : OpenClaim := { program := "ytpdlbiahfmidoaa", sum := "c71fc8f216674113f67e866a68f7d0b6fe7f28c8cc722b41ab1cb8ccc9669a44", func := "junto/juntolaw01.FieldInts", spec := "fieldInts", apart := false, narrowed := true }
def FieldIntsUptoSaid : Prop := fieldIntsUptoRow.holds Try.pinned (OpenSpec.upto fieldIntsSpec)

/-- 'juntolaw01.FieldDraws', WHERE WHAT IT READS IS OF BULK AT MOST 1048576: true; the input reads as it did. -/
def fieldDrawsUptoRow : OpenClaim := { program := "ytpdlbiahfmidoaa", sum := "c71fc8f216674113f67e866a68f7d0b6fe7f28c8cc722b41ab1cb8ccc9669a44", func := "junto/juntolaw01.FieldDraws", spec := "fieldDraws", apart := false, narrowed := true }
def FieldDrawsUptoSaid : Prop := fieldDrawsUptoRow.holds Try.pinned (OpenSpec.upto fieldDrawsSpec)

/-- 'juntolaw01.FieldTapes', WHERE WHAT IT READS IS OF BULK AT MOST 1048576: true; the input reads as it did. -/
def fieldTapesUptoRow : OpenClaim := { program := "ytpdlbiahfmidoaa", sum := "c71fc8f216674113f67e866a68f7d0b6fe7f28c8cc722b41ab1cb8ccc9669a44", func := "junto/juntolaw01.FieldTapes", spec := "fieldTapes", apart := false, narrowed := true }
def FieldTapesUptoSaid : Prop := fieldTapesUptoRow.holds Try.pinned (OpenSpec.upto fieldTapesSpec)

/-- 'juntolaw01.FieldPowers', WHERE WHAT IT READS IS OF BULK AT MOST 1048576: true; the input reads as it did. -/
def fieldPowersUptoRow : OpenClaim := { program := "ytpdlbiahfmidoaa", sum := "c71fc8f216674113f67e866a68f7d0b6fe7f28c8cc722b41ab1cb8ccc9669a44", func := "junto/juntolaw01.FieldPowers", spec := "fieldPowers", recurses := true, apart := false, narrowed := true }
def FieldPowersUptoSaid : Prop := fieldPowersUptoRow.holds Try.pinned (OpenSpec.upto fieldPowersSpec)

/-- 'juntolaw01.FieldRoots', WHERE WHAT IT READS IS OF BULK AT MOST 1048576: true; the input reads as it did. -/
def fieldRootsUptoRow : OpenClaim := { program := "ytpdlbiahfmidoaa", sum := "c71fc8f216674113f67e866a68f7d0b6fe7f28c8cc722b41ab1cb8ccc9669a44", func := "junto/juntolaw01.FieldRoots", spec := "fieldRoots", apart := false, narrowed := true }
def FieldRootsUptoSaid : Prop := fieldRootsUptoRow.holds Try.pinned (OpenSpec.upto fieldRootsSpec)

/-- 'juntolaw01.FieldQuotients', WHERE WHAT IT READS IS OF BULK AT MOST 1048576: true; the input reads as it did. -/
def fieldQuotientsUptoRow : OpenClaim := { program := "ytpdlbiahfmidoaa", sum := "c71fc8f216674113f67e866a68f7d0b6fe7f28c8cc722b41ab1cb8ccc9669a44", func := "junto/juntolaw01.FieldQuotients", spec := "fieldQuotients", recurses := true, apart := false, narrowed := true }
def FieldQuotientsUptoSaid : Prop := fieldQuotientsUptoRow.holds Try.pinned (OpenSpec.upto fieldQuotientsSpec)

/-- 'juntolaw01.FieldSums', WHERE WHAT IT READS IS OF BULK AT MOST 1048576: true; the input reads as it did. -/
def fieldSumsUptoRow : OpenClaim := { program := "ytpdlbiahfmidoaa", sum := "c71fc8f216674113f67e866a68f7d0b6fe7f28c8cc722b41ab1cb8ccc9669a44", func := "junto/juntolaw01.FieldSums", spec := "fieldSums", unfollowed := true, recurses := true, apart := false, narrowed := true }
def FieldSumsUptoSaid : Prop := fieldSumsUptoRow.holds Try.pinned (OpenSpec.upto fieldSumsSpec)

/-- 'juntolaw01.FieldRing', WHERE WHAT IT READS IS OF BULK AT MOST 1048576: true; the input reads as it did. -/
def fieldRingUptoRow : OpenClaim := { program := "ytpdlbiahfmidoaa", sum := "c71fc8f216674113f67e866a68f7d0b6fe7f28c8cc722b41ab1cb8ccc9669a44", func := "junto/juntolaw01.FieldRing", spec := "fieldRing", unfollowed := true, recurses := true, apart := false, narrowed := true }
def FieldRingUptoSaid : Prop := fieldRingUptoRow.holds Try.pinned (OpenSpec.upto fieldRingSpec)

/-- 'juntolaw01.FieldInverses', WHERE WHAT IT READS IS OF BULK AT MOST 1048576: true; the input reads as it did. -/
def fieldInversesUptoRow : OpenClaim := { program := "ytpdlbiahfmidoaa", sum := "c71fc8f216674113f67e866a68f7d0b6fe7f28c8cc722b41ab1cb8ccc9669a44", func := "junto/juntolaw01.FieldInverses", spec := "fieldInverses", recurses := true, apart := false, narrowed := true }
def FieldInversesUptoSaid : Prop := fieldInversesUptoRow.holds Try.pinned (OpenSpec.upto fieldInversesSpec)

/-- 'juntolaw01.FieldFermat', WHERE WHAT IT READS IS OF BULK AT MOST 1048576: true; the input reads as it did. -/
def fieldFermatUptoRow : OpenClaim := { program := "ytpdlbiahfmidoaa", sum := "c71fc8f216674113f67e866a68f7d0b6fe7f28c8cc722b41ab1cb8ccc9669a44", func := "junto/juntolaw01.FieldFermat", spec := "fieldFermat", unfollowed := true, recurses := true, apart := false, narrowed := true }
def FieldFermatUptoSaid : Prop := fieldFermatUptoRow.holds Try.pinned (OpenSpec.upto fieldFermatSpec)

/-- 'juntolaw01.FieldLists', WHERE WHAT IT READS IS OF BULK AT MOST 1048576: true; the input reads as it did. -/
def fieldListsUptoRow : OpenClaim := { program := "ytpdlbiahfmidoaa", sum := "c71fc8f216674113f67e866a68f7d0b6fe7f28c8cc722b41ab1cb8ccc9669a44", func := "junto/juntolaw01.FieldLists", spec := "fieldLists", apart := false, narrowed := true }
def FieldListsUptoSaid : Prop := fieldListsUptoRow.holds Try.pinned (OpenSpec.upto fieldListsSpec)

end Rows
end Go.Proofs.Ytpdlbiahfmidoaa
