/-
  No cell of these rows narrows 'for every input' (looked for: loops, veiled, ifaces, maps, wideKeys, modest, calm, conditions, laid).
  DERIVED. THE GIVEN ROWS OF THIS SEAT. 5 by the template 'for every input the law returns true; each argument reads behind the call as it read before'; 0 by the template 'total and deterministic' (their statements: YtecbponmpinnoaaTotals.lean).
  GIVEN WITH THE SEED: the statements are not yours to turn. If you find one false, say at which input.
  Laid BY PROGRAM, IN A SANDBOX (cutbox-rows.mjs): the forced cells as the released guide's own fill.sh prints them over the translation 9b1238a812cb5d0f… (all of the seat's roots in one cut). By AI agents, Wed Nov 11 2026. No macro, syntax, notation, axiom, sorry.
-/
import Derived.Test.YtecbponmpinnoaaChecked
import GoSem.Claim
import GoSem.ClaimJoined
import GoSem.ClaimMapViews
import Derived.JoinedTies
import Derived.KernelRfl
namespace Go.Proofs.Ytecbponmpinnoaa
/- THE CELL 'sum', in the pinned program and in every row, IS THE sha256 OF THE DUMP (.gsa) THAT YtecbponmpinnoaaProg.lean LOADS. Nothing in Lean hashes anything: it is a label: what it is worth is what the hold of that sum in a sandbox is worth. -/
noncomputable def Try.pinned : Pinned := { name := "ytecbponmpinnoaa", sum := "9b1238a812cb5d0f1d08391de5030b5b9ff651879a4f4978ffb8995cdf5a3e98", checked := Try.checked }
namespace Rows
def none {H : Type} : Left H := { results := [], args := [] }

/-- 'rushlightlaw05.AsmMakes': WHATEVER THE INPUT: true; the input reads as it did. -/
def asmMakesSpec : ChangeSpec := { name := "asmMakes", fn := fun _ => fun
  | [d1, d2, d3] => { results := [.lit (.bool true)], args := [d1, d2, d3] }
  | _ => none }
def asmMakesRow : OpenClaim := { program := "ytecbponmpinnoaa", sum := "9b1238a812cb5d0f1d08391de5030b5b9ff651879a4f4978ffb8995cdf5a3e98", func := "rushlight/rushlightlaw05.AsmMakes", spec := "asmMakes", apart := false }
def AsmMakesSaid : Prop := asmMakesRow.holds Try.pinned (OpenSpec.ofChange asmMakesSpec)

/-- ITS FALSE NEIGHBOUR: 'it returns false'. Refute it at one input. -/
def asmMakesWrong : ChangeSpec := { name := "asmMakes", fn := fun _ => fun
  | [d1, d2, d3] => { results := [.lit (.bool false)], args := [d1, d2, d3] }
  | _ => none }
def AsmMakesWrongFalsely : Prop := asmMakesRow.holds Try.pinned (OpenSpec.ofChange asmMakesWrong)

/-- 'rushlightlaw05.AsmLong': WHATEVER THE INPUT: true; the input reads as it did. -/
def asmLongSpec : ChangeSpec := { name := "asmLong", fn := fun _ => fun
  | [d] => { results := [.lit (.bool true)], args := [d] }
  | _ => none }
def asmLongRow : OpenClaim := { program := "ytecbponmpinnoaa", sum := "9b1238a812cb5d0f1d08391de5030b5b9ff651879a4f4978ffb8995cdf5a3e98", func := "rushlight/rushlightlaw05.AsmLong", spec := "asmLong", apart := false }
def AsmLongSaid : Prop := asmLongRow.holds Try.pinned (OpenSpec.ofChange asmLongSpec)

/-- ITS FALSE NEIGHBOUR: 'it returns false'. Refute it at one input. -/
def asmLongWrong : ChangeSpec := { name := "asmLong", fn := fun _ => fun
  | [d] => { results := [.lit (.bool false)], args := [d] }
  | _ => none }
def AsmLongWrongFalsely : Prop := asmLongRow.holds Try.pinned (OpenSpec.ofChange asmLongWrong)

/-- 'rushlightlaw05.AsmItems': WHATEVER THE INPUT: true; the input reads as it did. -/
def asmItemsSpec : ChangeSpec := { name := "asmItems", fn := fun _ => fun
  | [d1, d2, d3] => { results := [.lit (.bool true)], args := [d1, d2, d3] }
  | _ => none }
def asmItemsRow : OpenClaim := { program := "ytecbponmpinnoaa", sum := "9b1238a812cb5d0f1d08391de5030b5b9ff651879a4f4978ffb8995cdf5a3e98", func := "rushlight/rushlightlaw05.AsmItems", spec := "asmItems", apart := false }
def AsmItemsSaid : Prop := asmItemsRow.holds Try.pinned (OpenSpec.ofChange asmItemsSpec)

/-- ITS FALSE NEIGHBOUR: 'it returns false'. Refute it at one input. -/
def asmItemsWrong : ChangeSpec := { name := "asmItems", fn := fun _ => fun
  | [d1, d2, d3] => { results := [.lit (.bool false)], args := [d1, d2, d3] }
  | _ => none }
def AsmItemsWrongFalsely : Prop := asmItemsRow.holds Try.pinned (OpenSpec.ofChange asmItemsWrong)

/-- 'rushlightlaw05.AsmLeads': WHATEVER THE INPUT: true; the input reads as it did. -/
def asmLeadsSpec : ChangeSpec := { name := "asmLeads", fn := fun _ => fun
  | [d1, d2, d3] => { results := [.lit (.bool true)], args := [d1, d2, d3] }
  | _ => none }
def asmLeadsRow : OpenClaim := { program := "ytecbponmpinnoaa", sum := "9b1238a812cb5d0f1d08391de5030b5b9ff651879a4f4978ffb8995cdf5a3e98", func := "rushlight/rushlightlaw05.AsmLeads", spec := "asmLeads", apart := false }
def AsmLeadsSaid : Prop := asmLeadsRow.holds Try.pinned (OpenSpec.ofChange asmLeadsSpec)

/-- ITS FALSE NEIGHBOUR: 'it returns false'. Refute it at one input. -/
def asmLeadsWrong : ChangeSpec := { name := "asmLeads", fn := fun _ => fun
  | [d1, d2, d3] => { results := [.lit (.bool false)], args := [d1, d2, d3] }
  | _ => none }
def AsmLeadsWrongFalsely : Prop := asmLeadsRow.holds Try.pinned (OpenSpec.ofChange asmLeadsWrong)

/-- 'rushlightlaw05.AsmNumbers': WHATEVER THE INPUT: true; the input reads as it did. -/
def asmNumbersSpec : ChangeSpec := { name := "asmNumbers", fn := fun _ => fun
  | [d1, d2] => { results := [.lit (.bool true)], args := [d1, d2] }
  | _ => none }
def asmNumbersRow : OpenClaim := { program := "ytecbponmpinnoaa", sum := "9b1238a812cb5d0f1d08391de5030b5b9ff651879a4f4978ffb8995cdf5a3e98", func := "rushlight/rushlightlaw05.AsmNumbers", spec := "asmNumbers", apart := false }
def AsmNumbersSaid : Prop := asmNumbersRow.holds Try.pinned (OpenSpec.ofChange asmNumbersSpec)

/-- ITS FALSE NEIGHBOUR: 'it returns false'. Refute it at one input. -/
def asmNumbersWrong : ChangeSpec := { name := "asmNumbers", fn := fun _ => fun
  | [d1, d2] => { results := [.lit (.bool false)], args := [d1, d2] }
  | _ => none }
def AsmNumbersWrongFalsely : Prop := asmNumbersRow.holds Try.pinned (OpenSpec.ofChange asmNumbersWrong)

/- THE SECOND FORM. 'bulk': how many values and letters a reading holds, each counted each time it is reached (what is shared counts as often as it is met; a slice's spare places count too). A statement '..UptoSaid' is the law's where the arguments, and the package variables that the reading takes, are together of bulk at most 1048576: NARROWER than '..Said'. Prove '..Said' where nothing that the law and all that it calls make is longer than what came in: it says more and counts as full. Else prove '..UptoSaid'. A law counts once. -/
mutual
def uptoBulk {H : Type} : DataW H → Nat
  | .lit (.string bytes) => bytes.length + 1
  | .lit _ => 1
  | .nil => 1
  | .ptr d => uptoBulk d + 1
  | .slice elems spare => uptoBulkAll elems + uptoBulkAll spare + 1
  | .agg parts => uptoBulkAll parts + 1
  | .iface _ d => uptoBulk d + 1
  | .map entries => uptoBulkEntries entries + 1
  | .held _ => 1
def uptoBulkAll {H : Type} : List (DataW H) → Nat
  | [] => 0
  | d :: r => uptoBulk d + uptoBulkAll r
def uptoBulkEntries {H : Type} : List (Lit × DataW H) → Nat
  | [] => 0
  | x :: r => uptoBulkEntry x + uptoBulkEntries r
def uptoBulkEntry {H : Type} : Lit × DataW H → Nat
  | (.string bytes, d) => bytes.length + uptoBulk d + 1
  | (_, d) => uptoBulk d + 1
 end
def uptoSmall : (H : Type) → List (DataW H) → Bool := fun _ ds => decide (uptoBulkAll ds ≤ 1048576)
def OpenSpec.upto (s : _root_.Go.ChangeSpec) : _root_.Go.OpenSpec := { _root_.Go.OpenSpec.ofChange s with cond := some uptoSmall }

/-- 'rushlightlaw05.AsmMakes', WHERE WHAT IT READS IS OF BULK AT MOST 1048576: true; the input reads as it did. -/
def asmMakesUptoRow : OpenClaim := { program := "ytecbponmpinnoaa", sum := "9b1238a812cb5d0f1d08391de5030b5b9ff651879a4f4978ffb8995cdf5a3e98", func := "rushlight/rushlightlaw05.AsmMakes", spec := "asmMakes", apart := false, narrowed := true }
def AsmMakesUptoSaid : Prop := asmMakesUptoRow.holds Try.pinned (OpenSpec.upto asmMakesSpec)

/-- 'rushlightlaw05.AsmLong', WHERE WHAT IT READS IS OF BULK AT MOST 1048576: true; the input reads as it did. -/
def asmLongUptoRow : OpenClaim := { program := "ytecbponmpinnoaa", sum := "9b1238a812cb5d0f1d08391de5030b5b9ff651879a4f4978ffb8995cdf5a3e98", func := "rushlight/rushlightlaw05.AsmLong", spec := "asmLong", apart := false, narrowed := true }
def AsmLongUptoSaid : Prop := asmLongUptoRow.holds Try.pinned (OpenSpec.upto asmLongSpec)

/-- 'rushlightlaw05.AsmItems', WHERE WHAT IT READS IS OF BULK AT MOST 1048576: true; the input reads as it did. -/
def asmItemsUptoRow : OpenClaim := { program := "ytecbponmpinnoaa", sum := "9b1238a812cb5d0f1d08391de5030b5b9ff651879a4f4978ffb8995cdf5a3e98", func := "rushlight/rushlightlaw05.AsmItems", spec := "asmItems", apart := false, narrowed := true }
def AsmItemsUptoSaid : Prop := asmItemsUptoRow.holds Try.pinned (OpenSpec.upto asmItemsSpec)

/-- 'rushlightlaw05.AsmLeads', WHERE WHAT IT READS IS OF BULK AT MOST 1048576: true; the input reads as it did. -/
def asmLeadsUptoRow : OpenClaim := { program := "ytecbponmpinnoaa", sum := "9b1238a812cb5d0f1d08391de5030b5b9ff651879a4f4978ffb8995cdf5a3e98", func := "rushlight/rushlightlaw05.AsmLeads", spec := "asmLeads", apart := false, narrowed := true }
def AsmLeadsUptoSaid : Prop := asmLeadsUptoRow.holds Try.pinned (OpenSpec.upto asmLeadsSpec)

/-- 'rushlightlaw05.AsmNumbers', WHERE WHAT IT READS IS OF BULK AT MOST 1048576: true; the input reads as it did. -/
def asmNumbersUptoRow : OpenClaim := { program := "ytecbponmpinnoaa", sum := "9b1238a812cb5d0f1d08391de5030b5b9ff651879a4f4978ffb8995cdf5a3e98", func := "rushlight/rushlightlaw05.AsmNumbers", spec := "asmNumbers", apart := false, narrowed := true }
def AsmNumbersUptoSaid : Prop := asmNumbersUptoRow.holds Try.pinned (OpenSpec.upto asmNumbersSpec)

end Rows
end Go.Proofs.Ytecbponmpinnoaa
