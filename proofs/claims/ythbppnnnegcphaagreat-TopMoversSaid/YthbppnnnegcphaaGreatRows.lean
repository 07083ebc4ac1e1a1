/-
  No cell of these rows narrows 'for every input' (looked for: loops, veiled, ifaces, maps, wideKeys, modest, calm, conditions, laid).
  DERIVED. THE GIVEN ROWS OF THIS SEAT. 7 by the template 'for every input the law returns true; each argument reads behind the call as it read before'; 0 by the template 'total and deterministic' (their statements: YthbppnnnegcphaaGreatTotals.lean).
  GIVEN WITH THE SEED: the statements are not yours to turn. If you find one false, say at which input.
  Laid BY PROGRAM, IN A SANDBOX (cutbox-rows.mjs): the forced cells as the released guide's own fill.sh prints them over the translation cc17fe88880aa30f… (all of the seat's roots in one cut). By AI agents, Wed Nov 11 2026. No macro, syntax, notation, axiom, sorry.
-/
import Derived.Test.YthbppnnnegcphaaGreatChecked
import GoSem.Claim
import GoSem.ClaimJoined
import GoSem.ClaimMapViews
import Derived.JoinedTies
import Derived.KernelRfl
namespace Go.Proofs.YthbppnnnegcphaaGreat
/- THE CELL 'sum', in the pinned program and in every row, IS THE sha256 OF THE DUMP (.gsa) THAT YthbppnnnegcphaaGreatProg.lean LOADS. Nothing in Lean hashes anything: it is a label: what it is worth is what the hold of that sum in a sandbox is worth. -/
noncomputable def Tryz.pinned : Pinned := { name := "ythbppnnnegcphaagreat", sum := "cc17fe88880aa30f57f242ab59481c57b61ab001fef4a0e55786aaae3ec05bc7", checked := Tryz.checked }
namespace Rows
def none {H : Type} : Left H := { results := [], args := [] }

/-- 'coldframetop.TopDown': WHATEVER THE INPUT: true; the input reads as it did. -/
def topDownSpec : ChangeSpec := { name := "topDown", fn := fun _ => fun
  | [d1, d2] => { results := [.lit (.bool true)], args := [d1, d2] }
  | _ => none }
def topDownRow : OpenClaim := { program := "ythbppnnnegcphaagreat", sum := "cc17fe88880aa30f57f242ab59481c57b61ab001fef4a0e55786aaae3ec05bc7", func := "coldframe/coldframetop.TopDown", spec := "topDown", inPlace := ["internal/bytealg.abigen_runtime_cmpstring", "slices.overlaps[coldframe/table.Object]", "slices.overlaps[int]"], unfollowed := true, recurses := true, plainKeys := false, apart := false }
def TopDownSaid : Prop := topDownRow.holds Tryz.pinned (OpenSpec.ofChange topDownSpec)

/-- ITS FALSE NEIGHBOUR: 'it returns false'. Refute it at one input. -/
def topDownWrong : ChangeSpec := { name := "topDown", fn := fun _ => fun
  | [d1, d2] => { results := [.lit (.bool false)], args := [d1, d2] }
  | _ => none }
def TopDownWrongFalsely : Prop := topDownRow.holds Tryz.pinned (OpenSpec.ofChange topDownWrong)

/-- 'coldframetop.TopAnyOrder': WHATEVER THE INPUT: true; the input reads as it did. -/
def topAnyOrderSpec : ChangeSpec := { name := "topAnyOrder", fn := fun _ => fun
  | [d1, d2] => { results := [.lit (.bool true)], args := [d1, d2] }
  | _ => none }
def topAnyOrderRow : OpenClaim := { program := "ythbppnnnegcphaagreat", sum := "cc17fe88880aa30f57f242ab59481c57b61ab001fef4a0e55786aaae3ec05bc7", func := "coldframe/coldframetop.TopAnyOrder", spec := "topAnyOrder", inPlace := ["internal/bytealg.abigen_runtime_cmpstring", "slices.overlaps[coldframe/table.Object]", "slices.overlaps[int]"], unfollowed := true, recurses := true, plainKeys := false, apart := false }
def TopAnyOrderSaid : Prop := topAnyOrderRow.holds Tryz.pinned (OpenSpec.ofChange topAnyOrderSpec)

/-- ITS FALSE NEIGHBOUR: 'it returns false'. Refute it at one input. -/
def topAnyOrderWrong : ChangeSpec := { name := "topAnyOrder", fn := fun _ => fun
  | [d1, d2] => { results := [.lit (.bool false)], args := [d1, d2] }
  | _ => none }
def TopAnyOrderWrongFalsely : Prop := topAnyOrderRow.holds Tryz.pinned (OpenSpec.ofChange topAnyOrderWrong)

/-- 'coldframetop.TopMovers': WHATEVER THE INPUT: true; the input reads as it did. -/
def topMoversSpec : ChangeSpec := { name := "topMovers", fn := fun _ => fun
  | [d1, d2, d3] => { results := [.lit (.bool true)], args := [d1, d2, d3] }
  | _ => none }
def topMoversRow : OpenClaim := { program := "ythbppnnnegcphaagreat", sum := "cc17fe88880aa30f57f242ab59481c57b61ab001fef4a0e55786aaae3ec05bc7", func := "coldframe/coldframetop.TopMovers", spec := "topMovers", inPlace := ["internal/bytealg.abigen_runtime_cmpstring", "slices.overlaps[coldframe/table.Object]", "slices.overlaps[int]"], unfollowed := true, recurses := true, plainKeys := false, apart := false }
def TopMoversSaid : Prop := topMoversRow.holds Tryz.pinned (OpenSpec.ofChange topMoversSpec)

/-- ITS FALSE NEIGHBOUR: 'it returns false'. Refute it at one input. -/
def topMoversWrong : ChangeSpec := { name := "topMovers", fn := fun _ => fun
  | [d1, d2, d3] => { results := [.lit (.bool false)], args := [d1, d2, d3] }
  | _ => none }
def TopMoversWrongFalsely : Prop := topMoversRow.holds Tryz.pinned (OpenSpec.ofChange topMoversWrong)

/-- 'coldframetop.TopShared': WHATEVER THE INPUT: true; the input reads as it did. -/
def topSharedSpec : ChangeSpec := { name := "topShared", fn := fun _ => fun
  | [d1, d2] => { results := [.lit (.bool true)], args := [d1, d2] }
  | _ => none }
def topSharedRow : OpenClaim := { program := "ythbppnnnegcphaagreat", sum := "cc17fe88880aa30f57f242ab59481c57b61ab001fef4a0e55786aaae3ec05bc7", func := "coldframe/coldframetop.TopShared", spec := "topShared", inPlace := ["internal/bytealg.abigen_runtime_cmpstring", "slices.overlaps[coldframe/table.Object]", "slices.overlaps[int]", "internal/abi.NoEscape"], unfollowed := true, recurses := true, plainKeys := false, apart := false }
def TopSharedSaid : Prop := topSharedRow.holds Tryz.pinned (OpenSpec.ofChange topSharedSpec)

/-- ITS FALSE NEIGHBOUR: 'it returns false'. Refute it at one input. -/
def topSharedWrong : ChangeSpec := { name := "topShared", fn := fun _ => fun
  | [d1, d2] => { results := [.lit (.bool false)], args := [d1, d2] }
  | _ => none }
def TopSharedWrongFalsely : Prop := topSharedRow.holds Tryz.pinned (OpenSpec.ofChange topSharedWrong)

/-- 'coldframetop.TopDeltas': WHATEVER THE INPUT: true; the input reads as it did. -/
def topDeltasSpec : ChangeSpec := { name := "topDeltas", fn := fun _ => fun
  | [d1, d2, d3] => { results := [.lit (.bool true)], args := [d1, d2, d3] }
  | _ => none }
def topDeltasRow : OpenClaim := { program := "ythbppnnnegcphaagreat", sum := "cc17fe88880aa30f57f242ab59481c57b61ab001fef4a0e55786aaae3ec05bc7", func := "coldframe/coldframetop.TopDeltas", spec := "topDeltas", inPlace := ["internal/bytealg.abigen_runtime_cmpstring", "slices.overlaps[coldframe/table.Object]", "slices.overlaps[int]"], unfollowed := true, recurses := true, plainKeys := false, apart := false }
def TopDeltasSaid : Prop := topDeltasRow.holds Tryz.pinned (OpenSpec.ofChange topDeltasSpec)

/-- ITS FALSE NEIGHBOUR: 'it returns false'. Refute it at one input. -/
def topDeltasWrong : ChangeSpec := { name := "topDeltas", fn := fun _ => fun
  | [d1, d2, d3] => { results := [.lit (.bool false)], args := [d1, d2, d3] }
  | _ => none }
def TopDeltasWrongFalsely : Prop := topDeltasRow.holds Tryz.pinned (OpenSpec.ofChange topDeltasWrong)

/-- 'coldframetop.TopProofs': WHATEVER THE INPUT: true; the input reads as it did. -/
def topProofsSpec : ChangeSpec := { name := "topProofs", fn := fun _ => fun
  | [d] => { results := [.lit (.bool true)], args := [d] }
  | _ => none }
def topProofsRow : OpenClaim := { program := "ythbppnnnegcphaagreat", sum := "cc17fe88880aa30f57f242ab59481c57b61ab001fef4a0e55786aaae3ec05bc7", func := "coldframe/coldframetop.TopProofs", spec := "topProofs", inPlace := ["internal/bytealg.abigen_runtime_cmpstring", "slices.overlaps[coldframe/table.Object]", "slices.overlaps[int]"], unfollowed := true, recurses := true, plainKeys := false, apart := false }
def TopProofsSaid : Prop := topProofsRow.holds Tryz.pinned (OpenSpec.ofChange topProofsSpec)

/-- ITS FALSE NEIGHBOUR: 'it returns false'. Refute it at one input. -/
def topProofsWrong : ChangeSpec := { name := "topProofs", fn := fun _ => fun
  | [d] => { results := [.lit (.bool false)], args := [d] }
  | _ => none }
def TopProofsWrongFalsely : Prop := topProofsRow.holds Tryz.pinned (OpenSpec.ofChange topProofsWrong)

/-- 'coldframetop.TopCodes': WHATEVER THE INPUT: true; the input reads as it did. -/
def topCodesSpec : ChangeSpec := { name := "topCodes", fn := fun _ => fun
  | [d1, d2, d3] => { results := [.lit (.bool true)], args := [d1, d2, d3] }
  | _ => none }
def topCodesRow : OpenClaim := { program := "ythbppnnnegcphaagreat", sum := "cc17fe88880aa30f57f242ab59481c57b61ab001fef4a0e55786aaae3ec05bc7", func := "coldframe/coldframetop.TopCodes", spec := "topCodes", inPlace := ["internal/bytealg.abigen_runtime_cmpstring", "slices.overlaps[coldframe/table.Object]", "slices.overlaps[int]"], unfollowed := true, recurses := true, plainKeys := false, apart := false }
def TopCodesSaid : Prop := topCodesRow.holds Tryz.pinned (OpenSpec.ofChange topCodesSpec)

/-- ITS FALSE NEIGHBOUR: 'it returns false'. Refute it at one input. -/
def topCodesWrong : ChangeSpec := { name := "topCodes", fn := fun _ => fun
  | [d1, d2, d3] => { results := [.lit (.bool false)], args := [d1, d2, d3] }
  | _ => none }
def TopCodesWrongFalsely : Prop := topCodesRow.holds Tryz.pinned (OpenSpec.ofChange topCodesWrong)

/- THE SECOND FORM. 'bulk': how many values and letters a reading holds, each counted each time it is reached (what is shared counts as often as it is met; a slice's spare places count too). A statement '..UptoSaid' is the law's where the arguments, and the package variables that the reading takes, are together of bulk at most 1048576: NARROWER than '..Said'. Prove '..Said' where nothing that the law and all that it calls make is longer than what came in: it says more and counts as full. Else prove '..UptoSaid'. A law counts once. -/
mutual
def uptoBulk {H : Type} : DataW H → Nat
  | .lit (.string bytes) => bytes.length + 1
  | .lit _ => 1
  | .nil => 1
  | .ptr d => uptoBulk d + 1
  | .slice elems spare => uptoBulkAll elems + uptoBulkAll spare + 1
  | .agg parts => uptoBulkAll parts + 1
  | .iface _ d => uptoBulk d + 1
  | .map entries => uptoBulkEntries entries + 1
  | .held _ => 1
def uptoBulkAll {H : Type} : List (DataW H) → Nat
  | [] => 0
  | d :: r => uptoBulk d + uptoBulkAll r
def uptoBulkEntries {H : Type} : List (Lit × DataW H) → Nat
  | [] => 0
  | x :: r => uptoBulkEntry x + uptoBulkEntries r
def uptoBulkEntry {H : Type} : Lit × DataW H → Nat
  | (.string bytes, d) => bytes.length + uptoBulk d + 1
  | (_, d) => uptoBulk d + 1
 end
def uptoSmall : (H : Type) → List (DataW H) → Bool := fun _ ds => decide (uptoBulkAll ds ≤ 1048576)
def OpenSpec.upto (s : _root_.Go.ChangeSpec) : _root_.Go.OpenSpec := { _root_.Go.OpenSpec.ofChange s with cond := some uptoSmall }

/-- 'coldframetop.TopDown', WHERE WHAT IT READS IS OF BULK AT MOST 1048576: true; the input reads as it did. -/
def topDownUptoRow : OpenClaim := { program := "ythbppnnnegcphaagreat", sum := "cc17fe88880aa30f57f242ab59481c57b61ab001fef4a0e55786aaae3ec05bc7", func := "coldframe/coldframetop.TopDown", spec := "topDown", inPlace := ["internal/bytealg.abigen_runtime_cmpstring", "slices.overlaps[coldframe/table.Object]", "slices.overlaps[int]"], unfollowed := true, recurses := true, plainKeys := false, apart := false, narrowed := true }
def TopDownUptoSaid : Prop := topDownUptoRow.holds Tryz.pinned (OpenSpec.upto topDownSpec)

/-- 'coldframetop.TopAnyOrder', WHERE WHAT IT READS IS OF BULK AT MOST 1048576: true; the input reads as it did. -/
def topAnyOrderUptoRow : OpenClaim := { program := "ythbppnnnegcphaagreat", sum := "cc17fe88880aa30f57f242ab59481c57b61ab001fef4a0e55786aaae3ec05bc7", func := "coldframe/coldframetop.TopAnyOrder", spec := "topAnyOrder", inPlace := ["internal/bytealg.abigen_runtime_cmpstring", "slices.overlaps[coldframe/table.Object]", "slices.overlaps[int]"], unfollowed := true, recurses := true, plainKeys := false, apart := false, narrowed := true }
def TopAnyOrderUptoSaid : Prop := topAnyOrderUptoRow.holds Tryz.pinned (OpenSpec.upto topAnyOrderSpec)

/-- 'coldframetop.TopMovers', WHERE WHAT IT READS IS OF BULK AT MOST 1048576: true; the input reads as it did. -/
def topMoversUptoRow : OpenClaim := { program := "ythbppnnnegcphaagreat", sum := "cc17fe88880aa30f57f242ab59481c57b61ab001fef4a0e55786aaae3ec05bc7", func := "coldframe/coldframetop.TopMovers", spec := "topMovers", inPlace := ["internal/bytealg.abigen_runtime_cmpstring", "slices.overlaps[coldframe/table.Object]", "slices.overlaps[int]"], unfollowed := true, recurses := true, plainKeys := false, apart := false, narrowed := true }
def TopMoversUptoSaid : Prop := topMoversUptoRow.holds Tryz.pinned (OpenSpec.upto topMoversSpec)

/-- 'coldframetop.TopShared', WHERE WHAT IT READS IS OF BULK AT MOST 1048576: true; the input reads as it did. -/
def topSharedUptoRow : OpenClaim := { program := "ythbppnnnegcphaagreat", sum := "cc17fe88880aa30f57f242ab59481c57b61ab001fef4a0e55786aaae3ec05bc7", func := "coldframe/coldframetop.TopShared", spec := "topShared", inPlace := ["internal/bytealg.abigen_runtime_cmpstring", "slices.overlaps[coldframe/table.Object]", "slices.overlaps[int]", "internal/abi.NoEscape"], unfollowed := true, recurses := true, plainKeys := false, apart := false, narrowed := true }
def TopSharedUptoSaid : Prop := topSharedUptoRow.holds Tryz.pinned (OpenSpec.upto topSharedSpec)

/-- 'coldframetop.TopDeltas', WHERE WHAT IT READS IS OF BULK AT MOST 1048576: true; the input reads as it did. -/
def topDeltasUptoRow : OpenClaim := { program := "ythbppnnnegcphaagreat", sum := "cc17fe88880aa30f57f242ab59481c57b61ab001fef4a0e55786aaae3ec05bc7", func := "coldframe/coldframetop.TopDeltas", spec := "topDeltas", inPlace := ["internal/bytealg.abigen_runtime_cmpstring", "slices.overlaps[coldframe/table.Object]", "slices.overlaps[int]"], unfollowed := true, recurses := true, plainKeys := false, apart := false, narrowed := true }
def TopDeltasUptoSaid : Prop := topDeltasUptoRow.holds Tryz.pinned (OpenSpec.upto topDeltasSpec)

/-- 'coldframetop.TopProofs', WHERE WHAT IT READS IS OF BULK AT MOST 1048576: true; the input reads as it did. -/
def topProofsUptoRow : OpenClaim := { program := "ythbppnnnegcphaagreat", sum := "cc17fe88880aa30f57f242ab59481c57b61ab001fef4a0e55786aaae3ec05bc7", func := "coldframe/coldframetop.TopProofs", spec := "topProofs", inPlace := ["internal/bytealg.abigen_runtime_cmpstring", "slices.overlaps[coldframe/table.Object]", "slices.overlaps[int]"], unfollowed := true, recurses := true, plainKeys := false, apart := false, narrowed := true }
def TopProofsUptoSaid : Prop := topProofsUptoRow.holds Tryz.pinned (OpenSpec.upto topProofsSpec)

/-- 'coldframetop.TopCodes', WHERE WHAT IT READS IS OF BULK AT MOST 1048576: true; the input reads as it did. -/
def topCodesUptoRow : OpenClaim := { program := "ythbppnnnegcphaagreat", sum := "cc17fe88880aa30f57f242ab59481c57b61ab001fef4a0e55786aaae3ec05bc7", func := "coldframe/coldframetop.TopCodes", spec := "topCodes", inPlace := ["internal/bytealg.abigen_runtime_cmpstring", "slices.overlaps[coldframe/table.Object]", "slices.overlaps[int]"], unfollowed := true, recurses := true, plainKeys := false, apart := false, narrowed := true }
def TopCodesUptoSaid : Prop := topCodesUptoRow.holds Tryz.pinned (OpenSpec.upto topCodesSpec)

end Rows
end Go.Proofs.YthbppnnnegcphaaGreat
