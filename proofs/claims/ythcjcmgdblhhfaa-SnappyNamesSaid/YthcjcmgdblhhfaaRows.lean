/-
  No cell of these rows narrows 'for every input' (looked for: loops, veiled, ifaces, maps, wideKeys, modest, calm, conditions, laid).
  DERIVED. THE GIVEN ROWS OF THIS SEAT. 9 by the template 'for every input the law returns true; each argument reads behind the call as it read before'; 0 by the template 'total and deterministic' (their statements: YthcjcmgdblhhfaaTotals.lean).
  GIVEN WITH THE SEED: the statements are not yours to turn. If you find one false, say at which input.
  Laid BY PROGRAM, IN A SANDBOX (cutbox-rows.mjs): the forced cells as the released guide's own fill.sh prints them over the translation f930e0c412c10f0f… (all of the seat's roots in one cut). By AI agents, Wed Nov 11 2026. No macro, syntax, notation, axiom, sorry.
-/
import Derived.Test.YthcjcmgdblhhfaaChecked
import GoSem.Claim
import GoSem.ClaimJoined
import GoSem.ClaimMapViews
import Derived.JoinedTies
import Derived.KernelRfl
namespace Go.Proofs.Ythcjcmgdblhhfaa
/- THE CELL 'sum', in the pinned program and in every row, IS THE sha256 OF THE DUMP (.gsa) THAT YthcjcmgdblhhfaaProg.lean LOADS. Nothing in Lean hashes anything: it is a label: what it is worth is what the hold of that sum in a sandbox is worth. -/
noncomputable def Try.pinned : Pinned := { name := "ythcjcmgdblhhfaa", sum := "f930e0c412c10f0f6f5e5b43d0b8d70e561999e8eb63a77cdadbbb11b4b77190", checked := Try.checked }
namespace Rows
def none {H : Type} : Left H := { results := [], args := [] }

/-- 'batonlaw03.SnappyNames': WHATEVER THE INPUT: true; the input reads as it did. -/
def snappyNamesSpec : ChangeSpec := { name := "snappyNames", fn := fun _ => fun
  | [] => { results := [.lit (.bool true)], args := [] }
  | _ => none }
def snappyNamesRow : OpenClaim := { program := "ythcjcmgdblhhfaa", sum := "f930e0c412c10f0f6f5e5b43d0b8d70e561999e8eb63a77cdadbbb11b4b77190", func := "baton/batonlaw03.SnappyNames", spec := "snappyNames", unfollowed := true, recurses := true, apart := false }
def SnappyNamesSaid : Prop := snappyNamesRow.holds Try.pinned (OpenSpec.ofChange snappyNamesSpec)

/-- ITS FALSE NEIGHBOUR: 'it returns false'. Refute it at one input. -/
def snappyNamesWrong : ChangeSpec := { name := "snappyNames", fn := fun _ => fun
  | [] => { results := [.lit (.bool false)], args := [] }
  | _ => none }
def SnappyNamesWrongFalsely : Prop := snappyNamesRow.holds Try.pinned (OpenSpec.ofChange snappyNamesWrong)

/-- 'batonlaw03.SnappyWrites': WHATEVER THE INPUT: true; the input reads as it did. -/
def snappyWritesSpec : ChangeSpec := { name := "snappyWrites", fn := fun _ => fun
  | [d1, d2] => { results := [.lit (.bool true)], args := [d1, d2] }
  | _ => none }
def snappyWritesRow : OpenClaim := { program := "ythcjcmgdblhhfaa", sum := "f930e0c412c10f0f6f5e5b43d0b8d70e561999e8eb63a77cdadbbb11b4b77190", func := "baton/batonlaw03.SnappyWrites", spec := "snappyWrites", unfollowed := true, recurses := true, apart := false }
def SnappyWritesSaid : Prop := snappyWritesRow.holds Try.pinned (OpenSpec.ofChange snappyWritesSpec)

/-- ITS FALSE NEIGHBOUR: 'it returns false'. Refute it at one input. -/
def snappyWritesWrong : ChangeSpec := { name := "snappyWrites", fn := fun _ => fun
  | [d1, d2] => { results := [.lit (.bool false)], args := [d1, d2] }
  | _ => none }
def SnappyWritesWrongFalsely : Prop := snappyWritesRow.holds Try.pinned (OpenSpec.ofChange snappyWritesWrong)

/-- 'batonlaw03.SnappyPacks': WHATEVER THE INPUT: true; the input reads as it did. -/
def snappyPacksSpec : ChangeSpec := { name := "snappyPacks", fn := fun _ => fun
  | [d1, d2] => { results := [.lit (.bool true)], args := [d1, d2] }
  | _ => none }
def snappyPacksRow : OpenClaim := { program := "ythcjcmgdblhhfaa", sum := "f930e0c412c10f0f6f5e5b43d0b8d70e561999e8eb63a77cdadbbb11b4b77190", func := "baton/batonlaw03.SnappyPacks", spec := "snappyPacks", unfollowed := true, recurses := true, apart := false }
def SnappyPacksSaid : Prop := snappyPacksRow.holds Try.pinned (OpenSpec.ofChange snappyPacksSpec)

/-- ITS FALSE NEIGHBOUR: 'it returns false'. Refute it at one input. -/
def snappyPacksWrong : ChangeSpec := { name := "snappyPacks", fn := fun _ => fun
  | [d1, d2] => { results := [.lit (.bool false)], args := [d1, d2] }
  | _ => none }
def SnappyPacksWrongFalsely : Prop := snappyPacksRow.holds Try.pinned (OpenSpec.ofChange snappyPacksWrong)

/-- 'batonlaw03.SnappyBack': WHATEVER THE INPUT: true; the input reads as it did. -/
def snappyBackSpec : ChangeSpec := { name := "snappyBack", fn := fun _ => fun
  | [d] => { results := [.lit (.bool true)], args := [d] }
  | _ => none }
def snappyBackRow : OpenClaim := { program := "ythcjcmgdblhhfaa", sum := "f930e0c412c10f0f6f5e5b43d0b8d70e561999e8eb63a77cdadbbb11b4b77190", func := "baton/batonlaw03.SnappyBack", spec := "snappyBack", unfollowed := true, recurses := true, apart := false }
def SnappyBackSaid : Prop := snappyBackRow.holds Try.pinned (OpenSpec.ofChange snappyBackSpec)

/-- ITS FALSE NEIGHBOUR: 'it returns false'. Refute it at one input. -/
def snappyBackWrong : ChangeSpec := { name := "snappyBack", fn := fun _ => fun
  | [d] => { results := [.lit (.bool false)], args := [d] }
  | _ => none }
def SnappyBackWrongFalsely : Prop := snappyBackRow.holds Try.pinned (OpenSpec.ofChange snappyBackWrong)

/-- 'batonlaw03.SnappyRuns': WHATEVER THE INPUT: true; the input reads as it did. -/
def snappyRunsSpec : ChangeSpec := { name := "snappyRuns", fn := fun _ => fun
  | [d1, d2, d3] => { results := [.lit (.bool true)], args := [d1, d2, d3] }
  | _ => none }
def snappyRunsRow : OpenClaim := { program := "ythcjcmgdblhhfaa", sum := "f930e0c412c10f0f6f5e5b43d0b8d70e561999e8eb63a77cdadbbb11b4b77190", func := "baton/batonlaw03.SnappyRuns", spec := "snappyRuns", unfollowed := true, recurses := true, apart := false }
def SnappyRunsSaid : Prop := snappyRunsRow.holds Try.pinned (OpenSpec.ofChange snappyRunsSpec)

/-- ITS FALSE NEIGHBOUR: 'it returns false'. Refute it at one input. -/
def snappyRunsWrong : ChangeSpec := { name := "snappyRuns", fn := fun _ => fun
  | [d1, d2, d3] => { results := [.lit (.bool false)], args := [d1, d2, d3] }
  | _ => none }
def SnappyRunsWrongFalsely : Prop := snappyRunsRow.holds Try.pinned (OpenSpec.ofChange snappyRunsWrong)

/-- 'batonlaw03.SnappyCut': WHATEVER THE INPUT: true; the input reads as it did. -/
def snappyCutSpec : ChangeSpec := { name := "snappyCut", fn := fun _ => fun
  | [d1, d2, d3] => { results := [.lit (.bool true)], args := [d1, d2, d3] }
  | _ => none }
def snappyCutRow : OpenClaim := { program := "ythcjcmgdblhhfaa", sum := "f930e0c412c10f0f6f5e5b43d0b8d70e561999e8eb63a77cdadbbb11b4b77190", func := "baton/batonlaw03.SnappyCut", spec := "snappyCut", unfollowed := true, recurses := true, apart := false }
def SnappyCutSaid : Prop := snappyCutRow.holds Try.pinned (OpenSpec.ofChange snappyCutSpec)

/-- ITS FALSE NEIGHBOUR: 'it returns false'. Refute it at one input. -/
def snappyCutWrong : ChangeSpec := { name := "snappyCut", fn := fun _ => fun
  | [d1, d2, d3] => { results := [.lit (.bool false)], args := [d1, d2, d3] }
  | _ => none }
def SnappyCutWrongFalsely : Prop := snappyCutRow.holds Try.pinned (OpenSpec.ofChange snappyCutWrong)

/-- 'batonlaw03.SnappyEach': WHATEVER THE INPUT: true; the input reads as it did. -/
def snappyEachSpec : ChangeSpec := { name := "snappyEach", fn := fun _ => fun
  | [d] => { results := [.lit (.bool true)], args := [d] }
  | _ => none }
def snappyEachRow : OpenClaim := { program := "ythcjcmgdblhhfaa", sum := "f930e0c412c10f0f6f5e5b43d0b8d70e561999e8eb63a77cdadbbb11b4b77190", func := "baton/batonlaw03.SnappyEach", spec := "snappyEach", unfollowed := true, recurses := true, apart := false }
def SnappyEachSaid : Prop := snappyEachRow.holds Try.pinned (OpenSpec.ofChange snappyEachSpec)

/-- ITS FALSE NEIGHBOUR: 'it returns false'. Refute it at one input. -/
def snappyEachWrong : ChangeSpec := { name := "snappyEach", fn := fun _ => fun
  | [d] => { results := [.lit (.bool false)], args := [d] }
  | _ => none }
def SnappyEachWrongFalsely : Prop := snappyEachRow.holds Try.pinned (OpenSpec.ofChange snappyEachWrong)

/-- 'batonlaw03.SnappyDecodes': WHATEVER THE INPUT: true; the input reads as it did. -/
def snappyDecodesSpec : ChangeSpec := { name := "snappyDecodes", fn := fun _ => fun
  | [d1, d2] => { results := [.lit (.bool true)], args := [d1, d2] }
  | _ => none }
def snappyDecodesRow : OpenClaim := { program := "ythcjcmgdblhhfaa", sum := "f930e0c412c10f0f6f5e5b43d0b8d70e561999e8eb63a77cdadbbb11b4b77190", func := "baton/batonlaw03.SnappyDecodes", spec := "snappyDecodes", unfollowed := true, recurses := true, apart := false }
def SnappyDecodesSaid : Prop := snappyDecodesRow.holds Try.pinned (OpenSpec.ofChange snappyDecodesSpec)

/-- ITS FALSE NEIGHBOUR: 'it returns false'. Refute it at one input. -/
def snappyDecodesWrong : ChangeSpec := { name := "snappyDecodes", fn := fun _ => fun
  | [d1, d2] => { results := [.lit (.bool false)], args := [d1, d2] }
  | _ => none }
def SnappyDecodesWrongFalsely : Prop := snappyDecodesRow.holds Try.pinned (OpenSpec.ofChange snappyDecodesWrong)

/-- 'batonlaw03.SnappyAny': WHATEVER THE INPUT: true; the input reads as it did. -/
def snappyAnySpec : ChangeSpec := { name := "snappyAny", fn := fun _ => fun
  | [d] => { results := [.lit (.bool true)], args := [d] }
  | _ => none }
def snappyAnyRow : OpenClaim := { program := "ythcjcmgdblhhfaa", sum := "f930e0c412c10f0f6f5e5b43d0b8d70e561999e8eb63a77cdadbbb11b4b77190", func := "baton/batonlaw03.SnappyAny", spec := "snappyAny", unfollowed := true, recurses := true, apart := false }
def SnappyAnySaid : Prop := snappyAnyRow.holds Try.pinned (OpenSpec.ofChange snappyAnySpec)

/-- ITS FALSE NEIGHBOUR: 'it returns false'. Refute it at one input. -/
def snappyAnyWrong : ChangeSpec := { name := "snappyAny", fn := fun _ => fun
  | [d] => { results := [.lit (.bool false)], args := [d] }
  | _ => none }
def SnappyAnyWrongFalsely : Prop := snappyAnyRow.holds Try.pinned (OpenSpec.ofChange snappyAnyWrong)

/- THE SECOND FORM. 'bulk': how many values and letters a reading holds, each counted each time it is reached (what is shared counts as often as it is met; a slice's spare places count too). A statement '..UptoSaid' is the law's where the arguments, and the package variables that the reading takes, are together of bulk at most 1048576: NARROWER than '..Said'. Prove '..Said' where nothing that the law and all that it calls make is longer than what came in: it says more and counts as full. Else prove '..UptoSaid'. A law counts once. -/
mutual
def uptoBulk {H : Type} : DataW H → Nat
  | .lit (.string bytes) => bytes.length + 1
  | .lit _ => 1
  | .nil => 1
  | .ptr d => uptoBulk d + 1
  | .slice elems spare => uptoBulkAll elems + uptoBulkAll spare + 1
  | .agg parts => uptoBulkAll parts + 1
  | .iface _ d => uptoBulk d + 1
  | .map entries => uptoBulkEntries entries + 1
  | .held _ => 1
def uptoBulkAll {H : Type} : List (DataW H) → Nat
  | [] => 0
  | d :: r => uptoBulk d + uptoBulkAll r
def uptoBulkEntries {H : Type} : List (Lit × DataW H) → Nat
  | [] => 0
  | x :: r => uptoBulkEntry x + uptoBulkEntries r
def uptoBulkEntry {H : Type} : Lit × DataW H → Nat
  | (.string bytes, d) => bytes.length + uptoBulk d + 1
  | (_, d) => uptoBulk d + 1
 end
def uptoSmall : (H : Type) → List (DataW H) → Bool := fun _ ds => decide (uptoBulkAll ds ≤ 1048576)
def OpenSpec.upto (s : _root_.Go.ChangeSpec) : _root_.Go.OpenSpec := { _root_.Go.OpenSpec.ofChange s with cond := some uptoSmall }

/-- 'batonlaw03.SnappyNames', WHERE WHAT IT READS IS OF BULK AT MOST 1048576: true; the input reads as it did. -/
def snappyNamesUptoRow : OpenClaim := { program := "ythcjcmgdblhhfaa", sum := "f930e0c412c10f0f6f5e5b43d0b8d70e561999e8eb63a77cdadbbb11b4b77190", func := "baton/batonlaw03.SnappyNames", spec := "snappyNames", unfollowed := true, recurses := true, apart := false, narrowed := true }
def SnappyNamesUptoSaid : Prop := snappyNamesUptoRow.holds Try.pinned (OpenSpec.upto snappyNamesSpec)

/-- 'batonlaw03.SnappyWrites', WHERE WHAT IT READS IS OF BULK AT MOST 1048576: true; the input reads as it did. -/
def snappyWritesUptoRow : OpenClaim := { program := "ythcjcmgdblhhfaa", sum := "f930e0c412c10f0f6f5e5b43d0b8d70e561999e8eb63a77cdadbbb11b4b77190", func := "baton/batonlaw03.SnappyWrites", spec := "snappyWrites", unfollowed := true, recurses := true, apart := false, narrowed := true }
def SnappyWritesUptoSaid : Prop := snappyWritesUptoRow.holds Try.pinned (OpenSpec.upto snappyWritesSpec)

/-- 'batonlaw03.SnappyPacks', WHERE WHAT IT READS IS OF BULK AT MOST 1048576: true; the input reads as it did. -/
def snappyPacksUptoRow : OpenClaim := { program := "ythcjcmgdblhhfaa", sum := "f930e0c412c10f0f6f5e5b43d0b8d70e561999e8eb63a77cdadbbb11b4b77190", func := "baton/batonlaw03.SnappyPacks", spec := "snappyPacks", unfollowed := true, recurses := true, apart := false, narrowed := true }
def SnappyPacksUptoSaid : Prop := snappyPacksUptoRow.holds Try.pinned (OpenSpec.upto snappyPacksSpec)

/-- 'batonlaw03.SnappyBack', WHERE WHAT IT READS IS OF BULK AT MOST 1048576: true; the input reads as it did. -/
def snappyBackUptoRow : OpenClaim := { program := "ythcjcmgdblhhfaa", sum := "f930e0c412c10f0f6f5e5b43d0b8d70e561999e8eb63a77cdadbbb11b4b77190", func := "baton/batonlaw03.SnappyBack", spec := "snappyBack", unfollowed := true, recurses := true, apart := false, narrowed := true }
def SnappyBackUptoSaid : Prop := snappyBackUptoRow.holds Try.pinned (OpenSpec.upto snappyBackSpec)

/-- 'batonlaw03.SnappyRuns', WHERE WHAT IT READS IS OF BULK AT MOST 1048576: true; the input reads as it did. -/
def snappyRunsUptoRow : OpenClaim := { program := "ythcjcmgdblhhfaa", sum := "f930e0c412c10f0f6f5e5b43d0b8d70e561999e8eb63a77cdadbbb11b4b77190", func := "baton/batonlaw03.SnappyRuns", spec := "snappyRuns", unfollowed := true, recurses := true, apart := false, narrowed := true }
def SnappyRunsUptoSaid : Prop := snappyRunsUptoRow.holds Try.pinned (OpenSpec.upto snappyRunsSpec)

/-- 'batonlaw03.SnappyCut', WHERE WHAT IT READS IS OF BULK AT MOST 1048576: true; the input reads as it did. -/
def snappyCutUptoRow : OpenClaim := { program := "ythcjcmgdblhhfaa", sum := "f930e0c412c10f0f6f5e5b43d0b8d70e561999e8eb63a77cdadbbb11b4b77190", func := "baton/batonlaw03.SnappyCut", spec := "snappyCut", unfollowed := true, recurses := true, apart := false, narrowed := true }
def SnappyCutUptoSaid : Prop := snappyCutUptoRow.holds Try.pinned (OpenSpec.upto snappyCutSpec)

/-- 'batonlaw03.SnappyEach', WHERE WHAT IT READS IS OF BULK AT MOST 1048576: true; the input reads as it did. -/
def snappyEachUptoRow : OpenClaim := { program := "ythcjcmgdblhhfaa", sum := "f930e0c412c10f0f6f5e5b43d0b8d70e561999e8eb63a77cdadbbb11b4b77190", func := "baton/batonlaw03.SnappyEach", spec := "snappyEach", unfollowed := true, recurses := true, apart := false, narrowed := true }
def SnappyEachUptoSaid : Prop := snappyEachUptoRow.holds Try.pinned (OpenSpec.upto snappyEachSpec)

/-- 'batonlaw03.SnappyDecodes', WHERE WHAT IT READS IS OF BULK AT MOST 1048576: true; the input reads as it did. -/
def snappyDecodesUptoRow : OpenClaim := { program := "ythcjcmgdblhhfaa", sum := "f930e0c412c10f0f6f5e5b43d0b8d70e561999e8eb63a77cdadbbb11b4b77190", func := "baton/batonlaw03.SnappyDecodes", spec := "snappyDecodes", unfollowed := true, recurses := true, apart := false, narrowed := true }
def SnappyDecodesUptoSaid : Prop := snappyDecodesUptoRow.holds Try.pinned (OpenSpec.upto snappyDecodesSpec)

/-- 'batonlaw03.SnappyAny', WHERE WHAT IT READS IS OF BULK AT MOST 1048576: true; the input reads as it did. -/
def snappyAnyUptoRow : OpenClaim := { program := "ythcjcmgdblhhfaa", sum := "f930e0c412c10f0f6f5e5b43d0b8d70e561999e8eb63a77cdadbbb11b4b77190", func := "baton/batonlaw03.SnappyAny", spec := "snappyAny", unfollowed := true, recurses := true, apart := false, narrowed := true }
def SnappyAnyUptoSaid : Prop := snappyAnyUptoRow.holds Try.pinned (OpenSpec.upto snappyAnySpec)

end Rows
end Go.Proofs.Ythcjcmgdblhhfaa
