/-
  No cell of these rows narrows 'for every input' (looked for: loops, veiled, ifaces, maps, wideKeys, modest, calm, conditions, laid).
  DERIVED. THE GIVEN ROWS OF THIS SEAT. 7 by the template 'for every input the law returns true; each argument reads behind the call as it read before'; 0 by the template 'total and deterministic' (their statements: YtemglmcddaeedaaTotals.lean).
  GIVEN WITH THE SEED: the statements are not yours to turn. If you find one false, say at which input.
  Laid BY PROGRAM, IN A SANDBOX (cutbox-rows.mjs): the forced cells as the released guide's own fill.sh prints them over the translation 628650acc60aace3… (all of the seat's roots in one cut). By AI agents, Wed Nov 11 2026. No macro, syntax, notation, axiom, sorry.
-/
import Derived.Test.YtemglmcddaeedaaChecked
import GoSem.Claim
import GoSem.ClaimJoined
import GoSem.ClaimMapViews
import Derived.JoinedTies
import Derived.KernelRfl
namespace Go.Proofs.Ytemglmcddaeedaa
/- THE CELL 'sum', in the pinned program and in every row, IS THE sha256 OF THE DUMP (.gsa) THAT YtemglmcddaeedaaProg.lean LOADS. Nothing in Lean hashes anything: it is a label: what it is worth is what the hold of that sum in a sandbox is worth. -/
noncomputable def Try.pinned : Pinned := { name := "ytemglmcddaeedaa", sum := "628650acc60aace3ff05540e2402a620dacf6a18e9ca7dd3f286608885ad0eef", checked := Try.checked }
namespace Rows
def none {H : Type} : Left H := { results := [], args := [] }

/-- 'ringworklaw06.PageDamage': WHATEVER THE INPUT: true; the input reads as it did. -/
def pageDamageSpec : ChangeSpec := { name := "pageDamage", fn := fun _ => fun
  | [d1, d2, d3, d4] => { results := [.lit (.bool true)], args := [d1, d2, d3, d4] }
  | _ => none }
def pageDamageRow : OpenClaim := { program := "ytemglmcddaeedaa", sum := "628650acc60aace3ff05540e2402a620dacf6a18e9ca7dd3f286608885ad0eef", func := "ringwork/ringworklaw06.PageDamage", spec := "pageDamage", unfollowed := true, recurses := true, apart := false }
def PageDamageSaid : Prop := pageDamageRow.holds Try.pinned (OpenSpec.ofChange pageDamageSpec)

/-- ITS FALSE NEIGHBOUR: 'it returns false'. Refute it at one input. -/
def pageDamageWrong : ChangeSpec := { name := "pageDamage", fn := fun _ => fun
  | [d1, d2, d3, d4] => { results := [.lit (.bool false)], args := [d1, d2, d3, d4] }
  | _ => none }
def PageDamageWrongFalsely : Prop := pageDamageRow.holds Try.pinned (OpenSpec.ofChange pageDamageWrong)

/-- 'ringworklaw06.PageFills': WHATEVER THE INPUT: true; the input reads as it did. -/
def pageFillsSpec : ChangeSpec := { name := "pageFills", fn := fun _ => fun
  | [d1, d2] => { results := [.lit (.bool true)], args := [d1, d2] }
  | _ => none }
def pageFillsRow : OpenClaim := { program := "ytemglmcddaeedaa", sum := "628650acc60aace3ff05540e2402a620dacf6a18e9ca7dd3f286608885ad0eef", func := "ringwork/ringworklaw06.PageFills", spec := "pageFills", unfollowed := true, recurses := true, apart := false }
def PageFillsSaid : Prop := pageFillsRow.holds Try.pinned (OpenSpec.ofChange pageFillsSpec)

/-- ITS FALSE NEIGHBOUR: 'it returns false'. Refute it at one input. -/
def pageFillsWrong : ChangeSpec := { name := "pageFills", fn := fun _ => fun
  | [d1, d2] => { results := [.lit (.bool false)], args := [d1, d2] }
  | _ => none }
def PageFillsWrongFalsely : Prop := pageFillsRow.holds Try.pinned (OpenSpec.ofChange pageFillsWrong)

/-- 'ringworklaw06.PageReads': WHATEVER THE INPUT: true; the input reads as it did. -/
def pageReadsSpec : ChangeSpec := { name := "pageReads", fn := fun _ => fun
  | [d] => { results := [.lit (.bool true)], args := [d] }
  | _ => none }
def pageReadsRow : OpenClaim := { program := "ytemglmcddaeedaa", sum := "628650acc60aace3ff05540e2402a620dacf6a18e9ca7dd3f286608885ad0eef", func := "ringwork/ringworklaw06.PageReads", spec := "pageReads", unfollowed := true, recurses := true, apart := false }
def PageReadsSaid : Prop := pageReadsRow.holds Try.pinned (OpenSpec.ofChange pageReadsSpec)

/-- ITS FALSE NEIGHBOUR: 'it returns false'. Refute it at one input. -/
def pageReadsWrong : ChangeSpec := { name := "pageReads", fn := fun _ => fun
  | [d] => { results := [.lit (.bool false)], args := [d] }
  | _ => none }
def PageReadsWrongFalsely : Prop := pageReadsRow.holds Try.pinned (OpenSpec.ofChange pageReadsWrong)

/-- 'ringworklaw06.PageBack': WHATEVER THE INPUT: true; the input reads as it did. -/
def pageBackSpec : ChangeSpec := { name := "pageBack", fn := fun _ => fun
  | [d1, d2, d3] => { results := [.lit (.bool true)], args := [d1, d2, d3] }
  | _ => none }
def pageBackRow : OpenClaim := { program := "ytemglmcddaeedaa", sum := "628650acc60aace3ff05540e2402a620dacf6a18e9ca7dd3f286608885ad0eef", func := "ringwork/ringworklaw06.PageBack", spec := "pageBack", inPlace := ["slices.overlaps[ringwork/api.Cell]"], unfollowed := true, recurses := true, apart := false }
def PageBackSaid : Prop := pageBackRow.holds Try.pinned (OpenSpec.ofChange pageBackSpec)

/-- ITS FALSE NEIGHBOUR: 'it returns false'. Refute it at one input. -/
def pageBackWrong : ChangeSpec := { name := "pageBack", fn := fun _ => fun
  | [d1, d2, d3] => { results := [.lit (.bool false)], args := [d1, d2, d3] }
  | _ => none }
def PageBackWrongFalsely : Prop := pageBackRow.holds Try.pinned (OpenSpec.ofChange pageBackWrong)

/-- 'ringworklaw06.PageChanges': WHATEVER THE INPUT: true; the input reads as it did. -/
def pageChangesSpec : ChangeSpec := { name := "pageChanges", fn := fun _ => fun
  | [d1, d2, d3, d4, d5] => { results := [.lit (.bool true)], args := [d1, d2, d3, d4, d5] }
  | _ => none }
def pageChangesRow : OpenClaim := { program := "ytemglmcddaeedaa", sum := "628650acc60aace3ff05540e2402a620dacf6a18e9ca7dd3f286608885ad0eef", func := "ringwork/ringworklaw06.PageChanges", spec := "pageChanges", inPlace := ["slices.overlaps[ringwork/api.Cell]"], unfollowed := true, recurses := true, apart := false }
def PageChangesSaid : Prop := pageChangesRow.holds Try.pinned (OpenSpec.ofChange pageChangesSpec)

/-- ITS FALSE NEIGHBOUR: 'it returns false'. Refute it at one input. -/
def pageChangesWrong : ChangeSpec := { name := "pageChanges", fn := fun _ => fun
  | [d1, d2, d3, d4, d5] => { results := [.lit (.bool false)], args := [d1, d2, d3, d4, d5] }
  | _ => none }
def PageChangesWrongFalsely : Prop := pageChangesRow.holds Try.pinned (OpenSpec.ofChange pageChangesWrong)

/-- 'ringworklaw07.SpaceLoads': WHATEVER THE INPUT: true; the input reads as it did. -/
def spaceLoadsSpec : ChangeSpec := { name := "spaceLoads", fn := fun _ => fun
  | [d] => { results := [.lit (.bool true)], args := [d] }
  | _ => none }
def spaceLoadsRow : OpenClaim := { program := "ytemglmcddaeedaa", sum := "628650acc60aace3ff05540e2402a620dacf6a18e9ca7dd3f286608885ad0eef", func := "ringwork/ringworklaw07.SpaceLoads", spec := "spaceLoads", inPlace := ["slices.overlaps[ringwork/api.Cell]"], unfollowed := true, recurses := true, apart := false }
def SpaceLoadsSaid : Prop := spaceLoadsRow.holds Try.pinned (OpenSpec.ofChange spaceLoadsSpec)

/-- ITS FALSE NEIGHBOUR: 'it returns false'. Refute it at one input. -/
def spaceLoadsWrong : ChangeSpec := { name := "spaceLoads", fn := fun _ => fun
  | [d] => { results := [.lit (.bool false)], args := [d] }
  | _ => none }
def SpaceLoadsWrongFalsely : Prop := spaceLoadsRow.holds Try.pinned (OpenSpec.ofChange spaceLoadsWrong)

/-- 'ringworklaw08.PieceCuts': WHATEVER THE INPUT: true; the input reads as it did. -/
def pieceCutsSpec : ChangeSpec := { name := "pieceCuts", fn := fun _ => fun
  | [d1, d2, d3] => { results := [.lit (.bool true)], args := [d1, d2, d3] }
  | _ => none }
def pieceCutsRow : OpenClaim := { program := "ytemglmcddaeedaa", sum := "628650acc60aace3ff05540e2402a620dacf6a18e9ca7dd3f286608885ad0eef", func := "ringwork/ringworklaw08.PieceCuts", spec := "pieceCuts", inPlace := ["slices.overlaps[ringwork/api.Cell]"], unfollowed := true, recurses := true, apart := false }
def PieceCutsSaid : Prop := pieceCutsRow.holds Try.pinned (OpenSpec.ofChange pieceCutsSpec)

/-- ITS FALSE NEIGHBOUR: 'it returns false'. Refute it at one input. -/
def pieceCutsWrong : ChangeSpec := { name := "pieceCuts", fn := fun _ => fun
  | [d1, d2, d3] => { results := [.lit (.bool false)], args := [d1, d2, d3] }
  | _ => none }
def PieceCutsWrongFalsely : Prop := pieceCutsRow.holds Try.pinned (OpenSpec.ofChange pieceCutsWrong)

/- THE SECOND FORM. 'bulk': how many values and letters a reading holds, each counted each time it is reached (what is shared counts as often as it is met; a slice's spare places count too). A statement '..UptoSaid' is the law's where the arguments, and the package variables that the reading takes, are together of bulk at most 1048576: NARROWER than '..Said'. Prove '..Said' where nothing that the law and all that it calls make is longer than what came in: it says more and counts as full. Else prove '..UptoSaid'. A law counts once. -/
mutual
def uptoBulk {H : Type} : DataW H → Nat
  | .lit (.string bytes) => bytes.length + 1
  | .lit _ => 1
  | .nil => 1
  | .ptr d => uptoBulk d + 1
  | .slice elems spare => uptoBulkAll elems + uptoBulkAll spare + 1
  | .agg parts => uptoBulkAll parts + 1
  | .iface _ d => uptoBulk d + 1
  | .map entries => uptoBulkEntries entries + 1
  | .held _ => 1
def uptoBulkAll {H : Type} : List (DataW H) → Nat
  | [] => 0
  | d :: r => uptoBulk d + uptoBulkAll r
def uptoBulkEntries {H : Type} : List (Lit × DataW H) → Nat
  | [] => 0
  | x :: r => uptoBulkEntry x + uptoBulkEntries r
def uptoBulkEntry {H : Type} : Lit × DataW H → Nat
  | (.string bytes, d) => bytes.length + uptoBulk d + 1
  | (_, d) => uptoBulk d + 1
 end
def uptoSmall : (H : Type) → List (DataW H) → Bool := fun _ ds => decide (uptoBulkAll ds ≤ 1048576)
def OpenSpec.upto (s : _root_.Go.ChangeSpec) : _root_.Go.OpenSpec := { _root_.Go.OpenSpec.ofChange s with cond := some uptoSmall }

/-- 'ringworklaw06.PageDamage', WHERE WHAT IT READS IS OF BULK AT MOST 1048576: true; the input reads as it did. -/
def pageDamageUptoRow : OpenClaim := { program := "ytemglmcddaeedaa", sum := "628650acc60aace3ff05540e2402a620dacf6a18e9ca7dd3f286608885ad0eef", func := "ringwork/ringworklaw06.PageDamage", spec := "pageDamage", unfollowed := true, recurses := true, apart := false, narrowed := true }
def PageDamageUptoSaid : Prop := pageDamageUptoRow.holds Try.pinned (OpenSpec.upto pageDamageSpec)

/-- 'ringworklaw06.PageFills', WHERE WHAT IT READS IS OF BULK AT MOST 1048576: true; the input reads as it did. -/
def pageFillsUptoRow : OpenClaim := { program := "ytemglmcddaeedaa", sum := "628650acc60aace3ff05540e2402a620dacf6a18e9ca7dd3f286608885ad0eef", func := "ringwork/ringworklaw06.PageFills", spec := "pageFills", unfollowed := true, recurses := true, apart := false, narrowed := true }
def PageFillsUptoSaid : Prop := pageFillsUptoRow.holds Try.pinned (OpenSpec.upto pageFillsSpec)

/-- 'ringworklaw06.PageReads', WHERE WHAT IT READS IS OF BULK AT MOST 1048576: true; the input reads as it did. -/
def pageReadsUptoRow : OpenClaim := { program := "ytemglmcddaeedaa", sum := "628650acc60aace3ff05540e2402a620dacf6a18e9ca7dd3f286608885ad0eef", func := "ringwork/ringworklaw06.PageReads", spec := "pageReads", unfollowed := true, recurses := true, apart := false, narrowed := true }
def PageReadsUptoSaid : Prop := pageReadsUptoRow.holds Try.pinned (OpenSpec.upto pageReadsSpec)

/-- 'ringworklaw06.PageBack', WHERE WHAT IT READS IS OF BULK AT MOST 1048576: true; the input reads as it did. -/
def pageBackUptoRow : OpenClaim := { program := "ytemglmcddaeedaa", sum := "628650acc60aace3ff05540e2402a620dacf6a18e9ca7dd3f286608885ad0eef", func := "ringwork/ringworklaw06.PageBack", spec := "pageBack", inPlace := ["slices.overlaps[ringwork/api.Cell]"], unfollowed := true, recurses := true, apart := false, narrowed := true }
def PageBackUptoSaid : Prop := pageBackUptoRow.holds Try.pinned (OpenSpec.upto pageBackSpec)

/-- 'ringworklaw06.PageChanges', WHERE WHAT IT READS IS OF BULK AT MOST 1048576: true; the input reads as it did. -/
def pageChangesUptoRow : OpenClaim := { program := "ytemglmcddaeedaa", sum := "628650acc60aace3ff05540e2402a620dacf6a18e9ca7dd3f286608885ad0eef", func := "ringwork/ringworklaw06.PageChanges", spec := "pageChanges", inPlace := ["slices.overlaps[ringwork/api.Cell]"], unfollowed := true, recurses := true, apart := false, narrowed := true }
def PageChangesUptoSaid : Prop := pageChangesUptoRow.holds Try.pinned (OpenSpec.upto pageChangesSpec)

/-- 'ringworklaw07.SpaceLoads', WHERE WHAT IT READS IS OF BULK AT MOST 1048576: true; the input reads as it did. -/
def spaceLoadsUptoRow : OpenClaim := { program := "ytemglmcddaeedaa", sum := "628650acc60aace3ff05540e2402a620dacf6a18e9ca7dd3f286608885ad0eef", func := "ringwork/ringworklaw07.SpaceLoads", spec := "spaceLoads", inPlace := ["slices.overlaps[ringwork/api.Cell]"], unfollowed := true, recurses := true, apart := false, narrowed := true }
def SpaceLoadsUptoSaid : Prop := spaceLoadsUptoRow.holds Try.pinned (OpenSpec.upto spaceLoadsSpec)

/-- 'ringworklaw08.PieceCuts', WHERE WHAT IT READS IS OF BULK AT MOST 1048576: true; the input reads as it did. -/
def pieceCutsUptoRow : OpenClaim := { program := "ytemglmcddaeedaa", sum := "628650acc60aace3ff05540e2402a620dacf6a18e9ca7dd3f286608885ad0eef", func := "ringwork/ringworklaw08.PieceCuts", spec := "pieceCuts", inPlace := ["slices.overlaps[ringwork/api.Cell]"], unfollowed := true, recurses := true, apart := false, narrowed := true }
def PieceCutsUptoSaid : Prop := pieceCutsUptoRow.holds Try.pinned (OpenSpec.upto pieceCutsSpec)

end Rows
end Go.Proofs.Ytemglmcddaeedaa
