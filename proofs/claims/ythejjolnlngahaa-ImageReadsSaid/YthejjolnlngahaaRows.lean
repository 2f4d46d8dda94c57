/-
  No cell of these rows narrows 'for every input' (looked for: loops, veiled, ifaces, maps, wideKeys, modest, calm, conditions, laid).
  DERIVED. THE GIVEN ROWS OF THIS SEAT. 7 by the template 'for every input the law returns true; each argument reads behind the call as it read before'; 0 by the template 'total and deterministic' (their statements: YthejjolnlngahaaTotals.lean).
  GIVEN WITH THE SEED: the statements are not yours to turn. If you find one false, say at which input.
  Laid BY PROGRAM, IN A SANDBOX (cutbox-rows.mjs): the forced cells as the released guide's own fill.sh prints them over the translation 98fa7ceba5677c1c… (all of the seat's roots in one cut). By AI agents, Wed Nov 11 2026. No macro, syntax, notation, axiom, sorry.
-/
import Derived.Test.YthejjolnlngahaaChecked
import GoSem.Claim
import GoSem.ClaimJoined
import GoSem.ClaimMapViews
import Derived.JoinedTies
import Derived.KernelRfl
namespace Go.Proofs.Ythejjolnlngahaa
/- THE CELL 'sum', in the pinned program and in every row, IS THE sha256 OF THE DUMP (.gsa) THAT YthejjolnlngahaaProg.lean LOADS. Nothing in Lean hashes anything: it is a label: what it is worth is what the hold of that sum in a sandbox is worth. -/
noncomputable def Try.pinned : Pinned := { name := "ythejjolnlngahaa", sum := "98fa7ceba5677c1cde3f7b2e7c2e5e29714a326eafd3606095ff78e9c18e87e1", checked := Try.checked }
namespace Rows
def none {H : Type} : Left H := { results := [], args := [] }

/-- 'steadinglaw17.ImageMoves': WHATEVER THE INPUT: true; the input reads as it did. -/
def imageMovesSpec : ChangeSpec := { name := "imageMoves", fn := fun _ => fun
  | [d1, d2] => { results := [.lit (.bool true)], args := [d1, d2] }
  | _ => none }
def imageMovesRow : OpenClaim := { program := "ythejjolnlngahaa", sum := "98fa7ceba5677c1cde3f7b2e7c2e5e29714a326eafd3606095ff78e9c18e87e1", func := "steading/steadinglaw17.ImageMoves", spec := "imageMoves", unfollowed := true, recurses := true, apart := false }
def ImageMovesSaid : Prop := imageMovesRow.holds Try.pinned (OpenSpec.ofChange imageMovesSpec)

/-- ITS FALSE NEIGHBOUR: 'it returns false'. Refute it at one input. -/
def imageMovesWrong : ChangeSpec := { name := "imageMoves", fn := fun _ => fun
  | [d1, d2] => { results := [.lit (.bool false)], args := [d1, d2] }
  | _ => none }
def ImageMovesWrongFalsely : Prop := imageMovesRow.holds Try.pinned (OpenSpec.ofChange imageMovesWrong)

/-- 'steadinglaw17.ImageOf': WHATEVER THE INPUT: true; the input reads as it did. -/
def imageOfSpec : ChangeSpec := { name := "imageOf", fn := fun _ => fun
  | [d1, d2, d3] => { results := [.lit (.bool true)], args := [d1, d2, d3] }
  | _ => none }
def imageOfRow : OpenClaim := { program := "ythejjolnlngahaa", sum := "98fa7ceba5677c1cde3f7b2e7c2e5e29714a326eafd3606095ff78e9c18e87e1", func := "steading/steadinglaw17.ImageOf", spec := "imageOf", unfollowed := true, recurses := true, apart := false }
def ImageOfSaid : Prop := imageOfRow.holds Try.pinned (OpenSpec.ofChange imageOfSpec)

/-- ITS FALSE NEIGHBOUR: 'it returns false'. Refute it at one input. -/
def imageOfWrong : ChangeSpec := { name := "imageOf", fn := fun _ => fun
  | [d1, d2, d3] => { results := [.lit (.bool false)], args := [d1, d2, d3] }
  | _ => none }
def ImageOfWrongFalsely : Prop := imageOfRow.holds Try.pinned (OpenSpec.ofChange imageOfWrong)

/-- 'steadinglaw17.ImageBounds': WHATEVER THE INPUT: true; the input reads as it did. -/
def imageBoundsSpec : ChangeSpec := { name := "imageBounds", fn := fun _ => fun
  | [] => { results := [.lit (.bool true)], args := [] }
  | _ => none }
def imageBoundsRow : OpenClaim := { program := "ythejjolnlngahaa", sum := "98fa7ceba5677c1cde3f7b2e7c2e5e29714a326eafd3606095ff78e9c18e87e1", func := "steading/steadinglaw17.ImageBounds", spec := "imageBounds", unfollowed := true, recurses := true, apart := false }
def ImageBoundsSaid : Prop := imageBoundsRow.holds Try.pinned (OpenSpec.ofChange imageBoundsSpec)

/-- ITS FALSE NEIGHBOUR: 'it returns false'. Refute it at one input. -/
def imageBoundsWrong : ChangeSpec := { name := "imageBounds", fn := fun _ => fun
  | [] => { results := [.lit (.bool false)], args := [] }
  | _ => none }
def ImageBoundsWrongFalsely : Prop := imageBoundsRow.holds Try.pinned (OpenSpec.ofChange imageBoundsWrong)

/-- 'steadinglaw17.ImagePages': WHATEVER THE INPUT: true; the input reads as it did. -/
def imagePagesSpec : ChangeSpec := { name := "imagePages", fn := fun _ => fun
  | [d1, d2, d3] => { results := [.lit (.bool true)], args := [d1, d2, d3] }
  | _ => none }
def imagePagesRow : OpenClaim := { program := "ythejjolnlngahaa", sum := "98fa7ceba5677c1cde3f7b2e7c2e5e29714a326eafd3606095ff78e9c18e87e1", func := "steading/steadinglaw17.ImagePages", spec := "imagePages", unfollowed := true, recurses := true, apart := false }
def ImagePagesSaid : Prop := imagePagesRow.holds Try.pinned (OpenSpec.ofChange imagePagesSpec)

/-- ITS FALSE NEIGHBOUR: 'it returns false'. Refute it at one input. -/
def imagePagesWrong : ChangeSpec := { name := "imagePages", fn := fun _ => fun
  | [d1, d2, d3] => { results := [.lit (.bool false)], args := [d1, d2, d3] }
  | _ => none }
def ImagePagesWrongFalsely : Prop := imagePagesRow.holds Try.pinned (OpenSpec.ofChange imagePagesWrong)

/-- 'steadinglaw17.ImageBytes': WHATEVER THE INPUT: true; the input reads as it did. -/
def imageBytesSpec : ChangeSpec := { name := "imageBytes", fn := fun _ => fun
  | [d] => { results := [.lit (.bool true)], args := [d] }
  | _ => none }
def imageBytesRow : OpenClaim := { program := "ythejjolnlngahaa", sum := "98fa7ceba5677c1cde3f7b2e7c2e5e29714a326eafd3606095ff78e9c18e87e1", func := "steading/steadinglaw17.ImageBytes", spec := "imageBytes", unfollowed := true, recurses := true, apart := false }
def ImageBytesSaid : Prop := imageBytesRow.holds Try.pinned (OpenSpec.ofChange imageBytesSpec)

/-- ITS FALSE NEIGHBOUR: 'it returns false'. Refute it at one input. -/
def imageBytesWrong : ChangeSpec := { name := "imageBytes", fn := fun _ => fun
  | [d] => { results := [.lit (.bool false)], args := [d] }
  | _ => none }
def ImageBytesWrongFalsely : Prop := imageBytesRow.holds Try.pinned (OpenSpec.ofChange imageBytesWrong)

/-- 'steadinglaw17.ImageReads': WHATEVER THE INPUT: true; the input reads as it did. -/
def imageReadsSpec : ChangeSpec := { name := "imageReads", fn := fun _ => fun
  | [d] => { results := [.lit (.bool true)], args := [d] }
  | _ => none }
def imageReadsRow : OpenClaim := { program := "ythejjolnlngahaa", sum := "98fa7ceba5677c1cde3f7b2e7c2e5e29714a326eafd3606095ff78e9c18e87e1", func := "steading/steadinglaw17.ImageReads", spec := "imageReads", unfollowed := true, recurses := true, apart := false }
def ImageReadsSaid : Prop := imageReadsRow.holds Try.pinned (OpenSpec.ofChange imageReadsSpec)

/-- ITS FALSE NEIGHBOUR: 'it returns false'. Refute it at one input. -/
def imageReadsWrong : ChangeSpec := { name := "imageReads", fn := fun _ => fun
  | [d] => { results := [.lit (.bool false)], args := [d] }
  | _ => none }
def ImageReadsWrongFalsely : Prop := imageReadsRow.holds Try.pinned (OpenSpec.ofChange imageReadsWrong)

/-- 'steadinglaw17.ImageBack': WHATEVER THE INPUT: true; the input reads as it did. -/
def imageBackSpec : ChangeSpec := { name := "imageBack", fn := fun _ => fun
  | [d1, d2, d3] => { results := [.lit (.bool true)], args := [d1, d2, d3] }
  | _ => none }
def imageBackRow : OpenClaim := { program := "ythejjolnlngahaa", sum := "98fa7ceba5677c1cde3f7b2e7c2e5e29714a326eafd3606095ff78e9c18e87e1", func := "steading/steadinglaw17.ImageBack", spec := "imageBack", unfollowed := true, recurses := true, apart := false }
def ImageBackSaid : Prop := imageBackRow.holds Try.pinned (OpenSpec.ofChange imageBackSpec)

/-- ITS FALSE NEIGHBOUR: 'it returns false'. Refute it at one input. -/
def imageBackWrong : ChangeSpec := { name := "imageBack", fn := fun _ => fun
  | [d1, d2, d3] => { results := [.lit (.bool false)], args := [d1, d2, d3] }
  | _ => none }
def ImageBackWrongFalsely : Prop := imageBackRow.holds Try.pinned (OpenSpec.ofChange imageBackWrong)

/- THE SECOND FORM. 'bulk': how many values and letters a reading holds, each counted each time it is reached (what is shared counts as often as it is met; a slice's spare places count too). A statement '..UptoSaid' is the law's where the arguments, and the package variables that the reading takes, are together of bulk at most 1048576: NARROWER than '..Said'. Prove '..Said' where nothing that the law and all that it calls make is longer than what came in: it says more and counts as full. Else prove '..UptoSaid'. A law counts once. -/
mutual
def uptoBulk {H : Type} : DataW H → Nat
  | .lit (.string bytes) => bytes.length + 1
  | .lit _ => 1
  | .nil => 1
  | .ptr d => uptoBulk d + 1
  | .slice elems spare => uptoBulkAll elems + uptoBulkAll spare + 1
  | .agg parts => uptoBulkAll parts + 1
  | .iface _ d => uptoBulk d + 1
  | .map entries => uptoBulkEntries entries + 1
  | .held _ => 1
def uptoBulkAll {H : Type} : List (DataW H) → Nat
  | [] => 0
  | d :: r => uptoBulk d + uptoBulkAll r
def uptoBulkEntries {H : Type} : List (Lit × DataW H) → Nat
  | [] => 0
  | x :: r => uptoBulkEntry x + uptoBulkEntries r
def uptoBulkEntry {H : Type} : Lit × DataW H → Nat
  | (.string bytes, d) => bytes.length + uptoBulk d + 1
  | (_, d) => uptoBulk d + 1
 end
def uptoSmall : (H : Type) → List (DataW H) → Bool := fun _ ds => decide (uptoBulkAll ds ≤ 1048576)
def OpenSpec.upto (s : _root_.Go.ChangeSpec) : _root_.Go.OpenSpec := { _root_.Go.OpenSpec.ofChange s with cond := some uptoSmall }

/-- 'steadinglaw17.ImageMoves', WHERE WHAT IT READS IS OF BULK AT MOST 1048576: true; the input reads as it did. -/
def imageMovesUptoRow : OpenClaim := { program := "ythejjolnlngahaa", sum := "98fa7ceba5677c1cde3f7b2e7c2e5e29714a326eafd3606095ff78e9c18e87e1", func := "steading/steadinglaw17.ImageMoves", spec := "imageMoves", unfollowed := true, recurses := true, apart := false, narrowed := true }
def ImageMovesUptoSaid : Prop := imageMovesUptoRow.holds Try.pinned (OpenSpec.upto imageMovesSpec)

/-- 'steadinglaw17.ImageOf', WHERE WHAT IT READS IS OF BULK AT MOST 1048576: true; the input reads as it did. -/
def imageOfUptoRow : OpenClaim := { program := "ythejjolnlngahaa", sum := "98fa7ceba5677c1cde3f7b2e7c2e5e29714a326eafd3606095ff78e9c18e87e1", func := "steading/steadinglaw17.ImageOf", spec := "imageOf", unfollowed := true, recurses := true, apart := false, narrowed := true }
def ImageOfUptoSaid : Prop := imageOfUptoRow.holds Try.pinned (OpenSpec.upto imageOfSpec)

/-- 'steadinglaw17.ImageBounds', WHERE WHAT IT READS IS OF BULK AT MOST 1048576: true; the input reads as it did. -/
def imageBoundsUptoRow : OpenClaim := { program := "ythejjolnlngahaa", sum := "98fa7ceba5677c1cde3f7b2e7c2e5e29714a326eafd3606095ff78e9c18e87e1", func := "steading/steadinglaw17.ImageBounds", spec := "imageBounds", unfollowed := true, recurses := true, apart := false, narrowed := true }
def ImageBoundsUptoSaid : Prop := imageBoundsUptoRow.holds Try.pinned (OpenSpec.upto imageBoundsSpec)

/-- 'steadinglaw17.ImagePages', WHERE WHAT IT READS IS OF BULK AT MOST 1048576: true; the input reads as it did. -/
def imagePagesUptoRow : OpenClaim := { program := "ythejjolnlngahaa", sum := "98fa7ceba5677c1cde3f7b2e7c2e5e29714a326eafd3606095ff78e9c18e87e1", func := "steading/steadinglaw17.ImagePages", spec := "imagePages", unfollowed := true, recurses := true, apart := false, narrowed := true }
def ImagePagesUptoSaid : Prop := imagePagesUptoRow.holds Try.pinned (OpenSpec.upto imagePagesSpec)

/-- 'steadinglaw17.ImageBytes', WHERE WHAT IT READS IS OF BULK AT MOST 1048576: true; the input reads as it did. -/
def imageBytesUptoRow : OpenClaim := { program := "ythejjolnlngahaa", sum := "98fa7ceba5677c1cde3f7b2e7c2e5e29714a326eafd3606095ff78e9c18e87e1", func := "steading/steadinglaw17.ImageBytes", spec := "imageBytes", unfollowed := true, recurses := true, apart := false, narrowed := true }
def ImageBytesUptoSaid : Prop := imageBytesUptoRow.holds Try.pinned (OpenSpec.upto imageBytesSpec)

/-- 'steadinglaw17.ImageReads', WHERE WHAT IT READS IS OF BULK AT MOST 1048576: true; the input reads as it did. -/
def imageReadsUptoRow : OpenClaim := { program := "ythejjolnlngahaa", sum := "98fa7ceba5677c1cde3f7b2e7c2e5e29714a326eafd3606095ff78e9c18e87e1", func := "steading/steadinglaw17.ImageReads", spec := "imageReads", unfollowed := true, recurses := true, apart := false, narrowed := true }
def ImageReadsUptoSaid : Prop := imageReadsUptoRow.holds Try.pinned (OpenSpec.upto imageReadsSpec)

/-- 'steadinglaw17.ImageBack', WHERE WHAT IT READS IS OF BULK AT MOST 1048576: true; the input reads as it did. -/
def imageBackUptoRow : OpenClaim := { program := "ythejjolnlngahaa", sum := "98fa7ceba5677c1cde3f7b2e7c2e5e29714a326eafd3606095ff78e9c18e87e1", func := "steading/steadinglaw17.ImageBack", spec := "imageBack", unfollowed := true, recurses := true, apart := false, narrowed := true }
def ImageBackUptoSaid : Prop := imageBackUptoRow.holds Try.pinned (OpenSpec.upto imageBackSpec)

end Rows
end Go.Proofs.Ythejjolnlngahaa
