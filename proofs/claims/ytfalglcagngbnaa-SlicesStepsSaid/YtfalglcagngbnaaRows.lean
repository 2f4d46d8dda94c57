/-
  No cell of these rows narrows 'for every input' (looked for: loops, veiled, ifaces, maps, wideKeys, modest, calm, conditions, laid).
  DERIVED. THE GIVEN ROWS OF THIS SEAT. 6 by the template 'for every input the law returns true; each argument reads behind the call as it read before'; 0 by the template 'total and deterministic' (their statements: YtfalglcagngbnaaTotals.lean).
  GIVEN WITH THE SEED: the statements are not yours to turn. If you find one false, say at which input.
  Laid BY PROGRAM, IN A SANDBOX (cutbox-rows.mjs): the forced cells as the released guide's own fill.sh prints them over the translation b516343742585d48… (all of the seat's roots in one cut). By AI agents, Wed Nov 11 2026. No macro, syntax, notation, axiom, sorry.
-/
import Derived.Test.YtfalglcagngbnaaChecked
import GoSem.Claim
import GoSem.ClaimJoined
import GoSem.ClaimMapViews
import Derived.JoinedTies
import Derived.KernelRfl
namespace Go.Proofs.Ytfalglcagngbnaa
/- THE CELL 'sum', in the pinned program and in every row, IS THE sha256 OF THE DUMP (.gsa) THAT YtfalglcagngbnaaProg.lean LOADS. Nothing in Lean hashes anything: it is a label: what it is worth is what the hold of that sum in a sandbox is worth. -/
noncomputable def Try.pinned : Pinned := { name := "ytfalglcagngbnaa", sum := "b516343742585d4837cc3a3ac5fe46d223ce84b5c162be69fca4993b02444a5a", checked := Try.checked }
namespace Rows
def none {H : Type} : Left H := { results := [], args := [] }

/-- 'steadinglaw13.SlicesCounts': WHATEVER THE INPUT: true; the input reads as it did. -/
def slicesCountsSpec : ChangeSpec := { name := "slicesCounts", fn := fun _ => fun
  | [d] => { results := [.lit (.bool true)], args := [d] }
  | _ => none }
def slicesCountsRow : OpenClaim := { program := "ytfalglcagngbnaa", sum := "b516343742585d4837cc3a3ac5fe46d223ce84b5c162be69fca4993b02444a5a", func := "steading/steadinglaw13.SlicesCounts", spec := "slicesCounts", unfollowed := true, recurses := true, apart := false }
def SlicesCountsSaid : Prop := slicesCountsRow.holds Try.pinned (OpenSpec.ofChange slicesCountsSpec)

/-- ITS FALSE NEIGHBOUR: 'it returns false'. Refute it at one input. -/
def slicesCountsWrong : ChangeSpec := { name := "slicesCounts", fn := fun _ => fun
  | [d] => { results := [.lit (.bool false)], args := [d] }
  | _ => none }
def SlicesCountsWrongFalsely : Prop := slicesCountsRow.holds Try.pinned (OpenSpec.ofChange slicesCountsWrong)

/-- 'steadinglaw13.SlicesRounds': WHATEVER THE INPUT: true; the input reads as it did. -/
def slicesRoundsSpec : ChangeSpec := { name := "slicesRounds", fn := fun _ => fun
  | [d1, d2] => { results := [.lit (.bool true)], args := [d1, d2] }
  | _ => none }
def slicesRoundsRow : OpenClaim := { program := "ytfalglcagngbnaa", sum := "b516343742585d4837cc3a3ac5fe46d223ce84b5c162be69fca4993b02444a5a", func := "steading/steadinglaw13.SlicesRounds", spec := "slicesRounds", unfollowed := true, recurses := true, apart := false }
def SlicesRoundsSaid : Prop := slicesRoundsRow.holds Try.pinned (OpenSpec.ofChange slicesRoundsSpec)

/-- ITS FALSE NEIGHBOUR: 'it returns false'. Refute it at one input. -/
def slicesRoundsWrong : ChangeSpec := { name := "slicesRounds", fn := fun _ => fun
  | [d1, d2] => { results := [.lit (.bool false)], args := [d1, d2] }
  | _ => none }
def SlicesRoundsWrongFalsely : Prop := slicesRoundsRow.holds Try.pinned (OpenSpec.ofChange slicesRoundsWrong)

/-- 'steadinglaw13.SlicesApart': WHATEVER THE INPUT: true; the input reads as it did. -/
def slicesApartSpec : ChangeSpec := { name := "slicesApart", fn := fun _ => fun
  | [d1, d2] => { results := [.lit (.bool true)], args := [d1, d2] }
  | _ => none }
def slicesApartRow : OpenClaim := { program := "ytfalglcagngbnaa", sum := "b516343742585d4837cc3a3ac5fe46d223ce84b5c162be69fca4993b02444a5a", func := "steading/steadinglaw13.SlicesApart", spec := "slicesApart", unfollowed := true, recurses := true, apart := false }
def SlicesApartSaid : Prop := slicesApartRow.holds Try.pinned (OpenSpec.ofChange slicesApartSpec)

/-- ITS FALSE NEIGHBOUR: 'it returns false'. Refute it at one input. -/
def slicesApartWrong : ChangeSpec := { name := "slicesApart", fn := fun _ => fun
  | [d1, d2] => { results := [.lit (.bool false)], args := [d1, d2] }
  | _ => none }
def SlicesApartWrongFalsely : Prop := slicesApartRow.holds Try.pinned (OpenSpec.ofChange slicesApartWrong)

/-- 'steadinglaw13.SlicesSame': WHATEVER THE INPUT: true; the input reads as it did. -/
def slicesSameSpec : ChangeSpec := { name := "slicesSame", fn := fun _ => fun
  | [d1, d2] => { results := [.lit (.bool true)], args := [d1, d2] }
  | _ => none }
def slicesSameRow : OpenClaim := { program := "ytfalglcagngbnaa", sum := "b516343742585d4837cc3a3ac5fe46d223ce84b5c162be69fca4993b02444a5a", func := "steading/steadinglaw13.SlicesSame", spec := "slicesSame", unfollowed := true, recurses := true, apart := false }
def SlicesSameSaid : Prop := slicesSameRow.holds Try.pinned (OpenSpec.ofChange slicesSameSpec)

/-- ITS FALSE NEIGHBOUR: 'it returns false'. Refute it at one input. -/
def slicesSameWrong : ChangeSpec := { name := "slicesSame", fn := fun _ => fun
  | [d1, d2] => { results := [.lit (.bool false)], args := [d1, d2] }
  | _ => none }
def SlicesSameWrongFalsely : Prop := slicesSameRow.holds Try.pinned (OpenSpec.ofChange slicesSameWrong)

/-- 'steadinglaw13.SlicesSteps': WHATEVER THE INPUT: true; the input reads as it did. -/
def slicesStepsSpec : ChangeSpec := { name := "slicesSteps", fn := fun _ => fun
  | [d1, d2] => { results := [.lit (.bool true)], args := [d1, d2] }
  | _ => none }
def slicesStepsRow : OpenClaim := { program := "ytfalglcagngbnaa", sum := "b516343742585d4837cc3a3ac5fe46d223ce84b5c162be69fca4993b02444a5a", func := "steading/steadinglaw13.SlicesSteps", spec := "slicesSteps", unfollowed := true, recurses := true, apart := false }
def SlicesStepsSaid : Prop := slicesStepsRow.holds Try.pinned (OpenSpec.ofChange slicesStepsSpec)

/-- ITS FALSE NEIGHBOUR: 'it returns false'. Refute it at one input. -/
def slicesStepsWrong : ChangeSpec := { name := "slicesSteps", fn := fun _ => fun
  | [d1, d2] => { results := [.lit (.bool false)], args := [d1, d2] }
  | _ => none }
def SlicesStepsWrongFalsely : Prop := slicesStepsRow.holds Try.pinned (OpenSpec.ofChange slicesStepsWrong)

/-- 'steadinglaw13.SlicesNil': WHATEVER THE INPUT: true; the input reads as it did. -/
def slicesNilSpec : ChangeSpec := { name := "slicesNil", fn := fun _ => fun
  | [] => { results := [.lit (.bool true)], args := [] }
  | _ => none }
def slicesNilRow : OpenClaim := { program := "ytfalglcagngbnaa", sum := "b516343742585d4837cc3a3ac5fe46d223ce84b5c162be69fca4993b02444a5a", func := "steading/steadinglaw13.SlicesNil", spec := "slicesNil", unfollowed := true, recurses := true, apart := false }
def SlicesNilSaid : Prop := slicesNilRow.holds Try.pinned (OpenSpec.ofChange slicesNilSpec)

/-- ITS FALSE NEIGHBOUR: 'it returns false'. Refute it at one input. -/
def slicesNilWrong : ChangeSpec := { name := "slicesNil", fn := fun _ => fun
  | [] => { results := [.lit (.bool false)], args := [] }
  | _ => none }
def SlicesNilWrongFalsely : Prop := slicesNilRow.holds Try.pinned (OpenSpec.ofChange slicesNilWrong)

/- THE SECOND FORM. 'bulk': how many values and letters a reading holds, each counted each time it is reached (what is shared counts as often as it is met; a slice's spare places count too). A statement '..UptoSaid' is the law's where the arguments, and the package variables that the reading takes, are together of bulk at most 1048576: NARROWER than '..Said'. Prove '..Said' where nothing that the law and all that it calls make is longer than what came in: it says more and counts as full. Else prove '..UptoSaid'. A law counts once. -/
mutual
def uptoBulk {H : Type} : DataW H → Nat
  | .lit (.string bytes) => bytes.length + 1
  | .lit _ => 1
  | .nil => 1
  | .ptr d => uptoBulk d + 1
  | .slice elems spare => uptoBulkAll elems + uptoBulkAll spare + 1
  | .agg parts => uptoBulkAll parts + 1
  | .iface _ d => uptoBulk d + 1
  | .map entries => uptoBulkEntries entries + 1
  | .held _ => 1
def uptoBulkAll {H : Type} : List (DataW H) → Nat
  | [] => 0
  | d :: r => uptoBulk d + uptoBulkAll r
def uptoBulkEntries {H : Type} : List (Lit × DataW H) → Nat
  | [] => 0
  | x :: r => uptoBulkEntry x + uptoBulkEntries r
def uptoBulkEntry {H : Type} : Lit × DataW H → Nat
  | (.string bytes, d) => bytes.length + uptoBulk d + 1
  | (_, d) => uptoBulk d + 1
 end
def uptoSmall : (H : Type) → List (DataW H) → Bool := fun _ ds => decide (uptoBulkAll ds ≤ 1048576)
def OpenSpec.upto (s : _root_.Go.ChangeSpec) : _root_.Go.OpenSpec := { _root_.Go.OpenSpec.ofChange s with cond := some uptoSmall }

/-- 'steadinglaw13.SlicesCounts', WHERE WHAT IT READS IS OF BULK AT MOST 1048576: true; the input reads as it did. -/
def slicesCountsUptoRow : OpenClaim := { program := "ytfalglcagngbnaa", sum := "b516343742585d4837cc3a3ac5fe46d223ce84b5c162be69fca4993b02444a5a", func := "steading/steadinglaw13.SlicesCounts", spec := "slicesCounts", unfollowed := true, recurses := true, apart := false, narrowed := true }
def SlicesCountsUptoSaid : Prop := slicesCountsUptoRow.holds Try.pinned (OpenSpec.upto slicesCountsSpec)

/-- 'steadinglaw13.SlicesRounds', WHERE WHAT IT READS IS OF BULK AT MOST 1048576: true; the input reads as it did. -/
def slicesRoundsUptoRow : OpenClaim := { program := "ytfalglcagngbnaa", sum := "b516343742585d4837cc3a3ac5fe46d223ce84b5c162be69fca4993b02444a5a", func := "steading/steadinglaw13.SlicesRounds", spec := "slicesRounds", unfollowed := true, recurses := true, apart := false, narrowed := true }
def SlicesRoundsUptoSaid : Prop := slicesRoundsUptoRow.holds Try.pinned (OpenSpec.upto slicesRoundsSpec)

/-- 'steadinglaw13.SlicesApart', WHERE WHAT IT READS IS OF BULK AT MOST 1048576: true; the input reads as it did. -/
def slicesApartUptoRow : OpenClaim := { program := "ytfalglcagngbnaa", sum := "b516343742585d4837cc3a3ac5fe46d223ce84b5c162be69fca4993b02444a5a", func := "steading/steadinglaw13.SlicesApart", spec := "slicesApart", unfollowed := true, recurses := true, apart := false, narrowed := true }
def SlicesApartUptoSaid : Prop := slicesApartUptoRow.holds Try.pinned (OpenSpec.upto slicesApartSpec)

/-- 'steadinglaw13.SlicesSame', WHERE WHAT IT READS IS OF BULK AT MOST 1048576: true; the input reads as it did. -/
def slicesSameUptoRow : OpenClaim := { program := "ytfalglcagngbnaa", sum := "b516343742585d4837cc3a3ac5fe46d223ce84b5c162be69fca4993b02444a5a", func := "steading/steadinglaw13.SlicesSame", spec := "slicesSame", unfollowed := true, recurses := true, apart := false, narrowed := true }
def SlicesSameUptoSaid : Prop := slicesSameUptoRow.holds Try.pinned (OpenSpec.upto slicesSameSpec)

/-- 'steadinglaw13.SlicesSteps', WHERE WHAT IT READS IS OF BULK AT MOST 1048576: true; the input reads as it did. -/
def slicesStepsUptoRow : OpenClaim := { program := "ytfalglcagngbnaa", sum := "b516343742585d4837cc3a3ac5fe46d223ce84b5c162be69fca4993b02444a5a", func := "steading/steadinglaw13.SlicesSteps", spec := "slicesSteps", unfollowed := true, recurses := true, apart := false, narrowed := true }
def SlicesStepsUptoSaid : Prop := slicesStepsUptoRow.holds Try.pinned (OpenSpec.upto slicesStepsSpec)

/-- 'steadinglaw13.SlicesNil', WHERE WHAT IT READS IS OF BULK AT MOST 1048576: true; the input reads as it did. -/
def slicesNilUptoRow : OpenClaim := { program := "ytfalglcagngbnaa", sum := "b516343742585d4837cc3a3ac5fe46d223ce84b5c162be69fca4993b02444a5a", func := "steading/steadinglaw13.SlicesNil", spec := "slicesNil", unfollowed := true, recurses := true, apart := false, narrowed := true }
def SlicesNilUptoSaid : Prop := slicesNilUptoRow.holds Try.pinned (OpenSpec.upto slicesNilSpec)

end Rows
end Go.Proofs.Ytfalglcagngbnaa
