/-
  No cell of these rows narrows 'for every input' (looked for: loops, veiled, ifaces, maps, wideKeys, modest, calm, conditions, laid).
  DERIVED. THE GIVEN ROWS OF THIS SEAT. 6 by the template 'for every input the law returns true; each argument reads behind the call as it read before'; 0 by the template 'total and deterministic' (their statements: YtkabjomhnddnoaaTotals.lean).
  GIVEN WITH THE SEED: the statements are not yours to turn. If you find one false, say at which input.
  Laid BY PROGRAM, IN A SANDBOX (cutbox-rows.mjs): the forced cells as the released guide's own fill.sh prints them over the translation 06efef59774f76fe… (all of the seat's roots in one cut). By AI agents, Wed Nov 11 2026. No macro, syntax, notation, axiom, sorry.
-/
import Derived.Test.YtkabjomhnddnoaaChecked
import GoSem.Claim
import GoSem.ClaimJoined
import GoSem.ClaimMapViews
import Derived.JoinedTies
import Derived.KernelRfl
namespace Go.Proofs.Ytkabjomhnddnoaa
/- THE CELL 'sum', in the pinned program and in every row, IS THE sha256 OF THE DUMP (.gsa) THAT YtkabjomhnddnoaaProg.lean LOADS. Nothing in Lean hashes anything: it is a label: what it is worth is what the hold of that sum in a sandbox is worth. -/
noncomputable def Try.pinned : Pinned := { name := "ytkabjomhnddnoaa", sum := "06efef59774f76fe4e9cfc5240b27f8e58e24a7e4e64cf8d8684c06a1080cf36", checked := Try.checked }
namespace Rows
def none {H : Type} : Left H := { results := [], args := [] }

/-- 'steadinglaw23.ProcsOnce': WHATEVER THE INPUT: true; the input reads as it did. -/
def procsOnceSpec : ChangeSpec := { name := "procsOnce", fn := fun _ => fun
  | [d] => { results := [.lit (.bool true)], args := [d] }
  | _ => none }
def procsOnceRow : OpenClaim := { program := "ytkabjomhnddnoaa", sum := "06efef59774f76fe4e9cfc5240b27f8e58e24a7e4e64cf8d8684c06a1080cf36", func := "steading/steadinglaw23.ProcsOnce", spec := "procsOnce", unfollowed := true, recurses := true, apart := false }
def ProcsOnceSaid : Prop := procsOnceRow.holds Try.pinned (OpenSpec.ofChange procsOnceSpec)

/-- ITS FALSE NEIGHBOUR: 'it returns false'. Refute it at one input. -/
def procsOnceWrong : ChangeSpec := { name := "procsOnce", fn := fun _ => fun
  | [d] => { results := [.lit (.bool false)], args := [d] }
  | _ => none }
def ProcsOnceWrongFalsely : Prop := procsOnceRow.holds Try.pinned (OpenSpec.ofChange procsOnceWrong)

/-- 'steadinglaw23.ProcsSame': WHATEVER THE INPUT: true; the input reads as it did. -/
def procsSameSpec : ChangeSpec := { name := "procsSame", fn := fun _ => fun
  | [d1, d2] => { results := [.lit (.bool true)], args := [d1, d2] }
  | _ => none }
def procsSameRow : OpenClaim := { program := "ytkabjomhnddnoaa", sum := "06efef59774f76fe4e9cfc5240b27f8e58e24a7e4e64cf8d8684c06a1080cf36", func := "steading/steadinglaw23.ProcsSame", spec := "procsSame", unfollowed := true, recurses := true, apart := false }
def ProcsSameSaid : Prop := procsSameRow.holds Try.pinned (OpenSpec.ofChange procsSameSpec)

/-- ITS FALSE NEIGHBOUR: 'it returns false'. Refute it at one input. -/
def procsSameWrong : ChangeSpec := { name := "procsSame", fn := fun _ => fun
  | [d1, d2] => { results := [.lit (.bool false)], args := [d1, d2] }
  | _ => none }
def ProcsSameWrongFalsely : Prop := procsSameRow.holds Try.pinned (OpenSpec.ofChange procsSameWrong)

/-- 'steadinglaw23.ProcsGroups': WHATEVER THE INPUT: true; the input reads as it did. -/
def procsGroupsSpec : ChangeSpec := { name := "procsGroups", fn := fun _ => fun
  | [d1, d2, d3] => { results := [.lit (.bool true)], args := [d1, d2, d3] }
  | _ => none }
def procsGroupsRow : OpenClaim := { program := "ytkabjomhnddnoaa", sum := "06efef59774f76fe4e9cfc5240b27f8e58e24a7e4e64cf8d8684c06a1080cf36", func := "steading/steadinglaw23.ProcsGroups", spec := "procsGroups", unfollowed := true, recurses := true, apart := false }
def ProcsGroupsSaid : Prop := procsGroupsRow.holds Try.pinned (OpenSpec.ofChange procsGroupsSpec)

/-- ITS FALSE NEIGHBOUR: 'it returns false'. Refute it at one input. -/
def procsGroupsWrong : ChangeSpec := { name := "procsGroups", fn := fun _ => fun
  | [d1, d2, d3] => { results := [.lit (.bool false)], args := [d1, d2, d3] }
  | _ => none }
def ProcsGroupsWrongFalsely : Prop := procsGroupsRow.holds Try.pinned (OpenSpec.ofChange procsGroupsWrong)

/-- 'steadinglaw23.ProcsParents': WHATEVER THE INPUT: true; the input reads as it did. -/
def procsParentsSpec : ChangeSpec := { name := "procsParents", fn := fun _ => fun
  | [d] => { results := [.lit (.bool true)], args := [d] }
  | _ => none }
def procsParentsRow : OpenClaim := { program := "ytkabjomhnddnoaa", sum := "06efef59774f76fe4e9cfc5240b27f8e58e24a7e4e64cf8d8684c06a1080cf36", func := "steading/steadinglaw23.ProcsParents", spec := "procsParents", unfollowed := true, recurses := true, apart := false }
def ProcsParentsSaid : Prop := procsParentsRow.holds Try.pinned (OpenSpec.ofChange procsParentsSpec)

/-- ITS FALSE NEIGHBOUR: 'it returns false'. Refute it at one input. -/
def procsParentsWrong : ChangeSpec := { name := "procsParents", fn := fun _ => fun
  | [d] => { results := [.lit (.bool false)], args := [d] }
  | _ => none }
def ProcsParentsWrongFalsely : Prop := procsParentsRow.holds Try.pinned (OpenSpec.ofChange procsParentsWrong)

/-- 'steadinglaw23.ProcsNil': WHATEVER THE INPUT: true; the input reads as it did. -/
def procsNilSpec : ChangeSpec := { name := "procsNil", fn := fun _ => fun
  | [] => { results := [.lit (.bool true)], args := [] }
  | _ => none }
def procsNilRow : OpenClaim := { program := "ytkabjomhnddnoaa", sum := "06efef59774f76fe4e9cfc5240b27f8e58e24a7e4e64cf8d8684c06a1080cf36", func := "steading/steadinglaw23.ProcsNil", spec := "procsNil", unfollowed := true, recurses := true, apart := false }
def ProcsNilSaid : Prop := procsNilRow.holds Try.pinned (OpenSpec.ofChange procsNilSpec)

/-- ITS FALSE NEIGHBOUR: 'it returns false'. Refute it at one input. -/
def procsNilWrong : ChangeSpec := { name := "procsNil", fn := fun _ => fun
  | [] => { results := [.lit (.bool false)], args := [] }
  | _ => none }
def ProcsNilWrongFalsely : Prop := procsNilRow.holds Try.pinned (OpenSpec.ofChange procsNilWrong)

/-- 'steadinglaw23.ProcsSteps': WHATEVER THE INPUT: true; the input reads as it did. -/
def procsStepsSpec : ChangeSpec := { name := "procsSteps", fn := fun _ => fun
  | [d1, d2] => { results := [.lit (.bool true)], args := [d1, d2] }
  | _ => none }
def procsStepsRow : OpenClaim := { program := "ytkabjomhnddnoaa", sum := "06efef59774f76fe4e9cfc5240b27f8e58e24a7e4e64cf8d8684c06a1080cf36", func := "steading/steadinglaw23.ProcsSteps", spec := "procsSteps", unfollowed := true, recurses := true, apart := false }
def ProcsStepsSaid : Prop := procsStepsRow.holds Try.pinned (OpenSpec.ofChange procsStepsSpec)

/-- ITS FALSE NEIGHBOUR: 'it returns false'. Refute it at one input. -/
def procsStepsWrong : ChangeSpec := { name := "procsSteps", fn := fun _ => fun
  | [d1, d2] => { results := [.lit (.bool false)], args := [d1, d2] }
  | _ => none }
def ProcsStepsWrongFalsely : Prop := procsStepsRow.holds Try.pinned (OpenSpec.ofChange procsStepsWrong)

/- THE SECOND FORM. 'bulk': how many values and letters a reading holds, each counted each time it is reached (what is shared counts as often as it is met; a slice's spare places count too). A statement '..UptoSaid' is the law's where the arguments, and the package variables that the reading takes, are together of bulk at most 1048576: NARROWER than '..Said'. Prove '..Said' where nothing that the law and all that it calls make is longer than what came in: it says more and counts as full. Else prove '..UptoSaid'. A law counts once. -/
mutual
def uptoBulk {H : Type} : DataW H → Nat
  | .lit (.string bytes) => bytes.length + 1
  | .lit _ => 1
  | .nil => 1
  | .ptr d => uptoBulk d + 1
  | .slice elems spare => uptoBulkAll elems + uptoBulkAll spare + 1
  | .agg parts => uptoBulkAll parts + 1
  | .iface _ d => uptoBulk d + 1
  | .map entries => uptoBulkEntries entries + 1
  | .held _ => 1
def uptoBulkAll {H : Type} : List (DataW H) → Nat
  | [] => 0
  | d :: r => uptoBulk d + uptoBulkAll r
def uptoBulkEntries {H : Type} : List (Lit × DataW H) → Nat
  | [] => 0
  | x :: r => uptoBulkEntry x + uptoBulkEntries r
def uptoBulkEntry {H : Type} : Lit × DataW H → Nat
  | (.string bytes, d) => bytes.length + uptoBulk d + 1
  | (_, d) => uptoBulk d + 1
 end
def uptoSmall : (H : Type) → List (DataW H) → Bool := fun _ ds => decide (uptoBulkAll ds ≤ 1048576)
def OpenSpec.upto (s : _root_.Go.ChangeSpec) : _root_.Go.OpenSpec := { _root_.Go.OpenSpec.ofChange s with cond := some uptoSmall }

/-- 'steadinglaw23.ProcsOnce', WHERE WHAT IT READS IS OF BULK AT MOST 1048576: true; the input reads as it did. -/
def procsOnceUptoRow : OpenClaim := { program := "ytkabjomhnddnoaa", sum := "06efef59774f76fe4e9cfc5240b27f8e58e24a7e4e64cf8d8684c06a1080cf36", func := "steading/steadinglaw23.ProcsOnce", spec := "procsOnce", unfollowed := true, recurses := true, apart := false, narrowed := true }
def ProcsOnceUptoSaid : Prop := procsOnceUptoRow.holds Try.pinned (OpenSpec.upto procsOnceSpec)

/-- 'steadinglaw23.ProcsSame', WHERE WHAT IT READS IS OF BULK AT MOST 1048576: true; the input reads as it did. -/
def procsSameUptoRow : OpenClaim := { program := "ytkabjomhnddnoaa", sum := "06efef59774f76fe4e9cfc5240b27f8e58e24a7e4e64cf8d8684c06a1080cf36", func := "steading/steadinglaw23.ProcsSame", spec := "procsSame", unfollowed := true, recurses := true, apart := false, narrowed := true }
def ProcsSameUptoSaid : Prop := procsSameUptoRow.holds Try.pinned (OpenSpec.upto procsSameSpec)

/-- 'steadinglaw23.ProcsGroups', WHERE WHAT IT READS IS OF BULK AT MOST 1048576: true; the input reads as it did. -/
def procsGroupsUptoRow : OpenClaim := { program := "ytkabjomhnddnoaa", sum := "06efef59774f76fe4e9cfc5240b27f8e58e24a7e4e64cf8d8684c06a1080cf36", func := "steading/steadinglaw23.ProcsGroups", spec := "procsGroups", unfollowed := true, recurses := true, apart := false, narrowed := true }
def ProcsGroupsUptoSaid : Prop := procsGroupsUptoRow.holds Try.pinned (OpenSpec.upto procsGroupsSpec)

/-- 'steadinglaw23.ProcsParents', WHERE WHAT IT READS IS OF BULK AT MOST 1048576: true; the input reads as it did. -/
def procsParentsUptoRow : OpenClaim := { program := "ytkabjomhnddnoaa", sum := "06efef59774f76fe4e9cfc5240b27f8e58e24a7e4e64cf8d8684c06a1080cf36", func := "steading/steadinglaw23.ProcsParents", spec := "procsParents", unfollowed := true, recurses := true, apart := false, narrowed := true }
def ProcsParentsUptoSaid : Prop := procsParentsUptoRow.holds Try.pinned (OpenSpec.upto procsParentsSpec)

/-- 'steadinglaw23.ProcsNil', WHERE WHAT IT READS IS OF BULK AT MOST 1048576: true; the input reads as it did. -/
def procsNilUptoRow : OpenClaim := { program := "ytkabjomhnddnoaa", sum := "06efef59774f76fe4e9cfc5240b27f8e58e24a7e4e64cf8d8684c06a1080cf36", func := "steading/steadinglaw23.ProcsNil", spec := "procsNil", unfollowed := true, recurses := true, apart := false, narrowed := true }
def ProcsNilUptoSaid : Prop := procsNilUptoRow.holds Try.pinned (OpenSpec.upto procsNilSpec)

/-- 'steadinglaw23.ProcsSteps', WHERE WHAT IT READS IS OF BULK AT MOST 1048576: true; the input reads as it did. -/
def procsStepsUptoRow : OpenClaim := { program := "ytkabjomhnddnoaa", sum := "06efef59774f76fe4e9cfc5240b27f8e58e24a7e4e64cf8d8684c06a1080cf36", func := "steading/steadinglaw23.ProcsSteps", spec := "procsSteps", unfollowed := true, recurses := true, apart := false, narrowed := true }
def ProcsStepsUptoSaid : Prop := procsStepsUptoRow.holds Try.pinned (OpenSpec.upto procsStepsSpec)

end Rows
end Go.Proofs.Ytkabjomhnddnoaa
