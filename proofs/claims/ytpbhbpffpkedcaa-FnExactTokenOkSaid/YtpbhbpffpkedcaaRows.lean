/-
  NARROWER THAN 'FOR EVERY INPUT', by the rows' own cells (each row's printed sentence says how): FnExactOperate: loops.
  DERIVED. THE GIVEN ROWS OF THIS SEAT. 5 by the template 'for every input the law returns true; each argument reads behind the call as it read before'; 0 by the template 'total and deterministic' (their statements: YtpbhbpffpkedcaaTotals.lean).
  GIVEN WITH THE SEED: the statements are not yours to turn. If you find one false, say at which input.
  Laid BY PROGRAM, IN A SANDBOX (cutbox-rows.mjs): the forced cells as the released guide's own fill.sh prints them over the translation f9205d94b9ff6a52… (all of the seat's roots in one cut). By AI agents, Wed Nov 11 2026. No macro, syntax, notation, axiom, sorry.
-/
import Derived.Test.YtpbhbpffpkedcaaChecked
import GoSem.Claim
import GoSem.ClaimJoined
import GoSem.ClaimMapViews
import Derived.JoinedTies
import Derived.KernelRfl
namespace Go.Proofs.Ytpbhbpffpkedcaa
/- THE CELL 'sum', in the pinned program and in every row, IS THE sha256 OF THE DUMP (.gsa) THAT YtpbhbpffpkedcaaProg.lean LOADS. Nothing in Lean hashes anything: it is a label: what it is worth is what the hold of that sum in a sandbox is worth. -/
noncomputable def Try.pinned : Pinned := { name := "ytpbhbpffpkedcaa", sum := "f9205d94b9ff6a52177097609282fe221c556de60ca7858d54c4091b1959821c", checked := Try.checked }
namespace Rows
def none {H : Type} : Left H := { results := [], args := [] }

/-- 'laws.FnReadTerms': WHATEVER THE INPUT: true; the input reads as it did. -/
def fnReadTermsSpec : ChangeSpec := { name := "fnReadTerms", fn := fun _ => fun
  | [d] => { results := [.lit (.bool true)], args := [d] }
  | _ => none }
def fnReadTermsRow : OpenClaim := { program := "ytpbhbpffpkedcaa", sum := "f9205d94b9ff6a52177097609282fe221c556de60ca7858d54c4091b1959821c", func := "loop.example/g00236/laws.FnReadTerms", spec := "fnReadTerms", recurses := true, apart := false }
def FnReadTermsSaid : Prop := fnReadTermsRow.holds Try.pinned (OpenSpec.ofChange fnReadTermsSpec)

/-- ITS FALSE NEIGHBOUR: 'it returns false'. Refute it at one input. -/
def fnReadTermsWrong : ChangeSpec := { name := "fnReadTerms", fn := fun _ => fun
  | [d] => { results := [.lit (.bool false)], args := [d] }
  | _ => none }
def FnReadTermsWrongFalsely : Prop := fnReadTermsRow.holds Try.pinned (OpenSpec.ofChange fnReadTermsWrong)

/-- 'laws.FnSorted': WHATEVER THE INPUT: true; the input reads as it did. -/
def fnSortedSpec : ChangeSpec := { name := "fnSorted", fn := fun _ => fun
  | [d] => { results := [.lit (.bool true)], args := [d] }
  | _ => none }
def fnSortedRow : OpenClaim := { program := "ytpbhbpffpkedcaa", sum := "f9205d94b9ff6a52177097609282fe221c556de60ca7858d54c4091b1959821c", func := "loop.example/g00236/laws.FnSorted", spec := "fnSorted", unfollowed := true, recurses := true, apart := false }
def FnSortedSaid : Prop := fnSortedRow.holds Try.pinned (OpenSpec.ofChange fnSortedSpec)

/-- ITS FALSE NEIGHBOUR: 'it returns false'. Refute it at one input. -/
def fnSortedWrong : ChangeSpec := { name := "fnSorted", fn := fun _ => fun
  | [d] => { results := [.lit (.bool false)], args := [d] }
  | _ => none }
def FnSortedWrongFalsely : Prop := fnSortedRow.holds Try.pinned (OpenSpec.ofChange fnSortedWrong)

/-- 'laws.FnExactOperate': WHATEVER THE INPUT: true; the input reads as it did. -/
def fnExactOperateSpec : ChangeSpec := { name := "fnExactOperate", fn := fun _ => fun
  | [d1, d2, d3] => { results := [.lit (.bool true)], args := [d1, d2, d3] }
  | _ => none }
def fnExactOperateRow : OpenClaim := { program := "ytpbhbpffpkedcaa", sum := "f9205d94b9ff6a52177097609282fe221c556de60ca7858d54c4091b1959821c", func := "loop.example/g00236/laws.FnExactOperate", spec := "fnExactOperate", unfollowed := true, recurses := true, loops := true, apart := false }
def FnExactOperateSaid : Prop := fnExactOperateRow.holds Try.pinned (OpenSpec.ofChange fnExactOperateSpec)

/-- ITS FALSE NEIGHBOUR: 'it returns false'. Refute it at one input. -/
def fnExactOperateWrong : ChangeSpec := { name := "fnExactOperate", fn := fun _ => fun
  | [d1, d2, d3] => { results := [.lit (.bool false)], args := [d1, d2, d3] }
  | _ => none }
def FnExactOperateWrongFalsely : Prop := fnExactOperateRow.holds Try.pinned (OpenSpec.ofChange fnExactOperateWrong)

/-- 'laws.FnOperated': WHATEVER THE INPUT: true; the input reads as it did. -/
def fnOperatedSpec : ChangeSpec := { name := "fnOperated", fn := fun _ => fun
  | [d] => { results := [.lit (.bool true)], args := [d] }
  | _ => none }
def fnOperatedRow : OpenClaim := { program := "ytpbhbpffpkedcaa", sum := "f9205d94b9ff6a52177097609282fe221c556de60ca7858d54c4091b1959821c", func := "loop.example/g00236/laws.FnOperated", spec := "fnOperated", unfollowed := true, recurses := true, apart := false }
def FnOperatedSaid : Prop := fnOperatedRow.holds Try.pinned (OpenSpec.ofChange fnOperatedSpec)

/-- ITS FALSE NEIGHBOUR: 'it returns false'. Refute it at one input. -/
def fnOperatedWrong : ChangeSpec := { name := "fnOperated", fn := fun _ => fun
  | [d] => { results := [.lit (.bool false)], args := [d] }
  | _ => none }
def FnOperatedWrongFalsely : Prop := fnOperatedRow.holds Try.pinned (OpenSpec.ofChange fnOperatedWrong)

/-- 'laws.FnExactTokenOk': WHATEVER THE INPUT: true; the input reads as it did. -/
def fnExactTokenOkSpec : ChangeSpec := { name := "fnExactTokenOk", fn := fun _ => fun
  | [d] => { results := [.lit (.bool true)], args := [d] }
  | _ => none }
def fnExactTokenOkRow : OpenClaim := { program := "ytpbhbpffpkedcaa", sum := "f9205d94b9ff6a52177097609282fe221c556de60ca7858d54c4091b1959821c", func := "loop.example/g00236/laws.FnExactTokenOk", spec := "fnExactTokenOk", inPlace := ["internal/bytealg.IndexByteString"], apart := false }
def FnExactTokenOkSaid : Prop := fnExactTokenOkRow.holds Try.pinned (OpenSpec.ofChange fnExactTokenOkSpec)

/-- ITS FALSE NEIGHBOUR: 'it returns false'. Refute it at one input. -/
def fnExactTokenOkWrong : ChangeSpec := { name := "fnExactTokenOk", fn := fun _ => fun
  | [d] => { results := [.lit (.bool false)], args := [d] }
  | _ => none }
def FnExactTokenOkWrongFalsely : Prop := fnExactTokenOkRow.holds Try.pinned (OpenSpec.ofChange fnExactTokenOkWrong)

/- THE SECOND FORM. 'bulk': how many values and letters a reading holds, each counted each time it is reached (what is shared counts as often as it is met; a slice's spare places count too). A statement '..UptoSaid' is the law's where the arguments, and the package variables that the reading takes, are together of bulk at most 1048576: NARROWER than '..Said'. Prove '..Said' where nothing that the law and all that it calls make is longer than what came in: it says more and counts as full. Else prove '..UptoSaid'. A law counts once. -/
mutual
def uptoBulk {H : Type} : DataW H → Nat
  | .lit (.string bytes) => bytes.length + 1
  | .lit _ => 1
  | .nil => 1
  | .ptr d => uptoBulk d + 1
  | .slice elems spare => uptoBulkAll elems + uptoBulkAll spare + 1
  | .agg parts => uptoBulkAll parts + 1
  | .iface _ d => uptoBulk d + 1
  | .map entries => uptoBulkEntries entries + 1
  | .held _ => 1
def uptoBulkAll {H : Type} : List (DataW H) → Nat
  | [] => 0
  | d :: r => uptoBulk d + uptoBulkAll r
def uptoBulkEntries {H : Type} : List (Lit × DataW H) → Nat
  | [] => 0
  | x :: r => uptoBulkEntry x + uptoBulkEntries r
def uptoBulkEntry {H : Type} : Lit × DataW H → Nat
  | (.string bytes, d) => bytes.length + uptoBulk d + 1
  | (_, d) => uptoBulk d + 1
 end
def uptoSmall : (H : Type) → List (DataW H) → Bool := fun _ ds => decide (uptoBulkAll ds ≤ 1048576)
def OpenSpec.upto (s : _root_.Go.ChangeSpec) : _root_.Go.OpenSpec := { _root_.Go.OpenSpec.ofChange s with cond := some uptoSmall }

/-- 'laws.FnReadTerms', WHERE WHAT IT READS IS OF BULK AT MOST 1048576: true; the input reads as it did. -/
def fnReadTermsUptoRow : OpenClaim := { program := "ytpbhbpffpkedcaa", sum := "f9205d94b9ff6a52177097609282fe221c556de60ca7858d54c4091b1959821c", func := "loop.example/g00236/laws.FnReadTerms", spec := "fnReadTerms", recurses := true, apart := false, narrowed := true }
def FnReadTermsUptoSaid : Prop := fnReadTermsUptoRow.holds Try.pinned (OpenSpec.upto fnReadTermsSpec)

/-- 'laws.FnSorted', WHERE WHAT IT READS IS OF BULK AT MOST 1048576: true; the input reads as it did. -/
def fnSortedUptoRow : OpenClaim := { program := "ytpbhbpffpkedcaa", sum := "f9205d94b9ff6a52177097609282fe221c556de60ca7858d54c4091b1959821c", func := "loop.example/g00236/laws.FnSorted", spec := "fnSorted", unfollowed := true, recurses := true, apart := false, narrowed := true }
def FnSortedUptoSaid : Prop := fnSortedUptoRow.holds Try.pinned (OpenSpec.upto fnSortedSpec)

/-- 'laws.FnExactOperate', WHERE WHAT IT READS IS OF BULK AT MOST 1048576: true; the input reads as it did. -/
def fnExactOperateUptoRow : OpenClaim := { program := "ytpbhbpffpkedcaa", sum := "f9205d94b9ff6a52177097609282fe221c556de60ca7858d54c4091b1959821c", func := "loop.example/g00236/laws.FnExactOperate", spec := "fnExactOperate", unfollowed := true, recurses := true, loops := true, apart := false, narrowed := true }
def FnExactOperateUptoSaid : Prop := fnExactOperateUptoRow.holds Try.pinned (OpenSpec.upto fnExactOperateSpec)

/-- 'laws.FnOperated', WHERE WHAT IT READS IS OF BULK AT MOST 1048576: true; the input reads as it did. -/
def fnOperatedUptoRow : OpenClaim := { program := "ytpbhbpffpkedcaa", sum := "f9205d94b9ff6a52177097609282fe221c556de60ca7858d54c4091b1959821c", func := "loop.example/g00236/laws.FnOperated", spec := "fnOperated", unfollowed := true, recurses := true, apart := false, narrowed := true }
def FnOperatedUptoSaid : Prop := fnOperatedUptoRow.holds Try.pinned (OpenSpec.upto fnOperatedSpec)

/-- 'laws.FnExactTokenOk', WHERE WHAT IT READS IS OF BULK AT MOST 1048576: true; the input reads as it did. -/
def fnExactTokenOkUptoRow : OpenClaim := { program := "ytpbhbpffpkedcaa", sum := "f9205d94b9ff6a52177097609282fe221c556de60ca7858d54c4091b1959821c", func := "loop.example/g00236/laws.FnExactTokenOk", spec := "fnExactTokenOk", inPlace := ["internal/bytealg.IndexByteString"], apart := false, narrowed := true }
def FnExactTokenOkUptoSaid : Prop := fnExactTokenOkUptoRow.holds Try.pinned (OpenSpec.upto fnExactTokenOkSpec)

end Rows
end Go.Proofs.Ytpbhbpffpkedcaa
