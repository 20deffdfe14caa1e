/-
  NARROWER THAN 'FOR EVERY INPUT', by the rows' own cells (each row's printed sentence says how): FnExactSameExpr: loops · FnExactVarsOf: loops · FnExactCallsOf: loops · FnExactFreeOf: loops · FnExactPatOk: loops · FnExactExprOk: loops · FnExactBindOf: loops · FnExactFunAt: loops.
  DERIVED. THE GIVEN ROWS OF THIS SEAT. 12 by the template 'for every input the law returns true; each argument reads behind the call as it read before'; 0 by the template 'total and deterministic' (their statements: YtjcdpfbbnmflcaaTotals.lean).
  GIVEN WITH THE SEED: the statements are not yours to turn. If you find one false, say at which input.
  Laid BY PROGRAM, IN A SANDBOX (cutbox-rows.mjs): the forced cells as the released guide's own fill.sh prints them over the translation 9f73eac9c84cb0d9… (all of the seat's roots in one cut). By AI agents, Wed Nov 11 2026. No macro, syntax, notation, axiom, sorry.
-/
import Derived.Test.YtjcdpfbbnmflcaaChecked
import GoSem.Claim
import GoSem.ClaimJoined
import GoSem.ClaimMapViews
import Derived.JoinedTies
import Derived.KernelRfl
namespace Go.Proofs.Ytjcdpfbbnmflcaa
/- THE CELL 'sum', in the pinned program and in every row, IS THE sha256 OF THE DUMP (.gsa) THAT YtjcdpfbbnmflcaaProg.lean LOADS. Nothing in Lean hashes anything: it is a label: what it is worth is what the hold of that sum in a sandbox is worth. -/
noncomputable def Try.pinned : Pinned := { name := "ytjcdpfbbnmflcaa", sum := "9f73eac9c84cb0d9dafadc3bfe0effea2cc749ad96a67bf3bc4263aebdbdbcf5", checked := Try.checked }
namespace Rows
def none {H : Type} : Left H := { results := [], args := [] }

/-- 'laws.FnAtoms': WHATEVER THE INPUT: true; the input reads as it did. -/
def fnAtomsSpec : ChangeSpec := { name := "fnAtoms", fn := fun _ => fun
  | [d] => { results := [.lit (.bool true)], args := [d] }
  | _ => none }
def fnAtomsRow : OpenClaim := { program := "ytjcdpfbbnmflcaa", sum := "9f73eac9c84cb0d9dafadc3bfe0effea2cc749ad96a67bf3bc4263aebdbdbcf5", func := "loop.example/g00236/laws.FnAtoms", spec := "fnAtoms", inPlace := ["internal/bytealg.IndexByteString"], recurses := true, apart := false }
def FnAtomsSaid : Prop := fnAtomsRow.holds Try.pinned (OpenSpec.ofChange fnAtomsSpec)

/-- ITS FALSE NEIGHBOUR: 'it returns false'. Refute it at one input. -/
def fnAtomsWrong : ChangeSpec := { name := "fnAtoms", fn := fun _ => fun
  | [d] => { results := [.lit (.bool false)], args := [d] }
  | _ => none }
def FnAtomsWrongFalsely : Prop := fnAtomsRow.holds Try.pinned (OpenSpec.ofChange fnAtomsWrong)

/-- 'laws.FnExactSameExpr': WHATEVER THE INPUT: true; the input reads as it did. -/
def fnExactSameExprSpec : ChangeSpec := { name := "fnExactSameExpr", fn := fun _ => fun
  | [d1, d2] => { results := [.lit (.bool true)], args := [d1, d2] }
  | _ => none }
def fnExactSameExprRow : OpenClaim := { program := "ytjcdpfbbnmflcaa", sum := "9f73eac9c84cb0d9dafadc3bfe0effea2cc749ad96a67bf3bc4263aebdbdbcf5", func := "loop.example/g00236/laws.FnExactSameExpr", spec := "fnExactSameExpr", unfollowed := true, recurses := true, loops := true, apart := false }
def FnExactSameExprSaid : Prop := fnExactSameExprRow.holds Try.pinned (OpenSpec.ofChange fnExactSameExprSpec)

/-- ITS FALSE NEIGHBOUR: 'it returns false'. Refute it at one input. -/
def fnExactSameExprWrong : ChangeSpec := { name := "fnExactSameExpr", fn := fun _ => fun
  | [d1, d2] => { results := [.lit (.bool false)], args := [d1, d2] }
  | _ => none }
def FnExactSameExprWrongFalsely : Prop := fnExactSameExprRow.holds Try.pinned (OpenSpec.ofChange fnExactSameExprWrong)

/-- 'laws.FnExactVarsOf': WHATEVER THE INPUT: true; the input reads as it did. -/
def fnExactVarsOfSpec : ChangeSpec := { name := "fnExactVarsOf", fn := fun _ => fun
  | [d] => { results := [.lit (.bool true)], args := [d] }
  | _ => none }
def fnExactVarsOfRow : OpenClaim := { program := "ytjcdpfbbnmflcaa", sum := "9f73eac9c84cb0d9dafadc3bfe0effea2cc749ad96a67bf3bc4263aebdbdbcf5", func := "loop.example/g00236/laws.FnExactVarsOf", spec := "fnExactVarsOf", recurses := true, loops := true, apart := false }
def FnExactVarsOfSaid : Prop := fnExactVarsOfRow.holds Try.pinned (OpenSpec.ofChange fnExactVarsOfSpec)

/-- ITS FALSE NEIGHBOUR: 'it returns false'. Refute it at one input. -/
def fnExactVarsOfWrong : ChangeSpec := { name := "fnExactVarsOf", fn := fun _ => fun
  | [d] => { results := [.lit (.bool false)], args := [d] }
  | _ => none }
def FnExactVarsOfWrongFalsely : Prop := fnExactVarsOfRow.holds Try.pinned (OpenSpec.ofChange fnExactVarsOfWrong)

/-- 'laws.FnExactCallsOf': WHATEVER THE INPUT: true; the input reads as it did. -/
def fnExactCallsOfSpec : ChangeSpec := { name := "fnExactCallsOf", fn := fun _ => fun
  | [d] => { results := [.lit (.bool true)], args := [d] }
  | _ => none }
def fnExactCallsOfRow : OpenClaim := { program := "ytjcdpfbbnmflcaa", sum := "9f73eac9c84cb0d9dafadc3bfe0effea2cc749ad96a67bf3bc4263aebdbdbcf5", func := "loop.example/g00236/laws.FnExactCallsOf", spec := "fnExactCallsOf", unfollowed := true, recurses := true, loops := true, apart := false }
def FnExactCallsOfSaid : Prop := fnExactCallsOfRow.holds Try.pinned (OpenSpec.ofChange fnExactCallsOfSpec)

/-- ITS FALSE NEIGHBOUR: 'it returns false'. Refute it at one input. -/
def fnExactCallsOfWrong : ChangeSpec := { name := "fnExactCallsOf", fn := fun _ => fun
  | [d] => { results := [.lit (.bool false)], args := [d] }
  | _ => none }
def FnExactCallsOfWrongFalsely : Prop := fnExactCallsOfRow.holds Try.pinned (OpenSpec.ofChange fnExactCallsOfWrong)

/-- 'laws.FnExactFreeOf': WHATEVER THE INPUT: true; the input reads as it did. -/
def fnExactFreeOfSpec : ChangeSpec := { name := "fnExactFreeOf", fn := fun _ => fun
  | [d] => { results := [.lit (.bool true)], args := [d] }
  | _ => none }
def fnExactFreeOfRow : OpenClaim := { program := "ytjcdpfbbnmflcaa", sum := "9f73eac9c84cb0d9dafadc3bfe0effea2cc749ad96a67bf3bc4263aebdbdbcf5", func := "loop.example/g00236/laws.FnExactFreeOf", spec := "fnExactFreeOf", recurses := true, loops := true, apart := false }
def FnExactFreeOfSaid : Prop := fnExactFreeOfRow.holds Try.pinned (OpenSpec.ofChange fnExactFreeOfSpec)

/-- ITS FALSE NEIGHBOUR: 'it returns false'. Refute it at one input. -/
def fnExactFreeOfWrong : ChangeSpec := { name := "fnExactFreeOf", fn := fun _ => fun
  | [d] => { results := [.lit (.bool false)], args := [d] }
  | _ => none }
def FnExactFreeOfWrongFalsely : Prop := fnExactFreeOfRow.holds Try.pinned (OpenSpec.ofChange fnExactFreeOfWrong)

/-- 'laws.FnExactPatOk': WHATEVER THE INPUT: true; the input reads as it did. -/
def fnExactPatOkSpec : ChangeSpec := { name := "fnExactPatOk", fn := fun _ => fun
  | [d] => { results := [.lit (.bool true)], args := [d] }
  | _ => none }
def fnExactPatOkRow : OpenClaim := { program := "ytjcdpfbbnmflcaa", sum := "9f73eac9c84cb0d9dafadc3bfe0effea2cc749ad96a67bf3bc4263aebdbdbcf5", func := "loop.example/g00236/laws.FnExactPatOk", spec := "fnExactPatOk", recurses := true, loops := true, apart := false }
def FnExactPatOkSaid : Prop := fnExactPatOkRow.holds Try.pinned (OpenSpec.ofChange fnExactPatOkSpec)

/-- ITS FALSE NEIGHBOUR: 'it returns false'. Refute it at one input. -/
def fnExactPatOkWrong : ChangeSpec := { name := "fnExactPatOk", fn := fun _ => fun
  | [d] => { results := [.lit (.bool false)], args := [d] }
  | _ => none }
def FnExactPatOkWrongFalsely : Prop := fnExactPatOkRow.holds Try.pinned (OpenSpec.ofChange fnExactPatOkWrong)

/-- 'laws.FnExactExprOk': WHATEVER THE INPUT: true; the input reads as it did. -/
def fnExactExprOkSpec : ChangeSpec := { name := "fnExactExprOk", fn := fun _ => fun
  | [d] => { results := [.lit (.bool true)], args := [d] }
  | _ => none }
def fnExactExprOkRow : OpenClaim := { program := "ytjcdpfbbnmflcaa", sum := "9f73eac9c84cb0d9dafadc3bfe0effea2cc749ad96a67bf3bc4263aebdbdbcf5", func := "loop.example/g00236/laws.FnExactExprOk", spec := "fnExactExprOk", recurses := true, loops := true, apart := false }
def FnExactExprOkSaid : Prop := fnExactExprOkRow.holds Try.pinned (OpenSpec.ofChange fnExactExprOkSpec)

/-- ITS FALSE NEIGHBOUR: 'it returns false'. Refute it at one input. -/
def fnExactExprOkWrong : ChangeSpec := { name := "fnExactExprOk", fn := fun _ => fun
  | [d] => { results := [.lit (.bool false)], args := [d] }
  | _ => none }
def FnExactExprOkWrongFalsely : Prop := fnExactExprOkRow.holds Try.pinned (OpenSpec.ofChange fnExactExprOkWrong)

/-- 'laws.FnPatterns': WHATEVER THE INPUT: true; the input reads as it did. -/
def fnPatternsSpec : ChangeSpec := { name := "fnPatterns", fn := fun _ => fun
  | [d] => { results := [.lit (.bool true)], args := [d] }
  | _ => none }
def fnPatternsRow : OpenClaim := { program := "ytjcdpfbbnmflcaa", sum := "9f73eac9c84cb0d9dafadc3bfe0effea2cc749ad96a67bf3bc4263aebdbdbcf5", func := "loop.example/g00236/laws.FnPatterns", spec := "fnPatterns", recurses := true, apart := false }
def FnPatternsSaid : Prop := fnPatternsRow.holds Try.pinned (OpenSpec.ofChange fnPatternsSpec)

/-- ITS FALSE NEIGHBOUR: 'it returns false'. Refute it at one input. -/
def fnPatternsWrong : ChangeSpec := { name := "fnPatterns", fn := fun _ => fun
  | [d] => { results := [.lit (.bool false)], args := [d] }
  | _ => none }
def FnPatternsWrongFalsely : Prop := fnPatternsRow.holds Try.pinned (OpenSpec.ofChange fnPatternsWrong)

/-- 'laws.FnFree': WHATEVER THE INPUT: true; the input reads as it did. -/
def fnFreeSpec : ChangeSpec := { name := "fnFree", fn := fun _ => fun
  | [d] => { results := [.lit (.bool true)], args := [d] }
  | _ => none }
def fnFreeRow : OpenClaim := { program := "ytjcdpfbbnmflcaa", sum := "9f73eac9c84cb0d9dafadc3bfe0effea2cc749ad96a67bf3bc4263aebdbdbcf5", func := "loop.example/g00236/laws.FnFree", spec := "fnFree", recurses := true, apart := false }
def FnFreeSaid : Prop := fnFreeRow.holds Try.pinned (OpenSpec.ofChange fnFreeSpec)

/-- ITS FALSE NEIGHBOUR: 'it returns false'. Refute it at one input. -/
def fnFreeWrong : ChangeSpec := { name := "fnFree", fn := fun _ => fun
  | [d] => { results := [.lit (.bool false)], args := [d] }
  | _ => none }
def FnFreeWrongFalsely : Prop := fnFreeRow.holds Try.pinned (OpenSpec.ofChange fnFreeWrong)

/-- 'laws.FnExactBindOf': WHATEVER THE INPUT: true; the input reads as it did. -/
def fnExactBindOfSpec : ChangeSpec := { name := "fnExactBindOf", fn := fun _ => fun
  | [d1, d2] => { results := [.lit (.bool true)], args := [d1, d2] }
  | _ => none }
def fnExactBindOfRow : OpenClaim := { program := "ytjcdpfbbnmflcaa", sum := "9f73eac9c84cb0d9dafadc3bfe0effea2cc749ad96a67bf3bc4263aebdbdbcf5", func := "loop.example/g00236/laws.FnExactBindOf", spec := "fnExactBindOf", recurses := true, loops := true, apart := false }
def FnExactBindOfSaid : Prop := fnExactBindOfRow.holds Try.pinned (OpenSpec.ofChange fnExactBindOfSpec)

/-- ITS FALSE NEIGHBOUR: 'it returns false'. Refute it at one input. -/
def fnExactBindOfWrong : ChangeSpec := { name := "fnExactBindOf", fn := fun _ => fun
  | [d1, d2] => { results := [.lit (.bool false)], args := [d1, d2] }
  | _ => none }
def FnExactBindOfWrongFalsely : Prop := fnExactBindOfRow.holds Try.pinned (OpenSpec.ofChange fnExactBindOfWrong)

/-- 'laws.FnExactFunAt': WHATEVER THE INPUT: true; the input reads as it did. -/
def fnExactFunAtSpec : ChangeSpec := { name := "fnExactFunAt", fn := fun _ => fun
  | [d1, d2] => { results := [.lit (.bool true)], args := [d1, d2] }
  | _ => none }
def fnExactFunAtRow : OpenClaim := { program := "ytjcdpfbbnmflcaa", sum := "9f73eac9c84cb0d9dafadc3bfe0effea2cc749ad96a67bf3bc4263aebdbdbcf5", func := "loop.example/g00236/laws.FnExactFunAt", spec := "fnExactFunAt", unfollowed := true, recurses := true, loops := true, apart := false }
def FnExactFunAtSaid : Prop := fnExactFunAtRow.holds Try.pinned (OpenSpec.ofChange fnExactFunAtSpec)

/-- ITS FALSE NEIGHBOUR: 'it returns false'. Refute it at one input. -/
def fnExactFunAtWrong : ChangeSpec := { name := "fnExactFunAt", fn := fun _ => fun
  | [d1, d2] => { results := [.lit (.bool false)], args := [d1, d2] }
  | _ => none }
def FnExactFunAtWrongFalsely : Prop := fnExactFunAtRow.holds Try.pinned (OpenSpec.ofChange fnExactFunAtWrong)

/-- 'laws.FnChecked': WHATEVER THE INPUT: true; the input reads as it did. -/
def fnCheckedSpec : ChangeSpec := { name := "fnChecked", fn := fun _ => fun
  | [d] => { results := [.lit (.bool true)], args := [d] }
  | _ => none }
def fnCheckedRow : OpenClaim := { program := "ytjcdpfbbnmflcaa", sum := "9f73eac9c84cb0d9dafadc3bfe0effea2cc749ad96a67bf3bc4263aebdbdbcf5", func := "loop.example/g00236/laws.FnChecked", spec := "fnChecked", unfollowed := true, recurses := true, apart := false }
def FnCheckedSaid : Prop := fnCheckedRow.holds Try.pinned (OpenSpec.ofChange fnCheckedSpec)

/-- ITS FALSE NEIGHBOUR: 'it returns false'. Refute it at one input. -/
def fnCheckedWrong : ChangeSpec := { name := "fnChecked", fn := fun _ => fun
  | [d] => { results := [.lit (.bool false)], args := [d] }
  | _ => none }
def FnCheckedWrongFalsely : Prop := fnCheckedRow.holds Try.pinned (OpenSpec.ofChange fnCheckedWrong)

/- THE SECOND FORM. 'bulk': how many values and letters a reading holds, each counted each time it is reached (what is shared counts as often as it is met; a slice's spare places count too). A statement '..UptoSaid' is the law's where the arguments, and the package variables that the reading takes, are together of bulk at most 1048576: NARROWER than '..Said'. Prove '..Said' where nothing that the law and all that it calls make is longer than what came in: it says more and counts as full. Else prove '..UptoSaid'. A law counts once. -/
mutual
def uptoBulk {H : Type} : DataW H → Nat
  | .lit (.string bytes) => bytes.length + 1
  | .lit _ => 1
  | .nil => 1
  | .ptr d => uptoBulk d + 1
  | .slice elems spare => uptoBulkAll elems + uptoBulkAll spare + 1
  | .agg parts => uptoBulkAll parts + 1
  | .iface _ d => uptoBulk d + 1
  | .map entries => uptoBulkEntries entries + 1
  | .held _ => 1
def uptoBulkAll {H : Type} : List (DataW H) → Nat
  | [] => 0
  | d :: r => uptoBulk d + uptoBulkAll r
def uptoBulkEntries {H : Type} : List (Lit × DataW H) → Nat
  | [] => 0
  | x :: r => uptoBulkEntry x + uptoBulkEntries r
def uptoBulkEntry {H : Type} : Lit × DataW H → Nat
  | (.string bytes, d) => bytes.length + uptoBulk d + 1
  | (_, d) => uptoBulk d + 1
 end
def uptoSmall : (H : Type) → List (DataW H) → Bool := fun _ ds => decide (uptoBulkAll ds ≤ 1048576)
def OpenSpec.upto (s : _root_.Go.ChangeSpec) : _root_.Go.OpenSpec := { _root_.Go.OpenSpec.ofChange s with cond := some uptoSmall }

/-- 'laws.FnAtoms', WHERE WHAT IT READS IS OF BULK AT MOST 1048576: true; the input reads as it did. -/
def fnAtomsUptoRow : OpenClaim := { program := "ytjcdpfbbnmflcaa", sum := "9f73eac9c84cb0d9dafadc3bfe0effea2cc749ad96a67bf3bc4263aebdbdbcf5", func := "loop.example/g00236/laws.FnAtoms", spec := "fnAtoms", inPlace := ["internal/bytealg.IndexByteString"], recurses := true, apart := false, narrowed := true }
def FnAtomsUptoSaid : Prop := fnAtomsUptoRow.holds Try.pinned (OpenSpec.upto fnAtomsSpec)

/-- 'laws.FnExactSameExpr', WHERE WHAT IT READS IS OF BULK AT MOST 1048576: true; the input reads as it did. -/
def fnExactSameExprUptoRow : OpenClaim := { program := "ytjcdpfbbnmflcaa", sum := "9f73eac9c84cb0d9dafadc3bfe0effea2cc749ad96a67bf3bc4263aebdbdbcf5", func := "loop.example/g00236/laws.FnExactSameExpr", spec := "fnExactSameExpr", unfollowed := true, recurses := true, loops := true, apart := false, narrowed := true }
def FnExactSameExprUptoSaid : Prop := fnExactSameExprUptoRow.holds Try.pinned (OpenSpec.upto fnExactSameExprSpec)

/-- 'laws.FnExactVarsOf', WHERE WHAT IT READS IS OF BULK AT MOST 1048576: true; the input reads as it did. -/
def fnExactVarsOfUptoRow : OpenClaim := { program := "ytjcdpfbbnmflcaa", sum := "9f73eac9c84cb0d9dafadc3bfe0effea2cc749ad96a67bf3bc4263aebdbdbcf5", func := "loop.example/g00236/laws.FnExactVarsOf", spec := "fnExactVarsOf", recurses := true, loops := true, apart := false, narrowed := true }
def FnExactVarsOfUptoSaid : Prop := fnExactVarsOfUptoRow.holds Try.pinned (OpenSpec.upto fnExactVarsOfSpec)

/-- 'laws.FnExactCallsOf', WHERE WHAT IT READS IS OF BULK AT MOST 1048576: true; the input reads as it did. -/
def fnExactCallsOfUptoRow : OpenClaim := { program := "ytjcdpfbbnmflcaa", sum := "9f73eac9c84cb0d9dafadc3bfe0effea2cc749ad96a67bf3bc4263aebdbdbcf5", func := "loop.example/g00236/laws.FnExactCallsOf", spec := "fnExactCallsOf", unfollowed := true, recurses := true, loops := true, apart := false, narrowed := true }
def FnExactCallsOfUptoSaid : Prop := fnExactCallsOfUptoRow.holds Try.pinned (OpenSpec.upto fnExactCallsOfSpec)

/-- 'laws.FnExactFreeOf', WHERE WHAT IT READS IS OF BULK AT MOST 1048576: true; the input reads as it did. -/
def fnExactFreeOfUptoRow : OpenClaim := { program := "ytjcdpfbbnmflcaa", sum := "9f73eac9c84cb0d9dafadc3bfe0effea2cc749ad96a67bf3bc4263aebdbdbcf5", func := "loop.example/g00236/laws.FnExactFreeOf", spec := "fnExactFreeOf", recurses := true, loops := true, apart := false, narrowed := true }
def FnExactFreeOfUptoSaid : Prop := fnExactFreeOfUptoRow.holds Try.pinned (OpenSpec.upto fnExactFreeOfSpec)

/-- 'laws.FnExactPatOk', WHERE WHAT IT READS IS OF BULK AT MOST 1048576: true; the input reads as it did. -/
def fnExactPatOkUptoRow : OpenClaim := { program := "ytjcdpfbbnmflcaa", sum := "9f73eac9c84cb0d9dafadc3bfe0effea2cc749ad96a67bf3bc4263aebdbdbcf5", func := "loop.example/g00236/laws.FnExactPatOk", spec := "fnExactPatOk", recurses := true, loops := true, apart := false, narrowed := true }
def FnExactPatOkUptoSaid : Prop := fnExactPatOkUptoRow.holds Try.pinned (OpenSpec.upto fnExactPatOkSpec)

/-- 'laws.FnExactExprOk', WHERE WHAT IT READS IS OF BULK AT MOST 1048576: true; the input reads as it did. -/
def fnExactExprOkUptoRow : OpenClaim := { program := "ytjcdpfbbnmflcaa", sum := "9f73eac9c84cb0d9dafadc3bfe0effea2cc749ad96a67bf3bc4263aebdbdbcf5", func := "loop.example/g00236/laws.FnExactExprOk", spec := "fnExactExprOk", recurses := true, loops := true, apart := false, narrowed := true }
def FnExactExprOkUptoSaid : Prop := fnExactExprOkUptoRow.holds Try.pinned (OpenSpec.upto fnExactExprOkSpec)

/-- 'laws.FnPatterns', WHERE WHAT IT READS IS OF BULK AT MOST 1048576: true; the input reads as it did. -/
def fnPatternsUptoRow : OpenClaim := { program := "ytjcdpfbbnmflcaa", sum := "9f73eac9c84cb0d9dafadc3bfe0effea2cc749ad96a67bf3bc4263aebdbdbcf5", func := "loop.example/g00236/laws.FnPatterns", spec := "fnPatterns", recurses := true, apart := false, narrowed := true }
def FnPatternsUptoSaid : Prop := fnPatternsUptoRow.holds Try.pinned (OpenSpec.upto fnPatternsSpec)

/-- 'laws.FnFree', WHERE WHAT IT READS IS OF BULK AT MOST 1048576: true; the input reads as it did. -/
def fnFreeUptoRow : OpenClaim := { program := "ytjcdpfbbnmflcaa", sum := "9f73eac9c84cb0d9dafadc3bfe0effea2cc749ad96a67bf3bc4263aebdbdbcf5", func := "loop.example/g00236/laws.FnFree", spec := "fnFree", recurses := true, apart := false, narrowed := true }
def FnFreeUptoSaid : Prop := fnFreeUptoRow.holds Try.pinned (OpenSpec.upto fnFreeSpec)

/-- 'laws.FnExactBindOf', WHERE WHAT IT READS IS OF BULK AT MOST 1048576: true; the input reads as it did. -/
def fnExactBindOfUptoRow : OpenClaim := { program := "ytjcdpfbbnmflcaa", sum := "9f73eac9c84cb0d9dafadc3bfe0effea2cc749ad96a67bf3bc4263aebdbdbcf5", func := "loop.example/g00236/laws.FnExactBindOf", spec := "fnExactBindOf", recurses := true, loops := true, apart := false, narrowed := true }
def FnExactBindOfUptoSaid : Prop := fnExactBindOfUptoRow.holds Try.pinned (OpenSpec.upto fnExactBindOfSpec)

/-- 'laws.FnExactFunAt', WHERE WHAT IT READS IS OF BULK AT MOST 1048576: true; the input reads as it did. -/
def fnExactFunAtUptoRow : OpenClaim := { program := "ytjcdpfbbnmflcaa", sum := "9f73eac9c84cb0d9dafadc3bfe0effea2cc749ad96a67bf3bc4263aebdbdbcf5", func := "loop.example/g00236/laws.FnExactFunAt", spec := "fnExactFunAt", unfollowed := true, recurses := true, loops := true, apart := false, narrowed := true }
def FnExactFunAtUptoSaid : Prop := fnExactFunAtUptoRow.holds Try.pinned (OpenSpec.upto fnExactFunAtSpec)

/-- 'laws.FnChecked', WHERE WHAT IT READS IS OF BULK AT MOST 1048576: true; the input reads as it did. -/
def fnCheckedUptoRow : OpenClaim := { program := "ytjcdpfbbnmflcaa", sum := "9f73eac9c84cb0d9dafadc3bfe0effea2cc749ad96a67bf3bc4263aebdbdbcf5", func := "loop.example/g00236/laws.FnChecked", spec := "fnChecked", unfollowed := true, recurses := true, apart := false, narrowed := true }
def FnCheckedUptoSaid : Prop := fnCheckedUptoRow.holds Try.pinned (OpenSpec.upto fnCheckedSpec)

end Rows
end Go.Proofs.Ytjcdpfbbnmflcaa
