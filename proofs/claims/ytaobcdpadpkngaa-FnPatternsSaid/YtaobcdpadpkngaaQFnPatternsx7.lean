-- Written by a program of this workplace (print2.py) for this claim, over the print's words.
import Derived.Test.YtaobcdpadpkngaaQFnPatternsx0
import Derived.Test.YtaobcdpadpkngaaQFnPatternsx1
import Derived.Test.YtaobcdpadpkngaaQFnPatternsx6
namespace Go.Proofs.Ytaobcdpadpkngaa.QFnPatterns
open Go.RowKit Go.Proofs.YtaobcdpadpkngaaW.PrintWords Go.Proofs.YtaobcdpadpkngaaW.PrintLast Go.Proofs.YtaobcdpadpkngaaW.PrintMore
attribute [local go_sem] max2_int min2_int max_two min_two max_three min_three max_four min_four   -- for this text's walks alone
set_option linter.unusedVariables false
set_option linter.unusedSimpArgs false

/-! ### spec_boxPat: a drawn pattern, beside the names in a variable -/
def spec_boxPat.f (k:Nat) (s0_0:List Int) (s0_1:Int) (s0_2:Int) (a1:Int) (l2:List ByteArray):Option (Int × Int × ByteArray × (List (S27)) × (List (S52)) × List ByteArray × Int × Int):=spec_l4Pat.f k s0_0 s0_1 s0_2 a1 l2
theorem spec_boxPat.mono:∀ s0_0 s0_1 s0_2 a1 l2 k,LeO (spec_boxPat.f k s0_0 s0_1 s0_2 a1 l2) (spec_boxPat.f (k + 1) s0_0 s0_1 s0_2 a1 l2):=spec_l4Pat.mono
theorem spec_boxPat.calls (k:Nat) (g:Nat) (s0_0:List Int) (s0_1:Int) (s0_2:Int) (a1:Int) (P2_:Nat → Prop) (u9000_:Value) (l2:List ByteArray) (gb990:Nat) (r1:Int) (r2:Int) (r3:ByteArray) (r4:List (S27)) (r5:List (S52)) (r6:List ByteArray) (r7:Int) (r8:Int) (w0 w:World) (hI:IsS42 w0 w g s0_0 s0_1 s0_2) (hB:Below w0.heap.size w0 w) (ho2:Kd.R Kd.string 9 w w0.heap.size P2_ u9000_ l2) (hbx:w.heap[gb990]? = some (.cells #[u9000_] 30 (0,0))∧w0.heap.size≤gb990∧gb990≠g) (h:spec_boxPat.f k s0_0 s0_1 s0_2 a1 l2 = some (r1,r2,r3,r4,r5,r6,r7,r8)) :
    Calls Try.prog 16 #[.pointer (some ⟨g,0,none⟩),.int .i64 a1,.pointer (some ⟨gb990,0,none⟩)] w fun e w'=>∃ v3_ v4_ v5_:Value,∃ w1_:World,e = .returned (.agg #[.int .i64 r1,.int .i64 r2,.string r3,v3_,v4_])∧w' = w1_.setCell ⟨gb990,0,none⟩ v5_∧Kd.N k27 27 w1_ w.heap.size (fun k_=>(P2_ k_∨w.heap.size≤k_)∧some k_≠(v4_:Value).ownBlock∧some k_≠(v5_:Value).ownBlock) v3_ r4∧Kd.N k52 52 w1_ w.heap.size (fun k_=>(P2_ k_∨w.heap.size≤k_)∧some k_≠(v3_:Value).ownBlock∧some k_≠(v5_:Value).ownBlock) v4_ r5∧Kd.R Kd.string 9 w1_ w0.heap.size (fun k_=>(P2_ k_∨w.heap.size≤k_)) v5_ r6∧IsS42 w0 w1_ g s0_0 r7 r8∧Below w0.heap.size w0 w1_∧Kept w w1_ (fun k_=>(P2_ k_)∨k_ = g):=spec_l4Pat.vform (spec_l4Pat.calls k) g s0_0 s0_1 s0_2 a1 P2_ u9000_ l2 gb990 r1 r2 r3 r4 r5 r6 r7 r8 w0 w hI hB ho2 hbx h

end Go.Proofs.Ytaobcdpadpkngaa.QFnPatterns
