-- Written by a program of this workplace (print2.py) for this claim, over the print's words.
import Derived.Test.YtaobcdpadpkngaaQFnPatternsx0
import Derived.Test.YtaobcdpadpkngaaQFnPatternsx1
namespace Go.Proofs.Ytaobcdpadpkngaa.QFnPatterns
open Go.RowKit Go.Proofs.YtaobcdpadpkngaaW.PrintWords Go.Proofs.YtaobcdpadpkngaaW.PrintLast Go.Proofs.YtaobcdpadpkngaaW.PrintMore
attribute [local go_sem] max2_int min2_int max_two min_two max_three min_three max_four min_four   -- for this text's walks alone
set_option linter.unusedVariables false
set_option linter.unusedSimpArgs false

/-! ### spec_l4Int: function 25 -/
def spec_l4Int.f (a0:Int):Option (Int × Int × ByteArray × (List (S27)) × (List (S52))):=some (1,a0,(⟨#[]⟩:ByteArray),([]:List (S27)),([]:List (S52)))
set_option maxHeartbeats 8000000 in
set_option maxRecDepth 100000 in
theorem spec_l4Int.calls (a0:Int) (r1:Int) (r2:Int) (r3:ByteArray) (r4:List (S27)) (r5:List (S52)) (w:World) (h:spec_l4Int.f a0 = some (r1,r2,r3,r4,r5)) :
  Calls Try.prog 25 #[.int .i64 a0] w fun e w'=>∃ v3_ v4_:Value,e = .returned (.agg #[.int .i64 r1,.int .i64 r2,.string r3,v3_,v4_])∧Kd.R k27 27 w' w.heap.size (fun k_=>some k_≠(v4_:Value).ownBlock) v3_ r4∧Kd.R k52 52 w' w.heap.size (fun k_=>some k_≠(v3_:Value).ownBlock) v4_ r5∧Below w.heap.size w w':=by
 have hu27:=Try.underlying27;have HB:=Aside0.mk (Below.refl w.heap.size w);have H:(some (1,a0,(⟨#[]⟩:ByteArray),([]:List (S27)),([]:List (S52)))) = some (r1,r2,r3,r4,r5):=h;clear h;simp only [Option.some.injEq,Prod.mk.injEq] at H;obtain ⟨rfl,rfl,rfl,rfl,rfl⟩:=H
 go_enter Try.func25,Try.ntmps25
 go_wp2_with (first|((with_reducible refine gate_dst (N:=2) rfl ?_);refine box_event ?hg (N:=2) ?hd (cs:=#[.int .i64 0,.int .i64 0,.string (⟨#[]⟩:ByteArray),.slice none 0 0,.slice none 0 0]) (t:=27) ?hr ?_;(case hd=>rfl);(case hg=>rfl);(case hr=>first|(go_simp;done)|(go_simp;rfl));intro gb162 hg w2 hbox hb;have n_:=ai (bq HB hb) <| aj (hbox) <| ai (bz hg HB) <| bz hg HB;clear HB;obtain ⟨HB,BK162,GW162,GE162⟩:=n_;clear hb hbox hg;obtain ⟨h3_0,h3_1,h3_2,h3_3,h3_4⟩:=kb5 BK162.out;obtain ⟨z3_0,z3_1,z3_2,z3_3,z3_4⟩:=kz5 BK162.out))
 refine bodyPost_ret (results_cell_row rfl _ _ gb162 27 #[.int .i64 1,.int .i64 a0,.string (⟨#[]⟩:ByteArray),.slice none 0 0,.slice none 0 0] (0,0) _ rfl (bmp BK162.out) Try.underlying27 rfl (by kernel_rfl)) rfl ?_
 exact ⟨_,_,cl,by first|exact Kd.R_nil _ _ _ _ _|exact Kd.N_nil _ _ _ _ _|exact Kd.V_nil _ _ _ _ _|exact Kd.Q_nil _ _ _ _ _|exact Kd.S_nil _ _ _ _ _,by first|exact Kd.R_nil _ _ _ _ _|exact Kd.N_nil _ _ _ _ _|exact Kd.V_nil _ _ _ _ _|exact Kd.Q_nil _ _ _ _ _|exact Kd.S_nil _ _ _ _ _,bl HB.out⟩

/-! ### spec_l1Str: function 27 -/
def spec_l1Str.f (s0_0:List Int) (s0_1:Int) (s0_2:Int) (l1:List ByteArray):Option (ByteArray × Int × Int):=(spec_l1Below.f s0_0 s0_1 s0_2 (l1.length:Int)).bind fun bt163=>(if 0≤bt163.1 then (if bt163.1 < (l1.length:Int) then (some (rdOf ByteArray.empty l1 bt163.1,bt163.2.1,bt163.2.2)) else (none)) else (none))
set_option maxHeartbeats 8000000 in
set_option maxRecDepth 100000 in
theorem spec_l1Str.calls (g:Nat) (s0_0:List Int) (s0_1:Int) (s0_2:Int) (A1:Option Addr) (c1:Nat) (l1:List ByteArray) (r1:ByteArray) (r2:Int) (r3:Int) (w0 w:World) (hI:IsS42 w0 w g s0_0 s0_1 s0_2) (hB:Below w0.heap.size w0 w) (hr1:Kd.C Kd.string w A1 l1.length l1) (hc1:l1.length≤c1) (hf1:∀ ad,A1 = some ad → 0 < l1.length → ad.block≠g) (h:spec_l1Str.f s0_0 s0_1 s0_2 l1 = some (r1,r2,r3)) :
  Calls Try.prog 27 #[.pointer (some ⟨g,0,none⟩),.slice A1 l1.length c1] w fun e w'=>e = .returned (.string r1)∧IsS42 w0 w' g s0_0 r2 r3∧Below w0.heap.size w0 w'∧KeepBut w w' g none:=by
 have HR1:=Aside0.mk hr1;have HC1:=Aside0.mk hc1;clear hr1 hc1;have HI0:=Aside0.mk hI;have HK:=Aside0.mk (KeepBut.refl w g none);have HL:=Aside0.mk hB.size;clear hI;have HW0:=Aside0.mk hB.size;have HB:=Aside0.mk hB;clear hB;have H:((spec_l1Below.f s0_0 s0_1 s0_2 (l1.length:Int)).bind fun bt163=>(if 0≤bt163.1 then (if bt163.1 < (l1.length:Int) then (some (rdOf ByteArray.empty l1 bt163.1,bt163.2.1,bt163.2.2)) else (none)) else (none))) = some (r1,r2,r3):=h;clear h;replace H:=Option.bind_eq_some_iff.mp H;obtain ⟨⟨t163,t164,t165⟩,A30,H⟩:=H;replace H:(if 0≤t163 then (if t163 < (l1.length:Int) then (some (rdOf ByteArray.empty l1 t163,t164,t165)) else (none)) else (none)) = some (r1,r2,r3):=H;have A3:=Aside0.mk A30;clear A30
 by_cases c4:0≤t163
 ·rw [if_pos c4] at H
  have c4b0:decide (0≤t163) = true:=decide_eq_true c4;clear c4
  by_cases c5:t163 < (l1.length:Int)
  ·rw [if_pos c5] at H
   have c5b0:decide (t163 < (l1.length:Int)) = true:=decide_eq_true c5;clear c5;simp only [Option.some.injEq,Prod.mk.injEq] at H;obtain ⟨rfl,rfl,rfl⟩:=H
   go_enter Try.func27,Try.ntmps27
   go_wp2_with (first|((with_reducible refine gate_callee (f:=17) rfl ?_);refine goesL_ (some 9) rfl rfl Try.func17 (by kernel_rfl) rfl #[.pointer (some ⟨g,0,none⟩),.int .i64 (l1.length:Int)] rfl gs ?_;(with_reducible refine (spec_l1Below.calls g s0_0 s0_1 s0_2 (l1.length:Int) t163 t164 t165 w0 _ ?side1 ?side2 A3.out).mono ?_);(case side1=>exact i42 HI0.out);(case side2=>exact b42 HB.out);rintro e w6 ⟨rfl,hi,hb,hk⟩;refine ⟨_,rfl,?_⟩;have n_:=aj (KeepBut.trans (kk HK.out) hk (.inl rfl)) <| aj (hb) <| Aside0.mk (hi);clear HK HB HI0;obtain ⟨HK,HB,HI0⟩:=n_;(try clear hb);(try clear hk);(try clear hi);have p166:0≤(t163:Int):=od;have q166:t163 < (l1.length:Int):=od;obtain ⟨ad166,e166,hx166_0⟩:=Kd.at_string HR1.out t163 p166 q166;cases e166;replace hx166_0:=keep_cell HK.out hx166_0 (by first|(rw [add_block];exact hf1 _ rfl (by omega))|exact hf1 _ rfl (by omega)|exact hf1 ad166 rfl (by omega));replace p166:=eq_true p166;replace q166:=eq_true q166))
   go_ret
   exact ⟨cl,i42 HI0.out,b42 HB.out,kk HK.out⟩
  ·rw [if_neg c5] at H
   exact absurd H (by simp)
 ·rw [if_neg c4] at H
  exact absurd H (by simp)

/-! ### spec_l1Int: function 28 -/
def spec_l1Int.f (s0_0:List Int) (s0_1:Int) (s0_2:Int) (l1:List Int):Option (Int × Int × Int):=(spec_l1Below.f s0_0 s0_1 s0_2 (l1.length:Int)).bind fun bt167=>(if 0≤bt167.1 then (if bt167.1 < (l1.length:Int) then (some (rd l1 bt167.1,bt167.2.1,bt167.2.2)) else (none)) else (none))
set_option maxHeartbeats 8000000 in
set_option maxRecDepth 100000 in
theorem spec_l1Int.calls (g:Nat) (s0_0:List Int) (s0_1:Int) (s0_2:Int) (A1:Option Addr) (c1:Nat) (l1:List Int) (r1:Int) (r2:Int) (r3:Int) (w0 w:World) (hI:IsS42 w0 w g s0_0 s0_1 s0_2) (hB:Below w0.heap.size w0 w) (hr1:Kd.C (Kd.int .i64) w A1 l1.length l1) (hc1:l1.length≤c1) (hf1:∀ ad,A1 = some ad → 0 < l1.length → ad.block≠g) (h:spec_l1Int.f s0_0 s0_1 s0_2 l1 = some (r1,r2,r3)) :
  Calls Try.prog 28 #[.pointer (some ⟨g,0,none⟩),.slice A1 l1.length c1] w fun e w'=>e = .returned (.int .i64 r1)∧IsS42 w0 w' g s0_0 r2 r3∧Below w0.heap.size w0 w'∧KeepBut w w' g none:=by
 have HR1:=Aside0.mk hr1;have HC1:=Aside0.mk hc1;clear hr1 hc1;have HI0:=Aside0.mk hI;have HK:=Aside0.mk (KeepBut.refl w g none);have HL:=Aside0.mk hB.size;clear hI;have HW0:=Aside0.mk hB.size;have HB:=Aside0.mk hB;clear hB;have H:((spec_l1Below.f s0_0 s0_1 s0_2 (l1.length:Int)).bind fun bt167=>(if 0≤bt167.1 then (if bt167.1 < (l1.length:Int) then (some (rd l1 bt167.1,bt167.2.1,bt167.2.2)) else (none)) else (none))) = some (r1,r2,r3):=h;clear h;replace H:=Option.bind_eq_some_iff.mp H;obtain ⟨⟨t167,t168,t169⟩,A30,H⟩:=H;replace H:(if 0≤t167 then (if t167 < (l1.length:Int) then (some (rd l1 t167,t168,t169)) else (none)) else (none)) = some (r1,r2,r3):=H;have A3:=Aside0.mk A30;clear A30
 by_cases c4:0≤t167
 ·rw [if_pos c4] at H
  have c4b0:decide (0≤t167) = true:=decide_eq_true c4;clear c4
  by_cases c5:t167 < (l1.length:Int)
  ·rw [if_pos c5] at H
   have c5b0:decide (t167 < (l1.length:Int)) = true:=decide_eq_true c5;clear c5;simp only [Option.some.injEq,Prod.mk.injEq] at H;obtain ⟨rfl,rfl,rfl⟩:=H
   go_enter Try.func28,Try.ntmps28
   go_wp2_with (first|((with_reducible refine gate_callee (f:=17) rfl ?_);refine goesL_ (some 9) rfl rfl Try.func17 (by kernel_rfl) rfl #[.pointer (some ⟨g,0,none⟩),.int .i64 (l1.length:Int)] rfl gs ?_;(with_reducible refine (spec_l1Below.calls g s0_0 s0_1 s0_2 (l1.length:Int) t167 t168 t169 w0 _ ?side1 ?side2 A3.out).mono ?_);(case side1=>exact i42 HI0.out);(case side2=>exact b42 HB.out);rintro e w6 ⟨rfl,hi,hb,hk⟩;refine ⟨_,rfl,?_⟩;have n_:=aj (KeepBut.trans (kk HK.out) hk (.inl rfl)) <| aj (hb) <| Aside0.mk (hi);clear HK HB HI0;obtain ⟨HK,HB,HI0⟩:=n_;(try clear hb);(try clear hk);(try clear hi);have p170:0≤(t167:Int):=od;have q170:t167 < (l1.length:Int):=od;obtain ⟨ad170,e170,hx170_0⟩:=Kd.at_int HR1.out t167 p170 q170;cases e170;replace hx170_0:=keep_cell HK.out hx170_0 (by first|(rw [add_block];exact hf1 _ rfl (by omega))|exact hf1 _ rfl (by omega)|exact hf1 ad170 rfl (by omega));replace p170:=eq_true p170;replace q170:=eq_true q170))
   go_ret
   exact ⟨cl,i42 HI0.out,b42 HB.out,kk HK.out⟩
  ·rw [if_neg c5] at H
   exact absurd H (by simp)
 ·rw [if_neg c4] at H
  exact absurd H (by simp)

end Go.Proofs.Ytaobcdpadpkngaa.QFnPatterns
