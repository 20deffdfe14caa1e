-- Written by a program of this workplace (print2.py) for this claim, over the print's words.
import Derived.Test.YtghhbdmjafedbaaQFnExactCodeOkx0
import Derived.Test.YtghhbdmjafedbaaQFnExactCodeOkx10
import Derived.Test.YtghhbdmjafedbaaQFnExactCodeOkx13
namespace Go.Proofs.Ytghhbdmjafedbaa.QFnExactCodeOk
open Go.RowKit Go.Proofs.YtghhbdmjafedbaaW.PrintWords Go.Proofs.YtghhbdmjafedbaaW.PrintLast Go.Proofs.YtghhbdmjafedbaaW.PrintMore
attribute [local go_sem] max2_int min2_int max_two min_two max_three min_three max_four min_four   -- for this text's walks alone
set_option linter.unusedVariables false
set_option linter.unusedSimpArgs false

/-! ### impl_insOk: function 31 -/
mutual
def impl_insOk.j0:Nat → List (S31) → List (S44) → Bool → Int → Int → ByteArray → Int → Option (Bool)
 | 0,_,_,_,_,_,_,_=>none
 | k + 1,x0,x1,x7,x310000,x310001,x310002,x310003=>if 0 < (x1.length:Int) then ((impl_inRange.f x310003 0 (wrap64 ((((rd_T44 x1 0).f3).length:Int) - 1))).bind fun t311=>(if x310000 = 1 then (if x7 = true then ((impl_inRange.f x310001 0 1000000000000).bind fun t312=>(some t312)) else (some false)) else (if x310000 = 2 then (if x310001 = 0 then ((impl_xAtomOk.f k x310002).bind fun t313=>(if t313 = true then (some (x310003 == 0)) else (some false))) else (some false)) else (if x310000 = 3 then (if x7 = true then ((impl_inRange.f x310001 0 (wrap64 (((rd_T44 x1 0).f2) - 1))).bind fun t315=>(some t315)) else (some false)) else (if x310000 = 4 then (impl_insOk.j1 k x0 x1 x7 t311 x310000 (x310000 == 4) x310000 x310001 x310002 x310003) else (impl_insOk.j1 k x0 x1 x7 t311 x310000 (x310000 == 5) x310000 x310001 x310002 x310003)))))) else (none)
def impl_insOk.j1:Nat → List (S31) → List (S44) → Bool → Bool → Int → Bool → Int → Int → ByteArray → Int → Option (Bool)
 | 0,_,_,_,_,_,_,_,_,_,_=>none
 | k + 1,x0,x1,x7,x8,x28,x65,x310000,x310001,x310002,x310003=>if x65 = true then (if x7 = true then ((impl_inRange.f x310001 0 20).bind fun t316=>(some t316)) else (some false)) else (if x28 = 6 then (if x7 = true then ((impl_inRange.f x310001 2 6).bind fun t317=>(some t317)) else (some false)) else (if x28 = 7 then (if x310001 = 0 then ((impl_isOp.f x310002).bind fun t318=>(if t318 = true then (some (x310003 == 0)) else (some false))) else (some false)) else (if x28 = 8 then ((impl_fnAt.f x0 x310002).bind fun t319=>(if t319 ≥ 0 then (if 0 < (x0.length:Int) then (if 0≤t319 then (if t319 < (((rd_T31 x0 0).f0).length:Int) then (if ((rd_T44 ((rd_T31 x0 0).f0) t319).f1) = x310001 then (some (x310003 == 0)) else (some false)) else (none)) else (none)) else (none)) else (some false))) else (if x28 = 9 then (if x310002.toList = ([]:List UInt8) then (if x8 = true then (if 0 < (x0.length:Int) then ((impl_inRange.f x310001 0 (wrap64 ((((rd_T31 x0 0).f1).length:Int) - 1))).bind fun t323=>(if t323 = true then (if 0≤x310001 then (if x310001 < (((rd_T31 x0 0).f1).length:Int) then (if 0 < (x1.length:Int) then ((impl_PatFits.f k ((rd_T67 ((rd_T31 x0 0).f1) x310001).f0) ((rd_T67 ((rd_T31 x0 0).f1) x310001).f1) ((rd_T67 ((rd_T31 x0 0).f1) x310001).f2) ((rd_T67 ((rd_T31 x0 0).f1) x310001).f3) ((rd_T44 x1 0).f2)).bind fun t327=>(some t327)) else (none)) else (none)) else (none)) else (some false))) else (none)) else (some false)) else (some false)) else (if x28 = 10 then (if x310002.toList = ([]:List UInt8) then (if x310001 = 0 then (some x8) else (some false)) else (some false)) else (if x28 = 11 then (if x7 = true then (some (x310001 == 0)) else (some false)) else (if x28 = 12 then (if x7 = true then (some (x310001 == 0)) else (some false)) else (some false))))))))
end
def impl_insOk.f (k:Nat) (l0:List (S31)) (l1:List (S44)) (a2_0:Int) (a2_1:Int) (a2_2:ByteArray) (a2_3:Int):Option (Bool):=if a2_2.toList = ([]:List UInt8) then (impl_insOk.j0 k l0 l1 (a2_3 == 0) a2_0 a2_1 a2_2 a2_3) else (impl_insOk.j0 k l0 l1 false a2_0 a2_1 a2_2 a2_3)
theorem impl_insOk.mono_l:∀ k,(∀ y0 y1 y2 y3 y4 y5 y6,LeO (impl_insOk.j0 k y0 y1 y2 y3 y4 y5 y6) (impl_insOk.j0 (k + 1) y0 y1 y2 y3 y4 y5 y6))∧(∀ y0 y1 y2 y3 y4 y5 y6 y7 y8 y9,LeO (impl_insOk.j1 k y0 y1 y2 y3 y4 y5 y6 y7 y8 y9) (impl_insOk.j1 (k + 1) y0 y1 y2 y3 y4 y5 y6 y7 y8 y9))
 | 0=>⟨fun _ _ _ _ _ _ _ r h=>by simp [impl_insOk.j0] at h,fun _ _ _ _ _ _ _ _ _ _ r h=>by simp [impl_insOk.j1] at h⟩
 | k + 1=>by
  obtain ⟨ih0,ih1⟩:=impl_insOk.mono_l k
  refine ⟨?_,?_⟩
  ·intro y0 y1 y2 y3 y4 y5 y6
   unfold impl_insOk.j0
   with_reducible repeat' first|apply ih0|apply ih1|apply impl_PatFits.mono|apply impl_xAtomOk.mono|apply LeO.refl|apply LeO.none|apply LeO.ite|refine LeO.bind ?_ (fun _=>?_)
  ·intro y0 y1 y2 y3 y4 y5 y6 y7 y8 y9
   unfold impl_insOk.j1
   with_reducible repeat' first|apply ih0|apply ih1|apply impl_PatFits.mono|apply impl_xAtomOk.mono|apply LeO.refl|apply LeO.none|apply LeO.ite|refine LeO.bind ?_ (fun _=>?_)
theorem impl_insOk.mono:∀ a0 a1 a2 a3 a4 a5 k,LeO (impl_insOk.f k a0 a1 a2 a3 a4 a5) (impl_insOk.f (k + 1) a0 a1 a2 a3 a4 a5):=by
 intro a0 a1 a2 a3 a4 a5 k;obtain ⟨ih0,ih1⟩:=impl_insOk.mono_l k
 unfold impl_insOk.f
 with_reducible repeat' first|apply ih0|apply ih1|apply impl_PatFits.mono|apply impl_xAtomOk.mono|apply LeO.refl|apply LeO.none|apply LeO.ite|refine LeO.bind ?_ (fun _=>?_)
def impl_insOk.T2:Bool × List (List Nat × List Nat):=(true,[([],[]),([0],[0]),([],[]),([2],[2]),([3],[3]),([4],[4]),([5],[5]),([6],[6]),([1,7],[1,7]),([8,8,0,1,2,3,4,5,6,7,8],[8])])
def impl_insOk.B2:List Nat:=[0,1,0,4,12,28,60,124,255,511]
theorem impl_insOk.tab2:rtab .any (opsOf Try.f31 2) = impl_insOk.T2:=by kernel_rfl
theorem impl_insOk.bits2:waitsOk impl_insOk.T2.2 impl_insOk.B2 = true:=by kernel_rfl
def impl_insOk.T9:Bool × List (List Nat × List Nat):=(true,[([],[]),([0],[0]),([1],[1]),([2,1],[1,2]),([1],[1]),([4,1],[1,4]),([5,1],[1,5]),([6,1],[1,6]),([7,1],[1,7]),([3,8,1,1],[1,3,8]),([1,9],[1,9]),([10,9,0,1,2,3,4,5,6,7,8,9,10],[10])])
def impl_insOk.B9:List Nat:=[0,1,3,7,3,19,51,115,243,511,1023,2047]
theorem impl_insOk.tab9:rtab .any (opsOf Try.f31 9) = impl_insOk.T9:=by kernel_rfl
theorem impl_insOk.bits9:waitsOk impl_insOk.T9.2 impl_insOk.B9 = true:=by kernel_rfl
def impl_insOk.T19:Bool × List (List Nat × List Nat):=(true,[([],[]),([0],[0]),([1],[1]),([2],[2]),([3,2],[2,3]),([4,2],[2,4]),([5,2],[2,5]),([2],[2]),([6,7,2],[2,6,7]),([8,2],[2,8]),([9,2],[2,9]),([2],[2]),([11,2],[2,11]),([10,12,2],[2,10,12]),([2,13],[2,13]),([14,2],[14]),([15],[15]),([16,15],[15,16]),([17,15],[15,17]),([15,18],[15,18]),([19,15,0,1,2,3,4,5,6,7,8,9,10,11,12,13,14,15,16,17,18,19],[19])])
def impl_insOk.B19:List Nat:=[0,1,3,7,15,31,63,7,255,511,1023,7,2055,8191,16383,32767,65535,131071,262143,524287,1048575]
theorem impl_insOk.tab19:rtab .any (opsOf Try.f31 19) = impl_insOk.T19:=by kernel_rfl
theorem impl_insOk.bits19:waitsOk impl_insOk.T19.2 impl_insOk.B19 = true:=by kernel_rfl
def impl_insOk.T21:Bool × List (List Nat × List Nat):=(true,[([],[]),([0],[0]),([1],[1]),([2],[2]),([3],[3]),([3,4],[3,4]),([5,3],[5]),([6],[6]),([7,6],[6,7]),([6],[6]),([9,6],[6,9]),([10,6],[6,10]),([11,6],[6,11]),([12,6],[6,12]),([13,6],[6,13]),([8,14,6,6],[6,8,14]),([6,15],[6,15]),([16,15],[16]),([17],[17]),([18,17],[17,18]),([19,17],[17,19]),([20,17],[17,20]),([17],[17]),([22,17],[17,22]),([21,23,17],[17,21,23]),([24,17],[17,24]),([17],[17]),([26,17],[17,26]),([27,17],[17,27]),([28,17],[17,28]),([25,29,17,17],[17,25,29]),([17,30],[17,30]),([31,30,0,1,2,3,4,5,6,7,8,9,10,11,12,13,14,15,16,17,18,19,20,21,22,23,24,25,26,27,28,29,30,31],[31])])
def impl_insOk.B21:List Nat:=[0,1,3,7,15,31,63,127,255,127,639,1663,3711,7807,15999,32767,65535,131071,262143,524287,1048575,2097151,262143,4456447,16777215,33554431,262143,67371007,201588735,470024191,1073741823,2147483647,4294967295]
theorem impl_insOk.tab21:rtab .any (opsOf Try.f31 21) = impl_insOk.T21:=by kernel_rfl
theorem impl_insOk.bits21:waitsOk impl_insOk.T21.2 impl_insOk.B21 = true:=by kernel_rfl
set_option maxHeartbeats 8000000 in
set_option maxRecDepth 100000 in
theorem impl_insOk.calls (k:Nat) (A0:Option Addr) (c0:Nat) (l0:List (S31)) (A1:Option Addr) (c1:Nat) (l1:List (S44)) (a2_0:Int) (a2_1:Int) (a2_2:ByteArray) (a2_3:Int) (r:Bool) (w:World) (hr0:Kd.C k31 w A0 l0.length l0) (hc0:l0.length≤c0) (hr1:Kd.C k44 w A1 l1.length l1) (hc1:l1.length≤c1) (h:impl_insOk.f k l0 l1 a2_0 a2_1 a2_2 a2_3 = some r) :
  Calls Try.prog 31 #[.pointer A0,.pointer A1,.agg #[.int .i64 a2_0,.int .i64 a2_1,.string a2_2,.int .i64 a2_3]] w fun e w'=>e = .returned (.bool r)∧Below w.heap.size w w':=by
 have hu64:=Try.underlying64;have hu67:=Try.underlying67;have HR0:=Aside0.mk hr0;have HC0:=Aside0.mk hc0;clear hr0 hc0;have HR1:=Aside0.mk hr1;have HC1:=Aside0.mk hc1;clear hr1 hc1;have HB:=Aside0.mk (Below.refl w.heap.size w);have H:(if a2_2.toList = ([]:List UInt8) then (impl_insOk.j0 k l0 l1 (a2_3 == 0) a2_0 a2_1 a2_2 a2_3) else (impl_insOk.j0 k l0 l1 false a2_0 a2_1 a2_2 a2_3)) = some r:=h;clear h;have HC4:=Aside0.mk H;clear H
 go_enter Try.func31,Try.ntmps31
 go_upto_region 1 with (first|((with_reducible refine gate_dst (N:=5) rfl ?_);(try (refine gate_guard (by rfl) ?_;dsimp only));refine box_event ?hg (N:=5) ?hd (cs:=#[.int .i64 a2_0,.int .i64 a2_1,.string a2_2,.int .i64 a2_3]) (t:=64) ?hr ?_;(case hd=>rfl);(case hg=>rfl);(case hr=>first|(go_simp;done)|(go_simp;rfl));intro gb309 hg w5 hbox hb;have n_:=ai (bq HB hb) <| ai (Aside0.mk (hbox)) <| ai (bz hg HB) <| bz hg HB;clear HB;obtain ⟨HB,BK309,GW309,GE309⟩:=n_;clear hb hbox hg))
 (try simp only [Act.put,List.setIfInBounds_toArray,List.set_cons_zero,List.set_cons_succ])
 go_cut [7] (fun v7 wc=>∃ (kq:Nat) (x7_3:Bool),v7 = .bool x7_3∧Aside0 (impl_insOk.j0 kq l0 l1 x7_3 a2_0 a2_1 a2_2 a2_3 = some r)∧Aside0 (kq≤k)∧Aside0 (wc.heap[gb309]? = some (.cells #[.int .i64 a2_0,.int .i64 a2_1,.string a2_2,.int .i64 a2_3] 64 (0,0)))∧Aside0 (Below w.heap.size w wc))
 case first =>
  have H:=HC4.out;clear HC4
  by_cases c6:a2_2.toList = ([]:List UInt8)
  ·rw [if_pos c6] at H
   have c6b0:(a2_2.toList == ([]:List UInt8)) = true:=beq_iff_eq.mpr c6;have c6b1:(a2_2.toList != ([]:List UInt8)) = false:=bne_eq_false_iff_eq.mpr c6;clear c6
   (first|rw [c6b0]|(simp only [i64_w,i32_w];rw [c6b0])|(simp only [c6b2,Bool.not_true,Bool.not_false])|skip)
   have H':=Aside0.mk H;clear H;obtain ⟨hcz7_0,hcz7_1,hcz7_2,hcz7_3⟩:=kb4 BK309.out
   go_wp2
   go_meet
   case rel=>exact ⟨_,((a2_3 == 0)),(cl2),H',⟨by first|omega|exact Nat.le_refl _⟩,⟨bk BK309.out⟩,⟨bl HB.out⟩⟩
  ·rw [if_neg c6] at H
   have c6b0:(a2_2.toList == ([]:List UInt8)) = false:=beq_eq_false_iff_ne.mpr c6;have c6b1:(a2_2.toList != ([]:List UInt8)) = true:=bne_iff_ne.mpr c6
   (first|rw [c6b0]|(simp only [i64_w,i32_w];rw [c6b0])|(simp only [c6b2,Bool.not_true,Bool.not_false])|skip)
   have H':=Aside0.mk H;clear H;obtain ⟨hcz8_0,hcz8_1,hcz8_2,hcz8_3⟩:=kb4 BK309.out
   go_wp2
   go_meet
   case rel=>exact ⟨_,(false),(cl2),H',⟨by first|omega|exact Nat.le_refl _⟩,⟨bk BK309.out⟩,⟨bl HB.out⟩⟩
 case rest =>
  clear HC4;(try clear c1);(try clear p2);(try clear c3);(try clear c6);(try clear c6b0);(try clear c6b1);(try clear c6b2);(try clear hcz7_0);(try clear hcz7_1);(try clear hcz7_2);(try clear hcz7_3);(try clear hcz8_0);(try clear hcz8_1);(try clear hcz8_2);(try clear hcz8_3);(try clear hfz7_0);(try clear hfz7_1);(try clear hfz7_2);(try clear hfz7_3);(try clear hfz8_0);(try clear hfz8_1);(try clear hfz8_2);(try clear hfz8_3);(try clear BK309);(try clear HB);obtain ⟨kq,x7_3,rfl,HA,HJ3,BK309,HB⟩:=hcut
  cases kq with
  | zero=>exact absurd HA.out (by simp [impl_insOk.j0])
  | succ kj3 =>
   have H:=HA.out;clear HA;simp only [impl_insOk.j0] at H
   by_cases c9:0 < (l1.length:Int)
   ·rw [if_pos c9] at H
    have c9b0:decide (0 < (l1.length:Int)) = true:=decide_eq_true c9;have c9b1:decide (0 < l1.length) = true:=decide_eq_true (by omega);clear c9;replace H:=Option.bind_eq_some_iff.mp H;obtain ⟨t311,A100,H⟩:=H;replace H:(if a2_0 = 1 then (if x7_3 = true then ((impl_inRange.f a2_1 0 1000000000000).bind fun t312=>(some t312)) else (some false)) else (if a2_0 = 2 then (if a2_1 = 0 then ((impl_xAtomOk.f kj3 a2_2).bind fun t313=>(if t313 = true then (some (a2_3 == 0)) else (some false))) else (some false)) else (if a2_0 = 3 then (if x7_3 = true then ((impl_inRange.f a2_1 0 (wrap64 (((rd_T44 l1 0).f2) - 1))).bind fun t315=>(some t315)) else (some false)) else (if a2_0 = 4 then (impl_insOk.j1 kj3 l0 l1 x7_3 t311 a2_0 (a2_0 == 4) a2_0 a2_1 a2_2 a2_3) else (impl_insOk.j1 kj3 l0 l1 x7_3 t311 a2_0 (a2_0 == 5) a2_0 a2_1 a2_2 a2_3))))) = some r:=H;have A10:=Aside0.mk A100;clear A100
    by_cases c11:a2_0 = 1
    ·rw [if_pos c11] at H
     have c11b0:(a2_0 == 1) = true:=beq_iff_eq.mpr c11;have c11b1:(a2_0 != 1) = false:=bne_eq_false_iff_eq.mpr c11;clear c11
     try go_wp2
     have n_:=ai (dk BK309) <| dh HB;clear BK309 HB;obtain ⟨BK309,HB⟩:=n_;have p310:0≤(0:Int):=(by omega);have q310:0 < (l1.length:Int):=od;obtain ⟨ad310,A310_3,c310_3,e310,hx310_0,hx310_1,hx310_2,hx310_3,hl310_3,hi310_3⟩:=at_T44 HR1.out 0 p310 q310;have hw310_3:=hx310_3;(try simp only [show ((0:Int)).toNat = 0 from rfl,show 0 * 4 = 0 from rfl,Addr.add_zero'] at hw310_3);have hw310_2:=hx310_2;(try simp only [show ((0:Int)).toNat = 0 from rfl,show 0 * 4 = 0 from rfl,Addr.add_zero'] at hw310_2);have hw310_1:=hx310_1;(try simp only [show ((0:Int)).toNat = 0 from rfl,show 0 * 4 = 0 from rfl,Addr.add_zero'] at hw310_1);have hw310_0:=hx310_0;(try simp only [show ((0:Int)).toNat = 0 from rfl,show 0 * 4 = 0 from rfl,Addr.add_zero'] at hw310_0);cases e310;have qi310:(0 < l1.length) = True:=eq_true (by omega);(try simp only [show ((0:Int)).toNat = 0 from rfl,show 0 * 4 = 0 from rfl,Addr.add_zero'] at hx310_0 hx310_1 hx310_2 hx310_3);replace hx310_0:=cb HB hx310_0;replace hx310_1:=cb HB hx310_1;replace hx310_2:=cb HB hx310_2;replace hx310_3:=cb HB hx310_3;have HR310_3:=Aside0.mk hi310_3;have HC310_3:=Aside0.mk hl310_3;clear hi310_3 hl310_3;replace p310:=eq_true p310;replace q310:=eq_true q310
     refine start_ (n:=10) (S:=fun w'=>(w'.cell? ⟨gb309,0,none⟩ = some (.int .i64 a2_0)∧w'.cell? ⟨gb309,1,none⟩ = some (.int .i64 a2_1)∧w'.cell? ⟨gb309,2,none⟩ = some (.string a2_2)∧w'.cell? ⟨gb309,3,none⟩ = some (.int .i64 a2_3))∧w'.cell? ad310 = some (.string ((rd_T44 l1 0).f0))∧w'.cell? ⟨ad310.block,ad310.off + 1,none⟩ = some (.int .i64 ((rd_T44 l1 0).f1))∧w'.cell? ⟨ad310.block,ad310.off + 2,none⟩ = some (.int .i64 ((rd_T44 l1 0).f2))∧w'.cell? ⟨ad310.block,ad310.off + 3,none⟩ = some (.slice A310_3 ((rd_T44 l1 0).f3).length c310_3)) (ds:=[]) #[false,false,false,false,false,false,false,false,false,false] (by kernel_rfl) rfl rfl ⟨kb4 BK309.out,(cb HB hw310_0 :),(cb HB hw310_1 :),(cb HB hw310_2 :),(cb HB hw310_3 :)⟩ (fun hHeld=>?_);refine with_tabW impl_insOk.tab2 impl_insOk.bits2 (fun HT_ HW_=>?_)
     generalize wc.drew = w14 at BK309 HB HR310_3 hx310_0 hx310_1 hx310_2 hx310_3 hHeld ⊢;refine pu 0 18 ?_;refine pu 2 20 ?_;refine pu 3 21 ?_;refine pu 4 22 ?_;refine ta 1 19 hHeld ?_;refine ta 5 23 hHeld ?_;refine pu 6 24 ?_;refine pu 7 25 ?_
     refine one_ (i:=8) (N:=some 26) #[true,true,true,true,true,true,true,true,true,false] rfl rfl (one_of HT_.out (by kernel_rfl)) (by decide) (fun K hK=>?_)
     refine goes_ Try.func30 (by kernel_rfl) rfl #[.int .i64 a2_3,.int .i64 0,.int .i64 (wrap64 ((((rd_T44 l1 0).f3).length:Int) - 1))] (by rfl) rfl rfl gs ?_
     with_reducible refine (impl_inRange.calls a2_3 0 (wrap64 ((((rd_T44 l1 0).f3).length:Int) - 1)) t311 _ A10.out).mono ?_
     rintro e w' ⟨rfl,⟨nd,rfl⟩⟩
     refine ⟨_,rfl,?_⟩
     refine hK.out _ _ ⟨kb4 BK309.out,(cb HB hw310_0 :),(cb HB hw310_1 :),(cb HB hw310_2 :),(cb HB hw310_3 :)⟩ (fun hHeld=>?_)
     clear hK K
     refine norm_ (a':=?_) ?_ ?_
     rotate_left
     ·show Act.put _ (some 26) _ = _
      simp only [Act.put,List.setIfInBounds_toArray,List.set_cons_zero,List.set_cons_succ,i64_w,i32_w]
      rfl
     refine pu 9 8 ?_
     refine done_ (done_of HT_.out (by kernel_rfl)) ?_
     by_cases c12:x7_3 = true
     ·subst c12
      have H1:((impl_inRange.f a2_1 0 1000000000000).bind fun t312=>(some t312)) = some r:=by rw [if_pos rfl] at H;exact H
      clear H;have H:=H1;clear H1;replace H:=Option.bind_eq_some_iff.mp H;obtain ⟨t312,A130,H⟩:=H;replace H:(some t312) = some r:=H;have A13:=Aside0.mk A130;clear A130;obtain rfl:=Option.some.inj H;obtain ⟨hcz15_0,hcz15_1,hcz15_2,hcz15_3⟩:=kb4 BK309.out
      try go_wp2_with (first|(go_at_call 30;(with_reducible refine (impl_inRange.calls a2_1 0 1000000000000 t312 _ A13.out).mono ?_);rintro e w' ⟨rfl,⟨nd,rfl⟩⟩))
      go_ret
      exact ⟨cl,bl HB.out⟩
     ·replace c12:=Bool.eq_false_iff.mpr c12
      subst c12;have H1:(some false) = some r:=by rw [if_neg (show ¬ (false = true) by decide)] at H;exact H
      clear H;have H:=H1;clear H1;obtain rfl:=Option.some.inj H;obtain ⟨hcz17_0,hcz17_1,hcz17_2,hcz17_3⟩:=kb4 BK309.out
      try go_wp2
      go_ret
      exact ⟨cl,bl HB.out⟩
    ·rw [if_neg c11] at H
     have c11b0:(a2_0 == 1) = false:=beq_eq_false_iff_ne.mpr c11;have c11b1:(a2_0 != 1) = true:=bne_iff_ne.mpr c11
     by_cases c18:a2_0 = 2
     ·rw [if_pos c18] at H
      have c18b0:(a2_0 == 2) = true:=beq_iff_eq.mpr c18;have c18b1:(a2_0 != 2) = false:=bne_eq_false_iff_eq.mpr c18;clear c18
      try go_wp2
      have n_:=ai (dk BK309) <| dh HB;clear BK309 HB;obtain ⟨BK309,HB⟩:=n_;have p310:0≤(0:Int):=(by omega);have q310:0 < (l1.length:Int):=od;obtain ⟨ad310,A310_3,c310_3,e310,hx310_0,hx310_1,hx310_2,hx310_3,hl310_3,hi310_3⟩:=at_T44 HR1.out 0 p310 q310;have hw310_3:=hx310_3;(try simp only [show ((0:Int)).toNat = 0 from rfl,show 0 * 4 = 0 from rfl,Addr.add_zero'] at hw310_3);have hw310_2:=hx310_2;(try simp only [show ((0:Int)).toNat = 0 from rfl,show 0 * 4 = 0 from rfl,Addr.add_zero'] at hw310_2);have hw310_1:=hx310_1;(try simp only [show ((0:Int)).toNat = 0 from rfl,show 0 * 4 = 0 from rfl,Addr.add_zero'] at hw310_1);have hw310_0:=hx310_0;(try simp only [show ((0:Int)).toNat = 0 from rfl,show 0 * 4 = 0 from rfl,Addr.add_zero'] at hw310_0);cases e310;have qi310:(0 < l1.length) = True:=eq_true (by omega);(try simp only [show ((0:Int)).toNat = 0 from rfl,show 0 * 4 = 0 from rfl,Addr.add_zero'] at hx310_0 hx310_1 hx310_2 hx310_3);replace hx310_0:=cb HB hx310_0;replace hx310_1:=cb HB hx310_1;replace hx310_2:=cb HB hx310_2;replace hx310_3:=cb HB hx310_3;have HR310_3:=Aside0.mk hi310_3;have HC310_3:=Aside0.mk hl310_3;clear hi310_3 hl310_3;replace p310:=eq_true p310;replace q310:=eq_true q310
      refine start_ (n:=10) (S:=fun w'=>(w'.cell? ⟨gb309,0,none⟩ = some (.int .i64 a2_0)∧w'.cell? ⟨gb309,1,none⟩ = some (.int .i64 a2_1)∧w'.cell? ⟨gb309,2,none⟩ = some (.string a2_2)∧w'.cell? ⟨gb309,3,none⟩ = some (.int .i64 a2_3))∧w'.cell? ad310 = some (.string ((rd_T44 l1 0).f0))∧w'.cell? ⟨ad310.block,ad310.off + 1,none⟩ = some (.int .i64 ((rd_T44 l1 0).f1))∧w'.cell? ⟨ad310.block,ad310.off + 2,none⟩ = some (.int .i64 ((rd_T44 l1 0).f2))∧w'.cell? ⟨ad310.block,ad310.off + 3,none⟩ = some (.slice A310_3 ((rd_T44 l1 0).f3).length c310_3)) (ds:=[]) #[false,false,false,false,false,false,false,false,false,false] (by kernel_rfl) rfl rfl ⟨kb4 BK309.out,(cb HB hw310_0 :),(cb HB hw310_1 :),(cb HB hw310_2 :),(cb HB hw310_3 :)⟩ (fun hHeld=>?_);refine with_tabW impl_insOk.tab2 impl_insOk.bits2 (fun HT_ HW_=>?_)
      generalize wc.drew = w22 at BK309 HB HR310_3 hx310_0 hx310_1 hx310_2 hx310_3 hHeld ⊢;refine pu 0 18 ?_;refine pu 2 20 ?_;refine pu 3 21 ?_;refine pu 4 22 ?_;refine ta 1 19 hHeld ?_;refine ta 5 23 hHeld ?_;refine pu 6 24 ?_;refine pu 7 25 ?_
      refine one_ (i:=8) (N:=some 26) #[true,true,true,true,true,true,true,true,true,false] rfl rfl (one_of HT_.out (by kernel_rfl)) (by decide) (fun K hK=>?_)
      refine goes_ Try.func30 (by kernel_rfl) rfl #[.int .i64 a2_3,.int .i64 0,.int .i64 (wrap64 ((((rd_T44 l1 0).f3).length:Int) - 1))] (by rfl) rfl rfl gs ?_
      with_reducible refine (impl_inRange.calls a2_3 0 (wrap64 ((((rd_T44 l1 0).f3).length:Int) - 1)) t311 _ A10.out).mono ?_
      rintro e w' ⟨rfl,⟨nd,rfl⟩⟩
      refine ⟨_,rfl,?_⟩
      refine hK.out _ _ ⟨kb4 BK309.out,(cb HB hw310_0 :),(cb HB hw310_1 :),(cb HB hw310_2 :),(cb HB hw310_3 :)⟩ (fun hHeld=>?_)
      clear hK K
      refine norm_ (a':=?_) ?_ ?_
      rotate_left
      ·show Act.put _ (some 26) _ = _
       simp only [Act.put,List.setIfInBounds_toArray,List.set_cons_zero,List.set_cons_succ,i64_w,i32_w]
       rfl
      refine pu 9 8 ?_
      refine done_ (done_of HT_.out (by kernel_rfl)) ?_
      by_cases c19:a2_1 = 0
      ·rw [if_pos c19] at H
       have c19b0:(a2_1 == 0) = true:=beq_iff_eq.mpr c19;have c19b1:(a2_1 != 0) = false:=bne_eq_false_iff_eq.mpr c19;clear c19;replace H:=Option.bind_eq_some_iff.mp H;obtain ⟨t313,A200,H⟩:=H;replace H:(if t313 = true then (some (a2_3 == 0)) else (some false)) = some r:=H;have A20:=Aside0.mk A200;clear A200
       by_cases c21:t313 = true
       ·subst c21
        have H1:(some (a2_3 == 0)) = some r:=by rw [if_pos rfl] at H;exact H
        clear H;have H:=H1;clear H1;obtain rfl:=Option.some.inj H;obtain ⟨hcz23_0,hcz23_1,hcz23_2,hcz23_3⟩:=kb4 BK309.out
        try go_wp2_with (first|(go_at_call 29;(with_reducible refine (impl_xAtomOk.calls kj3 a2_2 true _ A20.out).mono ?_);rintro e w' ⟨rfl,⟨nd,rfl⟩⟩))
        go_ret
        exact ⟨cl,bl HB.out⟩
       ·replace c21:=Bool.eq_false_iff.mpr c21
        subst c21;have H1:(some false) = some r:=by rw [if_neg (show ¬ (false = true) by decide)] at H;exact H
        clear H;have H:=H1;clear H1;obtain rfl:=Option.some.inj H;obtain ⟨hcz25_0,hcz25_1,hcz25_2,hcz25_3⟩:=kb4 BK309.out
        try go_wp2_with (first|(go_at_call 29;(with_reducible refine (impl_xAtomOk.calls kj3 a2_2 false _ A20.out).mono ?_);rintro e w' ⟨rfl,⟨nd,rfl⟩⟩))
        go_ret
        exact ⟨cl,bl HB.out⟩
      ·rw [if_neg c19] at H
       have c19b0:(a2_1 == 0) = false:=beq_eq_false_iff_ne.mpr c19;have c19b1:(a2_1 != 0) = true:=bne_iff_ne.mpr c19;obtain rfl:=Option.some.inj H;obtain ⟨hcz27_0,hcz27_1,hcz27_2,hcz27_3⟩:=kb4 BK309.out
       try go_wp2
       go_ret
       exact ⟨cl,bl HB.out⟩
     ·rw [if_neg c18] at H
      have c18b0:(a2_0 == 2) = false:=beq_eq_false_iff_ne.mpr c18;have c18b1:(a2_0 != 2) = true:=bne_iff_ne.mpr c18
      by_cases c28:a2_0 = 3
      ·rw [if_pos c28] at H
       have c28b0:(a2_0 == 3) = true:=beq_iff_eq.mpr c28;have c28b1:(a2_0 != 3) = false:=bne_eq_false_iff_eq.mpr c28;clear c28
       try go_wp2
       have n_:=ai (dk BK309) <| dh HB;clear BK309 HB;obtain ⟨BK309,HB⟩:=n_;have p310:0≤(0:Int):=(by omega);have q310:0 < (l1.length:Int):=od;obtain ⟨ad310,A310_3,c310_3,e310,hx310_0,hx310_1,hx310_2,hx310_3,hl310_3,hi310_3⟩:=at_T44 HR1.out 0 p310 q310;have hw310_3:=hx310_3;(try simp only [show ((0:Int)).toNat = 0 from rfl,show 0 * 4 = 0 from rfl,Addr.add_zero'] at hw310_3);have hw310_2:=hx310_2;(try simp only [show ((0:Int)).toNat = 0 from rfl,show 0 * 4 = 0 from rfl,Addr.add_zero'] at hw310_2);have hw310_1:=hx310_1;(try simp only [show ((0:Int)).toNat = 0 from rfl,show 0 * 4 = 0 from rfl,Addr.add_zero'] at hw310_1);have hw310_0:=hx310_0;(try simp only [show ((0:Int)).toNat = 0 from rfl,show 0 * 4 = 0 from rfl,Addr.add_zero'] at hw310_0);cases e310;have qi310:(0 < l1.length) = True:=eq_true (by omega);(try simp only [show ((0:Int)).toNat = 0 from rfl,show 0 * 4 = 0 from rfl,Addr.add_zero'] at hx310_0 hx310_1 hx310_2 hx310_3);replace hx310_0:=cb HB hx310_0;replace hx310_1:=cb HB hx310_1;replace hx310_2:=cb HB hx310_2;replace hx310_3:=cb HB hx310_3;have HR310_3:=Aside0.mk hi310_3;have HC310_3:=Aside0.mk hl310_3;clear hi310_3 hl310_3;replace p310:=eq_true p310;replace q310:=eq_true q310
       refine start_ (n:=10) (S:=fun w'=>(w'.cell? ⟨gb309,0,none⟩ = some (.int .i64 a2_0)∧w'.cell? ⟨gb309,1,none⟩ = some (.int .i64 a2_1)∧w'.cell? ⟨gb309,2,none⟩ = some (.string a2_2)∧w'.cell? ⟨gb309,3,none⟩ = some (.int .i64 a2_3))∧w'.cell? ad310 = some (.string ((rd_T44 l1 0).f0))∧w'.cell? ⟨ad310.block,ad310.off + 1,none⟩ = some (.int .i64 ((rd_T44 l1 0).f1))∧w'.cell? ⟨ad310.block,ad310.off + 2,none⟩ = some (.int .i64 ((rd_T44 l1 0).f2))∧w'.cell? ⟨ad310.block,ad310.off + 3,none⟩ = some (.slice A310_3 ((rd_T44 l1 0).f3).length c310_3)) (ds:=[]) #[false,false,false,false,false,false,false,false,false,false] (by kernel_rfl) rfl rfl ⟨kb4 BK309.out,(cb HB hw310_0 :),(cb HB hw310_1 :),(cb HB hw310_2 :),(cb HB hw310_3 :)⟩ (fun hHeld=>?_);refine with_tabW impl_insOk.tab2 impl_insOk.bits2 (fun HT_ HW_=>?_)
       generalize wc.drew = w31 at BK309 HB HR310_3 hx310_0 hx310_1 hx310_2 hx310_3 hHeld ⊢;refine pu 0 18 ?_;refine pu 2 20 ?_;refine pu 3 21 ?_;refine pu 4 22 ?_;refine ta 1 19 hHeld ?_;refine ta 5 23 hHeld ?_;refine pu 6 24 ?_;refine pu 7 25 ?_
       refine one_ (i:=8) (N:=some 26) #[true,true,true,true,true,true,true,true,true,false] rfl rfl (one_of HT_.out (by kernel_rfl)) (by decide) (fun K hK=>?_)
       refine goes_ Try.func30 (by kernel_rfl) rfl #[.int .i64 a2_3,.int .i64 0,.int .i64 (wrap64 ((((rd_T44 l1 0).f3).length:Int) - 1))] (by rfl) rfl rfl gs ?_
       with_reducible refine (impl_inRange.calls a2_3 0 (wrap64 ((((rd_T44 l1 0).f3).length:Int) - 1)) t311 _ A10.out).mono ?_
       rintro e w' ⟨rfl,⟨nd,rfl⟩⟩
       refine ⟨_,rfl,?_⟩
       refine hK.out _ _ ⟨kb4 BK309.out,(cb HB hw310_0 :),(cb HB hw310_1 :),(cb HB hw310_2 :),(cb HB hw310_3 :)⟩ (fun hHeld=>?_)
       clear hK K
       refine norm_ (a':=?_) ?_ ?_
       rotate_left
       ·show Act.put _ (some 26) _ = _
        simp only [Act.put,List.setIfInBounds_toArray,List.set_cons_zero,List.set_cons_succ,i64_w,i32_w]
        rfl
       refine pu 9 8 ?_
       refine done_ (done_of HT_.out (by kernel_rfl)) ?_
       by_cases c29:x7_3 = true
       ·subst c29
        have H1:((impl_inRange.f a2_1 0 (wrap64 (((rd_T44 l1 0).f2) - 1))).bind fun t315=>(some t315)) = some r:=by rw [if_pos rfl] at H;exact H
        clear H;have H:=H1;clear H1;replace H:=Option.bind_eq_some_iff.mp H;obtain ⟨t315,A300,H⟩:=H;replace H:(some t315) = some r:=H;have A30:=Aside0.mk A300;clear A300;obtain rfl:=Option.some.inj H;obtain ⟨hcz32_0,hcz32_1,hcz32_2,hcz32_3⟩:=kb4 BK309.out
        try go_wp2
        (try (rw [drewN_self w31];generalize hq_:World.drewN w31 _ = w31;have n_:=ai ((⟨by rw [← hq_];exact (bk BK309.out)⟩:Aside0 (w31.heap[gb309]? = some (.cells #[.int .i64 a2_0,.int .i64 a2_1,.string a2_2,.int .i64 a2_3] 64 (0,0))))) <| (⟨by rw [← hq_];exact (bl HB.out)⟩:Aside0 (Below w.heap.size w w31));clear BK309 HB hq_;obtain ⟨BK309,HB⟩:=n_));have n_:=ai (dk BK309) <| dh HB;clear BK309 HB;obtain ⟨BK309,HB⟩:=n_;have p314:0≤(0:Int):=(by omega);have q314:0 < (l1.length:Int):=od;obtain ⟨ad314,A314_3,c314_3,e314,hx314_0,hx314_1,hx314_2,hx314_3,hl314_3,hi314_3⟩:=at_T44 HR1.out 0 p314 q314;have hw314_3:=hx314_3;(try simp only [show ((0:Int)).toNat = 0 from rfl,show 0 * 4 = 0 from rfl,Addr.add_zero'] at hw314_3);have hw314_2:=hx314_2;(try simp only [show ((0:Int)).toNat = 0 from rfl,show 0 * 4 = 0 from rfl,Addr.add_zero'] at hw314_2);have hw314_1:=hx314_1;(try simp only [show ((0:Int)).toNat = 0 from rfl,show 0 * 4 = 0 from rfl,Addr.add_zero'] at hw314_1);have hw314_0:=hx314_0;(try simp only [show ((0:Int)).toNat = 0 from rfl,show 0 * 4 = 0 from rfl,Addr.add_zero'] at hw314_0);obtain rfl:ad310 = ad314:=(by injection e314);have qi314:(0 < l1.length) = True:=eq_true (by omega);(try simp only [show ((0:Int)).toNat = 0 from rfl,show 0 * 4 = 0 from rfl,Addr.add_zero'] at hx314_0 hx314_1 hx314_2 hx314_3);replace hx314_0:=cb HB hx314_0;replace hx314_1:=cb HB hx314_1;replace hx314_2:=cb HB hx314_2;replace hx314_3:=cb HB hx314_3;have HR314_3:=Aside0.mk hi314_3;have HC314_3:=Aside0.mk hl314_3;clear hi314_3 hl314_3;replace p314:=eq_true p314;replace q314:=eq_true q314
        refine start_ (n:=12) (S:=fun w'=>(w'.cell? ⟨gb309,0,none⟩ = some (.int .i64 a2_0)∧w'.cell? ⟨gb309,1,none⟩ = some (.int .i64 a2_1)∧w'.cell? ⟨gb309,2,none⟩ = some (.string a2_2)∧w'.cell? ⟨gb309,3,none⟩ = some (.int .i64 a2_3))∧w'.cell? ad310 = some (.string ((rd_T44 l1 0).f0))∧w'.cell? ⟨ad310.block,ad310.off + 1,none⟩ = some (.int .i64 ((rd_T44 l1 0).f1))∧w'.cell? ⟨ad310.block,ad310.off + 2,none⟩ = some (.int .i64 ((rd_T44 l1 0).f2))∧w'.cell? ⟨ad310.block,ad310.off + 3,none⟩ = some (.slice A314_3 ((rd_T44 l1 0).f3).length c314_3)) (ds:=[]) #[false,false,false,false,false,false,false,false,false,false,false,false] (by kernel_rfl) rfl rfl ⟨kb4 BK309.out,(cb HB hw314_0 :),(cb HB hw314_1 :),(cb HB hw314_2 :),(cb HB hw314_3 :)⟩ (fun hHeld=>?_);refine with_tabW impl_insOk.tab9 impl_insOk.bits9 (fun HT_ HW_=>?_)
        generalize w31.drew = w33 at BK309 HB HR314_3 hx314_0 hx314_1 hx314_2 hx314_3 hHeld ⊢;refine pu 0 54 ?_;refine pu 1 55 ?_;refine pu 2 56 ?_;refine pu 4 58 ?_;refine pu 5 59 ?_;refine pu 6 60 ?_;refine ta 3 57 hHeld ?_;refine ta 7 61 hHeld ?_;refine pu 8 62 ?_
        refine one_ (i:=9) (N:=some 63) #[true,true,true,true,true,true,true,true,true,true,false,false] rfl rfl (one_of HT_.out (by kernel_rfl)) (by decide) (fun K hK=>?_)
        refine goes_ Try.func30 (by kernel_rfl) rfl #[.int .i64 a2_1,.int .i64 0,.int .i64 (wrap64 (((rd_T44 l1 0).f2) - 1))] (by rfl) rfl rfl gs ?_
        with_reducible refine (impl_inRange.calls a2_1 0 (wrap64 (((rd_T44 l1 0).f2) - 1)) t315 _ A30.out).mono ?_
        rintro e w' ⟨rfl,⟨nd,rfl⟩⟩
        refine ⟨_,rfl,?_⟩
        refine hK.out _ _ ⟨kb4 BK309.out,(cb HB hw314_0 :),(cb HB hw314_1 :),(cb HB hw314_2 :),(cb HB hw314_3 :)⟩ (fun hHeld=>?_)
        clear hK K
        refine norm_ (a':=?_) ?_ ?_
        rotate_left
        ·show Act.put _ (some 63) _ = _
         simp only [Act.put,List.setIfInBounds_toArray,List.set_cons_zero,List.set_cons_succ,i64_w,i32_w]
         rfl
        refine pu 10 64 ?_;refine pu 11 6 ?_
        refine done_ (done_of HT_.out (by kernel_rfl)) ?_
        try go_wp2
        go_ret
        exact ⟨cl,bl HB.out⟩
       ·replace c29:=Bool.eq_false_iff.mpr c29
        subst c29;have H1:(some false) = some r:=by rw [if_neg (show ¬ (false = true) by decide)] at H;exact H
        clear H;have H:=H1;clear H1;obtain rfl:=Option.some.inj H;obtain ⟨hcz35_0,hcz35_1,hcz35_2,hcz35_3⟩:=kb4 BK309.out
        try go_wp2
        (try (rw [drewN_self w31];generalize hq_:World.drewN w31 _ = w31;have n_:=ai ((⟨by rw [← hq_];exact (bk BK309.out)⟩:Aside0 (w31.heap[gb309]? = some (.cells #[.int .i64 a2_0,.int .i64 a2_1,.string a2_2,.int .i64 a2_3] 64 (0,0))))) <| (⟨by rw [← hq_];exact (bl HB.out)⟩:Aside0 (Below w.heap.size w w31));clear BK309 HB hq_;obtain ⟨BK309,HB⟩:=n_));have n_:=ai (dk BK309) <| dh HB;clear BK309 HB;obtain ⟨BK309,HB⟩:=n_
        refine start_ (n:=12) (S:=fun w'=>True) (ds:=[]) #[false,false,false,false,false,false,false,false,false,false,false,false] (by kernel_rfl) rfl rfl trivial (fun hHeld=>?_);refine with_tabW impl_insOk.tab9 impl_insOk.bits9 (fun HT_ HW_=>?_)
        generalize w31.drew = w36 at BK309 HB hHeld ⊢;refine pu 0 54 ?_;refine pu 1 55 ?_;refine pu 2 56 ?_;refine pu 3 57 ?_;refine pu 4 58 ?_;refine pu 5 59 ?_;refine pu 6 60 ?_;refine pu 7 61 ?_;refine pu 8 62 ?_;refine pu 9 63 ?_;refine pu 10 64 ?_;refine pu 11 6 ?_
        refine done_ (done_of HT_.out (by kernel_rfl)) ?_
        try go_wp2
        go_ret
        exact ⟨cl,bl HB.out⟩
      ·rw [if_neg c28] at H
       have c28b0:(a2_0 == 3) = false:=beq_eq_false_iff_ne.mpr c28;have c28b1:(a2_0 != 3) = true:=bne_iff_ne.mpr c28;have HC37:=Aside0.mk H;clear H
       try go_wp2
       have n_:=ai (dk BK309) <| dh HB;clear BK309 HB;obtain ⟨BK309,HB⟩:=n_;have p310:0≤(0:Int):=(by omega);have q310:0 < (l1.length:Int):=od;obtain ⟨ad310,A310_3,c310_3,e310,hx310_0,hx310_1,hx310_2,hx310_3,hl310_3,hi310_3⟩:=at_T44 HR1.out 0 p310 q310;have hw310_3:=hx310_3;(try simp only [show ((0:Int)).toNat = 0 from rfl,show 0 * 4 = 0 from rfl,Addr.add_zero'] at hw310_3);have hw310_2:=hx310_2;(try simp only [show ((0:Int)).toNat = 0 from rfl,show 0 * 4 = 0 from rfl,Addr.add_zero'] at hw310_2);have hw310_1:=hx310_1;(try simp only [show ((0:Int)).toNat = 0 from rfl,show 0 * 4 = 0 from rfl,Addr.add_zero'] at hw310_1);have hw310_0:=hx310_0;(try simp only [show ((0:Int)).toNat = 0 from rfl,show 0 * 4 = 0 from rfl,Addr.add_zero'] at hw310_0);cases e310;have qi310:(0 < l1.length) = True:=eq_true (by omega);(try simp only [show ((0:Int)).toNat = 0 from rfl,show 0 * 4 = 0 from rfl,Addr.add_zero'] at hx310_0 hx310_1 hx310_2 hx310_3);replace hx310_0:=cb HB hx310_0;replace hx310_1:=cb HB hx310_1;replace hx310_2:=cb HB hx310_2;replace hx310_3:=cb HB hx310_3;have HR310_3:=Aside0.mk hi310_3;have HC310_3:=Aside0.mk hl310_3;clear hi310_3 hl310_3;replace p310:=eq_true p310;replace q310:=eq_true q310
       refine start_ (n:=10) (S:=fun w'=>(w'.cell? ⟨gb309,0,none⟩ = some (.int .i64 a2_0)∧w'.cell? ⟨gb309,1,none⟩ = some (.int .i64 a2_1)∧w'.cell? ⟨gb309,2,none⟩ = some (.string a2_2)∧w'.cell? ⟨gb309,3,none⟩ = some (.int .i64 a2_3))∧w'.cell? ad310 = some (.string ((rd_T44 l1 0).f0))∧w'.cell? ⟨ad310.block,ad310.off + 1,none⟩ = some (.int .i64 ((rd_T44 l1 0).f1))∧w'.cell? ⟨ad310.block,ad310.off + 2,none⟩ = some (.int .i64 ((rd_T44 l1 0).f2))∧w'.cell? ⟨ad310.block,ad310.off + 3,none⟩ = some (.slice A310_3 ((rd_T44 l1 0).f3).length c310_3)) (ds:=[]) #[false,false,false,false,false,false,false,false,false,false] (by kernel_rfl) rfl rfl ⟨kb4 BK309.out,(cb HB hw310_0 :),(cb HB hw310_1 :),(cb HB hw310_2 :),(cb HB hw310_3 :)⟩ (fun hHeld=>?_);refine with_tabW impl_insOk.tab2 impl_insOk.bits2 (fun HT_ HW_=>?_)
       generalize wc.drew = w38 at BK309 HB HR310_3 hx310_0 hx310_1 hx310_2 hx310_3 hHeld ⊢;refine pu 0 18 ?_;refine pu 2 20 ?_;refine pu 3 21 ?_;refine pu 4 22 ?_;refine ta 1 19 hHeld ?_;refine ta 5 23 hHeld ?_;refine pu 6 24 ?_;refine pu 7 25 ?_
       refine one_ (i:=8) (N:=some 26) #[true,true,true,true,true,true,true,true,true,false] rfl rfl (one_of HT_.out (by kernel_rfl)) (by decide) (fun K hK=>?_)
       refine goes_ Try.func30 (by kernel_rfl) rfl #[.int .i64 a2_3,.int .i64 0,.int .i64 (wrap64 ((((rd_T44 l1 0).f3).length:Int) - 1))] (by rfl) rfl rfl gs ?_
       with_reducible refine (impl_inRange.calls a2_3 0 (wrap64 ((((rd_T44 l1 0).f3).length:Int) - 1)) t311 _ A10.out).mono ?_
       rintro e w' ⟨rfl,⟨nd,rfl⟩⟩
       refine ⟨_,rfl,?_⟩
       refine hK.out _ _ ⟨kb4 BK309.out,(cb HB hw310_0 :),(cb HB hw310_1 :),(cb HB hw310_2 :),(cb HB hw310_3 :)⟩ (fun hHeld=>?_)
       clear hK K
       refine norm_ (a':=?_) ?_ ?_
       rotate_left
       ·show Act.put _ (some 26) _ = _
        simp only [Act.put,List.setIfInBounds_toArray,List.set_cons_zero,List.set_cons_succ,i64_w,i32_w]
        rfl
       refine pu 9 8 ?_
       refine done_ (done_of HT_.out (by kernel_rfl)) ?_
       obtain ⟨hcz39_0,hcz39_1,hcz39_2,hcz39_3⟩:=kb4 BK309.out
       go_upto_if 65 with (fail)
       go_cut [65] (fun v65 wc=>∃ (kq:Nat) (x65_36:Bool),v65 = .bool x65_36∧Aside0 (impl_insOk.j1 kq l0 l1 x7_3 t311 a2_0 x65_36 a2_0 a2_1 a2_2 a2_3 = some r)∧Aside0 (kq≤kj3)∧Aside0 (wc.heap[gb309]? = some (.cells #[.int .i64 a2_0,.int .i64 a2_1,.string a2_2,.int .i64 a2_3] 64 (0,0)))∧Aside0 (Below w.heap.size w wc))
       case first =>
        have H:=HC37.out;clear HC37
        by_cases c40:a2_0 = 4
        ·rw [if_pos c40] at H
         have c40b0:(a2_0 == 4) = true:=beq_iff_eq.mpr c40;have c40b1:(a2_0 != 4) = false:=bne_eq_false_iff_eq.mpr c40;clear c40
         (first|rw [c40b0]|(simp only [i64_w,i32_w];rw [c40b0])|(simp only [c40b2,Bool.not_true,Bool.not_false])|skip)
         have H':=Aside0.mk H;clear H
         go_wp2
         go_meet
         case rel=>exact ⟨_,((a2_0 == 4)),(cl2),H',⟨by have:=HJ3.out;first|omega|exact Nat.le_refl _⟩,⟨bk BK309.out⟩,⟨bl HB.out⟩⟩
        ·rw [if_neg c40] at H
         have c40b0:(a2_0 == 4) = false:=beq_eq_false_iff_ne.mpr c40;have c40b1:(a2_0 != 4) = true:=bne_iff_ne.mpr c40
         (first|rw [c40b0]|(simp only [i64_w,i32_w];rw [c40b0])|(simp only [c40b2,Bool.not_true,Bool.not_false])|skip)
         have H':=Aside0.mk H;clear H
         go_wp2
         go_meet
         case rel=>exact ⟨_,((a2_0 == 5)),(cl2),H',⟨by have:=HJ3.out;first|omega|exact Nat.le_refl _⟩,⟨bk BK309.out⟩,⟨bl HB.out⟩⟩
       case rest =>
        clear HC37;(try clear c2);(try clear p2);(try clear c3);(try clear p3);(try clear q3);(try clear hx3);(try clear qi3);(try clear c4);(try clear p6);(try clear c28);(try clear c28b0);(try clear c28b1);(try clear c29);(try clear c30);(try clear c31);(try clear p31);(try clear q31);(try clear hx31);(try clear qi31);(try clear c40);(try clear c40b0);(try clear c40b1);(try clear c40b2);(try clear hcz32_0);(try clear hcz32_1);(try clear hcz32_2);(try clear hcz32_3);(try clear hcz35_0);(try clear hcz35_1);(try clear hcz35_2);(try clear hcz35_3);(try clear hcz39_0);(try clear hcz39_1);(try clear hcz39_2);(try clear hcz39_3);(try clear hfz32_0);(try clear hfz32_1);(try clear hfz32_2);(try clear hfz32_3);(try clear hfz35_0);(try clear hfz35_1);(try clear hfz35_2);(try clear hfz35_3);(try clear hfz39_0);(try clear hfz39_1);(try clear hfz39_2);(try clear hfz39_3);(try clear hx310_0);(try clear hx310_1);(try clear hx310_2);(try clear hx310_3);(try clear hx314_0);(try clear hx314_1);(try clear hx314_2);(try clear hx314_3);(try clear p310);(try clear p314);(try clear q310);(try clear q314);(try clear BK309);(try clear HB);obtain ⟨kq,x65_36,rfl,HA,HJ36,BK309,HB⟩:=hcut
        cases kq with
        | zero=>exact absurd HA.out (by simp [impl_insOk.j1])
        | succ kj36 =>
         have H:=HA.out;clear HA;simp only [impl_insOk.j1] at H
         by_cases c41:x65_36 = true
         ·subst c41
          have H1:(if x7_3 = true then ((impl_inRange.f a2_1 0 20).bind fun t316=>(some t316)) else (some false)) = some r:=by rw [if_pos rfl] at H;exact H
          clear H;have H:=H1;clear H1
          by_cases c42:x7_3 = true
          ·subst c42
           have H1:((impl_inRange.f a2_1 0 20).bind fun t316=>(some t316)) = some r:=by rw [if_pos rfl] at H;exact H
           clear H;have H:=H1;clear H1;replace H:=Option.bind_eq_some_iff.mp H;obtain ⟨t316,A430,H⟩:=H;replace H:(some t316) = some r:=H;have A43:=Aside0.mk A430;clear A430;obtain rfl:=Option.some.inj H;obtain ⟨hcz44_0,hcz44_1,hcz44_2,hcz44_3⟩:=kb4 BK309.out
           go_wp2_with (first|(go_at_call 30;(with_reducible refine (impl_inRange.calls a2_1 0 20 t316 _ A43.out).mono ?_);rintro e w' ⟨rfl,⟨nd,rfl⟩⟩))
           go_ret
           exact ⟨cl,bl HB.out⟩
          ·replace c42:=Bool.eq_false_iff.mpr c42
           subst c42;have H1:(some false) = some r:=by rw [if_neg (show ¬ (false = true) by decide)] at H;exact H
           clear H;have H:=H1;clear H1;obtain rfl:=Option.some.inj H
           go_wp2
           go_ret
           exact ⟨cl,bl HB.out⟩
         ·replace c41:=Bool.eq_false_iff.mpr c41
          subst c41;have H1:(if a2_0 = 6 then (if x7_3 = true then ((impl_inRange.f a2_1 2 6).bind fun t317=>(some t317)) else (some false)) else (if a2_0 = 7 then (if a2_1 = 0 then ((impl_isOp.f a2_2).bind fun t318=>(if t318 = true then (some (a2_3 == 0)) else (some false))) else (some false)) else (if a2_0 = 8 then ((impl_fnAt.f l0 a2_2).bind fun t319=>(if t319 ≥ 0 then (if 0 < (l0.length:Int) then (if 0≤t319 then (if t319 < (((rd_T31 l0 0).f0).length:Int) then (if ((rd_T44 ((rd_T31 l0 0).f0) t319).f1) = a2_1 then (some (a2_3 == 0)) else (some false)) else (none)) else (none)) else (none)) else (some false))) else (if a2_0 = 9 then (if a2_2.toList = ([]:List UInt8) then (if t311 = true then (if 0 < (l0.length:Int) then ((impl_inRange.f a2_1 0 (wrap64 ((((rd_T31 l0 0).f1).length:Int) - 1))).bind fun t323=>(if t323 = true then (if 0≤a2_1 then (if a2_1 < (((rd_T31 l0 0).f1).length:Int) then (if 0 < (l1.length:Int) then ((impl_PatFits.f kj36 ((rd_T67 ((rd_T31 l0 0).f1) a2_1).f0) ((rd_T67 ((rd_T31 l0 0).f1) a2_1).f1) ((rd_T67 ((rd_T31 l0 0).f1) a2_1).f2) ((rd_T67 ((rd_T31 l0 0).f1) a2_1).f3) ((rd_T44 l1 0).f2)).bind fun t327=>(some t327)) else (none)) else (none)) else (none)) else (some false))) else (none)) else (some false)) else (some false)) else (if a2_0 = 10 then (if a2_2.toList = ([]:List UInt8) then (if a2_1 = 0 then (some t311) else (some false)) else (some false)) else (if a2_0 = 11 then (if x7_3 = true then (some (a2_1 == 0)) else (some false)) else (if a2_0 = 12 then (if x7_3 = true then (some (a2_1 == 0)) else (some false)) else (some false)))))))) = some r:=by rw [if_neg (show ¬ (false = true) by decide)] at H;exact H
          clear H;have H:=H1;clear H1
          by_cases c45:a2_0 = 6
          ·rw [if_pos c45] at H
           have c45b0:(a2_0 == 6) = true:=beq_iff_eq.mpr c45;have c45b1:(a2_0 != 6) = false:=bne_eq_false_iff_eq.mpr c45;clear c45
           by_cases c46:x7_3 = true
           ·subst c46
            have H1:((impl_inRange.f a2_1 2 6).bind fun t317=>(some t317)) = some r:=by rw [if_pos rfl] at H;exact H
            clear H;have H:=H1;clear H1;replace H:=Option.bind_eq_some_iff.mp H;obtain ⟨t317,A470,H⟩:=H;replace H:(some t317) = some r:=H;have A47:=Aside0.mk A470;clear A470;obtain rfl:=Option.some.inj H;obtain ⟨hcz48_0,hcz48_1,hcz48_2,hcz48_3⟩:=kb4 BK309.out
            go_wp2_with (first|(go_at_call 30;(with_reducible refine (impl_inRange.calls a2_1 2 6 t317 _ A47.out).mono ?_);rintro e w' ⟨rfl,⟨nd,rfl⟩⟩))
            go_ret
            exact ⟨cl,bl HB.out⟩
           ·replace c46:=Bool.eq_false_iff.mpr c46
            subst c46;have H1:(some false) = some r:=by rw [if_neg (show ¬ (false = true) by decide)] at H;exact H
            clear H;have H:=H1;clear H1;obtain rfl:=Option.some.inj H
            go_wp2
            go_ret
            exact ⟨cl,bl HB.out⟩
          ·rw [if_neg c45] at H
           have c45b0:(a2_0 == 6) = false:=beq_eq_false_iff_ne.mpr c45;have c45b1:(a2_0 != 6) = true:=bne_iff_ne.mpr c45
           by_cases c49:a2_0 = 7
           ·rw [if_pos c49] at H
            have c49b0:(a2_0 == 7) = true:=beq_iff_eq.mpr c49;have c49b1:(a2_0 != 7) = false:=bne_eq_false_iff_eq.mpr c49;clear c49
            by_cases c50:a2_1 = 0
            ·rw [if_pos c50] at H
             have c50b0:(a2_1 == 0) = true:=beq_iff_eq.mpr c50;have c50b1:(a2_1 != 0) = false:=bne_eq_false_iff_eq.mpr c50;clear c50;replace H:=Option.bind_eq_some_iff.mp H;obtain ⟨t318,A510,H⟩:=H;replace H:(if t318 = true then (some (a2_3 == 0)) else (some false)) = some r:=H;have A51:=Aside0.mk A510;clear A510
             by_cases c52:t318 = true
             ·subst c52
              have H1:(some (a2_3 == 0)) = some r:=by rw [if_pos rfl] at H;exact H
              clear H;have H:=H1;clear H1;obtain rfl:=Option.some.inj H;obtain ⟨hcz53_0,hcz53_1,hcz53_2,hcz53_3⟩:=kb4 BK309.out
              go_wp2_with (first|(go_at_call 44;(with_reducible refine (impl_isOp.calls a2_2 true _ A51.out).mono ?_);rintro e w' ⟨rfl,⟨nd,rfl⟩⟩))
              go_ret
              exact ⟨cl,bl HB.out⟩
             ·replace c52:=Bool.eq_false_iff.mpr c52
              subst c52;have H1:(some false) = some r:=by rw [if_neg (show ¬ (false = true) by decide)] at H;exact H
              clear H;have H:=H1;clear H1;obtain rfl:=Option.some.inj H;obtain ⟨hcz54_0,hcz54_1,hcz54_2,hcz54_3⟩:=kb4 BK309.out
              go_wp2_with (first|(go_at_call 44;(with_reducible refine (impl_isOp.calls a2_2 false _ A51.out).mono ?_);rintro e w' ⟨rfl,⟨nd,rfl⟩⟩))
              go_ret
              exact ⟨cl,bl HB.out⟩
            ·rw [if_neg c50] at H
             have c50b0:(a2_1 == 0) = false:=beq_eq_false_iff_ne.mpr c50;have c50b1:(a2_1 != 0) = true:=bne_iff_ne.mpr c50;obtain rfl:=Option.some.inj H;obtain ⟨hcz55_0,hcz55_1,hcz55_2,hcz55_3⟩:=kb4 BK309.out
             go_wp2
             go_ret
             exact ⟨cl,bl HB.out⟩
           ·rw [if_neg c49] at H
            have c49b0:(a2_0 == 7) = false:=beq_eq_false_iff_ne.mpr c49;have c49b1:(a2_0 != 7) = true:=bne_iff_ne.mpr c49
            by_cases c56:a2_0 = 8
            ·rw [if_pos c56] at H
             have c56b0:(a2_0 == 8) = true:=beq_iff_eq.mpr c56;have c56b1:(a2_0 != 8) = false:=bne_eq_false_iff_eq.mpr c56;clear c56;replace H:=Option.bind_eq_some_iff.mp H;obtain ⟨t319,A570,H⟩:=H;replace H:(if t319 ≥ 0 then (if 0 < (l0.length:Int) then (if 0≤t319 then (if t319 < (((rd_T31 l0 0).f0).length:Int) then (if ((rd_T44 ((rd_T31 l0 0).f0) t319).f1) = a2_1 then (some (a2_3 == 0)) else (some false)) else (none)) else (none)) else (none)) else (some false)) = some r:=H;have A57:=Aside0.mk A570;clear A570
             by_cases c58:t319 ≥ 0
             ·rw [if_pos c58] at H
              have c58b0:decide (0≤t319) = true:=decide_eq_true c58;clear c58
              by_cases c59:0 < (l0.length:Int)
              ·rw [if_pos c59] at H
               have c59b0:decide (0 < (l0.length:Int)) = true:=decide_eq_true c59;have c59b1:decide (0 < l0.length) = true:=decide_eq_true (by omega);clear c59
               by_cases c60:0≤t319
               ·rw [if_pos c60] at H
                have c60b0:decide (0≤t319) = true:=decide_eq_true c60;clear c60
                by_cases c61:t319 < (((rd_T31 l0 0).f0).length:Int)
                ·rw [if_pos c61] at H
                 have c61b0:decide (t319 < (((rd_T31 l0 0).f0).length:Int)) = true:=decide_eq_true c61;clear c61
                 by_cases c62:((rd_T44 ((rd_T31 l0 0).f0) t319).f1) = a2_1
                 ·rw [if_pos c62] at H
                  have c62b0:(((rd_T44 ((rd_T31 l0 0).f0) t319).f1) == a2_1) = true:=beq_iff_eq.mpr c62;have c62b1:(((rd_T44 ((rd_T31 l0 0).f0) t319).f1) != a2_1) = false:=bne_eq_false_iff_eq.mpr c62;clear c62;obtain rfl:=Option.some.inj H;obtain ⟨hcz63_0,hcz63_1,hcz63_2,hcz63_3⟩:=kb4 BK309.out
                  try go_wp2_with (first|((with_reducible refine gate_callee (f:=14) rfl ?_);refine goesL_ (some 102) rfl rfl Try.func14 (by kernel_rfl) rfl #[.pointer A0,.string a2_2] rfl gs ?_;(with_reducible refine (impl_fnAt.calls _ ?q1_ l0 a2_2 t319 _ ?side1 ?side2 A57.out).mono ?_);(case side1=>exact ck (Kd.C_below HR0.out HB.out));(case side2=>exact HC0.out);rintro e w64 ⟨rfl,hb⟩;refine ⟨_,rfl,?_⟩;have n_:=ai (bw BK309 hb) <| bq HB hb;clear BK309 HB;obtain ⟨BK309,HB⟩:=n_;(try clear hb);(try clear hb2);(try clear hk);(try clear hi)))
                  have n_:=ai (dk BK309) <| dh HB;clear BK309 HB;obtain ⟨BK309,HB⟩:=n_;have p320:0≤(0:Int):=(by omega);have q320:0 < (l0.length:Int):=od;obtain ⟨ad320,A320_0,c320_0,A320_1,c320_1,e320,hx320_0,hx320_1,hl320_0,hi320_0,hl320_1,hi320_1⟩:=at_T31 HR0.out 0 p320 q320;have hw320_1:=hx320_1;(try simp only [show ((0:Int)).toNat = 0 from rfl,show 0 * 2 = 0 from rfl,Addr.add_zero'] at hw320_1);have hw320_0:=hx320_0;(try simp only [show ((0:Int)).toNat = 0 from rfl,show 0 * 2 = 0 from rfl,Addr.add_zero'] at hw320_0);cases e320;have qi320:(0 < l0.length) = True:=eq_true (by omega);(try simp only [show ((0:Int)).toNat = 0 from rfl,show 0 * 2 = 0 from rfl,Addr.add_zero'] at hx320_0 hx320_1);replace hx320_0:=cb HB hx320_0;replace hx320_1:=cb HB hx320_1;have HR320_0:=Aside0.mk hi320_0;have HC320_0:=Aside0.mk hl320_0;clear hi320_0 hl320_0;have HR320_1:=Aside0.mk hi320_1;have HC320_1:=Aside0.mk hl320_1;clear hi320_1 hl320_1;replace p320:=eq_true p320;replace q320:=eq_true q320;have p321:0≤(t319:Int):=od;have q321:t319 < (((rd_T31 l0 0).f0).length:Int):=od;obtain ⟨ad321,A321_3,c321_3,e321,hx321_0,hx321_1,hx321_2,hx321_3,hl321_3,hi321_3⟩:=at_T44 HR320_0.out t319 p321 q321;have hw321_3:=hx321_3;have hw321_2:=hx321_2;have hw321_1:=hx321_1;have hw321_0:=hx321_0;cases e321;replace hx321_0:=cb HB hx321_0;replace hx321_1:=cb HB hx321_1;replace hx321_2:=cb HB hx321_2;replace hx321_3:=cb HB hx321_3;have HR321_3:=Aside0.mk hi321_3;have HC321_3:=Aside0.mk hl321_3;clear hi321_3 hl321_3;replace p321:=eq_true p321;replace q321:=eq_true q321
                  refine start_ (n:=21) (S:=fun w'=>(w'.cell? ⟨gb309,0,none⟩ = some (.int .i64 a2_0)∧w'.cell? ⟨gb309,1,none⟩ = some (.int .i64 a2_1)∧w'.cell? ⟨gb309,2,none⟩ = some (.string a2_2)∧w'.cell? ⟨gb309,3,none⟩ = some (.int .i64 a2_3))∧w'.cell? ad320 = some (.slice (some ad321) ((rd_T31 l0 0).f0).length c320_0)∧w'.cell? ⟨ad320.block,ad320.off + 1,none⟩ = some (.slice A320_1 ((rd_T31 l0 0).f1).length c320_1)∧w'.cell? (ad321.add ((t319).toNat * 4)) = some (.string ((rd_T44 ((rd_T31 l0 0).f0) t319).f0))∧w'.cell? ⟨(ad321.add ((t319).toNat * 4)).block,(ad321.add ((t319).toNat * 4)).off + 1,none⟩ = some (.int .i64 ((rd_T44 ((rd_T31 l0 0).f0) t319).f1))∧w'.cell? ⟨(ad321.add ((t319).toNat * 4)).block,(ad321.add ((t319).toNat * 4)).off + 2,none⟩ = some (.int .i64 ((rd_T44 ((rd_T31 l0 0).f0) t319).f2))∧w'.cell? ⟨(ad321.add ((t319).toNat * 4)).block,(ad321.add ((t319).toNat * 4)).off + 3,none⟩ = some (.slice A321_3 ((rd_T44 ((rd_T31 l0 0).f0) t319).f3).length c321_3)) (ds:=[]) #[false,false,false,false,false,false,false,false,false,false,false,false,false,false,false,false,false,false,false,false,false] (by kernel_rfl) rfl rfl ⟨kb4 BK309.out,(cb HB hw320_0 :),(cb HB hw320_1 :),(cb HB hw321_0 :),(cb HB hw321_1 :),(cb HB hw321_2 :),(cb HB hw321_3 :)⟩ (fun hHeld=>?_);refine with_tabW impl_insOk.tab19 impl_insOk.bits19 (fun HT_ HW_=>?_)
                  generalize w64.drew = w65 at BK309 HB HR320_0 HR320_1 HR321_3 hx320_0 hx320_1 hx321_0 hx321_1 hx321_2 hx321_3 hHeld ⊢;refine pu 0 103 ?_;refine pu 1 104 ?_;refine pu 2 105 ?_;refine pu 3 106 ?_;refine pu 4 107 ?_;refine pu 5 108 ?_;refine pu 7 110 ?_;refine pu 11 114 ?_;refine ta 6 109 hHeld ?_;refine pu 8 111 ?_;refine pu 9 112 ?_;refine ta 10 113 hHeld ?_;refine ta 12 115 hHeld ?_;refine pu 13 116 ?_;refine pu 14 117 ?_;refine pu 15 118 ?_;refine pu 16 119 ?_;refine ta 17 120 hHeld ?_;refine pu 18 121 ?_;refine pu 19 122 ?_;refine pu 20 6 ?_
                  refine done_ (done_of HT_.out (by kernel_rfl)) ?_
                  try go_wp2
                  go_ret
                  exact ⟨cl,bl HB.out⟩
                 ·rw [if_neg c62] at H
                  have c62b0:(((rd_T44 ((rd_T31 l0 0).f0) t319).f1) == a2_1) = false:=beq_eq_false_iff_ne.mpr c62;have c62b1:(((rd_T44 ((rd_T31 l0 0).f0) t319).f1) != a2_1) = true:=bne_iff_ne.mpr c62;obtain rfl:=Option.some.inj H;obtain ⟨hcz66_0,hcz66_1,hcz66_2,hcz66_3⟩:=kb4 BK309.out
                  try go_wp2_with (first|((with_reducible refine gate_callee (f:=14) rfl ?_);refine goesL_ (some 102) rfl rfl Try.func14 (by kernel_rfl) rfl #[.pointer A0,.string a2_2] rfl gs ?_;(with_reducible refine (impl_fnAt.calls _ ?q2_ l0 a2_2 t319 _ ?side1 ?side2 A57.out).mono ?_);(case side1=>exact ck (Kd.C_below HR0.out HB.out));(case side2=>exact HC0.out);rintro e w67 ⟨rfl,hb⟩;refine ⟨_,rfl,?_⟩;have n_:=ai (bw BK309 hb) <| bq HB hb;clear BK309 HB;obtain ⟨BK309,HB⟩:=n_;(try clear hb);(try clear hb2);(try clear hk);(try clear hi)))
                  have n_:=ai (dk BK309) <| dh HB;clear BK309 HB;obtain ⟨BK309,HB⟩:=n_;have p320:0≤(0:Int):=(by omega);have q320:0 < (l0.length:Int):=od;obtain ⟨ad320,A320_0,c320_0,A320_1,c320_1,e320,hx320_0,hx320_1,hl320_0,hi320_0,hl320_1,hi320_1⟩:=at_T31 HR0.out 0 p320 q320;have hw320_1:=hx320_1;(try simp only [show ((0:Int)).toNat = 0 from rfl,show 0 * 2 = 0 from rfl,Addr.add_zero'] at hw320_1);have hw320_0:=hx320_0;(try simp only [show ((0:Int)).toNat = 0 from rfl,show 0 * 2 = 0 from rfl,Addr.add_zero'] at hw320_0);cases e320;have qi320:(0 < l0.length) = True:=eq_true (by omega);(try simp only [show ((0:Int)).toNat = 0 from rfl,show 0 * 2 = 0 from rfl,Addr.add_zero'] at hx320_0 hx320_1);replace hx320_0:=cb HB hx320_0;replace hx320_1:=cb HB hx320_1;have HR320_0:=Aside0.mk hi320_0;have HC320_0:=Aside0.mk hl320_0;clear hi320_0 hl320_0;have HR320_1:=Aside0.mk hi320_1;have HC320_1:=Aside0.mk hl320_1;clear hi320_1 hl320_1;replace p320:=eq_true p320;replace q320:=eq_true q320;have p321:0≤(t319:Int):=od;have q321:t319 < (((rd_T31 l0 0).f0).length:Int):=od;obtain ⟨ad321,A321_3,c321_3,e321,hx321_0,hx321_1,hx321_2,hx321_3,hl321_3,hi321_3⟩:=at_T44 HR320_0.out t319 p321 q321;have hw321_3:=hx321_3;have hw321_2:=hx321_2;have hw321_1:=hx321_1;have hw321_0:=hx321_0;cases e321;replace hx321_0:=cb HB hx321_0;replace hx321_1:=cb HB hx321_1;replace hx321_2:=cb HB hx321_2;replace hx321_3:=cb HB hx321_3;have HR321_3:=Aside0.mk hi321_3;have HC321_3:=Aside0.mk hl321_3;clear hi321_3 hl321_3;replace p321:=eq_true p321;replace q321:=eq_true q321
                  refine start_ (n:=21) (S:=fun w'=>(w'.cell? ⟨gb309,0,none⟩ = some (.int .i64 a2_0)∧w'.cell? ⟨gb309,1,none⟩ = some (.int .i64 a2_1)∧w'.cell? ⟨gb309,2,none⟩ = some (.string a2_2)∧w'.cell? ⟨gb309,3,none⟩ = some (.int .i64 a2_3))∧w'.cell? ad320 = some (.slice (some ad321) ((rd_T31 l0 0).f0).length c320_0)∧w'.cell? ⟨ad320.block,ad320.off + 1,none⟩ = some (.slice A320_1 ((rd_T31 l0 0).f1).length c320_1)∧w'.cell? (ad321.add ((t319).toNat * 4)) = some (.string ((rd_T44 ((rd_T31 l0 0).f0) t319).f0))∧w'.cell? ⟨(ad321.add ((t319).toNat * 4)).block,(ad321.add ((t319).toNat * 4)).off + 1,none⟩ = some (.int .i64 ((rd_T44 ((rd_T31 l0 0).f0) t319).f1))∧w'.cell? ⟨(ad321.add ((t319).toNat * 4)).block,(ad321.add ((t319).toNat * 4)).off + 2,none⟩ = some (.int .i64 ((rd_T44 ((rd_T31 l0 0).f0) t319).f2))∧w'.cell? ⟨(ad321.add ((t319).toNat * 4)).block,(ad321.add ((t319).toNat * 4)).off + 3,none⟩ = some (.slice A321_3 ((rd_T44 ((rd_T31 l0 0).f0) t319).f3).length c321_3)) (ds:=[]) #[false,false,false,false,false,false,false,false,false,false,false,false,false,false,false,false,false,false,false,false,false] (by kernel_rfl) rfl rfl ⟨kb4 BK309.out,(cb HB hw320_0 :),(cb HB hw320_1 :),(cb HB hw321_0 :),(cb HB hw321_1 :),(cb HB hw321_2 :),(cb HB hw321_3 :)⟩ (fun hHeld=>?_);refine with_tabW impl_insOk.tab19 impl_insOk.bits19 (fun HT_ HW_=>?_)
                  generalize w67.drew = w68 at BK309 HB HR320_0 HR320_1 HR321_3 hx320_0 hx320_1 hx321_0 hx321_1 hx321_2 hx321_3 hHeld ⊢;refine pu 0 103 ?_;refine pu 1 104 ?_;refine pu 2 105 ?_;refine pu 3 106 ?_;refine pu 4 107 ?_;refine pu 5 108 ?_;refine pu 7 110 ?_;refine pu 11 114 ?_;refine ta 6 109 hHeld ?_;refine pu 8 111 ?_;refine pu 9 112 ?_;refine ta 10 113 hHeld ?_;refine ta 12 115 hHeld ?_;refine pu 13 116 ?_;refine pu 14 117 ?_;refine pu 15 118 ?_;refine pu 16 119 ?_;refine pu 17 120 ?_;refine pu 18 121 ?_;refine pu 19 122 ?_;refine pu 20 6 ?_
                  refine done_ (done_of HT_.out (by kernel_rfl)) ?_
                  try go_wp2
                  go_ret
                  exact ⟨cl,bl HB.out⟩
                ·rw [if_neg c61] at H
                 exact absurd H (by simp)
               ·rw [if_neg c60] at H
                exact absurd H (by simp)
              ·rw [if_neg c59] at H
               exact absurd H (by simp)
             ·rw [if_neg c58] at H
              have c58b0:decide (0≤t319) = false:=decide_eq_false c58;clear c58;obtain rfl:=Option.some.inj H;obtain ⟨hcz69_0,hcz69_1,hcz69_2,hcz69_3⟩:=kb4 BK309.out
              try go_wp2_with (first|((with_reducible refine gate_callee (f:=14) rfl ?_);refine goesL_ (some 102) rfl rfl Try.func14 (by kernel_rfl) rfl #[.pointer A0,.string a2_2] rfl gs ?_;(with_reducible refine (impl_fnAt.calls _ ?q3_ l0 a2_2 t319 _ ?side1 ?side2 A57.out).mono ?_);(case side1=>exact ck (Kd.C_below HR0.out HB.out));(case side2=>exact HC0.out);rintro e w70 ⟨rfl,hb⟩;refine ⟨_,rfl,?_⟩;have n_:=ai (bw BK309 hb) <| bq HB hb;clear BK309 HB;obtain ⟨BK309,HB⟩:=n_;(try clear hb);(try clear hb2);(try clear hk);(try clear hi)))
              have n_:=ai (dk BK309) <| dh HB;clear BK309 HB;obtain ⟨BK309,HB⟩:=n_
              refine start_ (n:=21) (S:=fun w'=>True) (ds:=[]) #[false,false,false,false,false,false,false,false,false,false,false,false,false,false,false,false,false,false,false,false,false] (by kernel_rfl) rfl rfl trivial (fun hHeld=>?_);refine with_tabW impl_insOk.tab19 impl_insOk.bits19 (fun HT_ HW_=>?_)
              generalize w70.drew = w71 at BK309 HB hHeld ⊢;refine pu 0 103 ?_;refine pu 1 104 ?_;refine pu 2 105 ?_;refine pu 3 106 ?_;refine pu 4 107 ?_;refine pu 5 108 ?_;refine pu 6 109 ?_;refine pu 7 110 ?_;refine pu 8 111 ?_;refine pu 9 112 ?_;refine pu 10 113 ?_;refine pu 11 114 ?_;refine pu 12 115 ?_;refine pu 13 116 ?_;refine pu 14 117 ?_;refine pu 15 118 ?_;refine pu 16 119 ?_;refine pu 17 120 ?_;refine pu 18 121 ?_;refine pu 19 122 ?_;refine pu 20 6 ?_
              refine done_ (done_of HT_.out (by kernel_rfl)) ?_
              try go_wp2
              go_ret
              exact ⟨cl,bl HB.out⟩
            ·rw [if_neg c56] at H
             have c56b0:(a2_0 == 8) = false:=beq_eq_false_iff_ne.mpr c56;have c56b1:(a2_0 != 8) = true:=bne_iff_ne.mpr c56
             by_cases c72:a2_0 = 9
             ·rw [if_pos c72] at H
              have c72b0:(a2_0 == 9) = true:=beq_iff_eq.mpr c72;have c72b1:(a2_0 != 9) = false:=bne_eq_false_iff_eq.mpr c72;clear c72
              by_cases c73:a2_2.toList = ([]:List UInt8)
              ·rw [if_pos c73] at H
               have c73b0:(a2_2.toList == ([]:List UInt8)) = true:=beq_iff_eq.mpr c73;have c73b1:(a2_2.toList != ([]:List UInt8)) = false:=bne_eq_false_iff_eq.mpr c73;clear c73
               by_cases c74:t311 = true
               ·subst c74
                have H1:(if 0 < (l0.length:Int) then ((impl_inRange.f a2_1 0 (wrap64 ((((rd_T31 l0 0).f1).length:Int) - 1))).bind fun t323=>(if t323 = true then (if 0≤a2_1 then (if a2_1 < (((rd_T31 l0 0).f1).length:Int) then (if 0 < (l1.length:Int) then ((impl_PatFits.f kj36 ((rd_T67 ((rd_T31 l0 0).f1) a2_1).f0) ((rd_T67 ((rd_T31 l0 0).f1) a2_1).f1) ((rd_T67 ((rd_T31 l0 0).f1) a2_1).f2) ((rd_T67 ((rd_T31 l0 0).f1) a2_1).f3) ((rd_T44 l1 0).f2)).bind fun t327=>(some t327)) else (none)) else (none)) else (none)) else (some false))) else (none)) = some r:=by rw [if_pos rfl] at H;exact H
                clear H;have H:=H1;clear H1
                by_cases c75:0 < (l0.length:Int)
                ·rw [if_pos c75] at H
                 have c75b0:decide (0 < (l0.length:Int)) = true:=decide_eq_true c75;have c75b1:decide (0 < l0.length) = true:=decide_eq_true (by omega);clear c75;replace H:=Option.bind_eq_some_iff.mp H;obtain ⟨t323,A760,H⟩:=H;replace H:(if t323 = true then (if 0≤a2_1 then (if a2_1 < (((rd_T31 l0 0).f1).length:Int) then (if 0 < (l1.length:Int) then ((impl_PatFits.f kj36 ((rd_T67 ((rd_T31 l0 0).f1) a2_1).f0) ((rd_T67 ((rd_T31 l0 0).f1) a2_1).f1) ((rd_T67 ((rd_T31 l0 0).f1) a2_1).f2) ((rd_T67 ((rd_T31 l0 0).f1) a2_1).f3) ((rd_T44 l1 0).f2)).bind fun t327=>(some t327)) else (none)) else (none)) else (none)) else (some false)) = some r:=H;have A76:=Aside0.mk A760;clear A760
                 by_cases c77:t323 = true
                 ·subst c77
                  have H1:(if 0≤a2_1 then (if a2_1 < (((rd_T31 l0 0).f1).length:Int) then (if 0 < (l1.length:Int) then ((impl_PatFits.f kj36 ((rd_T67 ((rd_T31 l0 0).f1) a2_1).f0) ((rd_T67 ((rd_T31 l0 0).f1) a2_1).f1) ((rd_T67 ((rd_T31 l0 0).f1) a2_1).f2) ((rd_T67 ((rd_T31 l0 0).f1) a2_1).f3) ((rd_T44 l1 0).f2)).bind fun t327=>(some t327)) else (none)) else (none)) else (none)) = some r:=by rw [if_pos rfl] at H;exact H
                  clear H;have H:=H1;clear H1
                  by_cases c78:0≤a2_1
                  ·rw [if_pos c78] at H
                   have c78b0:decide (0≤a2_1) = true:=decide_eq_true c78;clear c78
                   by_cases c79:a2_1 < (((rd_T31 l0 0).f1).length:Int)
                   ·rw [if_pos c79] at H
                    have c79b0:decide (a2_1 < (((rd_T31 l0 0).f1).length:Int)) = true:=decide_eq_true c79;clear c79
                    by_cases c80:0 < (l1.length:Int)
                    ·rw [if_pos c80] at H
                     have c80b0:decide (0 < (l1.length:Int)) = true:=decide_eq_true c80;have c80b1:decide (0 < l1.length) = true:=decide_eq_true (by omega);clear c80;replace H:=Option.bind_eq_some_iff.mp H;obtain ⟨t327,A810,H⟩:=H;replace H:(some t327) = some r:=H;have A81:=Aside0.mk A810;clear A810;obtain rfl:=Option.some.inj H
                     try go_wp2
                     have n_:=ai (dk BK309) <| dh HB;clear BK309 HB;obtain ⟨BK309,HB⟩:=n_;have p322:0≤(0:Int):=(by omega);have q322:0 < (l0.length:Int):=od;obtain ⟨ad322,A322_0,c322_0,A322_1,c322_1,e322,hx322_0,hx322_1,hl322_0,hi322_0,hl322_1,hi322_1⟩:=at_T31 HR0.out 0 p322 q322;have hw322_1:=hx322_1;(try simp only [show ((0:Int)).toNat = 0 from rfl,show 0 * 2 = 0 from rfl,Addr.add_zero'] at hw322_1);have hw322_0:=hx322_0;(try simp only [show ((0:Int)).toNat = 0 from rfl,show 0 * 2 = 0 from rfl,Addr.add_zero'] at hw322_0);cases e322;have qi322:(0 < l0.length) = True:=eq_true (by omega);(try simp only [show ((0:Int)).toNat = 0 from rfl,show 0 * 2 = 0 from rfl,Addr.add_zero'] at hx322_0 hx322_1);replace hx322_0:=cb HB hx322_0;replace hx322_1:=cb HB hx322_1;have HR322_0:=Aside0.mk hi322_0;have HC322_0:=Aside0.mk hl322_0;clear hi322_0 hl322_0;have HR322_1:=Aside0.mk hi322_1;have HC322_1:=Aside0.mk hl322_1;clear hi322_1 hl322_1;replace p322:=eq_true p322;replace q322:=eq_true q322;have p324:0≤(0:Int):=(by omega);have q324:0 < (l0.length:Int):=od;obtain ⟨ad324,A324_0,c324_0,A324_1,c324_1,e324,hx324_0,hx324_1,hl324_0,hi324_0,hl324_1,hi324_1⟩:=at_T31 HR0.out 0 p324 q324;have hw324_1:=hx324_1;(try simp only [show ((0:Int)).toNat = 0 from rfl,show 0 * 2 = 0 from rfl,Addr.add_zero'] at hw324_1);have hw324_0:=hx324_0;(try simp only [show ((0:Int)).toNat = 0 from rfl,show 0 * 2 = 0 from rfl,Addr.add_zero'] at hw324_0);obtain rfl:ad322 = ad324:=(by injection e324);have qi324:(0 < l0.length) = True:=eq_true (by omega);(try simp only [show ((0:Int)).toNat = 0 from rfl,show 0 * 2 = 0 from rfl,Addr.add_zero'] at hx324_0 hx324_1);replace hx324_0:=cb HB hx324_0;replace hx324_1:=cb HB hx324_1;have HR324_0:=Aside0.mk hi324_0;have HC324_0:=Aside0.mk hl324_0;clear hi324_0 hl324_0;have HR324_1:=Aside0.mk hi324_1;have HC324_1:=Aside0.mk hl324_1;clear hi324_1 hl324_1;replace p324:=eq_true p324;replace q324:=eq_true q324;have ea_:=Option.some.inj (hx322_0.symm.trans hx324_0)
                     injection ea_ with ea_ en_ ec_
                     subst ea_;subst ec_;clear en_;have ea_:=Option.some.inj (hx322_1.symm.trans hx324_1)
                     injection ea_ with ea_ en_ ec_
                     subst ea_;subst ec_;clear en_;have p325:0≤(a2_1:Int):=od;have q325:a2_1 < (((rd_T31 l0 0).f1).length:Int):=od;obtain ⟨ad325,A325_3,c325_3,e325,hx325_0,hx325_1,hx325_2,hx325_3,hl325_3,hi325_3⟩:=at_T67 HR324_1.out a2_1 p325 q325;have hw325_3:=hx325_3;have hw325_2:=hx325_2;have hw325_1:=hx325_1;have hw325_0:=hx325_0;cases e325;replace hx325_0:=cb HB hx325_0;replace hx325_1:=cb HB hx325_1;replace hx325_2:=cb HB hx325_2;replace hx325_3:=cb HB hx325_3;have HR325_3:=Aside0.mk hi325_3;have HC325_3:=Aside0.mk hl325_3;clear hi325_3 hl325_3;replace p325:=eq_true p325;replace q325:=eq_true q325;have p326:0≤(0:Int):=(by omega);have q326:0 < (l1.length:Int):=od;obtain ⟨ad326,A326_3,c326_3,e326,hx326_0,hx326_1,hx326_2,hx326_3,hl326_3,hi326_3⟩:=at_T44 HR1.out 0 p326 q326;have hw326_3:=hx326_3;(try simp only [show ((0:Int)).toNat = 0 from rfl,show 0 * 4 = 0 from rfl,Addr.add_zero'] at hw326_3);have hw326_2:=hx326_2;(try simp only [show ((0:Int)).toNat = 0 from rfl,show 0 * 4 = 0 from rfl,Addr.add_zero'] at hw326_2);have hw326_1:=hx326_1;(try simp only [show ((0:Int)).toNat = 0 from rfl,show 0 * 4 = 0 from rfl,Addr.add_zero'] at hw326_1);have hw326_0:=hx326_0;(try simp only [show ((0:Int)).toNat = 0 from rfl,show 0 * 4 = 0 from rfl,Addr.add_zero'] at hw326_0);obtain rfl:ad310 = ad326:=(by injection e326);have qi326:(0 < l1.length) = True:=eq_true (by omega);(try simp only [show ((0:Int)).toNat = 0 from rfl,show 0 * 4 = 0 from rfl,Addr.add_zero'] at hx326_0 hx326_1 hx326_2 hx326_3);replace hx326_0:=cb HB hx326_0;replace hx326_1:=cb HB hx326_1;replace hx326_2:=cb HB hx326_2;replace hx326_3:=cb HB hx326_3;have HR326_3:=Aside0.mk hi326_3;have HC326_3:=Aside0.mk hl326_3;clear hi326_3 hl326_3;replace p326:=eq_true p326;replace q326:=eq_true q326
                     refine start_ (n:=33) (S:=fun w'=>(w'.cell? ⟨gb309,0,none⟩ = some (.int .i64 a2_0)∧w'.cell? ⟨gb309,1,none⟩ = some (.int .i64 a2_1)∧w'.cell? ⟨gb309,2,none⟩ = some (.string a2_2)∧w'.cell? ⟨gb309,3,none⟩ = some (.int .i64 a2_3))∧w'.cell? ad322 = some (.slice A322_0 ((rd_T31 l0 0).f0).length c322_0)∧w'.cell? ⟨ad322.block,ad322.off + 1,none⟩ = some (.slice (some ad325) ((rd_T31 l0 0).f1).length c322_1)∧w'.cell? ad322 = some (.slice A322_0 ((rd_T31 l0 0).f0).length c322_0)∧w'.cell? ⟨ad322.block,ad322.off + 1,none⟩ = some (.slice (some ad325) ((rd_T31 l0 0).f1).length c322_1)∧w'.cell? (ad325.add ((a2_1).toNat * 4)) = some (.int .i64 ((rd_T67 ((rd_T31 l0 0).f1) a2_1).f0))∧w'.cell? ⟨(ad325.add ((a2_1).toNat * 4)).block,(ad325.add ((a2_1).toNat * 4)).off + 1,none⟩ = some (.int .i64 ((rd_T67 ((rd_T31 l0 0).f1) a2_1).f1))∧w'.cell? ⟨(ad325.add ((a2_1).toNat * 4)).block,(ad325.add ((a2_1).toNat * 4)).off + 2,none⟩ = some (.string ((rd_T67 ((rd_T31 l0 0).f1) a2_1).f2))∧w'.cell? ⟨(ad325.add ((a2_1).toNat * 4)).block,(ad325.add ((a2_1).toNat * 4)).off + 3,none⟩ = some (.slice A325_3 ((rd_T67 ((rd_T31 l0 0).f1) a2_1).f3).length c325_3)∧w'.cell? ad310 = some (.string ((rd_T44 l1 0).f0))∧w'.cell? ⟨ad310.block,ad310.off + 1,none⟩ = some (.int .i64 ((rd_T44 l1 0).f1))∧w'.cell? ⟨ad310.block,ad310.off + 2,none⟩ = some (.int .i64 ((rd_T44 l1 0).f2))∧w'.cell? ⟨ad310.block,ad310.off + 3,none⟩ = some (.slice A326_3 ((rd_T44 l1 0).f3).length c326_3)) (ds:=[]) #[false,false,false,false,false,false,false,false,false,false,false,false,false,false,false,false,false,false,false,false,false,false,false,false,false,false,false,false,false,false,false,false,false] (by kernel_rfl) rfl rfl ⟨kb4 BK309.out,(cb HB hw322_0 :),(cb HB hw322_1 :),(cb HB hw324_0 :),(cb HB hw324_1 :),(cb HB hw325_0 :),(cb HB hw325_1 :),(cb HB hw325_2 :),(cb HB hw325_3 :),(cb HB hw326_0 :),(cb HB hw326_1 :),(cb HB hw326_2 :),(cb HB hw326_3 :)⟩ (fun hHeld=>?_);refine with_tabW impl_insOk.tab21 impl_insOk.bits21 (fun HT_ HW_=>?_)
                     generalize wc.drew = w82 at BK309 HB HR322_0 HR322_1 HR324_0 HR324_1 HR325_3 HR326_3 hx322_0 hx322_1 hx324_0 hx324_1 hx325_0 hx325_1 hx325_2 hx325_3 hx326_0 hx326_1 hx326_2 hx326_3 hHeld ⊢;refine pu 0 125 ?_;refine ta 1 126 hHeld ?_;refine pu 2 127 ?_;refine pu 3 128 ?_;refine pu 4 129 ?_;refine pu 5 130 ?_;refine pu 6 131 ?_;refine pu 7 132 ?_;refine pu 9 134 ?_;refine pu 10 135 ?_;refine pu 11 136 ?_;refine ta 8 133 hHeld ?_;refine ta 12 137 hHeld ?_;refine pu 13 138 ?_;refine pu 14 139 ?_
                     refine one_ (i:=15) (N:=some 140) #[true,true,true,true,true,true,true,true,true,true,true,true,true,true,true,true,false,false,false,false,false,false,false,false,false,false,false,false,false,false,false,false,false] rfl rfl (one_of HT_.out (by kernel_rfl)) (by decide) (fun K hK=>?_)
                     refine goes_ Try.func30 (by kernel_rfl) rfl #[.int .i64 a2_1,.int .i64 0,.int .i64 (wrap64 ((((rd_T31 l0 0).f1).length:Int) - 1))] (by rfl) rfl rfl gs ?_
                     with_reducible refine (impl_inRange.calls a2_1 0 (wrap64 ((((rd_T31 l0 0).f1).length:Int) - 1)) true _ A76.out).mono ?_
                     rintro e w' ⟨rfl,⟨nd,rfl⟩⟩
                     refine ⟨_,rfl,?_⟩
                     refine hK.out _ _ ⟨kb4 BK309.out,(cb HB hw322_0 :),(cb HB hw322_1 :),(cb HB hw324_0 :),(cb HB hw324_1 :),(cb HB hw325_0 :),(cb HB hw325_1 :),(cb HB hw325_2 :),(cb HB hw325_3 :),(cb HB hw326_0 :),(cb HB hw326_1 :),(cb HB hw326_2 :),(cb HB hw326_3 :)⟩ (fun hHeld=>?_)
                     clear hK K
                     refine norm_ (a':=?_) ?_ ?_
                     rotate_left
                     ·show Act.put _ (some 140) _ = _
                      simp only [Act.put,List.setIfInBounds_toArray,List.set_cons_zero,List.set_cons_succ,i64_w,i32_w]
                      rfl
                     refine pu 16 141 ?_;refine pu 17 142 ?_;refine pu 18 143 ?_;refine pu 19 144 ?_;refine pu 20 145 ?_;refine pu 22 147 ?_;refine pu 26 151 ?_;refine pu 27 152 ?_;refine pu 28 153 ?_;refine ta 21 146 hHeld ?_;refine ta 23 148 hHeld ?_;refine pu 24 149 ?_;refine ta 25 150 hHeld ?_;refine ta 29 154 hHeld ?_
                     refine one_ (i:=30) (N:=some 155) #[true,true,true,true,true,true,true,true,true,true,true,true,true,true,true,true,true,true,true,true,true,true,true,true,true,true,true,true,true,true,true,false,false] rfl rfl (one_of HT_.out (by kernel_rfl)) (by decide) (fun K hK=>?_)
                     refine goes_ Try.func45 (by kernel_rfl) rfl #[.agg #[.int .i64 ((rd_T67 ((rd_T31 l0 0).f1) a2_1).f0),.int .i64 ((rd_T67 ((rd_T31 l0 0).f1) a2_1).f1),.string ((rd_T67 ((rd_T31 l0 0).f1) a2_1).f2),.slice A325_3 ((rd_T67 ((rd_T31 l0 0).f1) a2_1).f3).length c325_3],.int .i64 ((rd_T44 l1 0).f2)] (by rfl) rfl rfl gs ?_
                     with_reducible refine (impl_PatFits.calls kj36 ((rd_T67 ((rd_T31 l0 0).f1) a2_1).f0) ((rd_T67 ((rd_T31 l0 0).f1) a2_1).f1) ((rd_T67 ((rd_T31 l0 0).f1) a2_1).f2) _ _ ((rd_T67 ((rd_T31 l0 0).f1) a2_1).f3) ((rd_T44 l1 0).f2) t327 _ ?side1 ?side2 A81.out).mono ?_
                     (case side1=>repeat (first|exact (Kd.C_below HR325_3.out (bl HB.out))|(with_reducible refine Kd.C_alloc ?_ _)|(with_reducible refine Kd.C_drewN ?_ _)|(with_reducible refine Kd.C_drew ?_)))
                     (case side2=>exact HC325_3.out)
                     rintro e w83 ⟨rfl,hb⟩
                     refine ⟨_,rfl,?_⟩
                     have n_:=ai (bw BK309 hb) <| bq HB hb;clear BK309 HB;obtain ⟨BK309,HB⟩:=n_;(try clear hb);(try clear hb2);(try clear hk);(try clear hi)
                     refine hK.out _ _ ⟨kb4 BK309.out,(cb HB hw322_0 :),(cb HB hw322_1 :),(cb HB hw324_0 :),(cb HB hw324_1 :),(cb HB hw325_0 :),(cb HB hw325_1 :),(cb HB hw325_2 :),(cb HB hw325_3 :),(cb HB hw326_0 :),(cb HB hw326_1 :),(cb HB hw326_2 :),(cb HB hw326_3 :)⟩ (fun hHeld=>?_)
                     clear hK K
                     refine norm_ (a':=?_) ?_ ?_
                     rotate_left
                     ·show Act.put _ (some 155) _ = _
                      simp only [Act.put,List.setIfInBounds_toArray,List.set_cons_zero,List.set_cons_succ,i64_w,i32_w]
                      rfl
                     refine pu 31 156 ?_;refine pu 32 6 ?_
                     refine done_ (done_of HT_.out (by kernel_rfl)) ?_
                     try go_wp2
                     go_ret
                     exact ⟨cl,bl HB.out⟩
                    ·rw [if_neg c80] at H
                     exact absurd H (by simp)
                   ·rw [if_neg c79] at H
                    exact absurd H (by simp)
                  ·rw [if_neg c78] at H
                   exact absurd H (by simp)
                 ·replace c77:=Bool.eq_false_iff.mpr c77
                  subst c77;have H1:(some false) = some r:=by rw [if_neg (show ¬ (false = true) by decide)] at H;exact H
                  clear H;have H:=H1;clear H1;obtain rfl:=Option.some.inj H
                  try go_wp2
                  have n_:=ai (dk BK309) <| dh HB;clear BK309 HB;obtain ⟨BK309,HB⟩:=n_;have p322:0≤(0:Int):=(by omega);have q322:0 < (l0.length:Int):=od;obtain ⟨ad322,A322_0,c322_0,A322_1,c322_1,e322,hx322_0,hx322_1,hl322_0,hi322_0,hl322_1,hi322_1⟩:=at_T31 HR0.out 0 p322 q322;have hw322_1:=hx322_1;(try simp only [show ((0:Int)).toNat = 0 from rfl,show 0 * 2 = 0 from rfl,Addr.add_zero'] at hw322_1);have hw322_0:=hx322_0;(try simp only [show ((0:Int)).toNat = 0 from rfl,show 0 * 2 = 0 from rfl,Addr.add_zero'] at hw322_0);cases e322;have qi322:(0 < l0.length) = True:=eq_true (by omega);(try simp only [show ((0:Int)).toNat = 0 from rfl,show 0 * 2 = 0 from rfl,Addr.add_zero'] at hx322_0 hx322_1);replace hx322_0:=cb HB hx322_0;replace hx322_1:=cb HB hx322_1;have HR322_0:=Aside0.mk hi322_0;have HC322_0:=Aside0.mk hl322_0;clear hi322_0 hl322_0;have HR322_1:=Aside0.mk hi322_1;have HC322_1:=Aside0.mk hl322_1;clear hi322_1 hl322_1;replace p322:=eq_true p322;replace q322:=eq_true q322
                  refine start_ (n:=33) (S:=fun w'=>(w'.cell? ⟨gb309,0,none⟩ = some (.int .i64 a2_0)∧w'.cell? ⟨gb309,1,none⟩ = some (.int .i64 a2_1)∧w'.cell? ⟨gb309,2,none⟩ = some (.string a2_2)∧w'.cell? ⟨gb309,3,none⟩ = some (.int .i64 a2_3))∧w'.cell? ad322 = some (.slice A322_0 ((rd_T31 l0 0).f0).length c322_0)∧w'.cell? ⟨ad322.block,ad322.off + 1,none⟩ = some (.slice A322_1 ((rd_T31 l0 0).f1).length c322_1)) (ds:=[]) #[false,false,false,false,false,false,false,false,false,false,false,false,false,false,false,false,false,false,false,false,false,false,false,false,false,false,false,false,false,false,false,false,false] (by kernel_rfl) rfl rfl ⟨kb4 BK309.out,(cb HB hw322_0 :),(cb HB hw322_1 :)⟩ (fun hHeld=>?_);refine with_tabW impl_insOk.tab21 impl_insOk.bits21 (fun HT_ HW_=>?_)
                  generalize wc.drew = w84 at BK309 HB HR322_0 HR322_1 hx322_0 hx322_1 hHeld ⊢;refine pu 0 125 ?_;refine ta 1 126 hHeld ?_;refine pu 2 127 ?_;refine pu 3 128 ?_;refine pu 4 129 ?_;refine pu 5 130 ?_;refine pu 6 131 ?_;refine pu 7 132 ?_;refine pu 9 134 ?_;refine pu 10 135 ?_;refine pu 11 136 ?_;refine ta 8 133 hHeld ?_;refine ta 12 137 hHeld ?_;refine pu 13 138 ?_;refine pu 14 139 ?_
                  refine one_ (i:=15) (N:=some 140) #[true,true,true,true,true,true,true,true,true,true,true,true,true,true,true,true,false,false,false,false,false,false,false,false,false,false,false,false,false,false,false,false,false] rfl rfl (one_of HT_.out (by kernel_rfl)) (by decide) (fun K hK=>?_)
                  refine goes_ Try.func30 (by kernel_rfl) rfl #[.int .i64 a2_1,.int .i64 0,.int .i64 (wrap64 ((((rd_T31 l0 0).f1).length:Int) - 1))] (by rfl) rfl rfl gs ?_
                  with_reducible refine (impl_inRange.calls a2_1 0 (wrap64 ((((rd_T31 l0 0).f1).length:Int) - 1)) false _ A76.out).mono ?_
                  rintro e w' ⟨rfl,⟨nd,rfl⟩⟩
                  refine ⟨_,rfl,?_⟩
                  refine hK.out _ _ ⟨kb4 BK309.out,(cb HB hw322_0 :),(cb HB hw322_1 :)⟩ (fun hHeld=>?_)
                  clear hK K
                  refine norm_ (a':=?_) ?_ ?_
                  rotate_left
                  ·show Act.put _ (some 140) _ = _
                   simp only [Act.put,List.setIfInBounds_toArray,List.set_cons_zero,List.set_cons_succ,i64_w,i32_w]
                   rfl
                  refine pu 16 141 ?_;refine pu 17 142 ?_;refine pu 18 143 ?_;refine pu 19 144 ?_;refine pu 20 145 ?_;refine pu 21 146 ?_;refine pu 22 147 ?_;refine pu 23 148 ?_;refine pu 24 149 ?_;refine pu 25 150 ?_;refine pu 26 151 ?_;refine pu 27 152 ?_;refine pu 28 153 ?_;refine pu 29 154 ?_;refine pu 30 155 ?_;refine pu 31 156 ?_;refine pu 32 6 ?_
                  refine done_ (done_of HT_.out (by kernel_rfl)) ?_
                  try go_wp2
                  go_ret
                  exact ⟨cl,bl HB.out⟩
                ·rw [if_neg c75] at H
                 exact absurd H (by simp)
               ·replace c74:=Bool.eq_false_iff.mpr c74
                subst c74;have H1:(some false) = some r:=by rw [if_neg (show ¬ (false = true) by decide)] at H;exact H
                clear H;have H:=H1;clear H1;obtain rfl:=Option.some.inj H
                try go_wp2
                have n_:=ai (dk BK309) <| dh HB;clear BK309 HB;obtain ⟨BK309,HB⟩:=n_
                refine start_ (n:=33) (S:=fun w'=>w'.cell? ⟨gb309,0,none⟩ = some (.int .i64 a2_0)∧w'.cell? ⟨gb309,1,none⟩ = some (.int .i64 a2_1)∧w'.cell? ⟨gb309,2,none⟩ = some (.string a2_2)∧w'.cell? ⟨gb309,3,none⟩ = some (.int .i64 a2_3)) (ds:=[]) #[false,false,false,false,false,false,false,false,false,false,false,false,false,false,false,false,false,false,false,false,false,false,false,false,false,false,false,false,false,false,false,false,false] (by kernel_rfl) rfl rfl (kb4 BK309.out) (fun hHeld=>?_);refine with_tabW impl_insOk.tab21 impl_insOk.bits21 (fun HT_ HW_=>?_)
                generalize wc.drew = w85 at BK309 HB hHeld ⊢;refine pu 0 125 ?_;refine ta 1 126 hHeld ?_;refine pu 2 127 ?_;refine pu 3 128 ?_;refine pu 4 129 ?_;refine pu 5 130 ?_;refine pu 6 131 ?_;refine pu 7 132 ?_;refine pu 8 133 ?_;refine pu 9 134 ?_;refine pu 10 135 ?_;refine pu 11 136 ?_;refine pu 12 137 ?_;refine pu 13 138 ?_;refine pu 14 139 ?_;refine pu 15 140 ?_;refine pu 16 141 ?_;refine pu 17 142 ?_;refine pu 18 143 ?_;refine pu 19 144 ?_;refine pu 20 145 ?_;refine pu 21 146 ?_;refine pu 22 147 ?_;refine pu 23 148 ?_;refine pu 24 149 ?_;refine pu 25 150 ?_;refine pu 26 151 ?_;refine pu 27 152 ?_;refine pu 28 153 ?_;refine pu 29 154 ?_;refine pu 30 155 ?_;refine pu 31 156 ?_;refine pu 32 6 ?_
                refine done_ (done_of HT_.out (by kernel_rfl)) ?_
                try go_wp2
                go_ret
                exact ⟨cl,bl HB.out⟩
              ·rw [if_neg c73] at H
               have c73b0:(a2_2.toList == ([]:List UInt8)) = false:=beq_eq_false_iff_ne.mpr c73;have c73b1:(a2_2.toList != ([]:List UInt8)) = true:=bne_iff_ne.mpr c73;obtain rfl:=Option.some.inj H
               try go_wp2
               have n_:=ai (dk BK309) <| dh HB;clear BK309 HB;obtain ⟨BK309,HB⟩:=n_
               refine start_ (n:=33) (S:=fun w'=>w'.cell? ⟨gb309,0,none⟩ = some (.int .i64 a2_0)∧w'.cell? ⟨gb309,1,none⟩ = some (.int .i64 a2_1)∧w'.cell? ⟨gb309,2,none⟩ = some (.string a2_2)∧w'.cell? ⟨gb309,3,none⟩ = some (.int .i64 a2_3)) (ds:=[]) #[false,false,false,false,false,false,false,false,false,false,false,false,false,false,false,false,false,false,false,false,false,false,false,false,false,false,false,false,false,false,false,false,false] (by kernel_rfl) rfl rfl (kb4 BK309.out) (fun hHeld=>?_);refine with_tabW impl_insOk.tab21 impl_insOk.bits21 (fun HT_ HW_=>?_)
               generalize wc.drew = w86 at BK309 HB hHeld ⊢;refine pu 0 125 ?_;refine ta 1 126 hHeld ?_;refine pu 2 127 ?_;refine pu 3 128 ?_;refine pu 4 129 ?_;refine pu 5 130 ?_;refine pu 6 131 ?_;refine pu 7 132 ?_;refine pu 8 133 ?_;refine pu 9 134 ?_;refine pu 10 135 ?_;refine pu 11 136 ?_;refine pu 12 137 ?_;refine pu 13 138 ?_;refine pu 14 139 ?_;refine pu 15 140 ?_;refine pu 16 141 ?_;refine pu 17 142 ?_;refine pu 18 143 ?_;refine pu 19 144 ?_;refine pu 20 145 ?_;refine pu 21 146 ?_;refine pu 22 147 ?_;refine pu 23 148 ?_;refine pu 24 149 ?_;refine pu 25 150 ?_;refine pu 26 151 ?_;refine pu 27 152 ?_;refine pu 28 153 ?_;refine pu 29 154 ?_;refine pu 30 155 ?_;refine pu 31 156 ?_;refine pu 32 6 ?_
               refine done_ (done_of HT_.out (by kernel_rfl)) ?_
               try go_wp2
               go_ret
               exact ⟨cl,bl HB.out⟩
             ·rw [if_neg c72] at H
              have c72b0:(a2_0 == 9) = false:=beq_eq_false_iff_ne.mpr c72;have c72b1:(a2_0 != 9) = true:=bne_iff_ne.mpr c72
              by_cases c87:a2_0 = 10
              ·rw [if_pos c87] at H
               have c87b0:(a2_0 == 10) = true:=beq_iff_eq.mpr c87;have c87b1:(a2_0 != 10) = false:=bne_eq_false_iff_eq.mpr c87;clear c87
               by_cases c88:a2_2.toList = ([]:List UInt8)
               ·rw [if_pos c88] at H
                have c88b0:(a2_2.toList == ([]:List UInt8)) = true:=beq_iff_eq.mpr c88;have c88b1:(a2_2.toList != ([]:List UInt8)) = false:=bne_eq_false_iff_eq.mpr c88;clear c88
                by_cases c89:a2_1 = 0
                ·rw [if_pos c89] at H
                 have c89b0:(a2_1 == 0) = true:=beq_iff_eq.mpr c89;have c89b1:(a2_1 != 0) = false:=bne_eq_false_iff_eq.mpr c89;clear c89;obtain rfl:=Option.some.inj H;obtain ⟨hcz90_0,hcz90_1,hcz90_2,hcz90_3⟩:=kb4 BK309.out
                 go_wp2
                 go_ret
                 exact ⟨cl,bl HB.out⟩
                ·rw [if_neg c89] at H
                 have c89b0:(a2_1 == 0) = false:=beq_eq_false_iff_ne.mpr c89;have c89b1:(a2_1 != 0) = true:=bne_iff_ne.mpr c89;obtain rfl:=Option.some.inj H;obtain ⟨hcz91_0,hcz91_1,hcz91_2,hcz91_3⟩:=kb4 BK309.out
                 go_wp2
                 go_ret
                 exact ⟨cl,bl HB.out⟩
               ·rw [if_neg c88] at H
                have c88b0:(a2_2.toList == ([]:List UInt8)) = false:=beq_eq_false_iff_ne.mpr c88;have c88b1:(a2_2.toList != ([]:List UInt8)) = true:=bne_iff_ne.mpr c88;obtain rfl:=Option.some.inj H;obtain ⟨hcz92_0,hcz92_1,hcz92_2,hcz92_3⟩:=kb4 BK309.out
                go_wp2
                go_ret
                exact ⟨cl,bl HB.out⟩
              ·rw [if_neg c87] at H
               have c87b0:(a2_0 == 10) = false:=beq_eq_false_iff_ne.mpr c87;have c87b1:(a2_0 != 10) = true:=bne_iff_ne.mpr c87
               by_cases c93:a2_0 = 11
               ·rw [if_pos c93] at H
                have c93b0:(a2_0 == 11) = true:=beq_iff_eq.mpr c93;have c93b1:(a2_0 != 11) = false:=bne_eq_false_iff_eq.mpr c93;clear c93
                by_cases c94:x7_3 = true
                ·subst c94
                 have H1:(some (a2_1 == 0)) = some r:=by rw [if_pos rfl] at H;exact H
                 clear H;have H:=H1;clear H1;obtain rfl:=Option.some.inj H;obtain ⟨hcz95_0,hcz95_1,hcz95_2,hcz95_3⟩:=kb4 BK309.out
                 go_wp2
                 go_ret
                 exact ⟨cl,bl HB.out⟩
                ·replace c94:=Bool.eq_false_iff.mpr c94
                 subst c94;have H1:(some false) = some r:=by rw [if_neg (show ¬ (false = true) by decide)] at H;exact H
                 clear H;have H:=H1;clear H1;obtain rfl:=Option.some.inj H
                 go_wp2
                 go_ret
                 exact ⟨cl,bl HB.out⟩
               ·rw [if_neg c93] at H
                have c93b0:(a2_0 == 11) = false:=beq_eq_false_iff_ne.mpr c93;have c93b1:(a2_0 != 11) = true:=bne_iff_ne.mpr c93
                by_cases c96:a2_0 = 12
                ·rw [if_pos c96] at H
                 have c96b0:(a2_0 == 12) = true:=beq_iff_eq.mpr c96;have c96b1:(a2_0 != 12) = false:=bne_eq_false_iff_eq.mpr c96;clear c96
                 by_cases c97:x7_3 = true
                 ·subst c97
                  have H1:(some (a2_1 == 0)) = some r:=by rw [if_pos rfl] at H;exact H
                  clear H;have H:=H1;clear H1;obtain rfl:=Option.some.inj H;obtain ⟨hcz98_0,hcz98_1,hcz98_2,hcz98_3⟩:=kb4 BK309.out
                  go_wp2
                  go_ret
                  exact ⟨cl,bl HB.out⟩
                 ·replace c97:=Bool.eq_false_iff.mpr c97
                  subst c97;have H1:(some false) = some r:=by rw [if_neg (show ¬ (false = true) by decide)] at H;exact H
                  clear H;have H:=H1;clear H1;obtain rfl:=Option.some.inj H
                  go_wp2
                  go_ret
                  exact ⟨cl,bl HB.out⟩
                ·rw [if_neg c96] at H
                 have c96b0:(a2_0 == 12) = false:=beq_eq_false_iff_ne.mpr c96;have c96b1:(a2_0 != 12) = true:=bne_iff_ne.mpr c96;obtain rfl:=Option.some.inj H
                 go_wp2
                 go_ret
                 exact ⟨cl,bl HB.out⟩
   ·rw [if_neg c9] at H
    exact absurd H (by simp)

end Go.Proofs.Ytghhbdmjafedbaa.QFnExactCodeOk
