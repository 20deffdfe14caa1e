-- Written by a program of this workplace (print2.py) for this claim, over the print's words.
import Derived.Test.YtghhbdmjafedbaaQFnExactCodeOkx0
import Derived.Test.YtghhbdmjafedbaaQFnExactCodeOkx10
import Derived.Test.YtghhbdmjafedbaaQFnExactCodeOkx14
import Derived.Test.YtghhbdmjafedbaaQFnExactCodeOkx16
namespace Go.Proofs.Ytghhbdmjafedbaa.QFnExactCodeOk
open Go.RowKit Go.Proofs.YtghhbdmjafedbaaW.PrintWords Go.Proofs.YtghhbdmjafedbaaW.PrintLast Go.Proofs.YtghhbdmjafedbaaW.PrintMore
attribute [local go_sem] max2_int min2_int max_two min_two max_three min_three max_four min_four   -- for this text's walks alone
set_option linter.unusedVariables false
set_option linter.unusedSimpArgs false

/-! ### impl_fnOk: function 15 -/
mutual
def impl_fnOk.j0:Nat → List (S31) → List (S44) → Bool → Option (Bool)
 | 0,_,_,_=>none
 | k + 1,x0,x1,x43=>if x43 = true then (some false) else (if 0 < (x1.length:Int) then (impl_fnOk.l0 k x0 x1 ((rd_T44 x1 0).f3) (((rd_T44 x1 0).f3).length:Int) 0) else (none))
def impl_fnOk.l0:Nat → List (S31) → List (S44) → List (S64) → Int → Int → Option (Bool)
 | 0,_,_,_,_,_=>none
 | k + 1,x0,x1,x47,x48,x49=>if x49 < x48 then (if 0≤x49 then (if x49 < (x47.length:Int) then ((impl_insOk.f k x0 x1 ((rd_T64 x47 x49).f0) ((rd_T64 x47 x49).f1) ((rd_T64 x47 x49).f2) ((rd_T64 x47 x49).f3)).bind fun t382=>(if t382 = true then (impl_fnOk.l0 k x0 x1 x47 x48 (wrap64 (x49 + 1))) else (some false))) else (none)) else (none)) else ((impl_heightsOf.f k x1).bind fun bt383=>(some bt383.2))
end
def impl_fnOk.f (k:Nat) (l0:List (S31)) (l1:List (S44)):Option (Bool):=if 0 < (l1.length:Int) then ((impl_xAtomOk.f k ((rd_T44 l1 0).f0)).bind fun t371=>(if t371 = true then ((impl_inRange.f ((rd_T44 l1 0).f1) 0 4).bind fun t373=>(if t373 = true then ((impl_inRange.f ((rd_T44 l1 0).f2) ((rd_T44 l1 0).f1) 400).bind fun t376=>(if t376 = true then ((impl_inRange.f (((rd_T44 l1 0).f3).length:Int) 1 1500).bind fun t378=>(impl_fnOk.j0 k l0 l1 (!t378))) else (impl_fnOk.j0 k l0 l1 true))) else (impl_fnOk.j0 k l0 l1 true))) else (impl_fnOk.j0 k l0 l1 true))) else (none)
theorem impl_fnOk.mono_l:∀ k,(∀ y0 y1 y2,LeO (impl_fnOk.j0 k y0 y1 y2) (impl_fnOk.j0 (k + 1) y0 y1 y2))∧(∀ y0 y1 y2 y3 y4,LeO (impl_fnOk.l0 k y0 y1 y2 y3 y4) (impl_fnOk.l0 (k + 1) y0 y1 y2 y3 y4))
 | 0=>⟨fun _ _ _ r h=>by simp [impl_fnOk.j0] at h,fun _ _ _ _ _ r h=>by simp [impl_fnOk.l0] at h⟩
 | k + 1=>by
  obtain ⟨ih0,ih1⟩:=impl_fnOk.mono_l k
  refine ⟨?_,?_⟩
  ·intro y0 y1 y2
   unfold impl_fnOk.j0
   with_reducible repeat' first|apply ih0|apply ih1|apply impl_heightsOf.mono|apply impl_insOk.mono|apply impl_xAtomOk.mono|apply LeO.refl|apply LeO.none|apply LeO.ite|refine LeO.bind ?_ (fun _=>?_)
  ·intro y0 y1 y2 y3 y4
   unfold impl_fnOk.l0
   with_reducible repeat' first|apply ih0|apply ih1|apply impl_heightsOf.mono|apply impl_insOk.mono|apply impl_xAtomOk.mono|apply LeO.refl|apply LeO.none|apply LeO.ite|refine LeO.bind ?_ (fun _=>?_)
theorem impl_fnOk.mono:∀ a0 a1 k,LeO (impl_fnOk.f k a0 a1) (impl_fnOk.f (k + 1) a0 a1):=by
 intro a0 a1 k;obtain ⟨ih0,ih1⟩:=impl_fnOk.mono_l k
 unfold impl_fnOk.f
 with_reducible repeat' first|apply ih0|apply ih1|apply impl_heightsOf.mono|apply impl_insOk.mono|apply impl_xAtomOk.mono|apply LeO.refl|apply LeO.none|apply LeO.ite|refine LeO.bind ?_ (fun _=>?_)
def impl_fnOk.T1:Bool × List (List Nat × List Nat):=(true,[([],[]),([0],[0]),([1],[1]),([2],[2]),([3],[3]),([4],[4]),([5,4],[5]),([6],[6]),([7,6],[6,7]),([8,6],[6,8]),([9,6],[6,9]),([10,6,6],[6,10]),([11,6],[6,11]),([6,12],[6,12]),([13,11],[13]),([14],[14]),([15,14],[14,15]),([16,14],[14,16]),([17,14],[14,17]),([14],[14]),([19,14],[14,19]),([20,14],[14,20]),([21,14],[14,21]),([18,22,14,14],[14,18,22]),([23,14],[14,23]),([14,24],[14,24]),([25,23],[25]),([26],[26]),([27,26],[26,27]),([28,26],[26,28]),([29,26],[26,29]),([30,26],[26,30]),([31,26,26],[26,31]),([32,26],[26,32]),([26,33],[26,33])])
def impl_fnOk.B1:List Nat:=[0,1,3,7,15,31,63,127,255,511,1023,2047,4095,8191,16383,32767,65535,131071,262143,32767,557055,1605631,3702783,8388607,16777215,33554431,67108863,134217727,268435455,536870911,1073741823,2147483647,4294967295,8589934591,17179869183]
theorem impl_fnOk.tab1:rtab .any (opsOf Try.f15 1) = impl_fnOk.T1:=by kernel_rfl
theorem impl_fnOk.bits1:waitsOk impl_fnOk.T1.2 impl_fnOk.B1 = true:=by kernel_rfl
set_option maxHeartbeats 8000000 in
set_option maxRecDepth 100000 in
theorem impl_fnOk.calls (k:Nat) (A0:Option Addr) (c0:Nat) (l0:List (S31)) (A1:Option Addr) (c1:Nat) (l1:List (S44)) (r:Bool) (w:World) (hr0:Kd.C k31 w A0 l0.length l0) (hc0:l0.length≤c0) (hr1:Kd.C k44 w A1 l1.length l1) (hc1:l1.length≤c1) (h:impl_fnOk.f k l0 l1 = some r) :
  Calls Try.prog 15 #[.pointer A0,.pointer A1] w fun e w'=>e = .returned (.bool r)∧Below w.heap.size w w':=by
 have hu64:=Try.underlying64;have HR0:=Aside0.mk hr0;have HC0:=Aside0.mk hc0;clear hr0 hc0;have HR1:=Aside0.mk hr1;have HC1:=Aside0.mk hc1;clear hr1 hc1;have HB:=Aside0.mk (Below.refl w.heap.size w);have H:(if 0 < (l1.length:Int) then ((impl_xAtomOk.f k ((rd_T44 l1 0).f0)).bind fun t371=>(if t371 = true then ((impl_inRange.f ((rd_T44 l1 0).f1) 0 4).bind fun t373=>(if t373 = true then ((impl_inRange.f ((rd_T44 l1 0).f2) ((rd_T44 l1 0).f1) 400).bind fun t376=>(if t376 = true then ((impl_inRange.f (((rd_T44 l1 0).f3).length:Int) 1 1500).bind fun t378=>(impl_fnOk.j0 k l0 l1 (!t378))) else (impl_fnOk.j0 k l0 l1 true))) else (impl_fnOk.j0 k l0 l1 true))) else (impl_fnOk.j0 k l0 l1 true))) else (none)) = some r:=h;clear h;have HC3:=Aside0.mk H;clear H
 go_enter Try.func15,Try.ntmps15
 go_upto_region 1 with (fail)
 go_cut [43] (fun v43 wc=>∃ (kq:Nat) (x43_2:Bool),v43 = .bool x43_2∧Aside0 (impl_fnOk.j0 kq l0 l1 x43_2 = some r)∧Aside0 (kq≤k)∧Aside0 (Below w.heap.size w wc))
 case first =>
  have H:=HC3.out;clear HC3
  by_cases c4:0 < (l1.length:Int)
  ·rw [if_pos c4] at H
   have c4b0:decide (0 < (l1.length:Int)) = true:=decide_eq_true c4;have c4b1:decide (0 < l1.length) = true:=decide_eq_true (by omega);clear c4
   (first|rw [c4b0]|(simp only [i64_w,i32_w];rw [c4b0])|(simp only [c4b2,Bool.not_true,Bool.not_false])|skip)
   replace H:=Option.bind_eq_some_iff.mp H;obtain ⟨t371,A50,H⟩:=H;replace H:(if t371 = true then ((impl_inRange.f ((rd_T44 l1 0).f1) 0 4).bind fun t373=>(if t373 = true then ((impl_inRange.f ((rd_T44 l1 0).f2) ((rd_T44 l1 0).f1) 400).bind fun t376=>(if t376 = true then ((impl_inRange.f (((rd_T44 l1 0).f3).length:Int) 1 1500).bind fun t378=>(impl_fnOk.j0 k l0 l1 (!t378))) else (impl_fnOk.j0 k l0 l1 true))) else (impl_fnOk.j0 k l0 l1 true))) else (impl_fnOk.j0 k l0 l1 true)) = some r:=H;have A5:=Aside0.mk A50;clear A50
   by_cases c6:t371 = true
   ·subst c6
    have H1:((impl_inRange.f ((rd_T44 l1 0).f1) 0 4).bind fun t373=>(if t373 = true then ((impl_inRange.f ((rd_T44 l1 0).f2) ((rd_T44 l1 0).f1) 400).bind fun t376=>(if t376 = true then ((impl_inRange.f (((rd_T44 l1 0).f3).length:Int) 1 1500).bind fun t378=>(impl_fnOk.j0 k l0 l1 (!t378))) else (impl_fnOk.j0 k l0 l1 true))) else (impl_fnOk.j0 k l0 l1 true))) = some r:=by rw [if_pos rfl] at H;exact H
    clear H;have H:=H1;clear H1;replace H:=Option.bind_eq_some_iff.mp H;obtain ⟨t373,A70,H⟩:=H;replace H:(if t373 = true then ((impl_inRange.f ((rd_T44 l1 0).f2) ((rd_T44 l1 0).f1) 400).bind fun t376=>(if t376 = true then ((impl_inRange.f (((rd_T44 l1 0).f3).length:Int) 1 1500).bind fun t378=>(impl_fnOk.j0 k l0 l1 (!t378))) else (impl_fnOk.j0 k l0 l1 true))) else (impl_fnOk.j0 k l0 l1 true)) = some r:=H;have A7:=Aside0.mk A70;clear A70
    by_cases c8:t373 = true
    ·subst c8
     have H1:((impl_inRange.f ((rd_T44 l1 0).f2) ((rd_T44 l1 0).f1) 400).bind fun t376=>(if t376 = true then ((impl_inRange.f (((rd_T44 l1 0).f3).length:Int) 1 1500).bind fun t378=>(impl_fnOk.j0 k l0 l1 (!t378))) else (impl_fnOk.j0 k l0 l1 true))) = some r:=by rw [if_pos rfl] at H;exact H
     clear H;have H:=H1;clear H1;replace H:=Option.bind_eq_some_iff.mp H;obtain ⟨t376,A90,H⟩:=H;replace H:(if t376 = true then ((impl_inRange.f (((rd_T44 l1 0).f3).length:Int) 1 1500).bind fun t378=>(impl_fnOk.j0 k l0 l1 (!t378))) else (impl_fnOk.j0 k l0 l1 true)) = some r:=H;have A9:=Aside0.mk A90;clear A90
     by_cases c10:t376 = true
     ·subst c10
      have H1:((impl_inRange.f (((rd_T44 l1 0).f3).length:Int) 1 1500).bind fun t378=>(impl_fnOk.j0 k l0 l1 (!t378))) = some r:=by rw [if_pos rfl] at H;exact H
      clear H;have H:=H1;clear H1;replace H:=Option.bind_eq_some_iff.mp H;obtain ⟨t378,A110,H⟩:=H;replace H:(impl_fnOk.j0 k l0 l1 (!t378)) = some r:=H;have A11:=Aside0.mk A110;clear A110;have H':=Aside0.mk H;clear H
      try go_wp2
      have n_:=dh HB;clear HB;have HB:=n_;clear n_;have p370:0≤(0:Int):=(by omega);have q370:0 < (l1.length:Int):=od;obtain ⟨ad370,A370_3,c370_3,e370,hx370_0,hx370_1,hx370_2,hx370_3,hl370_3,hi370_3⟩:=at_T44 HR1.out 0 p370 q370;have hw370_3:=hx370_3;(try simp only [show ((0:Int)).toNat = 0 from rfl,show 0 * 4 = 0 from rfl,Addr.add_zero'] at hw370_3);have hw370_2:=hx370_2;(try simp only [show ((0:Int)).toNat = 0 from rfl,show 0 * 4 = 0 from rfl,Addr.add_zero'] at hw370_2);have hw370_1:=hx370_1;(try simp only [show ((0:Int)).toNat = 0 from rfl,show 0 * 4 = 0 from rfl,Addr.add_zero'] at hw370_1);have hw370_0:=hx370_0;(try simp only [show ((0:Int)).toNat = 0 from rfl,show 0 * 4 = 0 from rfl,Addr.add_zero'] at hw370_0);cases e370;have qi370:(0 < l1.length) = True:=eq_true (by omega);(try simp only [show ((0:Int)).toNat = 0 from rfl,show 0 * 4 = 0 from rfl,Addr.add_zero'] at hx370_0 hx370_1 hx370_2 hx370_3);replace hx370_0:=cb HB hx370_0;replace hx370_1:=cb HB hx370_1;replace hx370_2:=cb HB hx370_2;replace hx370_3:=cb HB hx370_3;have HR370_3:=Aside0.mk hi370_3;have HC370_3:=Aside0.mk hl370_3;clear hi370_3 hl370_3;replace p370:=eq_true p370;replace q370:=eq_true q370;have p372:0≤(0:Int):=(by omega);have q372:0 < (l1.length:Int):=od;obtain ⟨ad372,A372_3,c372_3,e372,hx372_0,hx372_1,hx372_2,hx372_3,hl372_3,hi372_3⟩:=at_T44 HR1.out 0 p372 q372;have hw372_3:=hx372_3;(try simp only [show ((0:Int)).toNat = 0 from rfl,show 0 * 4 = 0 from rfl,Addr.add_zero'] at hw372_3);have hw372_2:=hx372_2;(try simp only [show ((0:Int)).toNat = 0 from rfl,show 0 * 4 = 0 from rfl,Addr.add_zero'] at hw372_2);have hw372_1:=hx372_1;(try simp only [show ((0:Int)).toNat = 0 from rfl,show 0 * 4 = 0 from rfl,Addr.add_zero'] at hw372_1);have hw372_0:=hx372_0;(try simp only [show ((0:Int)).toNat = 0 from rfl,show 0 * 4 = 0 from rfl,Addr.add_zero'] at hw372_0);obtain rfl:ad370 = ad372:=(by injection e372);have qi372:(0 < l1.length) = True:=eq_true (by omega);(try simp only [show ((0:Int)).toNat = 0 from rfl,show 0 * 4 = 0 from rfl,Addr.add_zero'] at hx372_0 hx372_1 hx372_2 hx372_3);replace hx372_0:=cb HB hx372_0;replace hx372_1:=cb HB hx372_1;replace hx372_2:=cb HB hx372_2;replace hx372_3:=cb HB hx372_3;have HR372_3:=Aside0.mk hi372_3;have HC372_3:=Aside0.mk hl372_3;clear hi372_3 hl372_3;replace p372:=eq_true p372;replace q372:=eq_true q372;have ea_:=Option.some.inj (hx370_3.symm.trans hx372_3)
      injection ea_ with ea_ en_ ec_
      subst ea_;subst ec_;clear en_;have p374:0≤(0:Int):=(by omega);have q374:0 < (l1.length:Int):=od;obtain ⟨ad374,A374_3,c374_3,e374,hx374_0,hx374_1,hx374_2,hx374_3,hl374_3,hi374_3⟩:=at_T44 HR1.out 0 p374 q374;have hw374_3:=hx374_3;(try simp only [show ((0:Int)).toNat = 0 from rfl,show 0 * 4 = 0 from rfl,Addr.add_zero'] at hw374_3);have hw374_2:=hx374_2;(try simp only [show ((0:Int)).toNat = 0 from rfl,show 0 * 4 = 0 from rfl,Addr.add_zero'] at hw374_2);have hw374_1:=hx374_1;(try simp only [show ((0:Int)).toNat = 0 from rfl,show 0 * 4 = 0 from rfl,Addr.add_zero'] at hw374_1);have hw374_0:=hx374_0;(try simp only [show ((0:Int)).toNat = 0 from rfl,show 0 * 4 = 0 from rfl,Addr.add_zero'] at hw374_0);obtain rfl:ad370 = ad374:=(by injection e374);have qi374:(0 < l1.length) = True:=eq_true (by omega);(try simp only [show ((0:Int)).toNat = 0 from rfl,show 0 * 4 = 0 from rfl,Addr.add_zero'] at hx374_0 hx374_1 hx374_2 hx374_3);replace hx374_0:=cb HB hx374_0;replace hx374_1:=cb HB hx374_1;replace hx374_2:=cb HB hx374_2;replace hx374_3:=cb HB hx374_3;have HR374_3:=Aside0.mk hi374_3;have HC374_3:=Aside0.mk hl374_3;clear hi374_3 hl374_3;replace p374:=eq_true p374;replace q374:=eq_true q374;have ea_:=Option.some.inj (hx370_3.symm.trans hx374_3)
      injection ea_ with ea_ en_ ec_
      subst ea_;subst ec_;clear en_;have p375:0≤(0:Int):=(by omega);have q375:0 < (l1.length:Int):=od;obtain ⟨ad375,A375_3,c375_3,e375,hx375_0,hx375_1,hx375_2,hx375_3,hl375_3,hi375_3⟩:=at_T44 HR1.out 0 p375 q375;have hw375_3:=hx375_3;(try simp only [show ((0:Int)).toNat = 0 from rfl,show 0 * 4 = 0 from rfl,Addr.add_zero'] at hw375_3);have hw375_2:=hx375_2;(try simp only [show ((0:Int)).toNat = 0 from rfl,show 0 * 4 = 0 from rfl,Addr.add_zero'] at hw375_2);have hw375_1:=hx375_1;(try simp only [show ((0:Int)).toNat = 0 from rfl,show 0 * 4 = 0 from rfl,Addr.add_zero'] at hw375_1);have hw375_0:=hx375_0;(try simp only [show ((0:Int)).toNat = 0 from rfl,show 0 * 4 = 0 from rfl,Addr.add_zero'] at hw375_0);obtain rfl:ad370 = ad375:=(by injection e375);have qi375:(0 < l1.length) = True:=eq_true (by omega);(try simp only [show ((0:Int)).toNat = 0 from rfl,show 0 * 4 = 0 from rfl,Addr.add_zero'] at hx375_0 hx375_1 hx375_2 hx375_3);replace hx375_0:=cb HB hx375_0;replace hx375_1:=cb HB hx375_1;replace hx375_2:=cb HB hx375_2;replace hx375_3:=cb HB hx375_3;have HR375_3:=Aside0.mk hi375_3;have HC375_3:=Aside0.mk hl375_3;clear hi375_3 hl375_3;replace p375:=eq_true p375;replace q375:=eq_true q375;have ea_:=Option.some.inj (hx370_3.symm.trans hx375_3)
      injection ea_ with ea_ en_ ec_
      subst ea_;subst ec_;clear en_;have p377:0≤(0:Int):=(by omega);have q377:0 < (l1.length:Int):=od;obtain ⟨ad377,A377_3,c377_3,e377,hx377_0,hx377_1,hx377_2,hx377_3,hl377_3,hi377_3⟩:=at_T44 HR1.out 0 p377 q377;have hw377_3:=hx377_3;(try simp only [show ((0:Int)).toNat = 0 from rfl,show 0 * 4 = 0 from rfl,Addr.add_zero'] at hw377_3);have hw377_2:=hx377_2;(try simp only [show ((0:Int)).toNat = 0 from rfl,show 0 * 4 = 0 from rfl,Addr.add_zero'] at hw377_2);have hw377_1:=hx377_1;(try simp only [show ((0:Int)).toNat = 0 from rfl,show 0 * 4 = 0 from rfl,Addr.add_zero'] at hw377_1);have hw377_0:=hx377_0;(try simp only [show ((0:Int)).toNat = 0 from rfl,show 0 * 4 = 0 from rfl,Addr.add_zero'] at hw377_0);obtain rfl:ad370 = ad377:=(by injection e377);have qi377:(0 < l1.length) = True:=eq_true (by omega);(try simp only [show ((0:Int)).toNat = 0 from rfl,show 0 * 4 = 0 from rfl,Addr.add_zero'] at hx377_0 hx377_1 hx377_2 hx377_3);replace hx377_0:=cb HB hx377_0;replace hx377_1:=cb HB hx377_1;replace hx377_2:=cb HB hx377_2;replace hx377_3:=cb HB hx377_3;have HR377_3:=Aside0.mk hi377_3;have HC377_3:=Aside0.mk hl377_3;clear hi377_3 hl377_3;replace p377:=eq_true p377;replace q377:=eq_true q377;have ea_:=Option.some.inj (hx370_3.symm.trans hx377_3)
      injection ea_ with ea_ en_ ec_
      subst ea_;subst ec_;clear en_
      refine start_ (n:=35) (S:=fun w'=>w'.cell? ad370 = some (.string ((rd_T44 l1 0).f0))∧w'.cell? ⟨ad370.block,ad370.off + 1,none⟩ = some (.int .i64 ((rd_T44 l1 0).f1))∧w'.cell? ⟨ad370.block,ad370.off + 2,none⟩ = some (.int .i64 ((rd_T44 l1 0).f2))∧w'.cell? ⟨ad370.block,ad370.off + 3,none⟩ = some (.slice A370_3 ((rd_T44 l1 0).f3).length c370_3)∧w'.cell? ad370 = some (.string ((rd_T44 l1 0).f0))∧w'.cell? ⟨ad370.block,ad370.off + 1,none⟩ = some (.int .i64 ((rd_T44 l1 0).f1))∧w'.cell? ⟨ad370.block,ad370.off + 2,none⟩ = some (.int .i64 ((rd_T44 l1 0).f2))∧w'.cell? ⟨ad370.block,ad370.off + 3,none⟩ = some (.slice A370_3 ((rd_T44 l1 0).f3).length c370_3)∧w'.cell? ad370 = some (.string ((rd_T44 l1 0).f0))∧w'.cell? ⟨ad370.block,ad370.off + 1,none⟩ = some (.int .i64 ((rd_T44 l1 0).f1))∧w'.cell? ⟨ad370.block,ad370.off + 2,none⟩ = some (.int .i64 ((rd_T44 l1 0).f2))∧w'.cell? ⟨ad370.block,ad370.off + 3,none⟩ = some (.slice A370_3 ((rd_T44 l1 0).f3).length c370_3)∧w'.cell? ad370 = some (.string ((rd_T44 l1 0).f0))∧w'.cell? ⟨ad370.block,ad370.off + 1,none⟩ = some (.int .i64 ((rd_T44 l1 0).f1))∧w'.cell? ⟨ad370.block,ad370.off + 2,none⟩ = some (.int .i64 ((rd_T44 l1 0).f2))∧w'.cell? ⟨ad370.block,ad370.off + 3,none⟩ = some (.slice A370_3 ((rd_T44 l1 0).f3).length c370_3)∧w'.cell? ad370 = some (.string ((rd_T44 l1 0).f0))∧w'.cell? ⟨ad370.block,ad370.off + 1,none⟩ = some (.int .i64 ((rd_T44 l1 0).f1))∧w'.cell? ⟨ad370.block,ad370.off + 2,none⟩ = some (.int .i64 ((rd_T44 l1 0).f2))∧w'.cell? ⟨ad370.block,ad370.off + 3,none⟩ = some (.slice A370_3 ((rd_T44 l1 0).f3).length c370_3)) (ds:=[]) #[false,false,false,false,false,false,false,false,false,false,false,false,false,false,false,false,false,false,false,false,false,false,false,false,false,false,false,false,false,false,false,false,false,false,false] (by kernel_rfl) rfl rfl ⟨(cb HB hw370_0 :),(cb HB hw370_1 :),(cb HB hw370_2 :),(cb HB hw370_3 :),(cb HB hw372_0 :),(cb HB hw372_1 :),(cb HB hw372_2 :),(cb HB hw372_3 :),(cb HB hw374_0 :),(cb HB hw374_1 :),(cb HB hw374_2 :),(cb HB hw374_3 :),(cb HB hw375_0 :),(cb HB hw375_1 :),(cb HB hw375_2 :),(cb HB hw375_3 :),(cb HB hw377_0 :),(cb HB hw377_1 :),(cb HB hw377_2 :),(cb HB hw377_3 :)⟩ (fun hHeld=>?_);refine with_tabW impl_fnOk.tab1 impl_fnOk.bits1 (fun HT_ HW_=>?_)
      generalize w.drew = w12 at HB HR370_3 HR372_3 HR374_3 HR375_3 HR377_3 hx370_0 hx370_1 hx370_2 hx370_3 hx372_0 hx372_1 hx372_2 hx372_3 hx374_0 hx374_1 hx374_2 hx374_3 hx375_0 hx375_1 hx375_2 hx375_3 hx377_0 hx377_1 hx377_2 hx377_3 hHeld ⊢;refine pu 0 9 ?_;refine pu 1 10 ?_;refine pu 2 11 ?_;refine ta 3 12 hHeld ?_
      refine one_ (i:=4) (N:=some 13) #[true,true,true,true,true,false,false,false,false,false,false,false,false,false,false,false,false,false,false,false,false,false,false,false,false,false,false,false,false,false,false,false,false,false,false] rfl rfl (one_of HT_.out (by kernel_rfl)) (by decide) (fun K hK=>?_)
      refine goes_ Try.func29 (by kernel_rfl) rfl #[.string ((rd_T44 l1 0).f0)] (by rfl) rfl rfl gs ?_
      with_reducible refine (impl_xAtomOk.calls k ((rd_T44 l1 0).f0) true _ A5.out).mono ?_
      rintro e w' ⟨rfl,⟨nd,rfl⟩⟩
      refine ⟨_,rfl,?_⟩
      refine hK.out _ _ ⟨(cb HB hw370_0 :),(cb HB hw370_1 :),(cb HB hw370_2 :),(cb HB hw370_3 :),(cb HB hw372_0 :),(cb HB hw372_1 :),(cb HB hw372_2 :),(cb HB hw372_3 :),(cb HB hw374_0 :),(cb HB hw374_1 :),(cb HB hw374_2 :),(cb HB hw374_3 :),(cb HB hw375_0 :),(cb HB hw375_1 :),(cb HB hw375_2 :),(cb HB hw375_3 :),(cb HB hw377_0 :),(cb HB hw377_1 :),(cb HB hw377_2 :),(cb HB hw377_3 :)⟩ (fun hHeld=>?_)
      clear hK K
      refine norm_ (a':=?_) ?_ ?_
      rotate_left
      ·show Act.put _ (some 13) _ = _
       simp only [Act.put,List.setIfInBounds_toArray,List.set_cons_zero,List.set_cons_succ,i64_w,i32_w]
       rfl
      refine pu 5 14 ?_;refine pu 6 15 ?_;refine pu 7 16 ?_;refine pu 8 17 ?_;refine pu 9 18 ?_;refine ta 10 19 hHeld ?_
      refine one_ (i:=11) (N:=some 20) #[true,true,true,true,true,true,true,true,true,true,true,true,false,false,false,false,false,false,false,false,false,false,false,false,false,false,false,false,false,false,false,false,false,false,false] rfl rfl (one_of HT_.out (by kernel_rfl)) (by decide) (fun K hK=>?_)
      refine goes_ Try.func30 (by kernel_rfl) rfl #[.int .i64 ((rd_T44 l1 0).f1),.int .i64 0,.int .i64 4] (by rfl) rfl rfl gs ?_
      with_reducible refine (impl_inRange.calls ((rd_T44 l1 0).f1) 0 4 true _ A7.out).mono ?_
      rintro e w' ⟨rfl,⟨nd,rfl⟩⟩
      refine ⟨_,rfl,?_⟩
      refine hK.out _ _ ⟨(cb HB hw370_0 :),(cb HB hw370_1 :),(cb HB hw370_2 :),(cb HB hw370_3 :),(cb HB hw372_0 :),(cb HB hw372_1 :),(cb HB hw372_2 :),(cb HB hw372_3 :),(cb HB hw374_0 :),(cb HB hw374_1 :),(cb HB hw374_2 :),(cb HB hw374_3 :),(cb HB hw375_0 :),(cb HB hw375_1 :),(cb HB hw375_2 :),(cb HB hw375_3 :),(cb HB hw377_0 :),(cb HB hw377_1 :),(cb HB hw377_2 :),(cb HB hw377_3 :)⟩ (fun hHeld=>?_)
      clear hK K
      refine norm_ (a':=?_) ?_ ?_
      rotate_left
      ·show Act.put _ (some 20) _ = _
       simp only [Act.put,List.setIfInBounds_toArray,List.set_cons_zero,List.set_cons_succ,i64_w,i32_w]
       rfl
      refine pu 12 21 ?_;refine pu 13 22 ?_;refine pu 14 23 ?_;refine pu 15 24 ?_;refine pu 16 25 ?_;refine pu 17 26 ?_;refine pu 19 28 ?_;refine pu 20 29 ?_;refine pu 21 30 ?_;refine ta 18 27 hHeld ?_;refine ta 22 31 hHeld ?_
      refine one_ (i:=23) (N:=some 32) #[true,true,true,true,true,true,true,true,true,true,true,true,true,true,true,true,true,true,true,true,true,true,true,true,false,false,false,false,false,false,false,false,false,false,false] rfl rfl (one_of HT_.out (by kernel_rfl)) (by decide) (fun K hK=>?_)
      refine goes_ Try.func30 (by kernel_rfl) rfl #[.int .i64 ((rd_T44 l1 0).f2),.int .i64 ((rd_T44 l1 0).f1),.int .i64 400] (by rfl) rfl rfl gs ?_
      with_reducible refine (impl_inRange.calls ((rd_T44 l1 0).f2) ((rd_T44 l1 0).f1) 400 true _ A9.out).mono ?_
      rintro e w' ⟨rfl,⟨nd,rfl⟩⟩
      refine ⟨_,rfl,?_⟩
      refine hK.out _ _ ⟨(cb HB hw370_0 :),(cb HB hw370_1 :),(cb HB hw370_2 :),(cb HB hw370_3 :),(cb HB hw372_0 :),(cb HB hw372_1 :),(cb HB hw372_2 :),(cb HB hw372_3 :),(cb HB hw374_0 :),(cb HB hw374_1 :),(cb HB hw374_2 :),(cb HB hw374_3 :),(cb HB hw375_0 :),(cb HB hw375_1 :),(cb HB hw375_2 :),(cb HB hw375_3 :),(cb HB hw377_0 :),(cb HB hw377_1 :),(cb HB hw377_2 :),(cb HB hw377_3 :)⟩ (fun hHeld=>?_)
      clear hK K
      refine norm_ (a':=?_) ?_ ?_
      rotate_left
      ·show Act.put _ (some 32) _ = _
       simp only [Act.put,List.setIfInBounds_toArray,List.set_cons_zero,List.set_cons_succ,i64_w,i32_w]
       rfl
      refine pu 24 33 ?_;refine pu 25 34 ?_;refine pu 26 35 ?_;refine pu 27 36 ?_;refine pu 28 37 ?_;refine pu 29 38 ?_;refine ta 30 39 hHeld ?_;refine pu 31 40 ?_
      refine one_ (i:=32) (N:=some 41) #[true,true,true,true,true,true,true,true,true,true,true,true,true,true,true,true,true,true,true,true,true,true,true,true,true,true,true,true,true,true,true,true,true,false,false] rfl rfl (one_of HT_.out (by kernel_rfl)) (by decide) (fun K hK=>?_)
      refine goes_ Try.func30 (by kernel_rfl) rfl #[.int .i64 (((rd_T44 l1 0).f3).length:Int),.int .i64 1,.int .i64 1500] (by rfl) rfl rfl gs ?_
      with_reducible refine (impl_inRange.calls (((rd_T44 l1 0).f3).length:Int) 1 1500 t378 _ A11.out).mono ?_
      rintro e w' ⟨rfl,⟨nd,rfl⟩⟩
      refine ⟨_,rfl,?_⟩
      refine hK.out _ _ ⟨(cb HB hw370_0 :),(cb HB hw370_1 :),(cb HB hw370_2 :),(cb HB hw370_3 :),(cb HB hw372_0 :),(cb HB hw372_1 :),(cb HB hw372_2 :),(cb HB hw372_3 :),(cb HB hw374_0 :),(cb HB hw374_1 :),(cb HB hw374_2 :),(cb HB hw374_3 :),(cb HB hw375_0 :),(cb HB hw375_1 :),(cb HB hw375_2 :),(cb HB hw375_3 :),(cb HB hw377_0 :),(cb HB hw377_1 :),(cb HB hw377_2 :),(cb HB hw377_3 :)⟩ (fun hHeld=>?_)
      clear hK K
      refine norm_ (a':=?_) ?_ ?_
      rotate_left
      ·show Act.put _ (some 41) _ = _
       simp only [Act.put,List.setIfInBounds_toArray,List.set_cons_zero,List.set_cons_succ,i64_w,i32_w]
       rfl
      refine pu 33 42 ?_;refine pu 34 43 ?_
      refine done_ (done_of HT_.out (by kernel_rfl)) ?_
      try go_wp2
      go_meet
      case rel=>exact ⟨_,(!t378),(cl2),H',⟨by first|omega|exact Nat.le_refl _⟩,⟨bl HB.out⟩⟩
     ·replace c10:=Bool.eq_false_iff.mpr c10
      subst c10;have H1:(impl_fnOk.j0 k l0 l1 true) = some r:=by rw [if_neg (show ¬ (false = true) by decide)] at H;exact H
      clear H;have H:=H1;clear H1;have H':=Aside0.mk H;clear H
      try go_wp2
      have n_:=dh HB;clear HB;have HB:=n_;clear n_;have p370:0≤(0:Int):=(by omega);have q370:0 < (l1.length:Int):=od;obtain ⟨ad370,A370_3,c370_3,e370,hx370_0,hx370_1,hx370_2,hx370_3,hl370_3,hi370_3⟩:=at_T44 HR1.out 0 p370 q370;have hw370_3:=hx370_3;(try simp only [show ((0:Int)).toNat = 0 from rfl,show 0 * 4 = 0 from rfl,Addr.add_zero'] at hw370_3);have hw370_2:=hx370_2;(try simp only [show ((0:Int)).toNat = 0 from rfl,show 0 * 4 = 0 from rfl,Addr.add_zero'] at hw370_2);have hw370_1:=hx370_1;(try simp only [show ((0:Int)).toNat = 0 from rfl,show 0 * 4 = 0 from rfl,Addr.add_zero'] at hw370_1);have hw370_0:=hx370_0;(try simp only [show ((0:Int)).toNat = 0 from rfl,show 0 * 4 = 0 from rfl,Addr.add_zero'] at hw370_0);cases e370;have qi370:(0 < l1.length) = True:=eq_true (by omega);(try simp only [show ((0:Int)).toNat = 0 from rfl,show 0 * 4 = 0 from rfl,Addr.add_zero'] at hx370_0 hx370_1 hx370_2 hx370_3);replace hx370_0:=cb HB hx370_0;replace hx370_1:=cb HB hx370_1;replace hx370_2:=cb HB hx370_2;replace hx370_3:=cb HB hx370_3;have HR370_3:=Aside0.mk hi370_3;have HC370_3:=Aside0.mk hl370_3;clear hi370_3 hl370_3;replace p370:=eq_true p370;replace q370:=eq_true q370;have p372:0≤(0:Int):=(by omega);have q372:0 < (l1.length:Int):=od;obtain ⟨ad372,A372_3,c372_3,e372,hx372_0,hx372_1,hx372_2,hx372_3,hl372_3,hi372_3⟩:=at_T44 HR1.out 0 p372 q372;have hw372_3:=hx372_3;(try simp only [show ((0:Int)).toNat = 0 from rfl,show 0 * 4 = 0 from rfl,Addr.add_zero'] at hw372_3);have hw372_2:=hx372_2;(try simp only [show ((0:Int)).toNat = 0 from rfl,show 0 * 4 = 0 from rfl,Addr.add_zero'] at hw372_2);have hw372_1:=hx372_1;(try simp only [show ((0:Int)).toNat = 0 from rfl,show 0 * 4 = 0 from rfl,Addr.add_zero'] at hw372_1);have hw372_0:=hx372_0;(try simp only [show ((0:Int)).toNat = 0 from rfl,show 0 * 4 = 0 from rfl,Addr.add_zero'] at hw372_0);obtain rfl:ad370 = ad372:=(by injection e372);have qi372:(0 < l1.length) = True:=eq_true (by omega);(try simp only [show ((0:Int)).toNat = 0 from rfl,show 0 * 4 = 0 from rfl,Addr.add_zero'] at hx372_0 hx372_1 hx372_2 hx372_3);replace hx372_0:=cb HB hx372_0;replace hx372_1:=cb HB hx372_1;replace hx372_2:=cb HB hx372_2;replace hx372_3:=cb HB hx372_3;have HR372_3:=Aside0.mk hi372_3;have HC372_3:=Aside0.mk hl372_3;clear hi372_3 hl372_3;replace p372:=eq_true p372;replace q372:=eq_true q372;have ea_:=Option.some.inj (hx370_3.symm.trans hx372_3)
      injection ea_ with ea_ en_ ec_
      subst ea_;subst ec_;clear en_;have p374:0≤(0:Int):=(by omega);have q374:0 < (l1.length:Int):=od;obtain ⟨ad374,A374_3,c374_3,e374,hx374_0,hx374_1,hx374_2,hx374_3,hl374_3,hi374_3⟩:=at_T44 HR1.out 0 p374 q374;have hw374_3:=hx374_3;(try simp only [show ((0:Int)).toNat = 0 from rfl,show 0 * 4 = 0 from rfl,Addr.add_zero'] at hw374_3);have hw374_2:=hx374_2;(try simp only [show ((0:Int)).toNat = 0 from rfl,show 0 * 4 = 0 from rfl,Addr.add_zero'] at hw374_2);have hw374_1:=hx374_1;(try simp only [show ((0:Int)).toNat = 0 from rfl,show 0 * 4 = 0 from rfl,Addr.add_zero'] at hw374_1);have hw374_0:=hx374_0;(try simp only [show ((0:Int)).toNat = 0 from rfl,show 0 * 4 = 0 from rfl,Addr.add_zero'] at hw374_0);obtain rfl:ad370 = ad374:=(by injection e374);have qi374:(0 < l1.length) = True:=eq_true (by omega);(try simp only [show ((0:Int)).toNat = 0 from rfl,show 0 * 4 = 0 from rfl,Addr.add_zero'] at hx374_0 hx374_1 hx374_2 hx374_3);replace hx374_0:=cb HB hx374_0;replace hx374_1:=cb HB hx374_1;replace hx374_2:=cb HB hx374_2;replace hx374_3:=cb HB hx374_3;have HR374_3:=Aside0.mk hi374_3;have HC374_3:=Aside0.mk hl374_3;clear hi374_3 hl374_3;replace p374:=eq_true p374;replace q374:=eq_true q374;have ea_:=Option.some.inj (hx370_3.symm.trans hx374_3)
      injection ea_ with ea_ en_ ec_
      subst ea_;subst ec_;clear en_;have p375:0≤(0:Int):=(by omega);have q375:0 < (l1.length:Int):=od;obtain ⟨ad375,A375_3,c375_3,e375,hx375_0,hx375_1,hx375_2,hx375_3,hl375_3,hi375_3⟩:=at_T44 HR1.out 0 p375 q375;have hw375_3:=hx375_3;(try simp only [show ((0:Int)).toNat = 0 from rfl,show 0 * 4 = 0 from rfl,Addr.add_zero'] at hw375_3);have hw375_2:=hx375_2;(try simp only [show ((0:Int)).toNat = 0 from rfl,show 0 * 4 = 0 from rfl,Addr.add_zero'] at hw375_2);have hw375_1:=hx375_1;(try simp only [show ((0:Int)).toNat = 0 from rfl,show 0 * 4 = 0 from rfl,Addr.add_zero'] at hw375_1);have hw375_0:=hx375_0;(try simp only [show ((0:Int)).toNat = 0 from rfl,show 0 * 4 = 0 from rfl,Addr.add_zero'] at hw375_0);obtain rfl:ad370 = ad375:=(by injection e375);have qi375:(0 < l1.length) = True:=eq_true (by omega);(try simp only [show ((0:Int)).toNat = 0 from rfl,show 0 * 4 = 0 from rfl,Addr.add_zero'] at hx375_0 hx375_1 hx375_2 hx375_3);replace hx375_0:=cb HB hx375_0;replace hx375_1:=cb HB hx375_1;replace hx375_2:=cb HB hx375_2;replace hx375_3:=cb HB hx375_3;have HR375_3:=Aside0.mk hi375_3;have HC375_3:=Aside0.mk hl375_3;clear hi375_3 hl375_3;replace p375:=eq_true p375;replace q375:=eq_true q375;have ea_:=Option.some.inj (hx370_3.symm.trans hx375_3)
      injection ea_ with ea_ en_ ec_
      subst ea_;subst ec_;clear en_
      refine start_ (n:=35) (S:=fun w'=>w'.cell? ad370 = some (.string ((rd_T44 l1 0).f0))∧w'.cell? ⟨ad370.block,ad370.off + 1,none⟩ = some (.int .i64 ((rd_T44 l1 0).f1))∧w'.cell? ⟨ad370.block,ad370.off + 2,none⟩ = some (.int .i64 ((rd_T44 l1 0).f2))∧w'.cell? ⟨ad370.block,ad370.off + 3,none⟩ = some (.slice A370_3 ((rd_T44 l1 0).f3).length c370_3)∧w'.cell? ad370 = some (.string ((rd_T44 l1 0).f0))∧w'.cell? ⟨ad370.block,ad370.off + 1,none⟩ = some (.int .i64 ((rd_T44 l1 0).f1))∧w'.cell? ⟨ad370.block,ad370.off + 2,none⟩ = some (.int .i64 ((rd_T44 l1 0).f2))∧w'.cell? ⟨ad370.block,ad370.off + 3,none⟩ = some (.slice A370_3 ((rd_T44 l1 0).f3).length c370_3)∧w'.cell? ad370 = some (.string ((rd_T44 l1 0).f0))∧w'.cell? ⟨ad370.block,ad370.off + 1,none⟩ = some (.int .i64 ((rd_T44 l1 0).f1))∧w'.cell? ⟨ad370.block,ad370.off + 2,none⟩ = some (.int .i64 ((rd_T44 l1 0).f2))∧w'.cell? ⟨ad370.block,ad370.off + 3,none⟩ = some (.slice A370_3 ((rd_T44 l1 0).f3).length c370_3)∧w'.cell? ad370 = some (.string ((rd_T44 l1 0).f0))∧w'.cell? ⟨ad370.block,ad370.off + 1,none⟩ = some (.int .i64 ((rd_T44 l1 0).f1))∧w'.cell? ⟨ad370.block,ad370.off + 2,none⟩ = some (.int .i64 ((rd_T44 l1 0).f2))∧w'.cell? ⟨ad370.block,ad370.off + 3,none⟩ = some (.slice A370_3 ((rd_T44 l1 0).f3).length c370_3)) (ds:=[]) #[false,false,false,false,false,false,false,false,false,false,false,false,false,false,false,false,false,false,false,false,false,false,false,false,false,false,false,false,false,false,false,false,false,false,false] (by kernel_rfl) rfl rfl ⟨(cb HB hw370_0 :),(cb HB hw370_1 :),(cb HB hw370_2 :),(cb HB hw370_3 :),(cb HB hw372_0 :),(cb HB hw372_1 :),(cb HB hw372_2 :),(cb HB hw372_3 :),(cb HB hw374_0 :),(cb HB hw374_1 :),(cb HB hw374_2 :),(cb HB hw374_3 :),(cb HB hw375_0 :),(cb HB hw375_1 :),(cb HB hw375_2 :),(cb HB hw375_3 :)⟩ (fun hHeld=>?_);refine with_tabW impl_fnOk.tab1 impl_fnOk.bits1 (fun HT_ HW_=>?_)
      generalize w.drew = w13 at HB HR370_3 HR372_3 HR374_3 HR375_3 hx370_0 hx370_1 hx370_2 hx370_3 hx372_0 hx372_1 hx372_2 hx372_3 hx374_0 hx374_1 hx374_2 hx374_3 hx375_0 hx375_1 hx375_2 hx375_3 hHeld ⊢;refine pu 0 9 ?_;refine pu 1 10 ?_;refine pu 2 11 ?_;refine ta 3 12 hHeld ?_
      refine one_ (i:=4) (N:=some 13) #[true,true,true,true,true,false,false,false,false,false,false,false,false,false,false,false,false,false,false,false,false,false,false,false,false,false,false,false,false,false,false,false,false,false,false] rfl rfl (one_of HT_.out (by kernel_rfl)) (by decide) (fun K hK=>?_)
      refine goes_ Try.func29 (by kernel_rfl) rfl #[.string ((rd_T44 l1 0).f0)] (by rfl) rfl rfl gs ?_
      with_reducible refine (impl_xAtomOk.calls k ((rd_T44 l1 0).f0) true _ A5.out).mono ?_
      rintro e w' ⟨rfl,⟨nd,rfl⟩⟩
      refine ⟨_,rfl,?_⟩
      refine hK.out _ _ ⟨(cb HB hw370_0 :),(cb HB hw370_1 :),(cb HB hw370_2 :),(cb HB hw370_3 :),(cb HB hw372_0 :),(cb HB hw372_1 :),(cb HB hw372_2 :),(cb HB hw372_3 :),(cb HB hw374_0 :),(cb HB hw374_1 :),(cb HB hw374_2 :),(cb HB hw374_3 :),(cb HB hw375_0 :),(cb HB hw375_1 :),(cb HB hw375_2 :),(cb HB hw375_3 :)⟩ (fun hHeld=>?_)
      clear hK K
      refine norm_ (a':=?_) ?_ ?_
      rotate_left
      ·show Act.put _ (some 13) _ = _
       simp only [Act.put,List.setIfInBounds_toArray,List.set_cons_zero,List.set_cons_succ,i64_w,i32_w]
       rfl
      refine pu 5 14 ?_;refine pu 6 15 ?_;refine pu 7 16 ?_;refine pu 8 17 ?_;refine pu 9 18 ?_;refine ta 10 19 hHeld ?_
      refine one_ (i:=11) (N:=some 20) #[true,true,true,true,true,true,true,true,true,true,true,true,false,false,false,false,false,false,false,false,false,false,false,false,false,false,false,false,false,false,false,false,false,false,false] rfl rfl (one_of HT_.out (by kernel_rfl)) (by decide) (fun K hK=>?_)
      refine goes_ Try.func30 (by kernel_rfl) rfl #[.int .i64 ((rd_T44 l1 0).f1),.int .i64 0,.int .i64 4] (by rfl) rfl rfl gs ?_
      with_reducible refine (impl_inRange.calls ((rd_T44 l1 0).f1) 0 4 true _ A7.out).mono ?_
      rintro e w' ⟨rfl,⟨nd,rfl⟩⟩
      refine ⟨_,rfl,?_⟩
      refine hK.out _ _ ⟨(cb HB hw370_0 :),(cb HB hw370_1 :),(cb HB hw370_2 :),(cb HB hw370_3 :),(cb HB hw372_0 :),(cb HB hw372_1 :),(cb HB hw372_2 :),(cb HB hw372_3 :),(cb HB hw374_0 :),(cb HB hw374_1 :),(cb HB hw374_2 :),(cb HB hw374_3 :),(cb HB hw375_0 :),(cb HB hw375_1 :),(cb HB hw375_2 :),(cb HB hw375_3 :)⟩ (fun hHeld=>?_)
      clear hK K
      refine norm_ (a':=?_) ?_ ?_
      rotate_left
      ·show Act.put _ (some 20) _ = _
       simp only [Act.put,List.setIfInBounds_toArray,List.set_cons_zero,List.set_cons_succ,i64_w,i32_w]
       rfl
      refine pu 12 21 ?_;refine pu 13 22 ?_;refine pu 14 23 ?_;refine pu 15 24 ?_;refine pu 16 25 ?_;refine pu 17 26 ?_;refine pu 19 28 ?_;refine pu 20 29 ?_;refine pu 21 30 ?_;refine ta 18 27 hHeld ?_;refine ta 22 31 hHeld ?_
      refine one_ (i:=23) (N:=some 32) #[true,true,true,true,true,true,true,true,true,true,true,true,true,true,true,true,true,true,true,true,true,true,true,true,false,false,false,false,false,false,false,false,false,false,false] rfl rfl (one_of HT_.out (by kernel_rfl)) (by decide) (fun K hK=>?_)
      refine goes_ Try.func30 (by kernel_rfl) rfl #[.int .i64 ((rd_T44 l1 0).f2),.int .i64 ((rd_T44 l1 0).f1),.int .i64 400] (by rfl) rfl rfl gs ?_
      with_reducible refine (impl_inRange.calls ((rd_T44 l1 0).f2) ((rd_T44 l1 0).f1) 400 false _ A9.out).mono ?_
      rintro e w' ⟨rfl,⟨nd,rfl⟩⟩
      refine ⟨_,rfl,?_⟩
      refine hK.out _ _ ⟨(cb HB hw370_0 :),(cb HB hw370_1 :),(cb HB hw370_2 :),(cb HB hw370_3 :),(cb HB hw372_0 :),(cb HB hw372_1 :),(cb HB hw372_2 :),(cb HB hw372_3 :),(cb HB hw374_0 :),(cb HB hw374_1 :),(cb HB hw374_2 :),(cb HB hw374_3 :),(cb HB hw375_0 :),(cb HB hw375_1 :),(cb HB hw375_2 :),(cb HB hw375_3 :)⟩ (fun hHeld=>?_)
      clear hK K
      refine norm_ (a':=?_) ?_ ?_
      rotate_left
      ·show Act.put _ (some 32) _ = _
       simp only [Act.put,List.setIfInBounds_toArray,List.set_cons_zero,List.set_cons_succ,i64_w,i32_w]
       rfl
      refine pu 24 33 ?_;refine pu 25 34 ?_;refine pu 26 35 ?_;refine pu 27 36 ?_;refine pu 28 37 ?_;refine pu 29 38 ?_;refine pu 30 39 ?_;refine pu 31 40 ?_;refine pu 32 41 ?_;refine pu 33 42 ?_;refine pu 34 43 ?_
      refine done_ (done_of HT_.out (by kernel_rfl)) ?_
      try go_wp2
      go_meet
      case rel=>exact ⟨_,(true),(cl2),H',⟨by first|omega|exact Nat.le_refl _⟩,⟨bl HB.out⟩⟩
    ·replace c8:=Bool.eq_false_iff.mpr c8
     subst c8;have H1:(impl_fnOk.j0 k l0 l1 true) = some r:=by rw [if_neg (show ¬ (false = true) by decide)] at H;exact H
     clear H;have H:=H1;clear H1;have H':=Aside0.mk H;clear H
     try go_wp2
     have n_:=dh HB;clear HB;have HB:=n_;clear n_;have p370:0≤(0:Int):=(by omega);have q370:0 < (l1.length:Int):=od;obtain ⟨ad370,A370_3,c370_3,e370,hx370_0,hx370_1,hx370_2,hx370_3,hl370_3,hi370_3⟩:=at_T44 HR1.out 0 p370 q370;have hw370_3:=hx370_3;(try simp only [show ((0:Int)).toNat = 0 from rfl,show 0 * 4 = 0 from rfl,Addr.add_zero'] at hw370_3);have hw370_2:=hx370_2;(try simp only [show ((0:Int)).toNat = 0 from rfl,show 0 * 4 = 0 from rfl,Addr.add_zero'] at hw370_2);have hw370_1:=hx370_1;(try simp only [show ((0:Int)).toNat = 0 from rfl,show 0 * 4 = 0 from rfl,Addr.add_zero'] at hw370_1);have hw370_0:=hx370_0;(try simp only [show ((0:Int)).toNat = 0 from rfl,show 0 * 4 = 0 from rfl,Addr.add_zero'] at hw370_0);cases e370;have qi370:(0 < l1.length) = True:=eq_true (by omega);(try simp only [show ((0:Int)).toNat = 0 from rfl,show 0 * 4 = 0 from rfl,Addr.add_zero'] at hx370_0 hx370_1 hx370_2 hx370_3);replace hx370_0:=cb HB hx370_0;replace hx370_1:=cb HB hx370_1;replace hx370_2:=cb HB hx370_2;replace hx370_3:=cb HB hx370_3;have HR370_3:=Aside0.mk hi370_3;have HC370_3:=Aside0.mk hl370_3;clear hi370_3 hl370_3;replace p370:=eq_true p370;replace q370:=eq_true q370;have p372:0≤(0:Int):=(by omega);have q372:0 < (l1.length:Int):=od;obtain ⟨ad372,A372_3,c372_3,e372,hx372_0,hx372_1,hx372_2,hx372_3,hl372_3,hi372_3⟩:=at_T44 HR1.out 0 p372 q372;have hw372_3:=hx372_3;(try simp only [show ((0:Int)).toNat = 0 from rfl,show 0 * 4 = 0 from rfl,Addr.add_zero'] at hw372_3);have hw372_2:=hx372_2;(try simp only [show ((0:Int)).toNat = 0 from rfl,show 0 * 4 = 0 from rfl,Addr.add_zero'] at hw372_2);have hw372_1:=hx372_1;(try simp only [show ((0:Int)).toNat = 0 from rfl,show 0 * 4 = 0 from rfl,Addr.add_zero'] at hw372_1);have hw372_0:=hx372_0;(try simp only [show ((0:Int)).toNat = 0 from rfl,show 0 * 4 = 0 from rfl,Addr.add_zero'] at hw372_0);obtain rfl:ad370 = ad372:=(by injection e372);have qi372:(0 < l1.length) = True:=eq_true (by omega);(try simp only [show ((0:Int)).toNat = 0 from rfl,show 0 * 4 = 0 from rfl,Addr.add_zero'] at hx372_0 hx372_1 hx372_2 hx372_3);replace hx372_0:=cb HB hx372_0;replace hx372_1:=cb HB hx372_1;replace hx372_2:=cb HB hx372_2;replace hx372_3:=cb HB hx372_3;have HR372_3:=Aside0.mk hi372_3;have HC372_3:=Aside0.mk hl372_3;clear hi372_3 hl372_3;replace p372:=eq_true p372;replace q372:=eq_true q372;have ea_:=Option.some.inj (hx370_3.symm.trans hx372_3)
     injection ea_ with ea_ en_ ec_
     subst ea_;subst ec_;clear en_
     refine start_ (n:=35) (S:=fun w'=>w'.cell? ad370 = some (.string ((rd_T44 l1 0).f0))∧w'.cell? ⟨ad370.block,ad370.off + 1,none⟩ = some (.int .i64 ((rd_T44 l1 0).f1))∧w'.cell? ⟨ad370.block,ad370.off + 2,none⟩ = some (.int .i64 ((rd_T44 l1 0).f2))∧w'.cell? ⟨ad370.block,ad370.off + 3,none⟩ = some (.slice A370_3 ((rd_T44 l1 0).f3).length c370_3)∧w'.cell? ad370 = some (.string ((rd_T44 l1 0).f0))∧w'.cell? ⟨ad370.block,ad370.off + 1,none⟩ = some (.int .i64 ((rd_T44 l1 0).f1))∧w'.cell? ⟨ad370.block,ad370.off + 2,none⟩ = some (.int .i64 ((rd_T44 l1 0).f2))∧w'.cell? ⟨ad370.block,ad370.off + 3,none⟩ = some (.slice A370_3 ((rd_T44 l1 0).f3).length c370_3)) (ds:=[]) #[false,false,false,false,false,false,false,false,false,false,false,false,false,false,false,false,false,false,false,false,false,false,false,false,false,false,false,false,false,false,false,false,false,false,false] (by kernel_rfl) rfl rfl ⟨(cb HB hw370_0 :),(cb HB hw370_1 :),(cb HB hw370_2 :),(cb HB hw370_3 :),(cb HB hw372_0 :),(cb HB hw372_1 :),(cb HB hw372_2 :),(cb HB hw372_3 :)⟩ (fun hHeld=>?_);refine with_tabW impl_fnOk.tab1 impl_fnOk.bits1 (fun HT_ HW_=>?_)
     generalize w.drew = w14 at HB HR370_3 HR372_3 hx370_0 hx370_1 hx370_2 hx370_3 hx372_0 hx372_1 hx372_2 hx372_3 hHeld ⊢;refine pu 0 9 ?_;refine pu 1 10 ?_;refine pu 2 11 ?_;refine ta 3 12 hHeld ?_
     refine one_ (i:=4) (N:=some 13) #[true,true,true,true,true,false,false,false,false,false,false,false,false,false,false,false,false,false,false,false,false,false,false,false,false,false,false,false,false,false,false,false,false,false,false] rfl rfl (one_of HT_.out (by kernel_rfl)) (by decide) (fun K hK=>?_)
     refine goes_ Try.func29 (by kernel_rfl) rfl #[.string ((rd_T44 l1 0).f0)] (by rfl) rfl rfl gs ?_
     with_reducible refine (impl_xAtomOk.calls k ((rd_T44 l1 0).f0) true _ A5.out).mono ?_
     rintro e w' ⟨rfl,⟨nd,rfl⟩⟩
     refine ⟨_,rfl,?_⟩
     refine hK.out _ _ ⟨(cb HB hw370_0 :),(cb HB hw370_1 :),(cb HB hw370_2 :),(cb HB hw370_3 :),(cb HB hw372_0 :),(cb HB hw372_1 :),(cb HB hw372_2 :),(cb HB hw372_3 :)⟩ (fun hHeld=>?_)
     clear hK K
     refine norm_ (a':=?_) ?_ ?_
     rotate_left
     ·show Act.put _ (some 13) _ = _
      simp only [Act.put,List.setIfInBounds_toArray,List.set_cons_zero,List.set_cons_succ,i64_w,i32_w]
      rfl
     refine pu 5 14 ?_;refine pu 6 15 ?_;refine pu 7 16 ?_;refine pu 8 17 ?_;refine pu 9 18 ?_;refine ta 10 19 hHeld ?_
     refine one_ (i:=11) (N:=some 20) #[true,true,true,true,true,true,true,true,true,true,true,true,false,false,false,false,false,false,false,false,false,false,false,false,false,false,false,false,false,false,false,false,false,false,false] rfl rfl (one_of HT_.out (by kernel_rfl)) (by decide) (fun K hK=>?_)
     refine goes_ Try.func30 (by kernel_rfl) rfl #[.int .i64 ((rd_T44 l1 0).f1),.int .i64 0,.int .i64 4] (by rfl) rfl rfl gs ?_
     with_reducible refine (impl_inRange.calls ((rd_T44 l1 0).f1) 0 4 false _ A7.out).mono ?_
     rintro e w' ⟨rfl,⟨nd,rfl⟩⟩
     refine ⟨_,rfl,?_⟩
     refine hK.out _ _ ⟨(cb HB hw370_0 :),(cb HB hw370_1 :),(cb HB hw370_2 :),(cb HB hw370_3 :),(cb HB hw372_0 :),(cb HB hw372_1 :),(cb HB hw372_2 :),(cb HB hw372_3 :)⟩ (fun hHeld=>?_)
     clear hK K
     refine norm_ (a':=?_) ?_ ?_
     rotate_left
     ·show Act.put _ (some 20) _ = _
      simp only [Act.put,List.setIfInBounds_toArray,List.set_cons_zero,List.set_cons_succ,i64_w,i32_w]
      rfl
     refine pu 12 21 ?_;refine pu 13 22 ?_;refine pu 14 23 ?_;refine pu 15 24 ?_;refine pu 16 25 ?_;refine pu 17 26 ?_;refine pu 18 27 ?_;refine pu 19 28 ?_;refine pu 20 29 ?_;refine pu 21 30 ?_;refine pu 22 31 ?_;refine pu 23 32 ?_;refine pu 24 33 ?_;refine pu 25 34 ?_;refine pu 26 35 ?_;refine pu 27 36 ?_;refine pu 28 37 ?_;refine pu 29 38 ?_;refine pu 30 39 ?_;refine pu 31 40 ?_;refine pu 32 41 ?_;refine pu 33 42 ?_;refine pu 34 43 ?_
     refine done_ (done_of HT_.out (by kernel_rfl)) ?_
     try go_wp2
     go_meet
     case rel=>exact ⟨_,(true),(cl2),H',⟨by first|omega|exact Nat.le_refl _⟩,⟨bl HB.out⟩⟩
   ·replace c6:=Bool.eq_false_iff.mpr c6
    subst c6;have H1:(impl_fnOk.j0 k l0 l1 true) = some r:=by rw [if_neg (show ¬ (false = true) by decide)] at H;exact H
    clear H;have H:=H1;clear H1;have H':=Aside0.mk H;clear H
    try go_wp2
    have n_:=dh HB;clear HB;have HB:=n_;clear n_;have p370:0≤(0:Int):=(by omega);have q370:0 < (l1.length:Int):=od;obtain ⟨ad370,A370_3,c370_3,e370,hx370_0,hx370_1,hx370_2,hx370_3,hl370_3,hi370_3⟩:=at_T44 HR1.out 0 p370 q370;have hw370_3:=hx370_3;(try simp only [show ((0:Int)).toNat = 0 from rfl,show 0 * 4 = 0 from rfl,Addr.add_zero'] at hw370_3);have hw370_2:=hx370_2;(try simp only [show ((0:Int)).toNat = 0 from rfl,show 0 * 4 = 0 from rfl,Addr.add_zero'] at hw370_2);have hw370_1:=hx370_1;(try simp only [show ((0:Int)).toNat = 0 from rfl,show 0 * 4 = 0 from rfl,Addr.add_zero'] at hw370_1);have hw370_0:=hx370_0;(try simp only [show ((0:Int)).toNat = 0 from rfl,show 0 * 4 = 0 from rfl,Addr.add_zero'] at hw370_0);cases e370;have qi370:(0 < l1.length) = True:=eq_true (by omega);(try simp only [show ((0:Int)).toNat = 0 from rfl,show 0 * 4 = 0 from rfl,Addr.add_zero'] at hx370_0 hx370_1 hx370_2 hx370_3);replace hx370_0:=cb HB hx370_0;replace hx370_1:=cb HB hx370_1;replace hx370_2:=cb HB hx370_2;replace hx370_3:=cb HB hx370_3;have HR370_3:=Aside0.mk hi370_3;have HC370_3:=Aside0.mk hl370_3;clear hi370_3 hl370_3;replace p370:=eq_true p370;replace q370:=eq_true q370
    refine start_ (n:=35) (S:=fun w'=>w'.cell? ad370 = some (.string ((rd_T44 l1 0).f0))∧w'.cell? ⟨ad370.block,ad370.off + 1,none⟩ = some (.int .i64 ((rd_T44 l1 0).f1))∧w'.cell? ⟨ad370.block,ad370.off + 2,none⟩ = some (.int .i64 ((rd_T44 l1 0).f2))∧w'.cell? ⟨ad370.block,ad370.off + 3,none⟩ = some (.slice A370_3 ((rd_T44 l1 0).f3).length c370_3)) (ds:=[]) #[false,false,false,false,false,false,false,false,false,false,false,false,false,false,false,false,false,false,false,false,false,false,false,false,false,false,false,false,false,false,false,false,false,false,false] (by kernel_rfl) rfl rfl ⟨(cb HB hw370_0 :),(cb HB hw370_1 :),(cb HB hw370_2 :),(cb HB hw370_3 :)⟩ (fun hHeld=>?_);refine with_tabW impl_fnOk.tab1 impl_fnOk.bits1 (fun HT_ HW_=>?_)
    generalize w.drew = w15 at HB HR370_3 hx370_0 hx370_1 hx370_2 hx370_3 hHeld ⊢;refine pu 0 9 ?_;refine pu 1 10 ?_;refine pu 2 11 ?_;refine ta 3 12 hHeld ?_
    refine one_ (i:=4) (N:=some 13) #[true,true,true,true,true,false,false,false,false,false,false,false,false,false,false,false,false,false,false,false,false,false,false,false,false,false,false,false,false,false,false,false,false,false,false] rfl rfl (one_of HT_.out (by kernel_rfl)) (by decide) (fun K hK=>?_)
    refine goes_ Try.func29 (by kernel_rfl) rfl #[.string ((rd_T44 l1 0).f0)] (by rfl) rfl rfl gs ?_
    with_reducible refine (impl_xAtomOk.calls k ((rd_T44 l1 0).f0) false _ A5.out).mono ?_
    rintro e w' ⟨rfl,⟨nd,rfl⟩⟩
    refine ⟨_,rfl,?_⟩
    refine hK.out _ _ ⟨(cb HB hw370_0 :),(cb HB hw370_1 :),(cb HB hw370_2 :),(cb HB hw370_3 :)⟩ (fun hHeld=>?_)
    clear hK K
    refine norm_ (a':=?_) ?_ ?_
    rotate_left
    ·show Act.put _ (some 13) _ = _
     simp only [Act.put,List.setIfInBounds_toArray,List.set_cons_zero,List.set_cons_succ,i64_w,i32_w]
     rfl
    refine pu 5 14 ?_;refine pu 6 15 ?_;refine pu 7 16 ?_;refine pu 8 17 ?_;refine pu 9 18 ?_;refine pu 10 19 ?_;refine pu 11 20 ?_;refine pu 12 21 ?_;refine pu 13 22 ?_;refine pu 14 23 ?_;refine pu 15 24 ?_;refine pu 16 25 ?_;refine pu 17 26 ?_;refine pu 18 27 ?_;refine pu 19 28 ?_;refine pu 20 29 ?_;refine pu 21 30 ?_;refine pu 22 31 ?_;refine pu 23 32 ?_;refine pu 24 33 ?_;refine pu 25 34 ?_;refine pu 26 35 ?_;refine pu 27 36 ?_;refine pu 28 37 ?_;refine pu 29 38 ?_;refine pu 30 39 ?_;refine pu 31 40 ?_;refine pu 32 41 ?_;refine pu 33 42 ?_;refine pu 34 43 ?_
    refine done_ (done_of HT_.out (by kernel_rfl)) ?_
    try go_wp2
    go_meet
    case rel=>exact ⟨_,(true),(cl2),H',⟨by first|omega|exact Nat.le_refl _⟩,⟨bl HB.out⟩⟩
  ·rw [if_neg c4] at H
   exact absurd H (by simp)
 case rest =>
  clear HC3;(try clear c2);(try clear p2);(try clear c3);(try clear p3);(try clear q3);(try clear hx3);(try clear qi3);(try clear c4);(try clear c6);(try clear c8);(try clear hx370_0);(try clear hx370_1);(try clear hx370_2);(try clear hx370_3);(try clear hx372_0);(try clear hx372_1);(try clear hx372_2);(try clear hx372_3);(try clear p370);(try clear p372);(try clear q370);(try clear q372);(try clear HB);obtain ⟨kq,x43_2,rfl,HA,HJ2,HB⟩:=hcut
  cases kq with
  | zero=>exact absurd HA.out (by simp [impl_fnOk.j0])
  | succ kj2 =>
   have H:=HA.out;clear HA;simp only [impl_fnOk.j0] at H
   by_cases c16:x43_2 = true
   ·subst c16
    have H1:(some false) = some r:=by rw [if_pos rfl] at H;exact H
    clear H;have H:=H1;clear H1;obtain rfl:=Option.some.inj H
    go_wp2
    go_ret
    exact ⟨cl,bl HB.out⟩
   ·replace c16:=Bool.eq_false_iff.mpr c16
    subst c16;have H1:(if 0 < (l1.length:Int) then (impl_fnOk.l0 kj2 l0 l1 ((rd_T44 l1 0).f3) (((rd_T44 l1 0).f3).length:Int) 0) else (none)) = some r:=by rw [if_neg (show ¬ (false = true) by decide)] at H;exact H
    clear H;have H:=H1;clear H1
    by_cases c17:0 < (l1.length:Int)
    ·rw [if_pos c17] at H
     have c17b0:decide (0 < (l1.length:Int)) = true:=decide_eq_true c17;have c17b1:decide (0 < l1.length) = true:=decide_eq_true (by omega);clear c17;have H':=Aside0.mk H;clear H;have p379:0≤(0:Int):=(by omega);have q379:0 < (l1.length:Int):=od;obtain ⟨ad379,A379_3,c379_3,e379,hx379_0,hx379_1,hx379_2,hx379_3,hl379_3,hi379_3⟩:=at_T44 HR1.out 0 p379 q379;cases e379;have qi379:(0 < l1.length) = True:=eq_true (by omega);(try simp only [show ((0:Int)).toNat = 0 from rfl,show 0 * 4 = 0 from rfl,Addr.add_zero'] at hx379_0 hx379_1 hx379_2 hx379_3);replace hx379_0:=cb HB hx379_0;replace hx379_1:=cb HB hx379_1;replace hx379_2:=cb HB hx379_2;replace hx379_3:=cb HB hx379_3;have HR379_3:=Aside0.mk hi379_3;have HC379_3:=Aside0.mk hl379_3;clear hi379_3 hl379_3;replace p379:=eq_true p379;replace q379:=eq_true q379
     go_wp2
     go_loopg [49] kj2 (fun kq v49 w'=>∃ (x49_2:Int),v49 = .int .i64 x49_2∧Aside0 (impl_fnOk.l0 kq l0 l1 ((rd_T44 l1 0).f3) (((rd_T44 l1 0).f3).length:Int) x49_2 = some r)∧Aside0 (kq≤kj2)∧Aside0 (Below w.heap.size w w'))
     case atStart=>exact ⟨(0),(cl2),H',⟨Nat.le_refl _⟩,⟨bl HB.out⟩⟩
     case round =>
      clear H';(try clear c1);(try clear c2);(try clear p2);(try clear c3);(try clear p3);(try clear q3);(try clear hx3);(try clear qi3);(try clear c4);(try clear c6);(try clear c8);(try clear c16);(try clear c17);(try clear c17b0);(try clear c17b1);(try clear hx370_0);(try clear hx370_1);(try clear hx370_2);(try clear hx370_3);(try clear hx372_0);(try clear hx372_1);(try clear hx372_2);(try clear hx372_3);(try clear hx379_0);(try clear hx379_1);(try clear hx379_2);(try clear hx379_3);(try clear p2);(try clear p3);(try clear p370);(try clear p372);(try clear p379);(try clear q3);(try clear q370);(try clear q372);(try clear q379);(try clear HB);obtain ⟨x49_2,rfl,HA,HK2,HB⟩:=hrel
      cases gk with
      | zero=>exact absurd HA.out (by simp [impl_fnOk.l0])
      | succ k2 =>
       have H:=HA.out;clear HA;simp only [impl_fnOk.l0] at H
       by_cases c18:x49_2 < (((rd_T44 l1 0).f3).length:Int)
       ·rw [if_pos c18] at H
        have c18b0:decide (x49_2 < (((rd_T44 l1 0).f3).length:Int)) = true:=decide_eq_true c18;clear c18
        by_cases c19:0≤x49_2
        ·rw [if_pos c19] at H
         have c19b0:decide (0≤x49_2) = true:=decide_eq_true c19;clear c19
         by_cases c20:x49_2 < (((rd_T44 l1 0).f3).length:Int)
         ·rw [if_pos c20] at H
          have c20b0:decide (x49_2 < (((rd_T44 l1 0).f3).length:Int)) = true:=decide_eq_true c20;clear c20;replace H:=Option.bind_eq_some_iff.mp H;obtain ⟨t382,A210,H⟩:=H;replace H:(if t382 = true then (impl_fnOk.l0 k2 l0 l1 ((rd_T44 l1 0).f3) (((rd_T44 l1 0).f3).length:Int) (wrap64 (x49_2 + 1))) else (some false)) = some r:=H;have A21:=Aside0.mk A210;clear A210
          by_cases c22:t382 = true
          ·subst c22
           have H1:(impl_fnOk.l0 k2 l0 l1 ((rd_T44 l1 0).f3) (((rd_T44 l1 0).f3).length:Int) (wrap64 (x49_2 + 1))) = some r:=by rw [if_pos rfl] at H;exact H
           clear H;have H:=H1;clear H1;have H':=Aside0.mk H;clear H;have p380:0≤(x49_2:Int):=od;have q380:x49_2 < (((rd_T44 l1 0).f3).length:Int):=od;obtain ⟨ad380,e380,hx380_0,hx380_1,hx380_2,hx380_3⟩:=at_T64 HR379_3.out x49_2 p380 q380;cases e380;replace hx380_0:=cb HB hx380_0;replace hx380_1:=cb HB hx380_1;replace hx380_2:=cb HB hx380_2;replace hx380_3:=cb HB hx380_3;replace p380:=eq_true p380;replace q380:=eq_true q380
           go_wp2_with (first|((with_reducible refine gate_dst (N:=6) rfl ?_);(try (refine gate_guard (by rfl) ?_;dsimp only));refine box_event ?hg (N:=6) ?hd (cs:=#[.int .i64 0,.int .i64 0,.string (⟨#[]⟩:ByteArray),.int .i64 0]) (t:=64) ?hr ?_;(case hd=>rfl);(case hg=>rfl);(case hr=>first|(go_simp;done)|(go_simp;rfl));intro gb381 hg w23 hbox hb;have n_:=ai (bq HB hb) <| ai (Aside0.mk (hbox)) <| ai (bz hg HB) <| bz hg HB;clear HB;obtain ⟨HB,BK381,GW381,GE381⟩:=n_;clear hb hbox hg;obtain ⟨hcz24_0,hcz24_1,hcz24_2,hcz24_3⟩:=kb4 BK381.out;obtain ⟨hfz24_0,hfz24_1,hfz24_2,hfz24_3⟩:=kz4 BK381.out)|((with_reducible refine gate_callee (f:=31) rfl ?_);refine goesL_ (some 56) rfl rfl Try.func31 (by kernel_rfl) rfl #[.pointer A0,.pointer (some ad379),.agg #[.int .i64 ((rd_T64 ((rd_T44 l1 0).f3) x49_2).f0),.int .i64 ((rd_T64 ((rd_T44 l1 0).f3) x49_2).f1),.string ((rd_T64 ((rd_T44 l1 0).f3) x49_2).f2),.int .i64 ((rd_T64 ((rd_T44 l1 0).f3) x49_2).f3)]] rfl gs ?_;(with_reducible refine (impl_insOk.calls k2 _ ?q1_ l0 _ ?q2_ l1 ((rd_T64 ((rd_T44 l1 0).f3) x49_2).f0) ((rd_T64 ((rd_T44 l1 0).f3) x49_2).f1) ((rd_T64 ((rd_T44 l1 0).f3) x49_2).f2) ((rd_T64 ((rd_T44 l1 0).f3) x49_2).f3) true _ ?side1 ?side2 ?side3 ?side4 A21.out).mono ?_);(case side1=>exact Kd.C_below HR0.out (bl HB.out));(case side2=>exact HC0.out);(case side3=>exact Kd.C_below HR1.out (bl HB.out));(case side4=>exact HC1.out);rintro e w25 ⟨rfl,hb⟩;refine ⟨_,rfl,?_⟩;have n_:=ai (Aside0.mk (blk_below (g:=gb381) (o:=.cells #[.int .i64 ((rd_T64 ((rd_T44 l1 0).f3) x49_2).f0),.int .i64 ((rd_T64 ((rd_T44 l1 0).f3) x49_2).f1),.string ((rd_T64 ((rd_T44 l1 0).f3) x49_2).f2),.int .i64 ((rd_T64 ((rd_T44 l1 0).f3) x49_2).f3)] 64 (0,0)) (by (with_reducible repeat (first|refine blk_drewN ?_ _|refine blk_drew ?_|refine blk_alloc ?_ _));refine blk_put (cs:=#[.int .i64 ((rd_T64 ((rd_T44 l1 0).f3) x49_2).f0),.int .i64 ((rd_T64 ((rd_T44 l1 0).f3) x49_2).f1),.string ((rd_T64 ((rd_T44 l1 0).f3) x49_2).f2),.int .i64 0]) ?_ 3 _ rfl;(with_reducible repeat (first|refine blk_drewN ?_ _|refine blk_drew ?_|refine blk_alloc ?_ _));refine blk_put (cs:=#[.int .i64 ((rd_T64 ((rd_T44 l1 0).f3) x49_2).f0),.int .i64 ((rd_T64 ((rd_T44 l1 0).f3) x49_2).f1),.string (⟨#[]⟩:ByteArray),.int .i64 0]) ?_ 2 _ rfl;(with_reducible repeat (first|refine blk_drewN ?_ _|refine blk_drew ?_|refine blk_alloc ?_ _));refine blk_put (cs:=#[.int .i64 ((rd_T64 ((rd_T44 l1 0).f3) x49_2).f0),.int .i64 0,.string (⟨#[]⟩:ByteArray),.int .i64 0]) ?_ 1 _ rfl;(with_reducible repeat (first|refine blk_drewN ?_ _|refine blk_drew ?_|refine blk_alloc ?_ _));refine blk_put (cs:=#[.int .i64 0,.int .i64 0,.string (⟨#[]⟩:ByteArray),.int .i64 0]) ?_ 0 _ rfl;(with_reducible repeat (first|refine blk_drewN ?_ _|refine blk_drew ?_|refine blk_alloc ?_ _));exact BK381.out) hb)) <| bq HB hb;clear BK381 HB;obtain ⟨BK381,HB⟩:=n_;(try clear hb);(try clear hb2);(try clear hk);(try clear hi)))
           go_roundg k2
           case measure=>have:=HJ2.out;have:=HK2.out;omega
           case rel=>exact ⟨(wrap64 (x49_2 + 1)),(cl2),H',⟨by have:=HJ2.out;have:=HK2.out;omega⟩,⟨bl HB.out⟩⟩
          ·replace c22:=Bool.eq_false_iff.mpr c22
           subst c22;have H1:(some false) = some r:=by rw [if_neg (show ¬ (false = true) by decide)] at H;exact H
           clear H;have H:=H1;clear H1;obtain rfl:=Option.some.inj H;have p380:0≤(x49_2:Int):=od;have q380:x49_2 < (((rd_T44 l1 0).f3).length:Int):=od;obtain ⟨ad380,e380,hx380_0,hx380_1,hx380_2,hx380_3⟩:=at_T64 HR379_3.out x49_2 p380 q380;cases e380;replace hx380_0:=cb HB hx380_0;replace hx380_1:=cb HB hx380_1;replace hx380_2:=cb HB hx380_2;replace hx380_3:=cb HB hx380_3;replace p380:=eq_true p380;replace q380:=eq_true q380
           go_wp2_with (first|((with_reducible refine gate_dst (N:=6) rfl ?_);(try (refine gate_guard (by rfl) ?_;dsimp only));refine box_event ?hg (N:=6) ?hd (cs:=#[.int .i64 0,.int .i64 0,.string (⟨#[]⟩:ByteArray),.int .i64 0]) (t:=64) ?hr ?_;(case hd=>rfl);(case hg=>rfl);(case hr=>first|(go_simp;done)|(go_simp;rfl));intro gb381 hg w26 hbox hb;have n_:=ai (bq HB hb) <| ai (Aside0.mk (hbox)) <| ai (bz hg HB) <| bz hg HB;clear HB;obtain ⟨HB,BK381,GW381,GE381⟩:=n_;clear hb hbox hg;obtain ⟨hcz27_0,hcz27_1,hcz27_2,hcz27_3⟩:=kb4 BK381.out;obtain ⟨hfz27_0,hfz27_1,hfz27_2,hfz27_3⟩:=kz4 BK381.out)|((with_reducible refine gate_callee (f:=31) rfl ?_);refine goesL_ (some 56) rfl rfl Try.func31 (by kernel_rfl) rfl #[.pointer A0,.pointer (some ad379),.agg #[.int .i64 ((rd_T64 ((rd_T44 l1 0).f3) x49_2).f0),.int .i64 ((rd_T64 ((rd_T44 l1 0).f3) x49_2).f1),.string ((rd_T64 ((rd_T44 l1 0).f3) x49_2).f2),.int .i64 ((rd_T64 ((rd_T44 l1 0).f3) x49_2).f3)]] rfl gs ?_;(with_reducible refine (impl_insOk.calls k2 _ ?q3_ l0 _ ?q4_ l1 ((rd_T64 ((rd_T44 l1 0).f3) x49_2).f0) ((rd_T64 ((rd_T44 l1 0).f3) x49_2).f1) ((rd_T64 ((rd_T44 l1 0).f3) x49_2).f2) ((rd_T64 ((rd_T44 l1 0).f3) x49_2).f3) false _ ?side1 ?side2 ?side3 ?side4 A21.out).mono ?_);(case side1=>exact Kd.C_below HR0.out (bl HB.out));(case side2=>exact HC0.out);(case side3=>exact Kd.C_below HR1.out (bl HB.out));(case side4=>exact HC1.out);rintro e w28 ⟨rfl,hb⟩;refine ⟨_,rfl,?_⟩;have n_:=ai (Aside0.mk (blk_below (g:=gb381) (o:=.cells #[.int .i64 ((rd_T64 ((rd_T44 l1 0).f3) x49_2).f0),.int .i64 ((rd_T64 ((rd_T44 l1 0).f3) x49_2).f1),.string ((rd_T64 ((rd_T44 l1 0).f3) x49_2).f2),.int .i64 ((rd_T64 ((rd_T44 l1 0).f3) x49_2).f3)] 64 (0,0)) (by (with_reducible repeat (first|refine blk_drewN ?_ _|refine blk_drew ?_|refine blk_alloc ?_ _));refine blk_put (cs:=#[.int .i64 ((rd_T64 ((rd_T44 l1 0).f3) x49_2).f0),.int .i64 ((rd_T64 ((rd_T44 l1 0).f3) x49_2).f1),.string ((rd_T64 ((rd_T44 l1 0).f3) x49_2).f2),.int .i64 0]) ?_ 3 _ rfl;(with_reducible repeat (first|refine blk_drewN ?_ _|refine blk_drew ?_|refine blk_alloc ?_ _));refine blk_put (cs:=#[.int .i64 ((rd_T64 ((rd_T44 l1 0).f3) x49_2).f0),.int .i64 ((rd_T64 ((rd_T44 l1 0).f3) x49_2).f1),.string (⟨#[]⟩:ByteArray),.int .i64 0]) ?_ 2 _ rfl;(with_reducible repeat (first|refine blk_drewN ?_ _|refine blk_drew ?_|refine blk_alloc ?_ _));refine blk_put (cs:=#[.int .i64 ((rd_T64 ((rd_T44 l1 0).f3) x49_2).f0),.int .i64 0,.string (⟨#[]⟩:ByteArray),.int .i64 0]) ?_ 1 _ rfl;(with_reducible repeat (first|refine blk_drewN ?_ _|refine blk_drew ?_|refine blk_alloc ?_ _));refine blk_put (cs:=#[.int .i64 0,.int .i64 0,.string (⟨#[]⟩:ByteArray),.int .i64 0]) ?_ 0 _ rfl;(with_reducible repeat (first|refine blk_drewN ?_ _|refine blk_drew ?_|refine blk_alloc ?_ _));exact BK381.out) hb)) <| bq HB hb;clear BK381 HB;obtain ⟨BK381,HB⟩:=n_;(try clear hb);(try clear hb2);(try clear hk);(try clear hi)))
           go_ret
           exact ⟨cl,bl HB.out⟩
         ·rw [if_neg c20] at H
          exact absurd H (by simp)
        ·rw [if_neg c19] at H
         exact absurd H (by simp)
       ·rw [if_neg c18] at H
        have c18b0:decide (x49_2 < (((rd_T44 l1 0).f3).length:Int)) = false:=decide_eq_false c18;clear c18;replace H:=Option.bind_eq_some_iff.mp H;obtain ⟨⟨t383,t384⟩,A290,H⟩:=H;replace H:(some t384) = some r:=H;have A29:=Aside0.mk A290;clear A290;obtain rfl:=Option.some.inj H
        go_wp2_with (first|((with_reducible refine gate_callee (f:=32) rfl ?_);refine goesL_ (some 61) rfl rfl Try.func32 (by kernel_rfl) rfl #[.pointer (some ad379)] rfl gs ?_;(with_reducible refine (impl_heightsOf.calls k2 _ ?q5_ l1 t383 t384 _ ?side1 ?side2 A29.out).mono ?_);(case side1=>exact ck (Kd.C_below HR1.out HB.out));(case side2=>exact HC1.out);rintro e w30 ⟨v385,rfl,ho0,hb⟩;refine ⟨_,rfl,?_⟩;have n_:=ai (Aside0.mk (Kd.R_lower ho0 (below_size (bl HB.out)))) <| bq HB hb;clear HB;obtain ⟨HO386,HB⟩:=n_;(try clear hb);(try clear hb2);(try clear hk);(try clear hi);(try clear ho0)))
        go_ret
        exact ⟨cl,bl HB.out⟩
    ·rw [if_neg c17] at H
     exact absurd H (by simp)

end Go.Proofs.Ytghhbdmjafedbaa.QFnExactCodeOk
