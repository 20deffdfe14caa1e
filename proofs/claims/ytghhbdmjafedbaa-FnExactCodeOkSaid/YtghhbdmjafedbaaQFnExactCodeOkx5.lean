-- Written by a program of this workplace (print2.py) for this claim, over the print's words.
import Derived.Test.YtghhbdmjafedbaaQFnExactCodeOkx0
import Derived.Test.YtghhbdmjafedbaaQFnExactCodeOkx1
import Derived.Test.YtghhbdmjafedbaaQFnExactCodeOkx2
import Derived.Test.YtghhbdmjafedbaaQFnExactCodeOkx4
namespace Go.Proofs.Ytghhbdmjafedbaa.QFnExactCodeOk
open Go.RowKit Go.Proofs.YtghhbdmjafedbaaW.PrintWords Go.Proofs.YtghhbdmjafedbaaW.PrintLast Go.Proofs.YtghhbdmjafedbaaW.PrintMore
attribute [local go_sem] max2_int min2_int max_two min_two max_three min_three max_four min_four   -- for this text's walks alone
set_option linter.unusedVariables false
set_option linter.unusedSimpArgs false

/-! ### spec_l9Ins: function 23 -/
mutual
def spec_l9Ins.j0:Nat → Int → Bool → List (S44) → List (S67) → ByteArray → Int → Int → List (S64) → Int → Int → ByteArray → Int → Option (Bool)
 | 0,_,_,_,_,_,_,_,_,_,_,_,_=>none
 | k + 1,x2,x8,x154000,x154001,x155000,x155001,x155002,x155003,x157000,x157001,x157002,x157003=>if x157002.toList = ([]:List UInt8) then ((spec_l1In.f x157003 (wrap64 (x2 + 1)) (wrap64 ((x155003.length:Int) - 1))).bind fun t157=>(spec_l9Ins.j1 k x8 t157 x154000 x154001 x155000 x155001 x155002 x155003 x157000 x157001 x157002 x157003)) else (spec_l9Ins.j1 k x8 false x154000 x154001 x155000 x155001 x155002 x155003 x157000 x157001 x157002 x157003)
def spec_l9Ins.j1:Nat → Bool → Bool → List (S44) → List (S67) → ByteArray → Int → Int → List (S64) → Int → Int → ByteArray → Int → Option (Bool)
 | 0,_,_,_,_,_,_,_,_,_,_,_,_=>none
 | k + 1,x8,x9,x154000,x154001,x155000,x155001,x155002,x155003,x157000,x157001,x157002,x157003=>if x157000 = 1 then (if x8 = true then ((spec_l1In.f x157001 0 1000000000000).bind fun t158=>(some t158)) else (some false)) else (if x157000 = 2 then ((spec_l4Atom.f k x157002).bind fun t159=>(if t159 = true then (if x157001 = 0 then (some (x157003 == 0)) else (some false)) else (some false))) else (if x157000 = 3 then (if x8 = true then ((spec_l1In.f x157001 0 (wrap64 (x155002 - 1))).bind fun t160=>(some t160)) else (some false)) else (if x157000 = 4 then (spec_l9Ins.j2 k x8 x9 x157000 (x157000 == 4) x154000 x154001 x155000 x155001 x155002 x155003 x157000 x157001 x157002 x157003) else (spec_l9Ins.j2 k x8 x9 x157000 (x157000 == 5) x154000 x154001 x155000 x155001 x155002 x155003 x157000 x157001 x157002 x157003))))
def spec_l9Ins.j2:Nat → Bool → Bool → Int → Bool → List (S44) → List (S67) → ByteArray → Int → Int → List (S64) → Int → Int → ByteArray → Int → Option (Bool)
 | 0,_,_,_,_,_,_,_,_,_,_,_,_,_,_=>none
 | k + 1,x8,x9,x39,x74,x154000,x154001,x155000,x155001,x155002,x155003,x157000,x157001,x157002,x157003=>if x74 = true then (if x8 = true then ((spec_l1In.f x157001 0 20).bind fun t161=>(some t161)) else (some false)) else (if x39 = 6 then (if x8 = true then ((spec_l1In.f x157001 2 6).bind fun t162=>(some t162)) else (some false)) else (if x39 = 7 then ((spec_l4Op.f x157002).bind fun t163=>(if t163 = true then (if x157001 = 0 then (some (x157003 == 0)) else (some false)) else (some false))) else (if x39 = 8 then ((spec_l9FnAt.f k x154000 x154001 x157002).bind fun t164=>(if t164 ≥ 0 then (if 0≤t164 then (if t164 < (x154000.length:Int) then (if ((rd_T44 x154000 t164).f1) = x157001 then (some (x157003 == 0)) else (some false)) else (none)) else (none)) else (some false))) else (if x39 = 9 then (if x9 = true then ((spec_l1In.f x157001 0 (wrap64 ((x154001.length:Int) - 1))).bind fun t166=>(if t166 = true then (if 0≤x157001 then (if x157001 < (x154001.length:Int) then ((spec_PatFits.f k ((rd_T67 x154001 x157001).f0) ((rd_T67 x154001 x157001).f1) ((rd_T67 x154001 x157001).f2) ((rd_T67 x154001 x157001).f3) x155002).bind fun t168=>(some t168)) else (none)) else (none)) else (some false))) else (some false)) else (if x39 = 10 then (if x9 = true then (some (x157001 == 0)) else (some false)) else (if x8 = true then (if x157001 = 0 then ((spec_l1In.f x157000 11 12).bind fun t169=>(some t169)) else (some false)) else (some false)))))))
end
def spec_l9Ins.f (k:Nat) (l0_0:List (S44)) (l0_1:List (S67)) (a1_0:ByteArray) (a1_1:Int) (a1_2:Int) (l1_3:List (S64)) (a2:Int):Option (Bool):=if 0≤a2 then (if a2 < (l1_3.length:Int) then (if ((rd_T64 l1_3 a2).f2).toList = ([]:List UInt8) then (spec_l9Ins.j0 k a2 (((rd_T64 l1_3 a2).f3) == 0) l0_0 l0_1 a1_0 a1_1 a1_2 l1_3 ((rd_T64 l1_3 a2).f0) ((rd_T64 l1_3 a2).f1) ((rd_T64 l1_3 a2).f2) ((rd_T64 l1_3 a2).f3)) else (spec_l9Ins.j0 k a2 false l0_0 l0_1 a1_0 a1_1 a1_2 l1_3 ((rd_T64 l1_3 a2).f0) ((rd_T64 l1_3 a2).f1) ((rd_T64 l1_3 a2).f2) ((rd_T64 l1_3 a2).f3))) else (none)) else (none)
theorem spec_l9Ins.mono_l:∀ k,(∀ y0 y1 y2 y3 y4 y5 y6 y7 y8 y9 y10 y11,LeO (spec_l9Ins.j0 k y0 y1 y2 y3 y4 y5 y6 y7 y8 y9 y10 y11) (spec_l9Ins.j0 (k + 1) y0 y1 y2 y3 y4 y5 y6 y7 y8 y9 y10 y11))∧(∀ y0 y1 y2 y3 y4 y5 y6 y7 y8 y9 y10 y11,LeO (spec_l9Ins.j1 k y0 y1 y2 y3 y4 y5 y6 y7 y8 y9 y10 y11) (spec_l9Ins.j1 (k + 1) y0 y1 y2 y3 y4 y5 y6 y7 y8 y9 y10 y11))∧(∀ y0 y1 y2 y3 y4 y5 y6 y7 y8 y9 y10 y11 y12 y13,LeO (spec_l9Ins.j2 k y0 y1 y2 y3 y4 y5 y6 y7 y8 y9 y10 y11 y12 y13) (spec_l9Ins.j2 (k + 1) y0 y1 y2 y3 y4 y5 y6 y7 y8 y9 y10 y11 y12 y13))
 | 0=>⟨fun _ _ _ _ _ _ _ _ _ _ _ _ r h=>by simp [spec_l9Ins.j0] at h,fun _ _ _ _ _ _ _ _ _ _ _ _ r h=>by simp [spec_l9Ins.j1] at h,fun _ _ _ _ _ _ _ _ _ _ _ _ _ _ r h=>by simp [spec_l9Ins.j2] at h⟩
 | k + 1=>by
  obtain ⟨ih0,ih1,ih2⟩:=spec_l9Ins.mono_l k
  refine ⟨?_,?_,?_⟩
  ·intro y0 y1 y2 y3 y4 y5 y6 y7 y8 y9 y10 y11
   unfold spec_l9Ins.j0
   with_reducible repeat' first|apply ih0|apply ih1|apply ih2|apply spec_PatFits.mono|apply spec_l4Atom.mono|apply spec_l9FnAt.mono|apply LeO.refl|apply LeO.none|apply LeO.ite|refine LeO.bind ?_ (fun _=>?_)
  ·intro y0 y1 y2 y3 y4 y5 y6 y7 y8 y9 y10 y11
   unfold spec_l9Ins.j1
   with_reducible repeat' first|apply ih0|apply ih1|apply ih2|apply spec_PatFits.mono|apply spec_l4Atom.mono|apply spec_l9FnAt.mono|apply LeO.refl|apply LeO.none|apply LeO.ite|refine LeO.bind ?_ (fun _=>?_)
  ·intro y0 y1 y2 y3 y4 y5 y6 y7 y8 y9 y10 y11 y12 y13
   unfold spec_l9Ins.j2
   with_reducible repeat' first|apply ih0|apply ih1|apply ih2|apply spec_PatFits.mono|apply spec_l4Atom.mono|apply spec_l9FnAt.mono|apply LeO.refl|apply LeO.none|apply LeO.ite|refine LeO.bind ?_ (fun _=>?_)
theorem spec_l9Ins.mono:∀ a0 a1 a2 a3 a4 a5 a6 k,LeO (spec_l9Ins.f k a0 a1 a2 a3 a4 a5 a6) (spec_l9Ins.f (k + 1) a0 a1 a2 a3 a4 a5 a6):=by
 intro a0 a1 a2 a3 a4 a5 a6 k;obtain ⟨ih0,ih1,ih2⟩:=spec_l9Ins.mono_l k
 unfold spec_l9Ins.f
 with_reducible repeat' first|apply ih0|apply ih1|apply ih2|apply spec_PatFits.mono|apply spec_l4Atom.mono|apply spec_l9FnAt.mono|apply LeO.refl|apply LeO.none|apply LeO.ite|refine LeO.bind ?_ (fun _=>?_)
def spec_l9Ins.T20:Bool × List (List Nat × List Nat):=(true,[([],[]),([0],[0]),([1],[1]),([2],[2]),([3,2],[2,3]),([2],[2]),([4,5,2],[2,4,5]),([6,2],[2,6]),([7,2],[2,7]),([2],[2]),([9,2],[2,9]),([8,10,2],[2,8,10]),([2,11],[2,11]),([12,2],[12]),([13],[13]),([14,13],[13,14]),([15,13],[13,15]),([13,16],[13,16]),([17,13,0,1,2,3,4,5,6,7,8,9,10,11,12,13,14,15,16,17],[17])])
def spec_l9Ins.B20:List Nat:=[0,1,3,7,15,7,63,127,255,7,519,2047,4095,8191,16383,32767,65535,131071,262143]
theorem spec_l9Ins.tab20:rtab .any (opsOf Try.f23 20) = spec_l9Ins.T20:=by kernel_rfl
theorem spec_l9Ins.bits20:waitsOk spec_l9Ins.T20.2 spec_l9Ins.B20 = true:=by kernel_rfl
def spec_l9Ins.T22:Bool × List (List Nat × List Nat):=(true,[([],[]),([0],[0]),([1],[1]),([2,1],[1,2]),([1],[1]),([4,1],[1,4]),([5,1],[1,5]),([6,1],[1,6]),([3,7,1,1],[1,3,7]),([1,8],[1,8]),([9,8],[9]),([10],[10]),([11,10],[10,11]),([10],[10]),([13,10],[10,13]),([12,14,10],[10,12,14]),([15,10],[10,15]),([10],[10]),([17,10],[10,17]),([16,18,10,10],[10,16,18]),([10,19],[10,19]),([20,19,0,1,2,3,4,5,6,7,8,9,10,11,12,13,14,15,16,17,18,19,20],[20])])
def spec_l9Ins.B22:List Nat:=[0,1,3,7,3,19,51,115,255,511,1023,2047,4095,2047,10239,32767,65535,2047,133119,524287,1048575,2097151]
theorem spec_l9Ins.tab22:rtab .any (opsOf Try.f23 22) = spec_l9Ins.T22:=by kernel_rfl
theorem spec_l9Ins.bits22:waitsOk spec_l9Ins.T22.2 spec_l9Ins.B22 = true:=by kernel_rfl
set_option maxHeartbeats 8000000 in
set_option maxRecDepth 100000 in
theorem spec_l9Ins.calls (k:Nat) (A0_0:Option Addr) (c0_0:Nat) (l0_0:List (S44)) (A0_1:Option Addr) (c0_1:Nat) (l0_1:List (S67)) (a1_0:ByteArray) (a1_1:Int) (a1_2:Int) (A1_3:Option Addr) (c1_3:Nat) (l1_3:List (S64)) (a2:Int) (r:Bool) (w:World) (hr0_0:Kd.C k44 w A0_0 l0_0.length l0_0) (hc0_0:l0_0.length≤c0_0) (hr0_1:Kd.C k67 w A0_1 l0_1.length l0_1) (hc0_1:l0_1.length≤c0_1) (hr1_3:Kd.C k64 w A1_3 l1_3.length l1_3) (hc1_3:l1_3.length≤c1_3) (h:spec_l9Ins.f k l0_0 l0_1 a1_0 a1_1 a1_2 l1_3 a2 = some r) :
  Calls Try.prog 23 #[.agg #[.slice A0_0 l0_0.length c0_0,.slice A0_1 l0_1.length c0_1],.agg #[.string a1_0,.int .i64 a1_1,.int .i64 a1_2,.slice A1_3 l1_3.length c1_3],.int .i64 a2] w fun e w'=>e = .returned (.bool r)∧Below w.heap.size w w':=by
 have hu31:=Try.underlying31;have hu44:=Try.underlying44;have hu64:=Try.underlying64;have hu67:=Try.underlying67;have HR0_0:=Aside0.mk hr0_0;have HC0_0:=Aside0.mk hc0_0;clear hr0_0 hc0_0;have HR0_1:=Aside0.mk hr0_1;have HC0_1:=Aside0.mk hc0_1;clear hr0_1 hc0_1;have HR1_3:=Aside0.mk hr1_3;have HC1_3:=Aside0.mk hc1_3;clear hr1_3 hc1_3;have HB:=Aside0.mk (Below.refl w.heap.size w);have H:(if 0≤a2 then (if a2 < (l1_3.length:Int) then (if ((rd_T64 l1_3 a2).f2).toList = ([]:List UInt8) then (spec_l9Ins.j0 k a2 (((rd_T64 l1_3 a2).f3) == 0) l0_0 l0_1 a1_0 a1_1 a1_2 l1_3 ((rd_T64 l1_3 a2).f0) ((rd_T64 l1_3 a2).f1) ((rd_T64 l1_3 a2).f2) ((rd_T64 l1_3 a2).f3)) else (spec_l9Ins.j0 k a2 false l0_0 l0_1 a1_0 a1_1 a1_2 l1_3 ((rd_T64 l1_3 a2).f0) ((rd_T64 l1_3 a2).f1) ((rd_T64 l1_3 a2).f2) ((rd_T64 l1_3 a2).f3))) else (none)) else (none)) = some r:=h;clear h
 by_cases c4:0≤a2
 ·rw [if_pos c4] at H
  have c4b0:decide (0≤a2) = true:=decide_eq_true c4;clear c4
  by_cases c5:a2 < (l1_3.length:Int)
  ·rw [if_pos c5] at H
   have c5b0:decide (a2 < (l1_3.length:Int)) = true:=decide_eq_true c5;clear c5;have HC6:=Aside0.mk H;clear H
   go_enter Try.func23,Try.ntmps23
   go_upto_region 2 with (first|((with_reducible refine gate_dst (N:=3) rfl ?_);(try (refine gate_guard (by rfl) ?_;dsimp only));refine box_event ?hg (N:=3) ?hd (cs:=#[.slice A0_0 l0_0.length c0_0,.slice A0_1 l0_1.length c0_1]) (t:=31) ?hr ?_;(case hd=>rfl);(case hg=>rfl);(case hr=>first|(go_simp;done)|(go_simp;rfl));intro gb153 hg w7 hbox hb;have n_:=ai (bq HB hb) <| ai (Aside0.mk (hbox)) <| ai (bz hg HB) <| bz hg HB;clear HB;obtain ⟨HB,BK153,GW153,GE153⟩:=n_;clear hb hbox hg)|((with_reducible refine gate_dst (N:=4) rfl ?_);(try (refine gate_guard (by rfl) ?_;dsimp only));refine box_event ?hg (N:=4) ?hd (cs:=#[.string a1_0,.int .i64 a1_1,.int .i64 a1_2,.slice A1_3 l1_3.length c1_3]) (t:=44) ?hr ?_;(case hd=>rfl);(case hg=>rfl);(case hr=>first|(go_simp;done)|(go_simp;rfl));intro gb154 hg w8 hbox hb;have n_:=ai (bw BK153 hb) <| ai (bq HB hb) <| ai (Aside0.mk (hbox)) <| ai (bz hg HB) <| ai (bz hg HB) <| ai (nl hg BK153) <| ng hg BK153;clear BK153 HB;obtain ⟨BK153,HB,BK154,GW154,GE154,NB153_154,NB154_153⟩:=n_;clear hb hbox hg;have hnb9:=NB154_153.out;have hnc9:=NB153_154.out;obtain ⟨hcz10_0,hcz10_1,hcz10_2,hcz10_3⟩:=kb4 BK154.out;obtain ⟨hfz10_0,hfz10_1,hfz10_2,hfz10_3⟩:=kz4 BK154.out;have p155:0≤(a2:Int):=od;have q155:a2 < (l1_3.length:Int):=od;obtain ⟨ad155,e155,hx155_0,hx155_1,hx155_2,hx155_3⟩:=at_T64 HR1_3.out a2 p155 q155;cases e155;replace hx155_0:=cb HB hx155_0;replace hx155_1:=cb HB hx155_1;replace hx155_2:=cb HB hx155_2;replace hx155_3:=cb HB hx155_3;replace p155:=eq_true p155;replace q155:=eq_true q155)|((with_reducible refine gate_dst (N:=7) rfl ?_);(try (refine gate_guard (by rfl) ?_;dsimp only));refine box_event ?hg (N:=7) ?hd (cs:=#[.int .i64 0,.int .i64 0,.string (⟨#[]⟩:ByteArray),.int .i64 0]) (t:=64) ?hr ?_;(case hd=>rfl);(case hg=>rfl);(case hr=>first|(go_simp;done)|(go_simp;rfl));intro gb156 hg w11 hbox hb;have n_:=ai (bw BK153 hb) <| ai (bw BK154 hb) <| ai (bq HB hb) <| ai (Aside0.mk (hbox)) <| ai (bz hg HB) <| ai (bz hg HB) <| ai (nl hg BK153) <| ai (ng hg BK153) <| ai (nl hg BK154) <| ng hg BK154;clear BK153 BK154 HB;obtain ⟨BK153,BK154,HB,BK156,GW156,GE156,NB153_156,NB156_153,NB154_156,NB156_154⟩:=n_;clear hb hbox hg;have hnb12:=NB156_153.out;have hnc12:=NB153_156.out;have hnb13:=NB156_154.out;have hnc13:=NB154_156.out;obtain ⟨hcz14_0,hcz14_1,hcz14_2,hcz14_3⟩:=kb4 BK156.out;obtain ⟨hfz14_0,hfz14_1,hfz14_2,hfz14_3⟩:=kz4 BK156.out))
   (try simp only [Act.put,List.setIfInBounds_toArray,List.set_cons_zero,List.set_cons_succ])
   go_cut [8] (fun v8 wc=>∃ (kq:Nat) (x8_5:Bool),v8 = .bool x8_5∧Aside0 (spec_l9Ins.j0 kq a2 x8_5 l0_0 l0_1 a1_0 a1_1 a1_2 l1_3 ((rd_T64 l1_3 a2).f0) ((rd_T64 l1_3 a2).f1) ((rd_T64 l1_3 a2).f2) ((rd_T64 l1_3 a2).f3) = some r)∧Aside0 (kq≤k)∧Aside0 (wc.heap[gb153]? = some (.cells #[(.slice A0_0 l0_0.length c0_0),(.slice A0_1 l0_1.length c0_1)] 31 (0,0)))∧Aside0 (wc.heap[gb154]? = some (.cells #[.string a1_0,.int .i64 a1_1,.int .i64 a1_2,(.slice (some ad155) l1_3.length c1_3)] 44 (0,0)))∧Aside0 (wc.heap[gb156]? = some (.cells #[.int .i64 ((rd_T64 l1_3 a2).f0),.int .i64 ((rd_T64 l1_3 a2).f1),.string ((rd_T64 l1_3 a2).f2),.int .i64 ((rd_T64 l1_3 a2).f3)] 64 (0,0)))∧Aside0 (Below w.heap.size w wc))
   case first =>
    have H:=HC6.out;clear HC6
    by_cases c15:((rd_T64 l1_3 a2).f2).toList = ([]:List UInt8)
    ·rw [if_pos c15] at H
     have c15b0:(((rd_T64 l1_3 a2).f2).toList == ([]:List UInt8)) = true:=beq_iff_eq.mpr c15;have c15b1:(((rd_T64 l1_3 a2).f2).toList != ([]:List UInt8)) = false:=bne_eq_false_iff_eq.mpr c15;clear c15
     (first|rw [c15b0]|(simp only [i64_w,i32_w];rw [c15b0])|(simp only [c15b2,Bool.not_true,Bool.not_false])|skip)
     have H':=Aside0.mk H;clear H;have hnb16:=NB156_153.out;have hnc16:=NB153_156.out;have hnb17:=NB156_154.out;have hnc17:=NB154_156.out;obtain ⟨hcz18_0,hcz18_1,hcz18_2,hcz18_3⟩:=kb4 BK156.out
     go_wp2
     go_meet
     case rel=>exact ⟨_,((((rd_T64 l1_3 a2).f3) == 0)),(cl2),H',⟨by first|omega|exact Nat.le_refl _⟩,⟨by (with_reducible repeat (first|refine blk_drewN ?_ _|refine blk_drew ?_|refine blk_alloc ?_ _));refine blk_far ?_ NB153_156.out _;(with_reducible repeat (first|refine blk_drewN ?_ _|refine blk_drew ?_|refine blk_alloc ?_ _));refine blk_far ?_ NB153_156.out _;(with_reducible repeat (first|refine blk_drewN ?_ _|refine blk_drew ?_|refine blk_alloc ?_ _));refine blk_far ?_ NB153_156.out _;(with_reducible repeat (first|refine blk_drewN ?_ _|refine blk_drew ?_|refine blk_alloc ?_ _));refine blk_far ?_ NB153_156.out _;(with_reducible repeat (first|refine blk_drewN ?_ _|refine blk_drew ?_|refine blk_alloc ?_ _));exact BK153.out⟩,⟨by (with_reducible repeat (first|refine blk_drewN ?_ _|refine blk_drew ?_|refine blk_alloc ?_ _));refine blk_far ?_ NB154_156.out _;(with_reducible repeat (first|refine blk_drewN ?_ _|refine blk_drew ?_|refine blk_alloc ?_ _));refine blk_far ?_ NB154_156.out _;(with_reducible repeat (first|refine blk_drewN ?_ _|refine blk_drew ?_|refine blk_alloc ?_ _));refine blk_far ?_ NB154_156.out _;(with_reducible repeat (first|refine blk_drewN ?_ _|refine blk_drew ?_|refine blk_alloc ?_ _));refine blk_far ?_ NB154_156.out _;(with_reducible repeat (first|refine blk_drewN ?_ _|refine blk_drew ?_|refine blk_alloc ?_ _));exact BK154.out⟩,⟨by (with_reducible repeat (first|refine blk_drewN ?_ _|refine blk_drew ?_|refine blk_alloc ?_ _));refine blk_put (cs:=#[.int .i64 ((rd_T64 l1_3 a2).f0),.int .i64 ((rd_T64 l1_3 a2).f1),.string ((rd_T64 l1_3 a2).f2),.int .i64 0]) ?_ 3 _ rfl;(with_reducible repeat (first|refine blk_drewN ?_ _|refine blk_drew ?_|refine blk_alloc ?_ _));refine blk_put (cs:=#[.int .i64 ((rd_T64 l1_3 a2).f0),.int .i64 ((rd_T64 l1_3 a2).f1),.string (⟨#[]⟩:ByteArray),.int .i64 0]) ?_ 2 _ rfl;(with_reducible repeat (first|refine blk_drewN ?_ _|refine blk_drew ?_|refine blk_alloc ?_ _));refine blk_put (cs:=#[.int .i64 ((rd_T64 l1_3 a2).f0),.int .i64 0,.string (⟨#[]⟩:ByteArray),.int .i64 0]) ?_ 1 _ rfl;(with_reducible repeat (first|refine blk_drewN ?_ _|refine blk_drew ?_|refine blk_alloc ?_ _));refine blk_put (cs:=#[.int .i64 0,.int .i64 0,.string (⟨#[]⟩:ByteArray),.int .i64 0]) ?_ 0 _ rfl;(with_reducible repeat (first|refine blk_drewN ?_ _|refine blk_drew ?_|refine blk_alloc ?_ _));exact BK156.out⟩,⟨bl HB.out⟩⟩
    ·rw [if_neg c15] at H
     have c15b0:(((rd_T64 l1_3 a2).f2).toList == ([]:List UInt8)) = false:=beq_eq_false_iff_ne.mpr c15;have c15b1:(((rd_T64 l1_3 a2).f2).toList != ([]:List UInt8)) = true:=bne_iff_ne.mpr c15
     (first|rw [c15b0]|(simp only [i64_w,i32_w];rw [c15b0])|(simp only [c15b2,Bool.not_true,Bool.not_false])|skip)
     have H':=Aside0.mk H;clear H;have hnb19:=NB156_153.out;have hnc19:=NB153_156.out;have hnb20:=NB156_154.out;have hnc20:=NB154_156.out;obtain ⟨hcz21_0,hcz21_1,hcz21_2,hcz21_3⟩:=kb4 BK156.out
     go_wp2
     go_meet
     case rel=>exact ⟨_,(false),(cl2),H',⟨by first|omega|exact Nat.le_refl _⟩,⟨by (with_reducible repeat (first|refine blk_drewN ?_ _|refine blk_drew ?_|refine blk_alloc ?_ _));refine blk_far ?_ NB153_156.out _;(with_reducible repeat (first|refine blk_drewN ?_ _|refine blk_drew ?_|refine blk_alloc ?_ _));refine blk_far ?_ NB153_156.out _;(with_reducible repeat (first|refine blk_drewN ?_ _|refine blk_drew ?_|refine blk_alloc ?_ _));refine blk_far ?_ NB153_156.out _;(with_reducible repeat (first|refine blk_drewN ?_ _|refine blk_drew ?_|refine blk_alloc ?_ _));refine blk_far ?_ NB153_156.out _;(with_reducible repeat (first|refine blk_drewN ?_ _|refine blk_drew ?_|refine blk_alloc ?_ _));exact BK153.out⟩,⟨by (with_reducible repeat (first|refine blk_drewN ?_ _|refine blk_drew ?_|refine blk_alloc ?_ _));refine blk_far ?_ NB154_156.out _;(with_reducible repeat (first|refine blk_drewN ?_ _|refine blk_drew ?_|refine blk_alloc ?_ _));refine blk_far ?_ NB154_156.out _;(with_reducible repeat (first|refine blk_drewN ?_ _|refine blk_drew ?_|refine blk_alloc ?_ _));refine blk_far ?_ NB154_156.out _;(with_reducible repeat (first|refine blk_drewN ?_ _|refine blk_drew ?_|refine blk_alloc ?_ _));refine blk_far ?_ NB154_156.out _;(with_reducible repeat (first|refine blk_drewN ?_ _|refine blk_drew ?_|refine blk_alloc ?_ _));exact BK154.out⟩,⟨by (with_reducible repeat (first|refine blk_drewN ?_ _|refine blk_drew ?_|refine blk_alloc ?_ _));refine blk_put (cs:=#[.int .i64 ((rd_T64 l1_3 a2).f0),.int .i64 ((rd_T64 l1_3 a2).f1),.string ((rd_T64 l1_3 a2).f2),.int .i64 0]) ?_ 3 _ rfl;(with_reducible repeat (first|refine blk_drewN ?_ _|refine blk_drew ?_|refine blk_alloc ?_ _));refine blk_put (cs:=#[.int .i64 ((rd_T64 l1_3 a2).f0),.int .i64 ((rd_T64 l1_3 a2).f1),.string (⟨#[]⟩:ByteArray),.int .i64 0]) ?_ 2 _ rfl;(with_reducible repeat (first|refine blk_drewN ?_ _|refine blk_drew ?_|refine blk_alloc ?_ _));refine blk_put (cs:=#[.int .i64 ((rd_T64 l1_3 a2).f0),.int .i64 0,.string (⟨#[]⟩:ByteArray),.int .i64 0]) ?_ 1 _ rfl;(with_reducible repeat (first|refine blk_drewN ?_ _|refine blk_drew ?_|refine blk_alloc ?_ _));refine blk_put (cs:=#[.int .i64 0,.int .i64 0,.string (⟨#[]⟩:ByteArray),.int .i64 0]) ?_ 0 _ rfl;(with_reducible repeat (first|refine blk_drewN ?_ _|refine blk_drew ?_|refine blk_alloc ?_ _));exact BK156.out⟩,⟨bl HB.out⟩⟩
   case rest =>
    clear HC6;(try clear c1);(try clear p1);(try clear q1);(try clear hx1);(try clear c2);(try clear p2);(try clear c4);(try clear c4b0);(try clear c5);(try clear c5b0);(try clear c9);(try clear c12);(try clear c13);(try clear c15);(try clear c15b0);(try clear c15b1);(try clear c15b2);(try clear p15);(try clear q15);(try clear hx15);(try clear c16);(try clear c17);(try clear c19);(try clear c20);(try clear hcz10_0);(try clear hcz10_1);(try clear hcz10_2);(try clear hcz10_3);(try clear hcz14_0);(try clear hcz14_1);(try clear hcz14_2);(try clear hcz14_3);(try clear hcz18_0);(try clear hcz18_1);(try clear hcz18_2);(try clear hcz18_3);(try clear hcz21_0);(try clear hcz21_1);(try clear hcz21_2);(try clear hcz21_3);(try clear hfz10_0);(try clear hfz10_1);(try clear hfz10_2);(try clear hfz10_3);(try clear hfz14_0);(try clear hfz14_1);(try clear hfz14_2);(try clear hfz14_3);(try clear hfz18_0);(try clear hfz18_1);(try clear hfz18_2);(try clear hfz18_3);(try clear hfz21_0);(try clear hfz21_1);(try clear hfz21_2);(try clear hfz21_3);(try clear hx155_0);(try clear hx155_1);(try clear hx155_2);(try clear hx155_3);(try clear p155);(try clear q155);(try clear BK153);(try clear BK154);(try clear BK156);(try clear HB);obtain ⟨kq,x8_5,rfl,HA,HJ5,BK153,BK154,BK156,HB⟩:=hcut
    cases kq with
    | zero=>exact absurd HA.out (by simp [spec_l9Ins.j0])
    | succ kj5 =>
     have H:=HA.out;clear HA;simp only [spec_l9Ins.j0] at H;have HC22:=Aside0.mk H;clear H
     go_upto_region 3 with (fail)
     go_cut [9] (fun v9 wc=>∃ (kq:Nat) (x9_21:Bool),v9 = .bool x9_21∧Aside0 (spec_l9Ins.j1 kq x8_5 x9_21 l0_0 l0_1 a1_0 a1_1 a1_2 l1_3 ((rd_T64 l1_3 a2).f0) ((rd_T64 l1_3 a2).f1) ((rd_T64 l1_3 a2).f2) ((rd_T64 l1_3 a2).f3) = some r)∧Aside0 (kq≤kj5)∧Aside0 (wc.heap[gb153]? = some (.cells #[(.slice A0_0 l0_0.length c0_0),(.slice A0_1 l0_1.length c0_1)] 31 (0,0)))∧Aside0 (wc.heap[gb154]? = some (.cells #[.string a1_0,.int .i64 a1_1,.int .i64 a1_2,(.slice (some ad155) l1_3.length c1_3)] 44 (0,0)))∧Aside0 (wc.heap[gb156]? = some (.cells #[.int .i64 ((rd_T64 l1_3 a2).f0),.int .i64 ((rd_T64 l1_3 a2).f1),.string ((rd_T64 l1_3 a2).f2),.int .i64 ((rd_T64 l1_3 a2).f3)] 64 (0,0)))∧Aside0 (Below w.heap.size w wc))
     case first =>
      have H:=HC22.out;clear HC22
      by_cases c23:((rd_T64 l1_3 a2).f2).toList = ([]:List UInt8)
      ·rw [if_pos c23] at H
       have c23b0:(((rd_T64 l1_3 a2).f2).toList == ([]:List UInt8)) = true:=beq_iff_eq.mpr c23;have c23b1:(((rd_T64 l1_3 a2).f2).toList != ([]:List UInt8)) = false:=bne_eq_false_iff_eq.mpr c23;clear c23
       (first|rw [c23b0]|(simp only [i64_w,i32_w];rw [c23b0])|(simp only [c23b2,Bool.not_true,Bool.not_false])|skip)
       replace H:=Option.bind_eq_some_iff.mp H;obtain ⟨t157,A240,H⟩:=H;replace H:(spec_l9Ins.j1 kj5 x8_5 t157 l0_0 l0_1 a1_0 a1_1 a1_2 l1_3 ((rd_T64 l1_3 a2).f0) ((rd_T64 l1_3 a2).f1) ((rd_T64 l1_3 a2).f2) ((rd_T64 l1_3 a2).f3)) = some r:=H;have A24:=Aside0.mk A240;clear A240;have H':=Aside0.mk H;clear H;have hnb25:=NB156_153.out;have hnc25:=NB153_156.out;have hnb26:=NB156_154.out;have hnc26:=NB154_156.out;obtain ⟨hcz27_0,hcz27_1,hcz27_2,hcz27_3⟩:=kb4 BK156.out;have hnb28:=NB154_153.out;have hnc28:=NB153_154.out;obtain ⟨hcz29_0,hcz29_1,hcz29_2,hcz29_3⟩:=kb4 BK154.out
       go_wp2_with (first|(go_at_call 22;(with_reducible refine (spec_l1In.calls ((rd_T64 l1_3 a2).f3) (wrap64 (a2 + 1)) (wrap64 ((l1_3.length:Int) - 1)) t157 _ A24.out).mono ?_);rintro e w' ⟨rfl,⟨nd,rfl⟩⟩))
       go_meet
       case rel=>exact ⟨_,(t157),(cl2),H',⟨by have:=HJ5.out;first|omega|exact Nat.le_refl _⟩,⟨bk BK153.out⟩,⟨bk BK154.out⟩,⟨bk BK156.out⟩,⟨bl HB.out⟩⟩
      ·rw [if_neg c23] at H
       have c23b0:(((rd_T64 l1_3 a2).f2).toList == ([]:List UInt8)) = false:=beq_eq_false_iff_ne.mpr c23;have c23b1:(((rd_T64 l1_3 a2).f2).toList != ([]:List UInt8)) = true:=bne_iff_ne.mpr c23
       (first|rw [c23b0]|(simp only [i64_w,i32_w];rw [c23b0])|(simp only [c23b2,Bool.not_true,Bool.not_false])|skip)
       have H':=Aside0.mk H;clear H;have hnb30:=NB156_153.out;have hnc30:=NB153_156.out;have hnb31:=NB156_154.out;have hnc31:=NB154_156.out;obtain ⟨hcz32_0,hcz32_1,hcz32_2,hcz32_3⟩:=kb4 BK156.out
       go_wp2
       go_meet
       case rel=>exact ⟨_,(false),(cl2),H',⟨by have:=HJ5.out;first|omega|exact Nat.le_refl _⟩,⟨bk BK153.out⟩,⟨bk BK154.out⟩,⟨bk BK156.out⟩,⟨bl HB.out⟩⟩
     case rest =>
      clear HC22;(try clear c1);(try clear p1);(try clear q1);(try clear hx1);(try clear c2);(try clear p2);(try clear c3);(try clear c4);(try clear c4b0);(try clear c5);(try clear c5b0);(try clear p6);(try clear c9);(try clear c12);(try clear c13);(try clear c15);(try clear c15b0);(try clear c15b1);(try clear c15b2);(try clear p15);(try clear q15);(try clear hx15);(try clear c16);(try clear c17);(try clear c19);(try clear c20);(try clear c23);(try clear c23b0);(try clear c23b1);(try clear c23b2);(try clear c25);(try clear c26);(try clear c28);(try clear c30);(try clear c31);(try clear hcz10_0);(try clear hcz10_1);(try clear hcz10_2);(try clear hcz10_3);(try clear hcz14_0);(try clear hcz14_1);(try clear hcz14_2);(try clear hcz14_3);(try clear hcz18_0);(try clear hcz18_1);(try clear hcz18_2);(try clear hcz18_3);(try clear hcz21_0);(try clear hcz21_1);(try clear hcz21_2);(try clear hcz21_3);(try clear hcz27_0);(try clear hcz27_1);(try clear hcz27_2);(try clear hcz27_3);(try clear hcz29_0);(try clear hcz29_1);(try clear hcz29_2);(try clear hcz29_3);(try clear hcz32_0);(try clear hcz32_1);(try clear hcz32_2);(try clear hcz32_3);(try clear hfz10_0);(try clear hfz10_1);(try clear hfz10_2);(try clear hfz10_3);(try clear hfz14_0);(try clear hfz14_1);(try clear hfz14_2);(try clear hfz14_3);(try clear hfz18_0);(try clear hfz18_1);(try clear hfz18_2);(try clear hfz18_3);(try clear hfz21_0);(try clear hfz21_1);(try clear hfz21_2);(try clear hfz21_3);(try clear hfz27_0);(try clear hfz27_1);(try clear hfz27_2);(try clear hfz27_3);(try clear hfz29_0);(try clear hfz29_1);(try clear hfz29_2);(try clear hfz29_3);(try clear hfz32_0);(try clear hfz32_1);(try clear hfz32_2);(try clear hfz32_3);(try clear hx155_0);(try clear hx155_1);(try clear hx155_2);(try clear hx155_3);(try clear p1);(try clear p15);(try clear p155);(try clear p2);(try clear q1);(try clear q15);(try clear q155);(try clear BK153);(try clear BK154);(try clear BK156);(try clear HB);obtain ⟨kq,x9_21,rfl,HA,HJ21,BK153,BK154,BK156,HB⟩:=hcut
      cases kq with
      | zero=>exact absurd HA.out (by simp [spec_l9Ins.j1])
      | succ kj21 =>
       have H:=HA.out;clear HA;simp only [spec_l9Ins.j1] at H
       by_cases c33:((rd_T64 l1_3 a2).f0) = 1
       ·rw [if_pos c33] at H
        have c33b0:(((rd_T64 l1_3 a2).f0) == 1) = true:=beq_iff_eq.mpr c33;have c33b1:(((rd_T64 l1_3 a2).f0) != 1) = false:=bne_eq_false_iff_eq.mpr c33;clear c33
        by_cases c34:x8_5 = true
        ·subst c34
         have H1:((spec_l1In.f ((rd_T64 l1_3 a2).f1) 0 1000000000000).bind fun t158=>(some t158)) = some r:=by rw [if_pos rfl] at H;exact H
         clear H;have H:=H1;clear H1;replace H:=Option.bind_eq_some_iff.mp H;obtain ⟨t158,A350,H⟩:=H;replace H:(some t158) = some r:=H;have A35:=Aside0.mk A350;clear A350;obtain rfl:=Option.some.inj H;have hnb36:=NB156_153.out;have hnc36:=NB153_156.out;have hnb37:=NB156_154.out;have hnc37:=NB154_156.out;obtain ⟨hcz38_0,hcz38_1,hcz38_2,hcz38_3⟩:=kb4 BK156.out
         go_wp2_with (first|(go_at_call 22;(with_reducible refine (spec_l1In.calls ((rd_T64 l1_3 a2).f1) 0 1000000000000 t158 _ A35.out).mono ?_);rintro e w' ⟨rfl,⟨nd,rfl⟩⟩))
         go_ret
         exact ⟨cl,bl HB.out⟩
        ·replace c34:=Bool.eq_false_iff.mpr c34
         subst c34;have H1:(some false) = some r:=by rw [if_neg (show ¬ (false = true) by decide)] at H;exact H
         clear H;have H:=H1;clear H1;obtain rfl:=Option.some.inj H;have hnb39:=NB156_153.out;have hnc39:=NB153_156.out;have hnb40:=NB156_154.out;have hnc40:=NB154_156.out;obtain ⟨hcz41_0,hcz41_1,hcz41_2,hcz41_3⟩:=kb4 BK156.out
         go_wp2
         go_ret
         exact ⟨cl,bl HB.out⟩
       ·rw [if_neg c33] at H
        have c33b0:(((rd_T64 l1_3 a2).f0) == 1) = false:=beq_eq_false_iff_ne.mpr c33;have c33b1:(((rd_T64 l1_3 a2).f0) != 1) = true:=bne_iff_ne.mpr c33
        by_cases c42:((rd_T64 l1_3 a2).f0) = 2
        ·rw [if_pos c42] at H
         have c42b0:(((rd_T64 l1_3 a2).f0) == 2) = true:=beq_iff_eq.mpr c42;have c42b1:(((rd_T64 l1_3 a2).f0) != 2) = false:=bne_eq_false_iff_eq.mpr c42;clear c42;replace H:=Option.bind_eq_some_iff.mp H;obtain ⟨t159,A430,H⟩:=H;replace H:(if t159 = true then (if ((rd_T64 l1_3 a2).f1) = 0 then (some (((rd_T64 l1_3 a2).f3) == 0)) else (some false)) else (some false)) = some r:=H;have A43:=Aside0.mk A430;clear A430
         by_cases c44:t159 = true
         ·subst c44
          have H1:(if ((rd_T64 l1_3 a2).f1) = 0 then (some (((rd_T64 l1_3 a2).f3) == 0)) else (some false)) = some r:=by rw [if_pos rfl] at H;exact H
          clear H;have H:=H1;clear H1
          by_cases c45:((rd_T64 l1_3 a2).f1) = 0
          ·rw [if_pos c45] at H
           have c45b0:(((rd_T64 l1_3 a2).f1) == 0) = true:=beq_iff_eq.mpr c45;have c45b1:(((rd_T64 l1_3 a2).f1) != 0) = false:=bne_eq_false_iff_eq.mpr c45;clear c45;obtain rfl:=Option.some.inj H;have hnb46:=NB156_153.out;have hnc46:=NB153_156.out;have hnb47:=NB156_154.out;have hnc47:=NB154_156.out;obtain ⟨hcz48_0,hcz48_1,hcz48_2,hcz48_3⟩:=kb4 BK156.out
           go_wp2_with (first|((with_reducible refine gate_callee (f:=20) rfl ?_);refine goesL_ (some 52) rfl rfl Try.func20 (by kernel_rfl) rfl #[.string ((rd_T64 l1_3 a2).f2)] rfl gs ?_;(with_reducible refine (spec_l4Atom.calls kj21 ((rd_T64 l1_3 a2).f2) true _ A43.out).mono ?_);rintro e w' ⟨rfl,⟨nd,rfl⟩⟩;refine ⟨_,rfl,?_⟩))
           go_ret
           exact ⟨cl,bl HB.out⟩
          ·rw [if_neg c45] at H
           have c45b0:(((rd_T64 l1_3 a2).f1) == 0) = false:=beq_eq_false_iff_ne.mpr c45;have c45b1:(((rd_T64 l1_3 a2).f1) != 0) = true:=bne_iff_ne.mpr c45;obtain rfl:=Option.some.inj H;have hnb49:=NB156_153.out;have hnc49:=NB153_156.out;have hnb50:=NB156_154.out;have hnc50:=NB154_156.out;obtain ⟨hcz51_0,hcz51_1,hcz51_2,hcz51_3⟩:=kb4 BK156.out
           go_wp2_with (first|((with_reducible refine gate_callee (f:=20) rfl ?_);refine goesL_ (some 52) rfl rfl Try.func20 (by kernel_rfl) rfl #[.string ((rd_T64 l1_3 a2).f2)] rfl gs ?_;(with_reducible refine (spec_l4Atom.calls kj21 ((rd_T64 l1_3 a2).f2) true _ A43.out).mono ?_);rintro e w' ⟨rfl,⟨nd,rfl⟩⟩;refine ⟨_,rfl,?_⟩))
           go_ret
           exact ⟨cl,bl HB.out⟩
         ·replace c44:=Bool.eq_false_iff.mpr c44
          subst c44;have H1:(some false) = some r:=by rw [if_neg (show ¬ (false = true) by decide)] at H;exact H
          clear H;have H:=H1;clear H1;obtain rfl:=Option.some.inj H;have hnb52:=NB156_153.out;have hnc52:=NB153_156.out;have hnb53:=NB156_154.out;have hnc53:=NB154_156.out;obtain ⟨hcz54_0,hcz54_1,hcz54_2,hcz54_3⟩:=kb4 BK156.out
          go_wp2_with (first|((with_reducible refine gate_callee (f:=20) rfl ?_);refine goesL_ (some 52) rfl rfl Try.func20 (by kernel_rfl) rfl #[.string ((rd_T64 l1_3 a2).f2)] rfl gs ?_;(with_reducible refine (spec_l4Atom.calls kj21 ((rd_T64 l1_3 a2).f2) false _ A43.out).mono ?_);rintro e w' ⟨rfl,⟨nd,rfl⟩⟩;refine ⟨_,rfl,?_⟩))
          go_ret
          exact ⟨cl,bl HB.out⟩
        ·rw [if_neg c42] at H
         have c42b0:(((rd_T64 l1_3 a2).f0) == 2) = false:=beq_eq_false_iff_ne.mpr c42;have c42b1:(((rd_T64 l1_3 a2).f0) != 2) = true:=bne_iff_ne.mpr c42
         by_cases c55:((rd_T64 l1_3 a2).f0) = 3
         ·rw [if_pos c55] at H
          have c55b0:(((rd_T64 l1_3 a2).f0) == 3) = true:=beq_iff_eq.mpr c55;have c55b1:(((rd_T64 l1_3 a2).f0) != 3) = false:=bne_eq_false_iff_eq.mpr c55;clear c55
          by_cases c56:x8_5 = true
          ·subst c56
           have H1:((spec_l1In.f ((rd_T64 l1_3 a2).f1) 0 (wrap64 (a1_2 - 1))).bind fun t160=>(some t160)) = some r:=by rw [if_pos rfl] at H;exact H
           clear H;have H:=H1;clear H1;replace H:=Option.bind_eq_some_iff.mp H;obtain ⟨t160,A570,H⟩:=H;replace H:(some t160) = some r:=H;have A57:=Aside0.mk A570;clear A570;obtain rfl:=Option.some.inj H;have hnb58:=NB156_153.out;have hnc58:=NB153_156.out;have hnb59:=NB156_154.out;have hnc59:=NB154_156.out;obtain ⟨hcz60_0,hcz60_1,hcz60_2,hcz60_3⟩:=kb4 BK156.out;have hnb61:=NB154_153.out;have hnc61:=NB153_154.out;obtain ⟨hcz62_0,hcz62_1,hcz62_2,hcz62_3⟩:=kb4 BK154.out
           go_wp2_with (first|(go_at_call 22;(with_reducible refine (spec_l1In.calls ((rd_T64 l1_3 a2).f1) 0 (wrap64 (a1_2 - 1)) t160 _ A57.out).mono ?_);rintro e w' ⟨rfl,⟨nd,rfl⟩⟩))
           go_ret
           exact ⟨cl,bl HB.out⟩
          ·replace c56:=Bool.eq_false_iff.mpr c56
           subst c56;have H1:(some false) = some r:=by rw [if_neg (show ¬ (false = true) by decide)] at H;exact H
           clear H;have H:=H1;clear H1;obtain rfl:=Option.some.inj H;have hnb63:=NB156_153.out;have hnc63:=NB153_156.out;have hnb64:=NB156_154.out;have hnc64:=NB154_156.out;obtain ⟨hcz65_0,hcz65_1,hcz65_2,hcz65_3⟩:=kb4 BK156.out
           go_wp2
           go_ret
           exact ⟨cl,bl HB.out⟩
         ·rw [if_neg c55] at H
          have c55b0:(((rd_T64 l1_3 a2).f0) == 3) = false:=beq_eq_false_iff_ne.mpr c55;have c55b1:(((rd_T64 l1_3 a2).f0) != 3) = true:=bne_iff_ne.mpr c55;have HC66:=Aside0.mk H;clear H;have hnb67:=NB156_153.out;have hnc67:=NB153_156.out;have hnb68:=NB156_154.out;have hnc68:=NB154_156.out;obtain ⟨hcz69_0,hcz69_1,hcz69_2,hcz69_3⟩:=kb4 BK156.out
          go_upto_if 74 with (fail)
          go_cut [74] (fun v74 wc=>∃ (kq:Nat) (x74_65:Bool),v74 = .bool x74_65∧Aside0 (spec_l9Ins.j2 kq x8_5 x9_21 ((rd_T64 l1_3 a2).f0) x74_65 l0_0 l0_1 a1_0 a1_1 a1_2 l1_3 ((rd_T64 l1_3 a2).f0) ((rd_T64 l1_3 a2).f1) ((rd_T64 l1_3 a2).f2) ((rd_T64 l1_3 a2).f3) = some r)∧Aside0 (kq≤kj21)∧Aside0 (wc.heap[gb153]? = some (.cells #[(.slice A0_0 l0_0.length c0_0),(.slice A0_1 l0_1.length c0_1)] 31 (0,0)))∧Aside0 (wc.heap[gb154]? = some (.cells #[.string a1_0,.int .i64 a1_1,.int .i64 a1_2,(.slice (some ad155) l1_3.length c1_3)] 44 (0,0)))∧Aside0 (wc.heap[gb156]? = some (.cells #[.int .i64 ((rd_T64 l1_3 a2).f0),.int .i64 ((rd_T64 l1_3 a2).f1),.string ((rd_T64 l1_3 a2).f2),.int .i64 ((rd_T64 l1_3 a2).f3)] 64 (0,0)))∧Aside0 (Below w.heap.size w wc))
          case first =>
           have H:=HC66.out;clear HC66
           by_cases c70:((rd_T64 l1_3 a2).f0) = 4
           ·rw [if_pos c70] at H
            have c70b0:(((rd_T64 l1_3 a2).f0) == 4) = true:=beq_iff_eq.mpr c70;have c70b1:(((rd_T64 l1_3 a2).f0) != 4) = false:=bne_eq_false_iff_eq.mpr c70;clear c70
            (first|rw [c70b0]|(simp only [i64_w,i32_w];rw [c70b0])|(simp only [c70b2,Bool.not_true,Bool.not_false])|skip)
            have H':=Aside0.mk H;clear H
            go_wp2
            go_meet
            case rel=>exact ⟨_,((((rd_T64 l1_3 a2).f0) == 4)),(cl2),H',⟨by have:=HJ5.out;have:=HJ21.out;first|omega|exact Nat.le_refl _⟩,⟨bk BK153.out⟩,⟨bk BK154.out⟩,⟨bk BK156.out⟩,⟨bl HB.out⟩⟩
           ·rw [if_neg c70] at H
            have c70b0:(((rd_T64 l1_3 a2).f0) == 4) = false:=beq_eq_false_iff_ne.mpr c70;have c70b1:(((rd_T64 l1_3 a2).f0) != 4) = true:=bne_iff_ne.mpr c70
            (first|rw [c70b0]|(simp only [i64_w,i32_w];rw [c70b0])|(simp only [c70b2,Bool.not_true,Bool.not_false])|skip)
            have H':=Aside0.mk H;clear H
            go_wp2
            go_meet
            case rel=>exact ⟨_,((((rd_T64 l1_3 a2).f0) == 5)),(cl2),H',⟨by have:=HJ5.out;have:=HJ21.out;first|omega|exact Nat.le_refl _⟩,⟨bk BK153.out⟩,⟨bk BK154.out⟩,⟨bk BK156.out⟩,⟨bl HB.out⟩⟩
          case rest =>
           clear HC66;(try clear c1);(try clear p1);(try clear q1);(try clear hx1);(try clear c2);(try clear p2);(try clear c3);(try clear c4);(try clear c4b0);(try clear c5);(try clear c5b0);(try clear c6);(try clear p6);(try clear c7);(try clear c9);(try clear c12);(try clear c13);(try clear c15);(try clear c15b0);(try clear c15b1);(try clear c15b2);(try clear p15);(try clear q15);(try clear hx15);(try clear c16);(try clear c17);(try clear c19);(try clear c20);(try clear c23);(try clear c23b0);(try clear c23b1);(try clear c23b2);(try clear c25);(try clear c26);(try clear c28);(try clear c30);(try clear c31);(try clear c33);(try clear c33b0);(try clear c33b1);(try clear c34);(try clear c36);(try clear c37);(try clear c39);(try clear c40);(try clear c42);(try clear c42b0);(try clear c42b1);(try clear c44);(try clear c45);(try clear c45b0);(try clear c45b1);(try clear c46);(try clear c47);(try clear c49);(try clear c50);(try clear c52);(try clear c53);(try clear c55);(try clear c55b0);(try clear c55b1);(try clear c56);(try clear c58);(try clear c59);(try clear c61);(try clear c63);(try clear c64);(try clear p64);(try clear c67);(try clear c68);(try clear c70);(try clear c70b0);(try clear c70b1);(try clear c70b2);(try clear hcz10_0);(try clear hcz10_1);(try clear hcz10_2);(try clear hcz10_3);(try clear hcz14_0);(try clear hcz14_1);(try clear hcz14_2);(try clear hcz14_3);(try clear hcz18_0);(try clear hcz18_1);(try clear hcz18_2);(try clear hcz18_3);(try clear hcz21_0);(try clear hcz21_1);(try clear hcz21_2);(try clear hcz21_3);(try clear hcz27_0);(try clear hcz27_1);(try clear hcz27_2);(try clear hcz27_3);(try clear hcz29_0);(try clear hcz29_1);(try clear hcz29_2);(try clear hcz29_3);(try clear hcz32_0);(try clear hcz32_1);(try clear hcz32_2);(try clear hcz32_3);(try clear hcz38_0);(try clear hcz38_1);(try clear hcz38_2);(try clear hcz38_3);(try clear hcz41_0);(try clear hcz41_1);(try clear hcz41_2);(try clear hcz41_3);(try clear hcz48_0);(try clear hcz48_1);(try clear hcz48_2);(try clear hcz48_3);(try clear hcz51_0);(try clear hcz51_1);(try clear hcz51_2);(try clear hcz51_3);(try clear hcz54_0);(try clear hcz54_1);(try clear hcz54_2);(try clear hcz54_3);(try clear hcz60_0);(try clear hcz60_1);(try clear hcz60_2);(try clear hcz60_3);(try clear hcz62_0);(try clear hcz62_1);(try clear hcz62_2);(try clear hcz62_3);(try clear hcz65_0);(try clear hcz65_1);(try clear hcz65_2);(try clear hcz65_3);(try clear hcz69_0);(try clear hcz69_1);(try clear hcz69_2);(try clear hcz69_3);(try clear hfz10_0);(try clear hfz10_1);(try clear hfz10_2);(try clear hfz10_3);(try clear hfz14_0);(try clear hfz14_1);(try clear hfz14_2);(try clear hfz14_3);(try clear hfz18_0);(try clear hfz18_1);(try clear hfz18_2);(try clear hfz18_3);(try clear hfz21_0);(try clear hfz21_1);(try clear hfz21_2);(try clear hfz21_3);(try clear hfz27_0)
           (try clear hfz27_1);(try clear hfz27_2);(try clear hfz27_3);(try clear hfz29_0);(try clear hfz29_1);(try clear hfz29_2);(try clear hfz29_3);(try clear hfz32_0);(try clear hfz32_1);(try clear hfz32_2);(try clear hfz32_3);(try clear hfz38_0);(try clear hfz38_1);(try clear hfz38_2);(try clear hfz38_3);(try clear hfz41_0);(try clear hfz41_1);(try clear hfz41_2);(try clear hfz41_3);(try clear hfz48_0);(try clear hfz48_1);(try clear hfz48_2);(try clear hfz48_3);(try clear hfz51_0);(try clear hfz51_1);(try clear hfz51_2);(try clear hfz51_3);(try clear hfz54_0);(try clear hfz54_1);(try clear hfz54_2);(try clear hfz54_3);(try clear hfz60_0);(try clear hfz60_1);(try clear hfz60_2);(try clear hfz60_3);(try clear hfz62_0);(try clear hfz62_1);(try clear hfz62_2);(try clear hfz62_3);(try clear hfz65_0);(try clear hfz65_1);(try clear hfz65_2);(try clear hfz65_3);(try clear hfz69_0);(try clear hfz69_1);(try clear hfz69_2);(try clear hfz69_3);(try clear hx155_0);(try clear hx155_1);(try clear hx155_2);(try clear hx155_3);(try clear p1);(try clear p15);(try clear p155);(try clear p2);(try clear p6);(try clear q1);(try clear q15);(try clear q155);(try clear BK153);(try clear BK154);(try clear BK156);(try clear HB);obtain ⟨kq,x74_65,rfl,HA,HJ65,BK153,BK154,BK156,HB⟩:=hcut
           cases kq with
           | zero=>exact absurd HA.out (by simp [spec_l9Ins.j2])
           | succ kj65 =>
            have H:=HA.out;clear HA;simp only [spec_l9Ins.j2] at H
            by_cases c71:x74_65 = true
            ·subst c71
             have H1:(if x8_5 = true then ((spec_l1In.f ((rd_T64 l1_3 a2).f1) 0 20).bind fun t161=>(some t161)) else (some false)) = some r:=by rw [if_pos rfl] at H;exact H
             clear H;have H:=H1;clear H1
             by_cases c72:x8_5 = true
             ·subst c72
              have H1:((spec_l1In.f ((rd_T64 l1_3 a2).f1) 0 20).bind fun t161=>(some t161)) = some r:=by rw [if_pos rfl] at H;exact H
              clear H;have H:=H1;clear H1;replace H:=Option.bind_eq_some_iff.mp H;obtain ⟨t161,A730,H⟩:=H;replace H:(some t161) = some r:=H;have A73:=Aside0.mk A730;clear A730;obtain rfl:=Option.some.inj H;have hnb74:=NB156_153.out;have hnc74:=NB153_156.out;have hnb75:=NB156_154.out;have hnc75:=NB154_156.out;obtain ⟨hcz76_0,hcz76_1,hcz76_2,hcz76_3⟩:=kb4 BK156.out
              go_wp2_with (first|(go_at_call 22;(with_reducible refine (spec_l1In.calls ((rd_T64 l1_3 a2).f1) 0 20 t161 _ A73.out).mono ?_);rintro e w' ⟨rfl,⟨nd,rfl⟩⟩))
              go_ret
              exact ⟨cl,bl HB.out⟩
             ·replace c72:=Bool.eq_false_iff.mpr c72
              subst c72;have H1:(some false) = some r:=by rw [if_neg (show ¬ (false = true) by decide)] at H;exact H
              clear H;have H:=H1;clear H1;obtain rfl:=Option.some.inj H
              go_wp2
              go_ret
              exact ⟨cl,bl HB.out⟩
            ·replace c71:=Bool.eq_false_iff.mpr c71
             subst c71;have H1:(if ((rd_T64 l1_3 a2).f0) = 6 then (if x8_5 = true then ((spec_l1In.f ((rd_T64 l1_3 a2).f1) 2 6).bind fun t162=>(some t162)) else (some false)) else (if ((rd_T64 l1_3 a2).f0) = 7 then ((spec_l4Op.f ((rd_T64 l1_3 a2).f2)).bind fun t163=>(if t163 = true then (if ((rd_T64 l1_3 a2).f1) = 0 then (some (((rd_T64 l1_3 a2).f3) == 0)) else (some false)) else (some false))) else (if ((rd_T64 l1_3 a2).f0) = 8 then ((spec_l9FnAt.f kj65 l0_0 l0_1 ((rd_T64 l1_3 a2).f2)).bind fun t164=>(if t164 ≥ 0 then (if 0≤t164 then (if t164 < (l0_0.length:Int) then (if ((rd_T44 l0_0 t164).f1) = ((rd_T64 l1_3 a2).f1) then (some (((rd_T64 l1_3 a2).f3) == 0)) else (some false)) else (none)) else (none)) else (some false))) else (if ((rd_T64 l1_3 a2).f0) = 9 then (if x9_21 = true then ((spec_l1In.f ((rd_T64 l1_3 a2).f1) 0 (wrap64 ((l0_1.length:Int) - 1))).bind fun t166=>(if t166 = true then (if 0≤((rd_T64 l1_3 a2).f1) then (if ((rd_T64 l1_3 a2).f1) < (l0_1.length:Int) then ((spec_PatFits.f kj65 ((rd_T67 l0_1 ((rd_T64 l1_3 a2).f1)).f0) ((rd_T67 l0_1 ((rd_T64 l1_3 a2).f1)).f1) ((rd_T67 l0_1 ((rd_T64 l1_3 a2).f1)).f2) ((rd_T67 l0_1 ((rd_T64 l1_3 a2).f1)).f3) a1_2).bind fun t168=>(some t168)) else (none)) else (none)) else (some false))) else (some false)) else (if ((rd_T64 l1_3 a2).f0) = 10 then (if x9_21 = true then (some (((rd_T64 l1_3 a2).f1) == 0)) else (some false)) else (if x8_5 = true then (if ((rd_T64 l1_3 a2).f1) = 0 then ((spec_l1In.f ((rd_T64 l1_3 a2).f0) 11 12).bind fun t169=>(some t169)) else (some false)) else (some false))))))) = some r:=by rw [if_neg (show ¬ (false = true) by decide)] at H;exact H
             clear H;have H:=H1;clear H1
             by_cases c77:((rd_T64 l1_3 a2).f0) = 6
             ·rw [if_pos c77] at H
              have c77b0:(((rd_T64 l1_3 a2).f0) == 6) = true:=beq_iff_eq.mpr c77;have c77b1:(((rd_T64 l1_3 a2).f0) != 6) = false:=bne_eq_false_iff_eq.mpr c77;clear c77
              by_cases c78:x8_5 = true
              ·subst c78
               have H1:((spec_l1In.f ((rd_T64 l1_3 a2).f1) 2 6).bind fun t162=>(some t162)) = some r:=by rw [if_pos rfl] at H;exact H
               clear H;have H:=H1;clear H1;replace H:=Option.bind_eq_some_iff.mp H;obtain ⟨t162,A790,H⟩:=H;replace H:(some t162) = some r:=H;have A79:=Aside0.mk A790;clear A790;obtain rfl:=Option.some.inj H;have hnb80:=NB156_153.out;have hnc80:=NB153_156.out;have hnb81:=NB156_154.out;have hnc81:=NB154_156.out;obtain ⟨hcz82_0,hcz82_1,hcz82_2,hcz82_3⟩:=kb4 BK156.out
               go_wp2_with (first|(go_at_call 22;(with_reducible refine (spec_l1In.calls ((rd_T64 l1_3 a2).f1) 2 6 t162 _ A79.out).mono ?_);rintro e w' ⟨rfl,⟨nd,rfl⟩⟩))
               go_ret
               exact ⟨cl,bl HB.out⟩
              ·replace c78:=Bool.eq_false_iff.mpr c78
               subst c78;have H1:(some false) = some r:=by rw [if_neg (show ¬ (false = true) by decide)] at H;exact H
               clear H;have H:=H1;clear H1;obtain rfl:=Option.some.inj H
               go_wp2
               go_ret
               exact ⟨cl,bl HB.out⟩
             ·rw [if_neg c77] at H
              have c77b0:(((rd_T64 l1_3 a2).f0) == 6) = false:=beq_eq_false_iff_ne.mpr c77;have c77b1:(((rd_T64 l1_3 a2).f0) != 6) = true:=bne_iff_ne.mpr c77
              by_cases c83:((rd_T64 l1_3 a2).f0) = 7
              ·rw [if_pos c83] at H
               have c83b0:(((rd_T64 l1_3 a2).f0) == 7) = true:=beq_iff_eq.mpr c83;have c83b1:(((rd_T64 l1_3 a2).f0) != 7) = false:=bne_eq_false_iff_eq.mpr c83;clear c83;replace H:=Option.bind_eq_some_iff.mp H;obtain ⟨t163,A840,H⟩:=H;replace H:(if t163 = true then (if ((rd_T64 l1_3 a2).f1) = 0 then (some (((rd_T64 l1_3 a2).f3) == 0)) else (some false)) else (some false)) = some r:=H;have A84:=Aside0.mk A840;clear A840
               by_cases c85:t163 = true
               ·subst c85
                have H1:(if ((rd_T64 l1_3 a2).f1) = 0 then (some (((rd_T64 l1_3 a2).f3) == 0)) else (some false)) = some r:=by rw [if_pos rfl] at H;exact H
                clear H;have H:=H1;clear H1
                by_cases c86:((rd_T64 l1_3 a2).f1) = 0
                ·rw [if_pos c86] at H
                 have c86b0:(((rd_T64 l1_3 a2).f1) == 0) = true:=beq_iff_eq.mpr c86;have c86b1:(((rd_T64 l1_3 a2).f1) != 0) = false:=bne_eq_false_iff_eq.mpr c86;clear c86;obtain rfl:=Option.some.inj H;have hnb87:=NB156_153.out;have hnc87:=NB153_156.out;have hnb88:=NB156_154.out;have hnc88:=NB154_156.out;obtain ⟨hcz89_0,hcz89_1,hcz89_2,hcz89_3⟩:=kb4 BK156.out
                 go_wp2_with (first|((with_reducible refine gate_callee (f:=38) rfl ?_);refine goesL_ (some 95) rfl rfl Try.func38 (by kernel_rfl) rfl #[.string ((rd_T64 l1_3 a2).f2)] rfl gs ?_;(with_reducible refine (spec_l4Op.calls ((rd_T64 l1_3 a2).f2) true _ A84.out).mono ?_);rintro e w' ⟨rfl,⟨nd,rfl⟩⟩;refine ⟨_,rfl,?_⟩))
                 go_ret
                 exact ⟨cl,bl HB.out⟩
                ·rw [if_neg c86] at H
                 have c86b0:(((rd_T64 l1_3 a2).f1) == 0) = false:=beq_eq_false_iff_ne.mpr c86;have c86b1:(((rd_T64 l1_3 a2).f1) != 0) = true:=bne_iff_ne.mpr c86;obtain rfl:=Option.some.inj H;have hnb90:=NB156_153.out;have hnc90:=NB153_156.out;have hnb91:=NB156_154.out;have hnc91:=NB154_156.out;obtain ⟨hcz92_0,hcz92_1,hcz92_2,hcz92_3⟩:=kb4 BK156.out
                 go_wp2_with (first|((with_reducible refine gate_callee (f:=38) rfl ?_);refine goesL_ (some 95) rfl rfl Try.func38 (by kernel_rfl) rfl #[.string ((rd_T64 l1_3 a2).f2)] rfl gs ?_;(with_reducible refine (spec_l4Op.calls ((rd_T64 l1_3 a2).f2) true _ A84.out).mono ?_);rintro e w' ⟨rfl,⟨nd,rfl⟩⟩;refine ⟨_,rfl,?_⟩))
                 go_ret
                 exact ⟨cl,bl HB.out⟩
               ·replace c85:=Bool.eq_false_iff.mpr c85
                subst c85;have H1:(some false) = some r:=by rw [if_neg (show ¬ (false = true) by decide)] at H;exact H
                clear H;have H:=H1;clear H1;obtain rfl:=Option.some.inj H;have hnb93:=NB156_153.out;have hnc93:=NB153_156.out;have hnb94:=NB156_154.out;have hnc94:=NB154_156.out;obtain ⟨hcz95_0,hcz95_1,hcz95_2,hcz95_3⟩:=kb4 BK156.out
                go_wp2_with (first|((with_reducible refine gate_callee (f:=38) rfl ?_);refine goesL_ (some 95) rfl rfl Try.func38 (by kernel_rfl) rfl #[.string ((rd_T64 l1_3 a2).f2)] rfl gs ?_;(with_reducible refine (spec_l4Op.calls ((rd_T64 l1_3 a2).f2) false _ A84.out).mono ?_);rintro e w' ⟨rfl,⟨nd,rfl⟩⟩;refine ⟨_,rfl,?_⟩))
                go_ret
                exact ⟨cl,bl HB.out⟩
              ·rw [if_neg c83] at H
               have c83b0:(((rd_T64 l1_3 a2).f0) == 7) = false:=beq_eq_false_iff_ne.mpr c83;have c83b1:(((rd_T64 l1_3 a2).f0) != 7) = true:=bne_iff_ne.mpr c83
               by_cases c96:((rd_T64 l1_3 a2).f0) = 8
               ·rw [if_pos c96] at H
                have c96b0:(((rd_T64 l1_3 a2).f0) == 8) = true:=beq_iff_eq.mpr c96;have c96b1:(((rd_T64 l1_3 a2).f0) != 8) = false:=bne_eq_false_iff_eq.mpr c96;clear c96;replace H:=Option.bind_eq_some_iff.mp H;obtain ⟨t164,A970,H⟩:=H;replace H:(if t164 ≥ 0 then (if 0≤t164 then (if t164 < (l0_0.length:Int) then (if ((rd_T44 l0_0 t164).f1) = ((rd_T64 l1_3 a2).f1) then (some (((rd_T64 l1_3 a2).f3) == 0)) else (some false)) else (none)) else (none)) else (some false)) = some r:=H;have A97:=Aside0.mk A970;clear A970
                by_cases c98:t164 ≥ 0
                ·rw [if_pos c98] at H
                 have c98b0:decide (0≤t164) = true:=decide_eq_true c98;clear c98
                 by_cases c99:0≤t164
                 ·rw [if_pos c99] at H
                  have c99b0:decide (0≤t164) = true:=decide_eq_true c99;clear c99
                  by_cases c100:t164 < (l0_0.length:Int)
                  ·rw [if_pos c100] at H
                   have c100b0:decide (t164 < (l0_0.length:Int)) = true:=decide_eq_true c100;clear c100
                   by_cases c101:((rd_T44 l0_0 t164).f1) = ((rd_T64 l1_3 a2).f1)
                   ·rw [if_pos c101] at H
                    have c101b0:(((rd_T44 l0_0 t164).f1) == ((rd_T64 l1_3 a2).f1)) = true:=beq_iff_eq.mpr c101;have c101b1:(((rd_T44 l0_0 t164).f1) != ((rd_T64 l1_3 a2).f1)) = false:=bne_eq_false_iff_eq.mpr c101;clear c101;obtain rfl:=Option.some.inj H;have hnb102:=NB153_154.out;have hnc102:=NB154_153.out;have hnb103:=NB153_156.out;have hnc103:=NB156_153.out;obtain ⟨hcz104_0,hcz104_1⟩:=kb2 BK153.out;have hnb105:=NB156_154.out;have hnc105:=NB154_156.out;obtain ⟨hcz106_0,hcz106_1,hcz106_2,hcz106_3⟩:=kb4 BK156.out
                    try go_wp2_with (first|((with_reducible refine gate_callee (f:=21) rfl ?_);refine goesL_ (some 111) rfl rfl Try.func21 (by kernel_rfl) rfl #[.agg #[.slice A0_0 l0_0.length c0_0,.slice A0_1 l0_1.length c0_1],.string ((rd_T64 l1_3 a2).f2)] rfl gs ?_;(with_reducible refine (spec_l9FnAt.calls kj65 _ _ l0_0 _ _ l0_1 ((rd_T64 l1_3 a2).f2) t164 _ ?side1 ?side2 ?side3 ?side4 A97.out).mono ?_);(case side1=>exact ck (Kd.C_below HR0_0.out HB.out));(case side2=>exact HC0_0.out);(case side3=>exact ck (Kd.C_below HR0_1.out HB.out));(case side4=>exact HC0_1.out);rintro e w107 ⟨rfl,hb⟩;refine ⟨_,rfl,?_⟩;have n_:=ai (bw BK153 hb) <| ai (bw BK154 hb) <| ai (bw BK156 hb) <| bq HB hb;clear BK153 BK154 BK156 HB;obtain ⟨BK153,BK154,BK156,HB⟩:=n_;(try clear hb);(try clear hb2);(try clear hk);(try clear hi)))
                    have n_:=ai (dk BK153) <| ai (dk BK154) <| ai (dk BK156) <| dh HB;clear BK153 BK154 BK156 HB;obtain ⟨BK153,BK154,BK156,HB⟩:=n_;have p165:0≤(t164:Int):=od;have q165:t164 < (l0_0.length:Int):=od;obtain ⟨ad165,A165_3,c165_3,e165,hx165_0,hx165_1,hx165_2,hx165_3,hl165_3,hi165_3⟩:=at_T44 HR0_0.out t164 p165 q165;have hw165_3:=hx165_3;have hw165_2:=hx165_2;have hw165_1:=hx165_1;have hw165_0:=hx165_0;cases e165;replace hx165_0:=cb HB hx165_0;replace hx165_1:=cb HB hx165_1;replace hx165_2:=cb HB hx165_2;replace hx165_3:=cb HB hx165_3;have HR165_3:=Aside0.mk hi165_3;have HC165_3:=Aside0.mk hl165_3;clear hi165_3 hl165_3;replace p165:=eq_true p165;replace q165:=eq_true q165
                    refine start_ (n:=19) (S:=fun w'=>(w'.cell? ⟨gb153,0,none⟩ = some (.slice (some ad165) l0_0.length c0_0)∧w'.cell? ⟨gb153,1,none⟩ = some (.slice A0_1 l0_1.length c0_1))∧(w'.cell? ⟨gb156,0,none⟩ = some (.int .i64 ((rd_T64 l1_3 a2).f0))∧w'.cell? ⟨gb156,1,none⟩ = some (.int .i64 ((rd_T64 l1_3 a2).f1))∧w'.cell? ⟨gb156,2,none⟩ = some (.string ((rd_T64 l1_3 a2).f2))∧w'.cell? ⟨gb156,3,none⟩ = some (.int .i64 ((rd_T64 l1_3 a2).f3)))∧w'.cell? (ad165.add ((t164).toNat * 4)) = some (.string ((rd_T44 l0_0 t164).f0))∧w'.cell? ⟨(ad165.add ((t164).toNat * 4)).block,(ad165.add ((t164).toNat * 4)).off + 1,none⟩ = some (.int .i64 ((rd_T44 l0_0 t164).f1))∧w'.cell? ⟨(ad165.add ((t164).toNat * 4)).block,(ad165.add ((t164).toNat * 4)).off + 2,none⟩ = some (.int .i64 ((rd_T44 l0_0 t164).f2))∧w'.cell? ⟨(ad165.add ((t164).toNat * 4)).block,(ad165.add ((t164).toNat * 4)).off + 3,none⟩ = some (.slice A165_3 ((rd_T44 l0_0 t164).f3).length c165_3)) (ds:=[]) #[false,false,false,false,false,false,false,false,false,false,false,false,false,false,false,false,false,false,false] (by kernel_rfl) rfl rfl ⟨kb2 BK153.out,kb4 BK156.out,(cb HB hw165_0 :),(cb HB hw165_1 :),(cb HB hw165_2 :),(cb HB hw165_3 :)⟩ (fun hHeld=>?_);refine with_tabW spec_l9Ins.tab20 spec_l9Ins.bits20 (fun HT_ HW_=>?_)
                    generalize w107.drew = w108 at BK153 BK154 BK156 HB HR165_3 hx165_0 hx165_1 hx165_2 hx165_3 hHeld ⊢;refine pu 0 112 ?_;refine pu 1 113 ?_;refine pu 2 114 ?_;refine pu 3 115 ?_;refine pu 5 117 ?_;refine pu 9 121 ?_;refine ta 4 116 hHeld ?_;refine pu 6 118 ?_;refine pu 7 119 ?_;refine ta 8 120 hHeld ?_;refine ta 10 122 hHeld ?_;refine pu 11 123 ?_;refine pu 12 124 ?_;refine pu 13 125 ?_;refine pu 14 126 ?_;refine ta 15 127 hHeld ?_;refine pu 16 128 ?_;refine pu 17 129 ?_;refine pu 18 6 ?_
                    refine done_ (done_of HT_.out (by kernel_rfl)) ?_
                    try go_wp2
                    go_ret
                    exact ⟨cl,bl HB.out⟩
                   ·rw [if_neg c101] at H
                    have c101b0:(((rd_T44 l0_0 t164).f1) == ((rd_T64 l1_3 a2).f1)) = false:=beq_eq_false_iff_ne.mpr c101;have c101b1:(((rd_T44 l0_0 t164).f1) != ((rd_T64 l1_3 a2).f1)) = true:=bne_iff_ne.mpr c101;obtain rfl:=Option.some.inj H;have hnb109:=NB153_154.out;have hnc109:=NB154_153.out;have hnb110:=NB153_156.out;have hnc110:=NB156_153.out;obtain ⟨hcz111_0,hcz111_1⟩:=kb2 BK153.out;have hnb112:=NB156_154.out;have hnc112:=NB154_156.out;obtain ⟨hcz113_0,hcz113_1,hcz113_2,hcz113_3⟩:=kb4 BK156.out
                    try go_wp2_with (first|((with_reducible refine gate_callee (f:=21) rfl ?_);refine goesL_ (some 111) rfl rfl Try.func21 (by kernel_rfl) rfl #[.agg #[.slice A0_0 l0_0.length c0_0,.slice A0_1 l0_1.length c0_1],.string ((rd_T64 l1_3 a2).f2)] rfl gs ?_;(with_reducible refine (spec_l9FnAt.calls kj65 _ _ l0_0 _ _ l0_1 ((rd_T64 l1_3 a2).f2) t164 _ ?side1 ?side2 ?side3 ?side4 A97.out).mono ?_);(case side1=>exact ck (Kd.C_below HR0_0.out HB.out));(case side2=>exact HC0_0.out);(case side3=>exact ck (Kd.C_below HR0_1.out HB.out));(case side4=>exact HC0_1.out);rintro e w114 ⟨rfl,hb⟩;refine ⟨_,rfl,?_⟩;have n_:=ai (bw BK153 hb) <| ai (bw BK154 hb) <| ai (bw BK156 hb) <| bq HB hb;clear BK153 BK154 BK156 HB;obtain ⟨BK153,BK154,BK156,HB⟩:=n_;(try clear hb);(try clear hb2);(try clear hk);(try clear hi)))
                    have n_:=ai (dk BK153) <| ai (dk BK154) <| ai (dk BK156) <| dh HB;clear BK153 BK154 BK156 HB;obtain ⟨BK153,BK154,BK156,HB⟩:=n_;have p165:0≤(t164:Int):=od;have q165:t164 < (l0_0.length:Int):=od;obtain ⟨ad165,A165_3,c165_3,e165,hx165_0,hx165_1,hx165_2,hx165_3,hl165_3,hi165_3⟩:=at_T44 HR0_0.out t164 p165 q165;have hw165_3:=hx165_3;have hw165_2:=hx165_2;have hw165_1:=hx165_1;have hw165_0:=hx165_0;cases e165;replace hx165_0:=cb HB hx165_0;replace hx165_1:=cb HB hx165_1;replace hx165_2:=cb HB hx165_2;replace hx165_3:=cb HB hx165_3;have HR165_3:=Aside0.mk hi165_3;have HC165_3:=Aside0.mk hl165_3;clear hi165_3 hl165_3;replace p165:=eq_true p165;replace q165:=eq_true q165
                    refine start_ (n:=19) (S:=fun w'=>(w'.cell? ⟨gb153,0,none⟩ = some (.slice (some ad165) l0_0.length c0_0)∧w'.cell? ⟨gb153,1,none⟩ = some (.slice A0_1 l0_1.length c0_1))∧(w'.cell? ⟨gb156,0,none⟩ = some (.int .i64 ((rd_T64 l1_3 a2).f0))∧w'.cell? ⟨gb156,1,none⟩ = some (.int .i64 ((rd_T64 l1_3 a2).f1))∧w'.cell? ⟨gb156,2,none⟩ = some (.string ((rd_T64 l1_3 a2).f2))∧w'.cell? ⟨gb156,3,none⟩ = some (.int .i64 ((rd_T64 l1_3 a2).f3)))∧w'.cell? (ad165.add ((t164).toNat * 4)) = some (.string ((rd_T44 l0_0 t164).f0))∧w'.cell? ⟨(ad165.add ((t164).toNat * 4)).block,(ad165.add ((t164).toNat * 4)).off + 1,none⟩ = some (.int .i64 ((rd_T44 l0_0 t164).f1))∧w'.cell? ⟨(ad165.add ((t164).toNat * 4)).block,(ad165.add ((t164).toNat * 4)).off + 2,none⟩ = some (.int .i64 ((rd_T44 l0_0 t164).f2))∧w'.cell? ⟨(ad165.add ((t164).toNat * 4)).block,(ad165.add ((t164).toNat * 4)).off + 3,none⟩ = some (.slice A165_3 ((rd_T44 l0_0 t164).f3).length c165_3)) (ds:=[]) #[false,false,false,false,false,false,false,false,false,false,false,false,false,false,false,false,false,false,false] (by kernel_rfl) rfl rfl ⟨kb2 BK153.out,kb4 BK156.out,(cb HB hw165_0 :),(cb HB hw165_1 :),(cb HB hw165_2 :),(cb HB hw165_3 :)⟩ (fun hHeld=>?_);refine with_tabW spec_l9Ins.tab20 spec_l9Ins.bits20 (fun HT_ HW_=>?_)
                    generalize w114.drew = w115 at BK153 BK154 BK156 HB HR165_3 hx165_0 hx165_1 hx165_2 hx165_3 hHeld ⊢;refine pu 0 112 ?_;refine pu 1 113 ?_;refine pu 2 114 ?_;refine pu 3 115 ?_;refine pu 5 117 ?_;refine pu 9 121 ?_;refine ta 4 116 hHeld ?_;refine pu 6 118 ?_;refine pu 7 119 ?_;refine ta 8 120 hHeld ?_;refine ta 10 122 hHeld ?_;refine pu 11 123 ?_;refine pu 12 124 ?_;refine pu 13 125 ?_;refine pu 14 126 ?_;refine pu 15 127 ?_;refine pu 16 128 ?_;refine pu 17 129 ?_;refine pu 18 6 ?_
                    refine done_ (done_of HT_.out (by kernel_rfl)) ?_
                    try go_wp2
                    go_ret
                    exact ⟨cl,bl HB.out⟩
                  ·rw [if_neg c100] at H
                   exact absurd H (by simp)
                 ·rw [if_neg c99] at H
                  exact absurd H (by simp)
                ·rw [if_neg c98] at H
                 have c98b0:decide (0≤t164) = false:=decide_eq_false c98;clear c98;obtain rfl:=Option.some.inj H;have hnb116:=NB153_154.out;have hnc116:=NB154_153.out;have hnb117:=NB153_156.out;have hnc117:=NB156_153.out;obtain ⟨hcz118_0,hcz118_1⟩:=kb2 BK153.out;have hnb119:=NB156_154.out;have hnc119:=NB154_156.out;obtain ⟨hcz120_0,hcz120_1,hcz120_2,hcz120_3⟩:=kb4 BK156.out
                 try go_wp2_with (first|((with_reducible refine gate_callee (f:=21) rfl ?_);refine goesL_ (some 111) rfl rfl Try.func21 (by kernel_rfl) rfl #[.agg #[.slice A0_0 l0_0.length c0_0,.slice A0_1 l0_1.length c0_1],.string ((rd_T64 l1_3 a2).f2)] rfl gs ?_;(with_reducible refine (spec_l9FnAt.calls kj65 _ _ l0_0 _ _ l0_1 ((rd_T64 l1_3 a2).f2) t164 _ ?side1 ?side2 ?side3 ?side4 A97.out).mono ?_);(case side1=>exact ck (Kd.C_below HR0_0.out HB.out));(case side2=>exact HC0_0.out);(case side3=>exact ck (Kd.C_below HR0_1.out HB.out));(case side4=>exact HC0_1.out);rintro e w121 ⟨rfl,hb⟩;refine ⟨_,rfl,?_⟩;have n_:=ai (bw BK153 hb) <| ai (bw BK154 hb) <| ai (bw BK156 hb) <| bq HB hb;clear BK153 BK154 BK156 HB;obtain ⟨BK153,BK154,BK156,HB⟩:=n_;(try clear hb);(try clear hb2);(try clear hk);(try clear hi)))
                 have n_:=ai (dk BK153) <| ai (dk BK154) <| ai (dk BK156) <| dh HB;clear BK153 BK154 BK156 HB;obtain ⟨BK153,BK154,BK156,HB⟩:=n_
                 refine start_ (n:=19) (S:=fun w'=>True) (ds:=[]) #[false,false,false,false,false,false,false,false,false,false,false,false,false,false,false,false,false,false,false] (by kernel_rfl) rfl rfl trivial (fun hHeld=>?_);refine with_tabW spec_l9Ins.tab20 spec_l9Ins.bits20 (fun HT_ HW_=>?_)
                 generalize w121.drew = w122 at BK153 BK154 BK156 HB hHeld ⊢;refine pu 0 112 ?_;refine pu 1 113 ?_;refine pu 2 114 ?_;refine pu 3 115 ?_;refine pu 4 116 ?_;refine pu 5 117 ?_;refine pu 6 118 ?_;refine pu 7 119 ?_;refine pu 8 120 ?_;refine pu 9 121 ?_;refine pu 10 122 ?_;refine pu 11 123 ?_;refine pu 12 124 ?_;refine pu 13 125 ?_;refine pu 14 126 ?_;refine pu 15 127 ?_;refine pu 16 128 ?_;refine pu 17 129 ?_;refine pu 18 6 ?_
                 refine done_ (done_of HT_.out (by kernel_rfl)) ?_
                 try go_wp2
                 go_ret
                 exact ⟨cl,bl HB.out⟩
               ·rw [if_neg c96] at H
                have c96b0:(((rd_T64 l1_3 a2).f0) == 8) = false:=beq_eq_false_iff_ne.mpr c96;have c96b1:(((rd_T64 l1_3 a2).f0) != 8) = true:=bne_iff_ne.mpr c96
                by_cases c123:((rd_T64 l1_3 a2).f0) = 9
                ·rw [if_pos c123] at H
                 have c123b0:(((rd_T64 l1_3 a2).f0) == 9) = true:=beq_iff_eq.mpr c123;have c123b1:(((rd_T64 l1_3 a2).f0) != 9) = false:=bne_eq_false_iff_eq.mpr c123;clear c123
                 by_cases c124:x9_21 = true
                 ·subst c124
                  have H1:((spec_l1In.f ((rd_T64 l1_3 a2).f1) 0 (wrap64 ((l0_1.length:Int) - 1))).bind fun t166=>(if t166 = true then (if 0≤((rd_T64 l1_3 a2).f1) then (if ((rd_T64 l1_3 a2).f1) < (l0_1.length:Int) then ((spec_PatFits.f kj65 ((rd_T67 l0_1 ((rd_T64 l1_3 a2).f1)).f0) ((rd_T67 l0_1 ((rd_T64 l1_3 a2).f1)).f1) ((rd_T67 l0_1 ((rd_T64 l1_3 a2).f1)).f2) ((rd_T67 l0_1 ((rd_T64 l1_3 a2).f1)).f3) a1_2).bind fun t168=>(some t168)) else (none)) else (none)) else (some false))) = some r:=by rw [if_pos rfl] at H;exact H
                  clear H;have H:=H1;clear H1;replace H:=Option.bind_eq_some_iff.mp H;obtain ⟨t166,A1250,H⟩:=H;replace H:(if t166 = true then (if 0≤((rd_T64 l1_3 a2).f1) then (if ((rd_T64 l1_3 a2).f1) < (l0_1.length:Int) then ((spec_PatFits.f kj65 ((rd_T67 l0_1 ((rd_T64 l1_3 a2).f1)).f0) ((rd_T67 l0_1 ((rd_T64 l1_3 a2).f1)).f1) ((rd_T67 l0_1 ((rd_T64 l1_3 a2).f1)).f2) ((rd_T67 l0_1 ((rd_T64 l1_3 a2).f1)).f3) a1_2).bind fun t168=>(some t168)) else (none)) else (none)) else (some false)) = some r:=H;have A125:=Aside0.mk A1250;clear A1250
                  by_cases c126:t166 = true
                  ·subst c126
                   have H1:(if 0≤((rd_T64 l1_3 a2).f1) then (if ((rd_T64 l1_3 a2).f1) < (l0_1.length:Int) then ((spec_PatFits.f kj65 ((rd_T67 l0_1 ((rd_T64 l1_3 a2).f1)).f0) ((rd_T67 l0_1 ((rd_T64 l1_3 a2).f1)).f1) ((rd_T67 l0_1 ((rd_T64 l1_3 a2).f1)).f2) ((rd_T67 l0_1 ((rd_T64 l1_3 a2).f1)).f3) a1_2).bind fun t168=>(some t168)) else (none)) else (none)) = some r:=by rw [if_pos rfl] at H;exact H
                   clear H;have H:=H1;clear H1
                   by_cases c127:0≤((rd_T64 l1_3 a2).f1)
                   ·rw [if_pos c127] at H
                    have c127b0:decide (0≤((rd_T64 l1_3 a2).f1)) = true:=decide_eq_true c127;clear c127
                    by_cases c128:((rd_T64 l1_3 a2).f1) < (l0_1.length:Int)
                    ·rw [if_pos c128] at H
                     have c128b0:decide (((rd_T64 l1_3 a2).f1) < (l0_1.length:Int)) = true:=decide_eq_true c128;clear c128;replace H:=Option.bind_eq_some_iff.mp H;obtain ⟨t168,A1290,H⟩:=H;replace H:(some t168) = some r:=H;have A129:=Aside0.mk A1290;clear A1290;obtain rfl:=Option.some.inj H
                     try go_wp2
                     have n_:=ai (dk BK153) <| ai (dk BK154) <| ai (dk BK156) <| dh HB;clear BK153 BK154 BK156 HB;obtain ⟨BK153,BK154,BK156,HB⟩:=n_;have p167:0≤(((rd_T64 l1_3 a2).f1):Int):=od;have q167:((rd_T64 l1_3 a2).f1) < (l0_1.length:Int):=od;obtain ⟨ad167,A167_3,c167_3,e167,hx167_0,hx167_1,hx167_2,hx167_3,hl167_3,hi167_3⟩:=at_T67 HR0_1.out ((rd_T64 l1_3 a2).f1) p167 q167;have hw167_3:=hx167_3;have hw167_2:=hx167_2;have hw167_1:=hx167_1;have hw167_0:=hx167_0;cases e167;replace hx167_0:=cb HB hx167_0;replace hx167_1:=cb HB hx167_1;replace hx167_2:=cb HB hx167_2;replace hx167_3:=cb HB hx167_3;have HR167_3:=Aside0.mk hi167_3;have HC167_3:=Aside0.mk hl167_3;clear hi167_3 hl167_3;replace p167:=eq_true p167;replace q167:=eq_true q167
                     refine start_ (n:=22) (S:=fun w'=>(w'.cell? ⟨gb156,0,none⟩ = some (.int .i64 ((rd_T64 l1_3 a2).f0))∧w'.cell? ⟨gb156,1,none⟩ = some (.int .i64 ((rd_T64 l1_3 a2).f1))∧w'.cell? ⟨gb156,2,none⟩ = some (.string ((rd_T64 l1_3 a2).f2))∧w'.cell? ⟨gb156,3,none⟩ = some (.int .i64 ((rd_T64 l1_3 a2).f3)))∧(w'.cell? ⟨gb153,0,none⟩ = some (.slice A0_0 l0_0.length c0_0)∧w'.cell? ⟨gb153,1,none⟩ = some (.slice (some ad167) l0_1.length c0_1))∧(w'.cell? ⟨gb154,0,none⟩ = some (.string a1_0)∧w'.cell? ⟨gb154,1,none⟩ = some (.int .i64 a1_1)∧w'.cell? ⟨gb154,2,none⟩ = some (.int .i64 a1_2)∧w'.cell? ⟨gb154,3,none⟩ = some (.slice (some ad155) l1_3.length c1_3))∧w'.cell? (ad167.add ((((rd_T64 l1_3 a2).f1)).toNat * 4)) = some (.int .i64 ((rd_T67 l0_1 ((rd_T64 l1_3 a2).f1)).f0))∧w'.cell? ⟨(ad167.add ((((rd_T64 l1_3 a2).f1)).toNat * 4)).block,(ad167.add ((((rd_T64 l1_3 a2).f1)).toNat * 4)).off + 1,none⟩ = some (.int .i64 ((rd_T67 l0_1 ((rd_T64 l1_3 a2).f1)).f1))∧w'.cell? ⟨(ad167.add ((((rd_T64 l1_3 a2).f1)).toNat * 4)).block,(ad167.add ((((rd_T64 l1_3 a2).f1)).toNat * 4)).off + 2,none⟩ = some (.string ((rd_T67 l0_1 ((rd_T64 l1_3 a2).f1)).f2))∧w'.cell? ⟨(ad167.add ((((rd_T64 l1_3 a2).f1)).toNat * 4)).block,(ad167.add ((((rd_T64 l1_3 a2).f1)).toNat * 4)).off + 3,none⟩ = some (.slice A167_3 ((rd_T67 l0_1 ((rd_T64 l1_3 a2).f1)).f3).length c167_3)) (ds:=[]) #[false,false,false,false,false,false,false,false,false,false,false,false,false,false,false,false,false,false,false,false,false,false] (by kernel_rfl) rfl rfl ⟨kb4 BK156.out,kb2 BK153.out,kb4 BK154.out,(cb HB hw167_0 :),(cb HB hw167_1 :),(cb HB hw167_2 :),(cb HB hw167_3 :)⟩ (fun hHeld=>?_);refine with_tabW spec_l9Ins.tab22 spec_l9Ins.bits22 (fun HT_ HW_=>?_)
                     generalize wc.drew = w130 at BK153 BK154 BK156 HB HR167_3 hx167_0 hx167_1 hx167_2 hx167_3 hHeld ⊢;refine pu 0 132 ?_;refine pu 1 133 ?_;refine pu 2 134 ?_;refine pu 4 136 ?_;refine ta 3 135 hHeld ?_;refine ta 5 137 hHeld ?_;refine pu 6 138 ?_;refine pu 7 139 ?_
                     refine one_ (i:=8) (N:=some 140) #[true,true,true,true,true,true,true,true,true,false,false,false,false,false,false,false,false,false,false,false,false,false] rfl rfl (one_of HT_.out (by kernel_rfl)) (by decide) (fun K hK=>?_)
                     refine goes_ Try.func22 (by kernel_rfl) rfl #[.int .i64 ((rd_T64 l1_3 a2).f1),.int .i64 0,.int .i64 (wrap64 ((l0_1.length:Int) - 1))] (by rfl) rfl rfl gs ?_
                     with_reducible refine (spec_l1In.calls ((rd_T64 l1_3 a2).f1) 0 (wrap64 ((l0_1.length:Int) - 1)) true _ A125.out).mono ?_
                     rintro e w' ⟨rfl,⟨nd,rfl⟩⟩
                     refine ⟨_,rfl,?_⟩
                     refine hK.out _ _ ⟨kb4 BK156.out,kb2 BK153.out,kb4 BK154.out,(cb HB hw167_0 :),(cb HB hw167_1 :),(cb HB hw167_2 :),(cb HB hw167_3 :)⟩ (fun hHeld=>?_)
                     clear hK K
                     refine norm_ (a':=?_) ?_ ?_
                     rotate_left
                     ·show Act.put _ (some 140) _ = _
                      simp only [Act.put,List.setIfInBounds_toArray,List.set_cons_zero,List.set_cons_succ,i64_w,i32_w]
                      rfl
                     refine pu 9 141 ?_;refine pu 10 142 ?_;refine pu 11 143 ?_;refine pu 13 145 ?_;refine pu 17 149 ?_;refine ta 12 144 hHeld ?_;refine ta 14 146 hHeld ?_;refine pu 15 147 ?_;refine ta 16 148 hHeld ?_;refine ta 18 150 hHeld ?_
                     refine one_ (i:=19) (N:=some 151) #[true,true,true,true,true,true,true,true,true,true,true,true,true,true,true,true,true,true,true,true,false,false] rfl rfl (one_of HT_.out (by kernel_rfl)) (by decide) (fun K hK=>?_)
                     refine goes_ Try.func39 (by kernel_rfl) rfl #[.agg #[.int .i64 ((rd_T67 l0_1 ((rd_T64 l1_3 a2).f1)).f0),.int .i64 ((rd_T67 l0_1 ((rd_T64 l1_3 a2).f1)).f1),.string ((rd_T67 l0_1 ((rd_T64 l1_3 a2).f1)).f2),.slice A167_3 ((rd_T67 l0_1 ((rd_T64 l1_3 a2).f1)).f3).length c167_3],.int .i64 a1_2] (by rfl) rfl rfl gs ?_
                     with_reducible refine (spec_PatFits.calls kj65 ((rd_T67 l0_1 ((rd_T64 l1_3 a2).f1)).f0) ((rd_T67 l0_1 ((rd_T64 l1_3 a2).f1)).f1) ((rd_T67 l0_1 ((rd_T64 l1_3 a2).f1)).f2) _ _ ((rd_T67 l0_1 ((rd_T64 l1_3 a2).f1)).f3) a1_2 t168 _ ?side1 ?side2 A129.out).mono ?_
                     (case side1=>repeat (first|exact (Kd.C_below HR167_3.out (bl HB.out))|(with_reducible refine Kd.C_alloc ?_ _)|(with_reducible refine Kd.C_drewN ?_ _)|(with_reducible refine Kd.C_drew ?_)))
                     (case side2=>exact HC167_3.out)
                     rintro e w131 ⟨rfl,hb⟩
                     refine ⟨_,rfl,?_⟩
                     have n_:=ai (bw BK153 hb) <| ai (bw BK154 hb) <| ai (bw BK156 hb) <| bq HB hb;clear BK153 BK154 BK156 HB;obtain ⟨BK153,BK154,BK156,HB⟩:=n_;(try clear hb);(try clear hb2);(try clear hk);(try clear hi)
                     refine hK.out _ _ ⟨kb4 BK156.out,kb2 BK153.out,kb4 BK154.out,(cb HB hw167_0 :),(cb HB hw167_1 :),(cb HB hw167_2 :),(cb HB hw167_3 :)⟩ (fun hHeld=>?_)
                     clear hK K
                     refine norm_ (a':=?_) ?_ ?_
                     rotate_left
                     ·show Act.put _ (some 151) _ = _
                      simp only [Act.put,List.setIfInBounds_toArray,List.set_cons_zero,List.set_cons_succ,i64_w,i32_w]
                      rfl
                     refine pu 20 152 ?_;refine pu 21 6 ?_
                     refine done_ (done_of HT_.out (by kernel_rfl)) ?_
                     try go_wp2
                     go_ret
                     exact ⟨cl,bl HB.out⟩
                    ·rw [if_neg c128] at H
                     exact absurd H (by simp)
                   ·rw [if_neg c127] at H
                    exact absurd H (by simp)
                  ·replace c126:=Bool.eq_false_iff.mpr c126
                   subst c126;have H1:(some false) = some r:=by rw [if_neg (show ¬ (false = true) by decide)] at H;exact H
                   clear H;have H:=H1;clear H1;obtain rfl:=Option.some.inj H
                   try go_wp2
                   have n_:=ai (dk BK153) <| ai (dk BK154) <| ai (dk BK156) <| dh HB;clear BK153 BK154 BK156 HB;obtain ⟨BK153,BK154,BK156,HB⟩:=n_
                   refine start_ (n:=22) (S:=fun w'=>(w'.cell? ⟨gb156,0,none⟩ = some (.int .i64 ((rd_T64 l1_3 a2).f0))∧w'.cell? ⟨gb156,1,none⟩ = some (.int .i64 ((rd_T64 l1_3 a2).f1))∧w'.cell? ⟨gb156,2,none⟩ = some (.string ((rd_T64 l1_3 a2).f2))∧w'.cell? ⟨gb156,3,none⟩ = some (.int .i64 ((rd_T64 l1_3 a2).f3)))∧(w'.cell? ⟨gb153,0,none⟩ = some (.slice A0_0 l0_0.length c0_0)∧w'.cell? ⟨gb153,1,none⟩ = some (.slice A0_1 l0_1.length c0_1))) (ds:=[]) #[false,false,false,false,false,false,false,false,false,false,false,false,false,false,false,false,false,false,false,false,false,false] (by kernel_rfl) rfl rfl ⟨kb4 BK156.out,kb2 BK153.out⟩ (fun hHeld=>?_);refine with_tabW spec_l9Ins.tab22 spec_l9Ins.bits22 (fun HT_ HW_=>?_)
                   generalize wc.drew = w132 at BK153 BK154 BK156 HB hHeld ⊢;refine pu 0 132 ?_;refine pu 1 133 ?_;refine pu 2 134 ?_;refine pu 4 136 ?_;refine ta 3 135 hHeld ?_;refine ta 5 137 hHeld ?_;refine pu 6 138 ?_;refine pu 7 139 ?_
                   refine one_ (i:=8) (N:=some 140) #[true,true,true,true,true,true,true,true,true,false,false,false,false,false,false,false,false,false,false,false,false,false] rfl rfl (one_of HT_.out (by kernel_rfl)) (by decide) (fun K hK=>?_)
                   refine goes_ Try.func22 (by kernel_rfl) rfl #[.int .i64 ((rd_T64 l1_3 a2).f1),.int .i64 0,.int .i64 (wrap64 ((l0_1.length:Int) - 1))] (by rfl) rfl rfl gs ?_
                   with_reducible refine (spec_l1In.calls ((rd_T64 l1_3 a2).f1) 0 (wrap64 ((l0_1.length:Int) - 1)) false _ A125.out).mono ?_
                   rintro e w' ⟨rfl,⟨nd,rfl⟩⟩
                   refine ⟨_,rfl,?_⟩
                   refine hK.out _ _ ⟨kb4 BK156.out,kb2 BK153.out⟩ (fun hHeld=>?_)
                   clear hK K
                   refine norm_ (a':=?_) ?_ ?_
                   rotate_left
                   ·show Act.put _ (some 140) _ = _
                    simp only [Act.put,List.setIfInBounds_toArray,List.set_cons_zero,List.set_cons_succ,i64_w,i32_w]
                    rfl
                   refine pu 9 141 ?_;refine pu 10 142 ?_;refine pu 11 143 ?_;refine pu 12 144 ?_;refine pu 13 145 ?_;refine pu 14 146 ?_;refine pu 15 147 ?_;refine pu 16 148 ?_;refine pu 17 149 ?_;refine pu 18 150 ?_;refine pu 19 151 ?_;refine pu 20 152 ?_;refine pu 21 6 ?_
                   refine done_ (done_of HT_.out (by kernel_rfl)) ?_
                   try go_wp2
                   go_ret
                   exact ⟨cl,bl HB.out⟩
                 ·replace c124:=Bool.eq_false_iff.mpr c124
                  subst c124;have H1:(some false) = some r:=by rw [if_neg (show ¬ (false = true) by decide)] at H;exact H
                  clear H;have H:=H1;clear H1;obtain rfl:=Option.some.inj H
                  try go_wp2
                  have n_:=ai (dk BK153) <| ai (dk BK154) <| ai (dk BK156) <| dh HB;clear BK153 BK154 BK156 HB;obtain ⟨BK153,BK154,BK156,HB⟩:=n_
                  refine start_ (n:=22) (S:=fun w'=>True) (ds:=[]) #[false,false,false,false,false,false,false,false,false,false,false,false,false,false,false,false,false,false,false,false,false,false] (by kernel_rfl) rfl rfl trivial (fun hHeld=>?_);refine with_tabW spec_l9Ins.tab22 spec_l9Ins.bits22 (fun HT_ HW_=>?_)
                  generalize wc.drew = w133 at BK153 BK154 BK156 HB hHeld ⊢;refine pu 0 132 ?_;refine pu 1 133 ?_;refine pu 2 134 ?_;refine pu 3 135 ?_;refine pu 4 136 ?_;refine pu 5 137 ?_;refine pu 6 138 ?_;refine pu 7 139 ?_;refine pu 8 140 ?_;refine pu 9 141 ?_;refine pu 10 142 ?_;refine pu 11 143 ?_;refine pu 12 144 ?_;refine pu 13 145 ?_;refine pu 14 146 ?_;refine pu 15 147 ?_;refine pu 16 148 ?_;refine pu 17 149 ?_;refine pu 18 150 ?_;refine pu 19 151 ?_;refine pu 20 152 ?_;refine pu 21 6 ?_
                  refine done_ (done_of HT_.out (by kernel_rfl)) ?_
                  try go_wp2
                  go_ret
                  exact ⟨cl,bl HB.out⟩
                ·rw [if_neg c123] at H
                 have c123b0:(((rd_T64 l1_3 a2).f0) == 9) = false:=beq_eq_false_iff_ne.mpr c123;have c123b1:(((rd_T64 l1_3 a2).f0) != 9) = true:=bne_iff_ne.mpr c123
                 by_cases c134:((rd_T64 l1_3 a2).f0) = 10
                 ·rw [if_pos c134] at H
                  have c134b0:(((rd_T64 l1_3 a2).f0) == 10) = true:=beq_iff_eq.mpr c134;have c134b1:(((rd_T64 l1_3 a2).f0) != 10) = false:=bne_eq_false_iff_eq.mpr c134;clear c134
                  by_cases c135:x9_21 = true
                  ·subst c135
                   have H1:(some (((rd_T64 l1_3 a2).f1) == 0)) = some r:=by rw [if_pos rfl] at H;exact H
                   clear H;have H:=H1;clear H1;obtain rfl:=Option.some.inj H;have hnb136:=NB156_153.out;have hnc136:=NB153_156.out;have hnb137:=NB156_154.out;have hnc137:=NB154_156.out;obtain ⟨hcz138_0,hcz138_1,hcz138_2,hcz138_3⟩:=kb4 BK156.out
                   go_wp2
                   go_ret
                   exact ⟨cl,bl HB.out⟩
                  ·replace c135:=Bool.eq_false_iff.mpr c135
                   subst c135;have H1:(some false) = some r:=by rw [if_neg (show ¬ (false = true) by decide)] at H;exact H
                   clear H;have H:=H1;clear H1;obtain rfl:=Option.some.inj H
                   go_wp2
                   go_ret
                   exact ⟨cl,bl HB.out⟩
                 ·rw [if_neg c134] at H
                  have c134b0:(((rd_T64 l1_3 a2).f0) == 10) = false:=beq_eq_false_iff_ne.mpr c134;have c134b1:(((rd_T64 l1_3 a2).f0) != 10) = true:=bne_iff_ne.mpr c134
                  by_cases c139:x8_5 = true
                  ·subst c139
                   have H1:(if ((rd_T64 l1_3 a2).f1) = 0 then ((spec_l1In.f ((rd_T64 l1_3 a2).f0) 11 12).bind fun t169=>(some t169)) else (some false)) = some r:=by rw [if_pos rfl] at H;exact H
                   clear H;have H:=H1;clear H1
                   by_cases c140:((rd_T64 l1_3 a2).f1) = 0
                   ·rw [if_pos c140] at H
                    have c140b0:(((rd_T64 l1_3 a2).f1) == 0) = true:=beq_iff_eq.mpr c140;have c140b1:(((rd_T64 l1_3 a2).f1) != 0) = false:=bne_eq_false_iff_eq.mpr c140;clear c140;replace H:=Option.bind_eq_some_iff.mp H;obtain ⟨t169,A1410,H⟩:=H;replace H:(some t169) = some r:=H;have A141:=Aside0.mk A1410;clear A1410;obtain rfl:=Option.some.inj H;have hnb142:=NB156_153.out;have hnc142:=NB153_156.out;have hnb143:=NB156_154.out;have hnc143:=NB154_156.out;obtain ⟨hcz144_0,hcz144_1,hcz144_2,hcz144_3⟩:=kb4 BK156.out
                    go_wp2_with (first|(go_at_call 22;(with_reducible refine (spec_l1In.calls ((rd_T64 l1_3 a2).f0) 11 12 t169 _ A141.out).mono ?_);rintro e w' ⟨rfl,⟨nd,rfl⟩⟩))
                    go_ret
                    exact ⟨cl,bl HB.out⟩
                   ·rw [if_neg c140] at H
                    have c140b0:(((rd_T64 l1_3 a2).f1) == 0) = false:=beq_eq_false_iff_ne.mpr c140;have c140b1:(((rd_T64 l1_3 a2).f1) != 0) = true:=bne_iff_ne.mpr c140;obtain rfl:=Option.some.inj H;have hnb145:=NB156_153.out;have hnc145:=NB153_156.out;have hnb146:=NB156_154.out;have hnc146:=NB154_156.out;obtain ⟨hcz147_0,hcz147_1,hcz147_2,hcz147_3⟩:=kb4 BK156.out
                    go_wp2
                    go_ret
                    exact ⟨cl,bl HB.out⟩
                  ·replace c139:=Bool.eq_false_iff.mpr c139
                   subst c139;have H1:(some false) = some r:=by rw [if_neg (show ¬ (false = true) by decide)] at H;exact H
                   clear H;have H:=H1;clear H1;obtain rfl:=Option.some.inj H
                   go_wp2
                   go_ret
                   exact ⟨cl,bl HB.out⟩
  ·rw [if_neg c5] at H
   exact absurd H (by simp)
 ·rw [if_neg c4] at H
  exact absurd H (by simp)

end Go.Proofs.Ytghhbdmjafedbaa.QFnExactCodeOk
