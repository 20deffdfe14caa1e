-- Written by a program of this workplace (print2.py) for this claim, over the print's words.
import Derived.Test.YtghhbdmjafedbaaQFnExactCodeOkx0
namespace Go.Proofs.Ytghhbdmjafedbaa.QFnExactCodeOk
open Go.RowKit Go.Proofs.YtghhbdmjafedbaaW.PrintWords Go.Proofs.YtghhbdmjafedbaaW.PrintLast Go.Proofs.YtghhbdmjafedbaaW.PrintMore
attribute [local go_sem] max2_int min2_int max_two min_two max_three min_three max_four min_four   -- for this text's walks alone
set_option linter.unusedVariables false
set_option linter.unusedSimpArgs false

/-! ### laws_szIns: function 49 -/
def laws_szIns.f (a0_0:Int) (a0_1:Int) (a0_2:ByteArray) (a0_3:Int) (a1:Int):Option (Int):=if (wrap64 (a1 - (a0_2.size:Int))) < 0 then (some (-1)) else (some (wrap64 (a1 - (a0_2.size:Int))))
set_option maxHeartbeats 8000000 in
set_option maxRecDepth 100000 in
theorem laws_szIns.calls (a0_0:Int) (a0_1:Int) (a0_2:ByteArray) (a0_3:Int) (a1:Int) (r:Int) (w:World) (h:laws_szIns.f a0_0 a0_1 a0_2 a0_3 a1 = some r) :
  Calls Try.prog 49 #[.agg #[.int .i64 a0_0,.int .i64 a0_1,.string a0_2,.int .i64 a0_3],.int .i64 a1] w fun e w'=>e = .returned (.int .i64 r)∧Below w.heap.size w w':=by
 have hu87:=Try.underlying87;have HB:=Aside0.mk (Below.refl w.heap.size w);have H:(if (wrap64 (a1 - (a0_2.size:Int))) < 0 then (some (-1)) else (some (wrap64 (a1 - (a0_2.size:Int))))) = some r:=h;clear h
 by_cases c3:(wrap64 (a1 - (a0_2.size:Int))) < 0
 ·rw [if_pos c3] at H
  have c3b0:decide ((wrap64 (a1 - (a0_2.size:Int))) < 0) = true:=decide_eq_true c3;clear c3;obtain rfl:=Option.some.inj H
  go_enter Try.func49,Try.ntmps49
  go_wp2_with (first|((with_reducible refine gate_dst (N:=2) rfl ?_);refine box_event ?hg (N:=2) ?hd (cs:=#[.int .i64 a0_0,.int .i64 a0_1,.string a0_2,.int .i64 a0_3]) (t:=87) ?hr ?_;(case hd=>rfl);(case hg=>rfl);(case hr=>first|(go_simp;done)|(go_simp;rfl));intro gb101 hg w4 hbox hb;have n_:=ai (bq HB hb) <| ai (Aside0.mk (hbox)) <| ai (bz hg HB) <| bz hg HB;clear HB;obtain ⟨HB,BK101,GW101,GE101⟩:=n_;clear hb hbox hg;obtain ⟨hcz5_0,hcz5_1,hcz5_2,hcz5_3⟩:=kb4 BK101.out;obtain ⟨hfz5_0,hfz5_1,hfz5_2,hfz5_3⟩:=kz4 BK101.out))
  go_ret
  exact ⟨cl,bl HB.out⟩
 ·rw [if_neg c3] at H
  have c3b0:decide ((wrap64 (a1 - (a0_2.size:Int))) < 0) = false:=decide_eq_false c3;clear c3;obtain rfl:=Option.some.inj H
  go_enter Try.func49,Try.ntmps49
  go_wp2_with (first|((with_reducible refine gate_dst (N:=2) rfl ?_);refine box_event ?hg (N:=2) ?hd (cs:=#[.int .i64 a0_0,.int .i64 a0_1,.string a0_2,.int .i64 a0_3]) (t:=87) ?hr ?_;(case hd=>rfl);(case hg=>rfl);(case hr=>first|(go_simp;done)|(go_simp;rfl));intro gb101 hg w6 hbox hb;have n_:=ai (bq HB hb) <| ai (Aside0.mk (hbox)) <| ai (bz hg HB) <| bz hg HB;clear HB;obtain ⟨HB,BK101,GW101,GE101⟩:=n_;clear hb hbox hg;obtain ⟨hcz7_0,hcz7_1,hcz7_2,hcz7_3⟩:=kb4 BK101.out;obtain ⟨hfz7_0,hfz7_1,hfz7_2,hfz7_3⟩:=kz4 BK101.out))
  go_ret
  exact ⟨cl,bl HB.out⟩

/-! ### laws_szInsS: function 35 -/
def laws_szInsS.l0:Nat → List (S87) → Int → Int → Option (Int)
 | 0,_,_,_=>none
 | k + 1,x0,x1,x5=>if x5 < (x0.length:Int) then (if 0≤x5 then ((laws_szIns.f ((rd_T87 x0 x5).f0) ((rd_T87 x0 x5).f1) ((rd_T87 x0 x5).f2) ((rd_T87 x0 x5).f3) x1).bind fun t103=>(if t103 < 0 then (some (-1)) else (laws_szInsS.l0 k x0 t103 (wrap64 (x5 + 1))))) else (none)) else (some x1)
def laws_szInsS.f (k:Nat) (l0:List (S87)) (a1:Int):Option (Int):=if (wrap64 (a1 - (l0.length:Int))) < 0 then (some (-1)) else (laws_szInsS.l0 k l0 (wrap64 (a1 - (l0.length:Int))) 0)
theorem laws_szInsS.mono_l:∀ k,(∀ y0 y1 y2,LeO (laws_szInsS.l0 k y0 y1 y2) (laws_szInsS.l0 (k + 1) y0 y1 y2))
 | 0=>fun _ _ _ r h=>by simp [laws_szInsS.l0] at h
 | k + 1=>by
  have ih0:=laws_szInsS.mono_l k
  ·intro y0 y1 y2
   unfold laws_szInsS.l0
   with_reducible repeat' first|apply ih0|apply LeO.refl|apply LeO.none|apply LeO.ite|refine LeO.bind ?_ (fun _=>?_)
theorem laws_szInsS.mono:∀ a0 a1 k,LeO (laws_szInsS.f k a0 a1) (laws_szInsS.f (k + 1) a0 a1):=by
 intro a0 a1 k;have ih0:=laws_szInsS.mono_l k
 unfold laws_szInsS.f
 with_reducible repeat' first|apply ih0|apply LeO.refl|apply LeO.none|apply LeO.ite|refine LeO.bind ?_ (fun _=>?_)
set_option maxHeartbeats 8000000 in
set_option maxRecDepth 100000 in
theorem laws_szInsS.calls (k:Nat) (A0:Option Addr) (c0:Nat) (l0:List (S87)) (a1:Int) (r:Int) (w:World) (hr0:Kd.C k87 w A0 l0.length l0) (hc0:l0.length≤c0) (h:laws_szInsS.f k l0 a1 = some r) :
  Calls Try.prog 35 #[.slice A0 l0.length c0,.int .i64 a1] w fun e w'=>e = .returned (.int .i64 r)∧Below w.heap.size w w':=by
 have hu87:=Try.underlying87;have HR0:=Aside0.mk hr0;have HC0:=Aside0.mk hc0;clear hr0 hc0;have HB:=Aside0.mk (Below.refl w.heap.size w);have H:(if (wrap64 (a1 - (l0.length:Int))) < 0 then (some (-1)) else (laws_szInsS.l0 k l0 (wrap64 (a1 - (l0.length:Int))) 0)) = some r:=h;clear h
 by_cases c3:(wrap64 (a1 - (l0.length:Int))) < 0
 ·rw [if_pos c3] at H
  have c3b0:decide ((wrap64 (a1 - (l0.length:Int))) < 0) = true:=decide_eq_true c3;clear c3;obtain rfl:=Option.some.inj H
  go_enter Try.func35,Try.ntmps35
  go_wp2
  go_ret
  exact ⟨cl,bl HB.out⟩
 ·rw [if_neg c3] at H
  have c3b0:decide ((wrap64 (a1 - (l0.length:Int))) < 0) = false:=decide_eq_false c3;clear c3;have H':=Aside0.mk H;clear H
  go_enter Try.func35,Try.ntmps35
  go_wp2
  go_loopg [1,5] k (fun kq v1 v5 w'=>∃ (x1_1:Int) (x5_1:Int),v1 = .int .i64 x1_1∧v5 = .int .i64 x5_1∧Aside0 (laws_szInsS.l0 kq l0 x1_1 x5_1 = some r)∧Aside0 (kq≤k)∧Aside0 (Below w.heap.size w w'))
  case atStart=>exact ⟨(wrap64 (a1 - (l0.length:Int))),(0),(cl2),(cl2),H',⟨Nat.le_refl _⟩,⟨bl HB.out⟩⟩
  case round =>
   clear H';(try clear p2);(try clear c3);(try clear c3b0);(try clear HB);obtain ⟨x1_1,x5_1,rfl,rfl,HA,HK1,HB⟩:=hrel
   cases gk with
   | zero=>exact absurd HA.out (by simp [laws_szInsS.l0])
   | succ k1 =>
    have H:=HA.out;clear HA;simp only [laws_szInsS.l0] at H
    by_cases c4:x5_1 < (l0.length:Int)
    ·rw [if_pos c4] at H
     have c4b0:decide (x5_1 < (l0.length:Int)) = true:=decide_eq_true c4;clear c4
     by_cases c5:0≤x5_1
     ·rw [if_pos c5] at H
      have c5b0:decide (0≤x5_1) = true:=decide_eq_true c5;clear c5;replace H:=Option.bind_eq_some_iff.mp H;obtain ⟨t103,A60,H⟩:=H;replace H:(if t103 < 0 then (some (-1)) else (laws_szInsS.l0 k1 l0 t103 (wrap64 (x5_1 + 1)))) = some r:=H;have A6:=Aside0.mk A60;clear A60
      by_cases c7:t103 < 0
      ·rw [if_pos c7] at H
       have c7b0:decide (t103 < 0) = true:=decide_eq_true c7;clear c7;obtain rfl:=Option.some.inj H;have p102:0≤(x5_1:Int):=od;have q102:x5_1 < (l0.length:Int):=od;obtain ⟨ad102,e102,hx102_0,hx102_1,hx102_2,hx102_3⟩:=at_T87 HR0.out x5_1 p102 q102;cases e102;replace hx102_0:=cb HB hx102_0;replace hx102_1:=cb HB hx102_1;replace hx102_2:=cb HB hx102_2;replace hx102_3:=cb HB hx102_3;replace p102:=eq_true p102;replace q102:=eq_true q102
       go_wp2_with (first|((with_reducible refine gate_callee (f:=49) rfl ?_);refine goesL_ (some 23) rfl rfl Try.func49 (by kernel_rfl) rfl #[.agg #[.int .i64 ((rd_T87 l0 x5_1).f0),.int .i64 ((rd_T87 l0 x5_1).f1),.string ((rd_T87 l0 x5_1).f2),.int .i64 ((rd_T87 l0 x5_1).f3)],.int .i64 x1_1] rfl gs ?_;(with_reducible refine (laws_szIns.calls ((rd_T87 l0 x5_1).f0) ((rd_T87 l0 x5_1).f1) ((rd_T87 l0 x5_1).f2) ((rd_T87 l0 x5_1).f3) x1_1 t103 _ A6.out).mono ?_);rintro e w8 ⟨rfl,hb⟩;refine ⟨_,rfl,?_⟩;have n_:=bq HB hb;clear HB;have HB:=n_;clear n_;(try clear hb);(try clear hb2);(try clear hk);(try clear hi)))
       go_ret
       exact ⟨cl,bl HB.out⟩
      ·rw [if_neg c7] at H
       have c7b0:decide (t103 < 0) = false:=decide_eq_false c7;clear c7;have H':=Aside0.mk H;clear H;have p102:0≤(x5_1:Int):=od;have q102:x5_1 < (l0.length:Int):=od;obtain ⟨ad102,e102,hx102_0,hx102_1,hx102_2,hx102_3⟩:=at_T87 HR0.out x5_1 p102 q102;cases e102;replace hx102_0:=cb HB hx102_0;replace hx102_1:=cb HB hx102_1;replace hx102_2:=cb HB hx102_2;replace hx102_3:=cb HB hx102_3;replace p102:=eq_true p102;replace q102:=eq_true q102
       go_wp2_with (first|((with_reducible refine gate_callee (f:=49) rfl ?_);refine goesL_ (some 23) rfl rfl Try.func49 (by kernel_rfl) rfl #[.agg #[.int .i64 ((rd_T87 l0 x5_1).f0),.int .i64 ((rd_T87 l0 x5_1).f1),.string ((rd_T87 l0 x5_1).f2),.int .i64 ((rd_T87 l0 x5_1).f3)],.int .i64 x1_1] rfl gs ?_;(with_reducible refine (laws_szIns.calls ((rd_T87 l0 x5_1).f0) ((rd_T87 l0 x5_1).f1) ((rd_T87 l0 x5_1).f2) ((rd_T87 l0 x5_1).f3) x1_1 t103 _ A6.out).mono ?_);rintro e w9 ⟨rfl,hb⟩;refine ⟨_,rfl,?_⟩;have n_:=bq HB hb;clear HB;have HB:=n_;clear n_;(try clear hb);(try clear hb2);(try clear hk);(try clear hi)))
       go_roundg k1
       case measure=>have:=HK1.out;omega
       case rel=>exact ⟨(t103),(wrap64 (x5_1 + 1)),(cl2),(cl2),H',⟨by have:=HK1.out;omega⟩,⟨bl HB.out⟩⟩
     ·rw [if_neg c5] at H
      exact absurd H (by simp)
    ·rw [if_neg c4] at H
     have c4b0:decide (x5_1 < (l0.length:Int)) = false:=decide_eq_false c4;clear c4;obtain rfl:=Option.some.inj H
     go_wp2
     go_ret
     exact ⟨cl,bl HB.out⟩

/-! ### laws_szFn: function 18 -/
def laws_szFn.f (k:Nat) (a0_0:ByteArray) (a0_1:Int) (a0_2:Int) (l0_3:List (S87)) (a1:Int):Option (Int):=if (wrap64 (a1 - (a0_0.size:Int))) < 0 then (some (-1)) else ((laws_szInsS.f k l0_3 (wrap64 (a1 - (a0_0.size:Int)))).bind fun t105=>(if t105 < 0 then (some (-1)) else (some t105)))
theorem laws_szFn.mono:∀ a0 a1 a2 a3 a4 k,LeO (laws_szFn.f k a0 a1 a2 a3 a4) (laws_szFn.f (k + 1) a0 a1 a2 a3 a4):=by
 intro a0 a1 a2 a3 a4 k
 unfold laws_szFn.f
 with_reducible repeat' first|apply laws_szInsS.mono|apply LeO.refl|apply LeO.none|apply LeO.ite|refine LeO.bind ?_ (fun _=>?_)
set_option maxHeartbeats 8000000 in
set_option maxRecDepth 100000 in
theorem laws_szFn.calls (k:Nat) (a0_0:ByteArray) (a0_1:Int) (a0_2:Int) (A0_3:Option Addr) (c0_3:Nat) (l0_3:List (S87)) (a1:Int) (r:Int) (w:World) (hr0_3:Kd.C k87 w A0_3 l0_3.length l0_3) (hc0_3:l0_3.length≤c0_3) (h:laws_szFn.f k a0_0 a0_1 a0_2 l0_3 a1 = some r) :
  Calls Try.prog 18 #[.agg #[.string a0_0,.int .i64 a0_1,.int .i64 a0_2,.slice A0_3 l0_3.length c0_3],.int .i64 a1] w fun e w'=>e = .returned (.int .i64 r)∧Below w.heap.size w w':=by
 have hu52:=Try.underlying52;have HR0_3:=Aside0.mk hr0_3;have HC0_3:=Aside0.mk hc0_3;clear hr0_3 hc0_3;have HB:=Aside0.mk (Below.refl w.heap.size w);have H:(if (wrap64 (a1 - (a0_0.size:Int))) < 0 then (some (-1)) else ((laws_szInsS.f k l0_3 (wrap64 (a1 - (a0_0.size:Int)))).bind fun t105=>(if t105 < 0 then (some (-1)) else (some t105)))) = some r:=h;clear h
 by_cases c3:(wrap64 (a1 - (a0_0.size:Int))) < 0
 ·rw [if_pos c3] at H
  have c3b0:decide ((wrap64 (a1 - (a0_0.size:Int))) < 0) = true:=decide_eq_true c3;clear c3;obtain rfl:=Option.some.inj H
  go_enter Try.func18,Try.ntmps18
  go_wp2_with (first|((with_reducible refine gate_dst (N:=2) rfl ?_);refine box_event ?hg (N:=2) ?hd (cs:=#[.string a0_0,.int .i64 a0_1,.int .i64 a0_2,.slice A0_3 l0_3.length c0_3]) (t:=52) ?hr ?_;(case hd=>rfl);(case hg=>rfl);(case hr=>first|(go_simp;done)|(go_simp;rfl));intro gb104 hg w4 hbox hb;have n_:=ai (bq HB hb) <| ai (Aside0.mk (hbox)) <| ai (bz hg HB) <| bz hg HB;clear HB;obtain ⟨HB,BK104,GW104,GE104⟩:=n_;clear hb hbox hg;obtain ⟨hcz5_0,hcz5_1,hcz5_2,hcz5_3⟩:=kb4 BK104.out;obtain ⟨hfz5_0,hfz5_1,hfz5_2,hfz5_3⟩:=kz4 BK104.out))
  go_ret
  exact ⟨cl,bl HB.out⟩
 ·rw [if_neg c3] at H
  have c3b0:decide ((wrap64 (a1 - (a0_0.size:Int))) < 0) = false:=decide_eq_false c3;clear c3;replace H:=Option.bind_eq_some_iff.mp H;obtain ⟨t105,A60,H⟩:=H;replace H:(if t105 < 0 then (some (-1)) else (some t105)) = some r:=H;have A6:=Aside0.mk A60;clear A60
  by_cases c7:t105 < 0
  ·rw [if_pos c7] at H
   have c7b0:decide (t105 < 0) = true:=decide_eq_true c7;clear c7;obtain rfl:=Option.some.inj H
   go_enter Try.func18,Try.ntmps18
   go_wp2_with (first|((with_reducible refine gate_dst (N:=2) rfl ?_);refine box_event ?hg (N:=2) ?hd (cs:=#[.string a0_0,.int .i64 a0_1,.int .i64 a0_2,.slice A0_3 l0_3.length c0_3]) (t:=52) ?hr ?_;(case hd=>rfl);(case hg=>rfl);(case hr=>first|(go_simp;done)|(go_simp;rfl));intro gb104 hg w8 hbox hb;have n_:=ai (bq HB hb) <| ai (Aside0.mk (hbox)) <| ai (bz hg HB) <| bz hg HB;clear HB;obtain ⟨HB,BK104,GW104,GE104⟩:=n_;clear hb hbox hg;obtain ⟨hcz9_0,hcz9_1,hcz9_2,hcz9_3⟩:=kb4 BK104.out;obtain ⟨hfz9_0,hfz9_1,hfz9_2,hfz9_3⟩:=kz4 BK104.out)|((with_reducible refine gate_callee (f:=35) rfl ?_);refine goesL_ (some 15) rfl rfl Try.func35 (by kernel_rfl) rfl #[.slice A0_3 l0_3.length c0_3,.int .i64 (wrap64 (a1 - (a0_0.size:Int)))] rfl gs ?_;(with_reducible refine (laws_szInsS.calls k _ _ l0_3 (wrap64 (a1 - (a0_0.size:Int))) t105 _ ?side1 ?side2 A6.out).mono ?_);(case side1=>exact ck (Kd.C_below HR0_3.out HB.out));(case side2=>exact HC0_3.out);rintro e w10 ⟨rfl,hb⟩;refine ⟨_,rfl,?_⟩;have n_:=ai (bw BK104 hb) <| bq HB hb;clear BK104 HB;obtain ⟨BK104,HB⟩:=n_;(try clear hb);(try clear hb2);(try clear hk);(try clear hi)))
   go_ret
   exact ⟨cl,bl HB.out⟩
  ·rw [if_neg c7] at H
   have c7b0:decide (t105 < 0) = false:=decide_eq_false c7;clear c7;obtain rfl:=Option.some.inj H
   go_enter Try.func18,Try.ntmps18
   go_wp2_with (first|((with_reducible refine gate_dst (N:=2) rfl ?_);refine box_event ?hg (N:=2) ?hd (cs:=#[.string a0_0,.int .i64 a0_1,.int .i64 a0_2,.slice A0_3 l0_3.length c0_3]) (t:=52) ?hr ?_;(case hd=>rfl);(case hg=>rfl);(case hr=>first|(go_simp;done)|(go_simp;rfl));intro gb104 hg w11 hbox hb;have n_:=ai (bq HB hb) <| ai (Aside0.mk (hbox)) <| ai (bz hg HB) <| bz hg HB;clear HB;obtain ⟨HB,BK104,GW104,GE104⟩:=n_;clear hb hbox hg;obtain ⟨hcz12_0,hcz12_1,hcz12_2,hcz12_3⟩:=kb4 BK104.out;obtain ⟨hfz12_0,hfz12_1,hfz12_2,hfz12_3⟩:=kz4 BK104.out)|((with_reducible refine gate_callee (f:=35) rfl ?_);refine goesL_ (some 15) rfl rfl Try.func35 (by kernel_rfl) rfl #[.slice A0_3 l0_3.length c0_3,.int .i64 (wrap64 (a1 - (a0_0.size:Int)))] rfl gs ?_;(with_reducible refine (laws_szInsS.calls k _ _ l0_3 (wrap64 (a1 - (a0_0.size:Int))) t105 _ ?side1 ?side2 A6.out).mono ?_);(case side1=>exact ck (Kd.C_below HR0_3.out HB.out));(case side2=>exact HC0_3.out);rintro e w13 ⟨rfl,hb⟩;refine ⟨_,rfl,?_⟩;have n_:=ai (bw BK104 hb) <| bq HB hb;clear BK104 HB;obtain ⟨BK104,HB⟩:=n_;(try clear hb);(try clear hb2);(try clear hk);(try clear hi)))
   go_ret
   exact ⟨cl,bl HB.out⟩

/-! ### laws_szFnS: function 9 -/
def laws_szFnS.l0:Nat → List (S52) → Int → Int → Option (Int)
 | 0,_,_,_=>none
 | k + 1,x0,x1,x5=>if x5 < (x0.length:Int) then (if 0≤x5 then ((laws_szFn.f k ((rd_T52 x0 x5).f0) ((rd_T52 x0 x5).f1) ((rd_T52 x0 x5).f2) ((rd_T52 x0 x5).f3) x1).bind fun t107=>(if t107 < 0 then (some (-1)) else (laws_szFnS.l0 k x0 t107 (wrap64 (x5 + 1))))) else (none)) else (some x1)
def laws_szFnS.f (k:Nat) (l0:List (S52)) (a1:Int):Option (Int):=if (wrap64 (a1 - (l0.length:Int))) < 0 then (some (-1)) else (laws_szFnS.l0 k l0 (wrap64 (a1 - (l0.length:Int))) 0)
theorem laws_szFnS.mono_l:∀ k,(∀ y0 y1 y2,LeO (laws_szFnS.l0 k y0 y1 y2) (laws_szFnS.l0 (k + 1) y0 y1 y2))
 | 0=>fun _ _ _ r h=>by simp [laws_szFnS.l0] at h
 | k + 1=>by
  have ih0:=laws_szFnS.mono_l k
  ·intro y0 y1 y2
   unfold laws_szFnS.l0
   with_reducible repeat' first|apply ih0|apply laws_szFn.mono|apply LeO.refl|apply LeO.none|apply LeO.ite|refine LeO.bind ?_ (fun _=>?_)
theorem laws_szFnS.mono:∀ a0 a1 k,LeO (laws_szFnS.f k a0 a1) (laws_szFnS.f (k + 1) a0 a1):=by
 intro a0 a1 k;have ih0:=laws_szFnS.mono_l k
 unfold laws_szFnS.f
 with_reducible repeat' first|apply ih0|apply laws_szFn.mono|apply LeO.refl|apply LeO.none|apply LeO.ite|refine LeO.bind ?_ (fun _=>?_)
set_option maxHeartbeats 8000000 in
set_option maxRecDepth 100000 in
theorem laws_szFnS.calls (k:Nat) (A0:Option Addr) (c0:Nat) (l0:List (S52)) (a1:Int) (r:Int) (w:World) (hr0:Kd.C k52 w A0 l0.length l0) (hc0:l0.length≤c0) (h:laws_szFnS.f k l0 a1 = some r) :
  Calls Try.prog 9 #[.slice A0 l0.length c0,.int .i64 a1] w fun e w'=>e = .returned (.int .i64 r)∧Below w.heap.size w w':=by
 have hu52:=Try.underlying52;have HR0:=Aside0.mk hr0;have HC0:=Aside0.mk hc0;clear hr0 hc0;have HB:=Aside0.mk (Below.refl w.heap.size w);have H:(if (wrap64 (a1 - (l0.length:Int))) < 0 then (some (-1)) else (laws_szFnS.l0 k l0 (wrap64 (a1 - (l0.length:Int))) 0)) = some r:=h;clear h
 by_cases c3:(wrap64 (a1 - (l0.length:Int))) < 0
 ·rw [if_pos c3] at H
  have c3b0:decide ((wrap64 (a1 - (l0.length:Int))) < 0) = true:=decide_eq_true c3;clear c3;obtain rfl:=Option.some.inj H
  go_enter Try.func9,Try.ntmps9
  go_wp2
  go_ret
  exact ⟨cl,bl HB.out⟩
 ·rw [if_neg c3] at H
  have c3b0:decide ((wrap64 (a1 - (l0.length:Int))) < 0) = false:=decide_eq_false c3;clear c3;have H':=Aside0.mk H;clear H
  go_enter Try.func9,Try.ntmps9
  go_wp2
  go_loopg [1,5] k (fun kq v1 v5 w'=>∃ (x1_1:Int) (x5_1:Int),v1 = .int .i64 x1_1∧v5 = .int .i64 x5_1∧Aside0 (laws_szFnS.l0 kq l0 x1_1 x5_1 = some r)∧Aside0 (kq≤k)∧Aside0 (Below w.heap.size w w'))
  case atStart=>exact ⟨(wrap64 (a1 - (l0.length:Int))),(0),(cl2),(cl2),H',⟨Nat.le_refl _⟩,⟨bl HB.out⟩⟩
  case round =>
   clear H';(try clear p2);(try clear c3);(try clear c3b0);(try clear HB);obtain ⟨x1_1,x5_1,rfl,rfl,HA,HK1,HB⟩:=hrel
   cases gk with
   | zero=>exact absurd HA.out (by simp [laws_szFnS.l0])
   | succ k1 =>
    have H:=HA.out;clear HA;simp only [laws_szFnS.l0] at H
    by_cases c4:x5_1 < (l0.length:Int)
    ·rw [if_pos c4] at H
     have c4b0:decide (x5_1 < (l0.length:Int)) = true:=decide_eq_true c4;clear c4
     by_cases c5:0≤x5_1
     ·rw [if_pos c5] at H
      have c5b0:decide (0≤x5_1) = true:=decide_eq_true c5;clear c5;replace H:=Option.bind_eq_some_iff.mp H;obtain ⟨t107,A60,H⟩:=H;replace H:(if t107 < 0 then (some (-1)) else (laws_szFnS.l0 k1 l0 t107 (wrap64 (x5_1 + 1)))) = some r:=H;have A6:=Aside0.mk A60;clear A60
      by_cases c7:t107 < 0
      ·rw [if_pos c7] at H
       have c7b0:decide (t107 < 0) = true:=decide_eq_true c7;clear c7;obtain rfl:=Option.some.inj H;have p106:0≤(x5_1:Int):=od;have q106:x5_1 < (l0.length:Int):=od;obtain ⟨ad106,A106_3,c106_3,e106,hx106_0,hx106_1,hx106_2,hx106_3,hl106_3,hi106_3⟩:=at_T52 HR0.out x5_1 p106 q106;cases e106;replace hx106_0:=cb HB hx106_0;replace hx106_1:=cb HB hx106_1;replace hx106_2:=cb HB hx106_2;replace hx106_3:=cb HB hx106_3;have HR106_3:=Aside0.mk hi106_3;have HC106_3:=Aside0.mk hl106_3;clear hi106_3 hl106_3;replace p106:=eq_true p106;replace q106:=eq_true q106
       go_wp2_with (first|((with_reducible refine gate_callee (f:=18) rfl ?_);refine goesL_ (some 23) rfl rfl Try.func18 (by kernel_rfl) rfl #[.agg #[.string ((rd_T52 l0 x5_1).f0),.int .i64 ((rd_T52 l0 x5_1).f1),.int .i64 ((rd_T52 l0 x5_1).f2),.slice A106_3 ((rd_T52 l0 x5_1).f3).length c106_3],.int .i64 x1_1] rfl gs ?_;(with_reducible refine (laws_szFn.calls k1 ((rd_T52 l0 x5_1).f0) ((rd_T52 l0 x5_1).f1) ((rd_T52 l0 x5_1).f2) _ _ ((rd_T52 l0 x5_1).f3) x1_1 t107 _ ?side1 ?side2 A6.out).mono ?_);(case side1=>exact ck (Kd.C_below HR106_3.out HB.out));(case side2=>exact HC106_3.out);rintro e w8 ⟨rfl,hb⟩;refine ⟨_,rfl,?_⟩;have n_:=bq HB hb;clear HB;have HB:=n_;clear n_;(try clear hb);(try clear hb2);(try clear hk);(try clear hi)))
       go_ret
       exact ⟨cl,bl HB.out⟩
      ·rw [if_neg c7] at H
       have c7b0:decide (t107 < 0) = false:=decide_eq_false c7;clear c7;have H':=Aside0.mk H;clear H;have p106:0≤(x5_1:Int):=od;have q106:x5_1 < (l0.length:Int):=od;obtain ⟨ad106,A106_3,c106_3,e106,hx106_0,hx106_1,hx106_2,hx106_3,hl106_3,hi106_3⟩:=at_T52 HR0.out x5_1 p106 q106;cases e106;replace hx106_0:=cb HB hx106_0;replace hx106_1:=cb HB hx106_1;replace hx106_2:=cb HB hx106_2;replace hx106_3:=cb HB hx106_3;have HR106_3:=Aside0.mk hi106_3;have HC106_3:=Aside0.mk hl106_3;clear hi106_3 hl106_3;replace p106:=eq_true p106;replace q106:=eq_true q106
       go_wp2_with (first|((with_reducible refine gate_callee (f:=18) rfl ?_);refine goesL_ (some 23) rfl rfl Try.func18 (by kernel_rfl) rfl #[.agg #[.string ((rd_T52 l0 x5_1).f0),.int .i64 ((rd_T52 l0 x5_1).f1),.int .i64 ((rd_T52 l0 x5_1).f2),.slice A106_3 ((rd_T52 l0 x5_1).f3).length c106_3],.int .i64 x1_1] rfl gs ?_;(with_reducible refine (laws_szFn.calls k1 ((rd_T52 l0 x5_1).f0) ((rd_T52 l0 x5_1).f1) ((rd_T52 l0 x5_1).f2) _ _ ((rd_T52 l0 x5_1).f3) x1_1 t107 _ ?side1 ?side2 A6.out).mono ?_);(case side1=>exact ck (Kd.C_below HR106_3.out HB.out));(case side2=>exact HC106_3.out);rintro e w9 ⟨rfl,hb⟩;refine ⟨_,rfl,?_⟩;have n_:=bq HB hb;clear HB;have HB:=n_;clear n_;(try clear hb);(try clear hb2);(try clear hk);(try clear hi)))
       go_roundg k1
       case measure=>have:=HK1.out;omega
       case rel=>exact ⟨(t107),(wrap64 (x5_1 + 1)),(cl2),(cl2),H',⟨by have:=HK1.out;omega⟩,⟨bl HB.out⟩⟩
     ·rw [if_neg c5] at H
      exact absurd H (by simp)
    ·rw [if_neg c4] at H
     have c4b0:decide (x5_1 < (l0.length:Int)) = false:=decide_eq_false c4;clear c4;obtain rfl:=Option.some.inj H
     go_wp2
     go_ret
     exact ⟨cl,bl HB.out⟩

mutual
def laws_szPat.f:Nat → Int → Int → ByteArray → List (S55) → Int → Option (Int)
 | 0,_,_,_,_,_=>none
 | k + 1,a0_0,a0_1,a0_2,l0_3,a1=>if (wrap64 (a1 - (a0_2.size:Int))) < 0 then (some (-1)) else ((laws_szPatS.f k l0_3 (wrap64 (a1 - (a0_2.size:Int)))).bind fun t109=>(if t109 < 0 then (some (-1)) else (some t109)))
def laws_szPatS.l0:Nat → List (S55) → Int → Int → Option (Int)
 | 0,_,_,_=>none
 | k + 1,x0,x1,x5=>if x5 < (x0.length:Int) then (if 0≤x5 then ((laws_szPat.f k ((rd_T55 x0 x5).f0) ((rd_T55 x0 x5).f1) ((rd_T55 x0 x5).f2) ((rd_T55 x0 x5).f3) x1).bind fun t111=>(if t111 < 0 then (some (-1)) else (laws_szPatS.l0 k x0 t111 (wrap64 (x5 + 1))))) else (none)) else (some x1)
def laws_szPatS.f:Nat → List (S55) → Int → Option (Int)
 | 0,_,_=>none
 | k + 1,l0,a1=>if (wrap64 (a1 - (l0.length:Int))) < 0 then (some (-1)) else (laws_szPatS.l0 k l0 (wrap64 (a1 - (l0.length:Int))) 0)
end
theorem laws_szPat.mono_g:∀ k,(∀ y0 y1 y2 y3 y4,LeO (laws_szPat.f k y0 y1 y2 y3 y4) (laws_szPat.f (k + 1) y0 y1 y2 y3 y4))∧(∀ y0 y1,LeO (laws_szPatS.f k y0 y1) (laws_szPatS.f (k + 1) y0 y1))∧(∀ y0 y1 y2,LeO (laws_szPatS.l0 k y0 y1 y2) (laws_szPatS.l0 (k + 1) y0 y1 y2))
 | 0=>⟨fun _ _ _ _ _ r h=>by simp [laws_szPat.f] at h,fun _ _ r h=>by simp [laws_szPatS.f] at h,fun _ _ _ r h=>by simp [laws_szPatS.l0] at h⟩
 | k + 1=>by
  obtain ⟨ih0,ih1,ih2⟩:=laws_szPat.mono_g k
  refine ⟨?_,?_,?_⟩
  ·intro y0 y1 y2 y3 y4
   unfold laws_szPat.f
   with_reducible repeat' first|apply ih0|apply ih1|apply ih2|apply LeO.refl|apply LeO.none|apply LeO.ite|refine LeO.bind ?_ (fun _=>?_)
  ·intro y0 y1
   unfold laws_szPatS.f
   with_reducible repeat' first|apply ih0|apply ih1|apply ih2|apply LeO.refl|apply LeO.none|apply LeO.ite|refine LeO.bind ?_ (fun _=>?_)
  ·intro y0 y1 y2
   unfold laws_szPatS.l0
   with_reducible repeat' first|apply ih0|apply ih1|apply ih2|apply LeO.refl|apply LeO.none|apply LeO.ite|refine LeO.bind ?_ (fun _=>?_)
theorem laws_szPat.mono:∀ a0 a1 a2 a3 a4 k,LeO (laws_szPat.f k a0 a1 a2 a3 a4) (laws_szPat.f (k + 1) a0 a1 a2 a3 a4):=by
 intro a0 a1 a2 a3 a4 k;obtain ⟨ih0,ih1,ih2⟩:=laws_szPat.mono_g k
 exact ih0 a0 a1 a2 a3 a4
theorem laws_szPatS.mono:∀ a0 a1 k,LeO (laws_szPatS.f k a0 a1) (laws_szPatS.f (k + 1) a0 a1):=by
 intro a0 a1 k;obtain ⟨ih0,ih1,ih2⟩:=laws_szPat.mono_g k
 exact ih1 a0 a1
/-! ### laws_szPat: function 19 -/
set_option maxHeartbeats 8000000 in
set_option maxRecDepth 100000 in
theorem laws_szPat.step (k:Nat) (ih_laws_szPat:∀ k_,k_ < k → ∀ (a0_0:Int) (a0_1:Int) (a0_2:ByteArray) (A0_3:Option Addr) (c0_3:Nat) (l0_3:List (S55)) (a1:Int) (r:Int) (w:World) (hr0_3:Kd.C k55 w A0_3 l0_3.length l0_3) (hc0_3:l0_3.length≤c0_3) (h:laws_szPat.f k_ a0_0 a0_1 a0_2 l0_3 a1 = some r),Calls Try.prog 19 #[.agg #[.int .i64 a0_0,.int .i64 a0_1,.string a0_2,.slice A0_3 l0_3.length c0_3],.int .i64 a1] w fun e w'=>e = .returned (.int .i64 r)∧Below w.heap.size w w') (ih_laws_szPatS:∀ k_,k_ < k → ∀ (A0:Option Addr) (c0:Nat) (l0:List (S55)) (a1:Int) (r:Int) (w:World) (hr0:Kd.C k55 w A0 l0.length l0) (hc0:l0.length≤c0) (h:laws_szPatS.f k_ l0 a1 = some r),Calls Try.prog 10 #[.slice A0 l0.length c0,.int .i64 a1] w fun e w'=>e = .returned (.int .i64 r)∧Below w.heap.size w w'):∀ (a0_0:Int) (a0_1:Int) (a0_2:ByteArray) (A0_3:Option Addr) (c0_3:Nat) (l0_3:List (S55)) (a1:Int) (r:Int) (w:World) (hr0_3:Kd.C k55 w A0_3 l0_3.length l0_3) (hc0_3:l0_3.length≤c0_3) (h:laws_szPat.f k a0_0 a0_1 a0_2 l0_3 a1 = some r),
  Calls Try.prog 19 #[.agg #[.int .i64 a0_0,.int .i64 a0_1,.string a0_2,.slice A0_3 l0_3.length c0_3],.int .i64 a1] w fun e w'=>e = .returned (.int .i64 r)∧Below w.heap.size w w':=by
 intro a0_0 a0_1 a0_2 A0_3 c0_3 l0_3 a1 r w hr0_3 hc0_3 h
 cases k with
 | zero=>exact absurd h (by simp [laws_szPat.f])
 | succ k =>
 simp only [laws_szPat.f] at h;have hu55:=Try.underlying55;have HR0_3:=Aside0.mk hr0_3;have HC0_3:=Aside0.mk hc0_3;clear hr0_3 hc0_3;have HB:=Aside0.mk (Below.refl w.heap.size w);have H:(if (wrap64 (a1 - (a0_2.size:Int))) < 0 then (some (-1)) else ((laws_szPatS.f k l0_3 (wrap64 (a1 - (a0_2.size:Int)))).bind fun t109=>(if t109 < 0 then (some (-1)) else (some t109)))) = some r:=h;clear h
 by_cases c3:(wrap64 (a1 - (a0_2.size:Int))) < 0
 ·rw [if_pos c3] at H
  have c3b0:decide ((wrap64 (a1 - (a0_2.size:Int))) < 0) = true:=decide_eq_true c3;clear c3;obtain rfl:=Option.some.inj H
  go_enter Try.func19,Try.ntmps19
  go_wp2_with (first|((with_reducible refine gate_dst (N:=2) rfl ?_);refine box_event ?hg (N:=2) ?hd (cs:=#[.int .i64 a0_0,.int .i64 a0_1,.string a0_2,.slice A0_3 l0_3.length c0_3]) (t:=55) ?hr ?_;(case hd=>rfl);(case hg=>rfl);(case hr=>first|(go_simp;done)|(go_simp;rfl));intro gb108 hg w4 hbox hb;have n_:=ai (bq HB hb) <| ai (Aside0.mk (hbox)) <| ai (bz hg HB) <| bz hg HB;clear HB;obtain ⟨HB,BK108,GW108,GE108⟩:=n_;clear hb hbox hg;obtain ⟨hcz5_0,hcz5_1,hcz5_2,hcz5_3⟩:=kb4 BK108.out;obtain ⟨hfz5_0,hfz5_1,hfz5_2,hfz5_3⟩:=kz4 BK108.out))
  go_ret
  exact ⟨cl,bl HB.out⟩
 ·rw [if_neg c3] at H
  have c3b0:decide ((wrap64 (a1 - (a0_2.size:Int))) < 0) = false:=decide_eq_false c3;clear c3;replace H:=Option.bind_eq_some_iff.mp H;obtain ⟨t109,A60,H⟩:=H;replace H:(if t109 < 0 then (some (-1)) else (some t109)) = some r:=H;have A6:=Aside0.mk A60;clear A60
  by_cases c7:t109 < 0
  ·rw [if_pos c7] at H
   have c7b0:decide (t109 < 0) = true:=decide_eq_true c7;clear c7;obtain rfl:=Option.some.inj H
   go_enter Try.func19,Try.ntmps19
   go_wp2_with (first|((with_reducible refine gate_dst (N:=2) rfl ?_);refine box_event ?hg (N:=2) ?hd (cs:=#[.int .i64 a0_0,.int .i64 a0_1,.string a0_2,.slice A0_3 l0_3.length c0_3]) (t:=55) ?hr ?_;(case hd=>rfl);(case hg=>rfl);(case hr=>first|(go_simp;done)|(go_simp;rfl));intro gb108 hg w8 hbox hb;have n_:=ai (bq HB hb) <| ai (Aside0.mk (hbox)) <| ai (bz hg HB) <| bz hg HB;clear HB;obtain ⟨HB,BK108,GW108,GE108⟩:=n_;clear hb hbox hg;obtain ⟨hcz9_0,hcz9_1,hcz9_2,hcz9_3⟩:=kb4 BK108.out;obtain ⟨hfz9_0,hfz9_1,hfz9_2,hfz9_3⟩:=kz4 BK108.out)|((with_reducible refine gate_callee (f:=10) rfl ?_);refine goesL_ (some 15) rfl rfl Try.func10 (by kernel_rfl) rfl #[.slice A0_3 l0_3.length c0_3,.int .i64 (wrap64 (a1 - (a0_2.size:Int)))] rfl gs ?_;(with_reducible refine (ih_laws_szPatS k (by omega) _ _ l0_3 (wrap64 (a1 - (a0_2.size:Int))) t109 _ ?side1 ?side2 A6.out).mono ?_);(case side1=>exact ck (Kd.C_below HR0_3.out HB.out));(case side2=>exact HC0_3.out);rintro e w10 ⟨rfl,hb⟩;refine ⟨_,rfl,?_⟩;have n_:=ai (bw BK108 hb) <| bq HB hb;clear BK108 HB;obtain ⟨BK108,HB⟩:=n_;(try clear hb);(try clear hb2);(try clear hk);(try clear hi)))
   go_ret
   exact ⟨cl,bl HB.out⟩
  ·rw [if_neg c7] at H
   have c7b0:decide (t109 < 0) = false:=decide_eq_false c7;clear c7;obtain rfl:=Option.some.inj H
   go_enter Try.func19,Try.ntmps19
   go_wp2_with (first|((with_reducible refine gate_dst (N:=2) rfl ?_);refine box_event ?hg (N:=2) ?hd (cs:=#[.int .i64 a0_0,.int .i64 a0_1,.string a0_2,.slice A0_3 l0_3.length c0_3]) (t:=55) ?hr ?_;(case hd=>rfl);(case hg=>rfl);(case hr=>first|(go_simp;done)|(go_simp;rfl));intro gb108 hg w11 hbox hb;have n_:=ai (bq HB hb) <| ai (Aside0.mk (hbox)) <| ai (bz hg HB) <| bz hg HB;clear HB;obtain ⟨HB,BK108,GW108,GE108⟩:=n_;clear hb hbox hg;obtain ⟨hcz12_0,hcz12_1,hcz12_2,hcz12_3⟩:=kb4 BK108.out;obtain ⟨hfz12_0,hfz12_1,hfz12_2,hfz12_3⟩:=kz4 BK108.out)|((with_reducible refine gate_callee (f:=10) rfl ?_);refine goesL_ (some 15) rfl rfl Try.func10 (by kernel_rfl) rfl #[.slice A0_3 l0_3.length c0_3,.int .i64 (wrap64 (a1 - (a0_2.size:Int)))] rfl gs ?_;(with_reducible refine (ih_laws_szPatS k (by omega) _ _ l0_3 (wrap64 (a1 - (a0_2.size:Int))) t109 _ ?side1 ?side2 A6.out).mono ?_);(case side1=>exact ck (Kd.C_below HR0_3.out HB.out));(case side2=>exact HC0_3.out);rintro e w13 ⟨rfl,hb⟩;refine ⟨_,rfl,?_⟩;have n_:=ai (bw BK108 hb) <| bq HB hb;clear BK108 HB;obtain ⟨BK108,HB⟩:=n_;(try clear hb);(try clear hb2);(try clear hk);(try clear hi)))
   go_ret
   exact ⟨cl,bl HB.out⟩

/-! ### laws_szPatS: function 10 -/
set_option maxHeartbeats 8000000 in
set_option maxRecDepth 100000 in
theorem laws_szPatS.step (k:Nat) (ih_laws_szPat:∀ k_,k_ < k → ∀ (a0_0:Int) (a0_1:Int) (a0_2:ByteArray) (A0_3:Option Addr) (c0_3:Nat) (l0_3:List (S55)) (a1:Int) (r:Int) (w:World) (hr0_3:Kd.C k55 w A0_3 l0_3.length l0_3) (hc0_3:l0_3.length≤c0_3) (h:laws_szPat.f k_ a0_0 a0_1 a0_2 l0_3 a1 = some r),Calls Try.prog 19 #[.agg #[.int .i64 a0_0,.int .i64 a0_1,.string a0_2,.slice A0_3 l0_3.length c0_3],.int .i64 a1] w fun e w'=>e = .returned (.int .i64 r)∧Below w.heap.size w w') (ih_laws_szPatS:∀ k_,k_ < k → ∀ (A0:Option Addr) (c0:Nat) (l0:List (S55)) (a1:Int) (r:Int) (w:World) (hr0:Kd.C k55 w A0 l0.length l0) (hc0:l0.length≤c0) (h:laws_szPatS.f k_ l0 a1 = some r),Calls Try.prog 10 #[.slice A0 l0.length c0,.int .i64 a1] w fun e w'=>e = .returned (.int .i64 r)∧Below w.heap.size w w'):∀ (A0:Option Addr) (c0:Nat) (l0:List (S55)) (a1:Int) (r:Int) (w:World) (hr0:Kd.C k55 w A0 l0.length l0) (hc0:l0.length≤c0) (h:laws_szPatS.f k l0 a1 = some r),
  Calls Try.prog 10 #[.slice A0 l0.length c0,.int .i64 a1] w fun e w'=>e = .returned (.int .i64 r)∧Below w.heap.size w w':=by
 intro A0 c0 l0 a1 r w hr0 hc0 h
 cases k with
 | zero=>exact absurd h (by simp [laws_szPatS.f])
 | succ k =>
 simp only [laws_szPatS.f] at h;have hu55:=Try.underlying55;have HR0:=Aside0.mk hr0;have HC0:=Aside0.mk hc0;clear hr0 hc0;have HB:=Aside0.mk (Below.refl w.heap.size w);have H:(if (wrap64 (a1 - (l0.length:Int))) < 0 then (some (-1)) else (laws_szPatS.l0 k l0 (wrap64 (a1 - (l0.length:Int))) 0)) = some r:=h;clear h
 by_cases c3:(wrap64 (a1 - (l0.length:Int))) < 0
 ·rw [if_pos c3] at H
  have c3b0:decide ((wrap64 (a1 - (l0.length:Int))) < 0) = true:=decide_eq_true c3;clear c3;obtain rfl:=Option.some.inj H
  go_enter Try.func10,Try.ntmps10
  go_wp2
  go_ret
  exact ⟨cl,bl HB.out⟩
 ·rw [if_neg c3] at H
  have c3b0:decide ((wrap64 (a1 - (l0.length:Int))) < 0) = false:=decide_eq_false c3;clear c3;have H':=Aside0.mk H;clear H
  go_enter Try.func10,Try.ntmps10
  go_wp2
  go_loopg [1,5] k (fun kq v1 v5 w'=>∃ (x1_1:Int) (x5_1:Int),v1 = .int .i64 x1_1∧v5 = .int .i64 x5_1∧Aside0 (laws_szPatS.l0 kq l0 x1_1 x5_1 = some r)∧Aside0 (kq≤k)∧Aside0 (Below w.heap.size w w'))
  case atStart=>exact ⟨(wrap64 (a1 - (l0.length:Int))),(0),(cl2),(cl2),H',⟨Nat.le_refl _⟩,⟨bl HB.out⟩⟩
  case round =>
   clear H';(try clear c1);(try clear p2);(try clear c3);(try clear c3b0);(try clear HB);obtain ⟨x1_1,x5_1,rfl,rfl,HA,HK1,HB⟩:=hrel
   cases gk with
   | zero=>exact absurd HA.out (by simp [laws_szPatS.l0])
   | succ k1 =>
    have H:=HA.out;clear HA;simp only [laws_szPatS.l0] at H
    by_cases c4:x5_1 < (l0.length:Int)
    ·rw [if_pos c4] at H
     have c4b0:decide (x5_1 < (l0.length:Int)) = true:=decide_eq_true c4;clear c4
     by_cases c5:0≤x5_1
     ·rw [if_pos c5] at H
      have c5b0:decide (0≤x5_1) = true:=decide_eq_true c5;clear c5;replace H:=Option.bind_eq_some_iff.mp H;obtain ⟨t111,A60,H⟩:=H;replace H:(if t111 < 0 then (some (-1)) else (laws_szPatS.l0 k1 l0 t111 (wrap64 (x5_1 + 1)))) = some r:=H;have A6:=Aside0.mk A60;clear A60
      by_cases c7:t111 < 0
      ·rw [if_pos c7] at H
       have c7b0:decide (t111 < 0) = true:=decide_eq_true c7;clear c7;obtain rfl:=Option.some.inj H;have p110:0≤(x5_1:Int):=od;have q110:x5_1 < (l0.length:Int):=od;obtain ⟨ad110,A110_3,c110_3,e110,hx110_0,hx110_1,hx110_2,hx110_3,hl110_3,hi110_3⟩:=at_T55 HR0.out x5_1 p110 q110;cases e110;replace hx110_0:=cb HB hx110_0;replace hx110_1:=cb HB hx110_1;replace hx110_2:=cb HB hx110_2;replace hx110_3:=cb HB hx110_3;have HR110_3:=Aside0.mk hi110_3;have HC110_3:=Aside0.mk hl110_3;clear hi110_3 hl110_3;replace p110:=eq_true p110;replace q110:=eq_true q110
       go_wp2_with (first|((with_reducible refine gate_callee (f:=19) rfl ?_);refine goesL_ (some 23) rfl rfl Try.func19 (by kernel_rfl) rfl #[.agg #[.int .i64 ((rd_T55 l0 x5_1).f0),.int .i64 ((rd_T55 l0 x5_1).f1),.string ((rd_T55 l0 x5_1).f2),.slice A110_3 ((rd_T55 l0 x5_1).f3).length c110_3],.int .i64 x1_1] rfl gs ?_;(with_reducible refine (ih_laws_szPat k1 (by have:=HK1.out;omega) ((rd_T55 l0 x5_1).f0) ((rd_T55 l0 x5_1).f1) ((rd_T55 l0 x5_1).f2) _ _ ((rd_T55 l0 x5_1).f3) x1_1 t111 _ ?side1 ?side2 A6.out).mono ?_);(case side1=>exact ck (Kd.C_below HR110_3.out HB.out));(case side2=>exact HC110_3.out);rintro e w8 ⟨rfl,hb⟩;refine ⟨_,rfl,?_⟩;have n_:=bq HB hb;clear HB;have HB:=n_;clear n_;(try clear hb);(try clear hb2);(try clear hk);(try clear hi)))
       go_ret
       exact ⟨cl,bl HB.out⟩
      ·rw [if_neg c7] at H
       have c7b0:decide (t111 < 0) = false:=decide_eq_false c7;clear c7;have H':=Aside0.mk H;clear H;have p110:0≤(x5_1:Int):=od;have q110:x5_1 < (l0.length:Int):=od;obtain ⟨ad110,A110_3,c110_3,e110,hx110_0,hx110_1,hx110_2,hx110_3,hl110_3,hi110_3⟩:=at_T55 HR0.out x5_1 p110 q110;cases e110;replace hx110_0:=cb HB hx110_0;replace hx110_1:=cb HB hx110_1;replace hx110_2:=cb HB hx110_2;replace hx110_3:=cb HB hx110_3;have HR110_3:=Aside0.mk hi110_3;have HC110_3:=Aside0.mk hl110_3;clear hi110_3 hl110_3;replace p110:=eq_true p110;replace q110:=eq_true q110
       go_wp2_with (first|((with_reducible refine gate_callee (f:=19) rfl ?_);refine goesL_ (some 23) rfl rfl Try.func19 (by kernel_rfl) rfl #[.agg #[.int .i64 ((rd_T55 l0 x5_1).f0),.int .i64 ((rd_T55 l0 x5_1).f1),.string ((rd_T55 l0 x5_1).f2),.slice A110_3 ((rd_T55 l0 x5_1).f3).length c110_3],.int .i64 x1_1] rfl gs ?_;(with_reducible refine (ih_laws_szPat k1 (by have:=HK1.out;omega) ((rd_T55 l0 x5_1).f0) ((rd_T55 l0 x5_1).f1) ((rd_T55 l0 x5_1).f2) _ _ ((rd_T55 l0 x5_1).f3) x1_1 t111 _ ?side1 ?side2 A6.out).mono ?_);(case side1=>exact ck (Kd.C_below HR110_3.out HB.out));(case side2=>exact HC110_3.out);rintro e w9 ⟨rfl,hb⟩;refine ⟨_,rfl,?_⟩;have n_:=bq HB hb;clear HB;have HB:=n_;clear n_;(try clear hb);(try clear hb2);(try clear hk);(try clear hi)))
       go_roundg k1
       case measure=>have:=HK1.out;omega
       case rel=>exact ⟨(t111),(wrap64 (x5_1 + 1)),(cl2),(cl2),H',⟨by have:=HK1.out;omega⟩,⟨bl HB.out⟩⟩
     ·rw [if_neg c5] at H
      exact absurd H (by simp)
    ·rw [if_neg c4] at H
     have c4b0:decide (x5_1 < (l0.length:Int)) = false:=decide_eq_false c4;clear c4;obtain rfl:=Option.some.inj H
     go_wp2
     go_ret
     exact ⟨cl,bl HB.out⟩

theorem laws_szPat.all (k:Nat):(∀ (a0_0:Int) (a0_1:Int) (a0_2:ByteArray) (A0_3:Option Addr) (c0_3:Nat) (l0_3:List (S55)) (a1:Int) (r:Int) (w:World) (hr0_3:Kd.C k55 w A0_3 l0_3.length l0_3) (hc0_3:l0_3.length≤c0_3) (h:laws_szPat.f k a0_0 a0_1 a0_2 l0_3 a1 = some r),Calls Try.prog 19 #[.agg #[.int .i64 a0_0,.int .i64 a0_1,.string a0_2,.slice A0_3 l0_3.length c0_3],.int .i64 a1] w fun e w'=>e = .returned (.int .i64 r)∧Below w.heap.size w w')∧(∀ (A0:Option Addr) (c0:Nat) (l0:List (S55)) (a1:Int) (r:Int) (w:World) (hr0:Kd.C k55 w A0 l0.length l0) (hc0:l0.length≤c0) (h:laws_szPatS.f k l0 a1 = some r),Calls Try.prog 10 #[.slice A0 l0.length c0,.int .i64 a1] w fun e w'=>e = .returned (.int .i64 r)∧Below w.heap.size w w'):=by
 induction k using Nat.strongRecOn with
 | _ k ih =>
 exact ⟨laws_szPat.step k (fun k_ h_=>(ih k_ h_).1) (fun k_ h_=>(ih k_ h_).2),laws_szPatS.step k (fun k_ h_=>(ih k_ h_).1) (fun k_ h_=>(ih k_ h_).2)⟩
theorem laws_szPat.calls (k:Nat):∀ (a0_0:Int) (a0_1:Int) (a0_2:ByteArray) (A0_3:Option Addr) (c0_3:Nat) (l0_3:List (S55)) (a1:Int) (r:Int) (w:World) (hr0_3:Kd.C k55 w A0_3 l0_3.length l0_3) (hc0_3:l0_3.length≤c0_3) (h:laws_szPat.f k a0_0 a0_1 a0_2 l0_3 a1 = some r),Calls Try.prog 19 #[.agg #[.int .i64 a0_0,.int .i64 a0_1,.string a0_2,.slice A0_3 l0_3.length c0_3],.int .i64 a1] w fun e w'=>e = .returned (.int .i64 r)∧Below w.heap.size w w':=(laws_szPat.all k).1
theorem laws_szPatS.calls (k:Nat):∀ (A0:Option Addr) (c0:Nat) (l0:List (S55)) (a1:Int) (r:Int) (w:World) (hr0:Kd.C k55 w A0 l0.length l0) (hc0:l0.length≤c0) (h:laws_szPatS.f k l0 a1 = some r),Calls Try.prog 10 #[.slice A0 l0.length c0,.int .i64 a1] w fun e w'=>e = .returned (.int .i64 r)∧Below w.heap.size w w':=(laws_szPat.all k).2

/-! ### laws_szCode: function 4 -/
def laws_szCode.f (k:Nat) (l0_0:List (S52)) (l0_1:List (S55)) (a1:Int):Option (Int):=(laws_szFnS.f k l0_0 a1).bind fun t113=>(if t113 < 0 then (some (-1)) else ((laws_szPatS.f k l0_1 t113).bind fun t114=>(if t114 < 0 then (some (-1)) else (some t114))))
theorem laws_szCode.mono:∀ a0 a1 a2 k,LeO (laws_szCode.f k a0 a1 a2) (laws_szCode.f (k + 1) a0 a1 a2):=by
 intro a0 a1 a2 k
 unfold laws_szCode.f
 with_reducible repeat' first|apply laws_szFnS.mono|apply laws_szPatS.mono|apply LeO.refl|apply LeO.none|apply LeO.ite|refine LeO.bind ?_ (fun _=>?_)
set_option maxHeartbeats 8000000 in
set_option maxRecDepth 100000 in
theorem laws_szCode.calls (k:Nat) (A0_0:Option Addr) (c0_0:Nat) (l0_0:List (S52)) (A0_1:Option Addr) (c0_1:Nat) (l0_1:List (S55)) (a1:Int) (r:Int) (w:World) (hr0_0:Kd.C k52 w A0_0 l0_0.length l0_0) (hc0_0:l0_0.length≤c0_0) (hr0_1:Kd.C k55 w A0_1 l0_1.length l0_1) (hc0_1:l0_1.length≤c0_1) (h:laws_szCode.f k l0_0 l0_1 a1 = some r) :
  Calls Try.prog 4 #[.agg #[.slice A0_0 l0_0.length c0_0,.slice A0_1 l0_1.length c0_1],.int .i64 a1] w fun e w'=>e = .returned (.int .i64 r)∧Below w.heap.size w w':=by
 have hu25:=Try.underlying25;have HR0_0:=Aside0.mk hr0_0;have HC0_0:=Aside0.mk hc0_0;clear hr0_0 hc0_0;have HR0_1:=Aside0.mk hr0_1;have HC0_1:=Aside0.mk hc0_1;clear hr0_1 hc0_1;have HB:=Aside0.mk (Below.refl w.heap.size w);have H:((laws_szFnS.f k l0_0 a1).bind fun t113=>(if t113 < 0 then (some (-1)) else ((laws_szPatS.f k l0_1 t113).bind fun t114=>(if t114 < 0 then (some (-1)) else (some t114))))) = some r:=h;clear h;replace H:=Option.bind_eq_some_iff.mp H;obtain ⟨t113,A30,H⟩:=H;replace H:(if t113 < 0 then (some (-1)) else ((laws_szPatS.f k l0_1 t113).bind fun t114=>(if t114 < 0 then (some (-1)) else (some t114)))) = some r:=H;have A3:=Aside0.mk A30;clear A30
 by_cases c4:t113 < 0
 ·rw [if_pos c4] at H
  have c4b0:decide (t113 < 0) = true:=decide_eq_true c4;clear c4;obtain rfl:=Option.some.inj H
  go_enter Try.func4,Try.ntmps4
  go_wp2_with (first|((with_reducible refine gate_dst (N:=2) rfl ?_);refine box_event ?hg (N:=2) ?hd (cs:=#[.slice A0_0 l0_0.length c0_0,.slice A0_1 l0_1.length c0_1]) (t:=25) ?hr ?_;(case hd=>rfl);(case hg=>rfl);(case hr=>first|(go_simp;done)|(go_simp;rfl));intro gb112 hg w5 hbox hb;have n_:=ai (bq HB hb) <| ai (Aside0.mk (hbox)) <| ai (bz hg HB) <| bz hg HB;clear HB;obtain ⟨HB,BK112,GW112,GE112⟩:=n_;clear hb hbox hg;obtain ⟨hcz6_0,hcz6_1⟩:=kb2 BK112.out;obtain ⟨hfz6_0,hfz6_1⟩:=kz2 BK112.out)|((with_reducible refine gate_callee (f:=9) rfl ?_);refine goesL_ (some 8) rfl rfl Try.func9 (by kernel_rfl) rfl #[.slice A0_0 l0_0.length c0_0,.int .i64 a1] rfl gs ?_;(with_reducible refine (laws_szFnS.calls k _ _ l0_0 a1 t113 _ ?side1 ?side2 A3.out).mono ?_);(case side1=>exact ck (Kd.C_below HR0_0.out HB.out));(case side2=>exact HC0_0.out);rintro e w7 ⟨rfl,hb⟩;refine ⟨_,rfl,?_⟩;have n_:=ai (bw BK112 hb) <| bq HB hb;clear BK112 HB;obtain ⟨BK112,HB⟩:=n_;(try clear hb);(try clear hb2);(try clear hk);(try clear hi)))
  go_ret
  exact ⟨cl,bl HB.out⟩
 ·rw [if_neg c4] at H
  have c4b0:decide (t113 < 0) = false:=decide_eq_false c4;clear c4;replace H:=Option.bind_eq_some_iff.mp H;obtain ⟨t114,A80,H⟩:=H;replace H:(if t114 < 0 then (some (-1)) else (some t114)) = some r:=H;have A8:=Aside0.mk A80;clear A80
  by_cases c9:t114 < 0
  ·rw [if_pos c9] at H
   have c9b0:decide (t114 < 0) = true:=decide_eq_true c9;clear c9;obtain rfl:=Option.some.inj H
   go_enter Try.func4,Try.ntmps4
   go_wp2_with (first|((with_reducible refine gate_dst (N:=2) rfl ?_);refine box_event ?hg (N:=2) ?hd (cs:=#[.slice A0_0 l0_0.length c0_0,.slice A0_1 l0_1.length c0_1]) (t:=25) ?hr ?_;(case hd=>rfl);(case hg=>rfl);(case hr=>first|(go_simp;done)|(go_simp;rfl));intro gb112 hg w10 hbox hb;have n_:=ai (bq HB hb) <| ai (Aside0.mk (hbox)) <| ai (bz hg HB) <| bz hg HB;clear HB;obtain ⟨HB,BK112,GW112,GE112⟩:=n_;clear hb hbox hg;obtain ⟨hcz11_0,hcz11_1⟩:=kb2 BK112.out;obtain ⟨hfz11_0,hfz11_1⟩:=kz2 BK112.out)|((with_reducible refine gate_callee (f:=9) rfl ?_);refine goesL_ (some 8) rfl rfl Try.func9 (by kernel_rfl) rfl #[.slice A0_0 l0_0.length c0_0,.int .i64 a1] rfl gs ?_;(with_reducible refine (laws_szFnS.calls k _ _ l0_0 a1 t113 _ ?side1 ?side2 A3.out).mono ?_);(case side1=>exact ck (Kd.C_below HR0_0.out HB.out));(case side2=>exact HC0_0.out);rintro e w12 ⟨rfl,hb⟩;refine ⟨_,rfl,?_⟩;have n_:=ai (bw BK112 hb) <| bq HB hb;clear BK112 HB;obtain ⟨BK112,HB⟩:=n_;(try clear hb);(try clear hb2);(try clear hk);(try clear hi);obtain ⟨hcz13_0,hcz13_1⟩:=kb2 BK112.out;obtain ⟨hfz13_0,hfz13_1⟩:=kz2 BK112.out)|((with_reducible refine gate_callee (f:=10) rfl ?_);refine goesL_ (some 14) rfl rfl Try.func10 (by kernel_rfl) rfl #[.slice A0_1 l0_1.length c0_1,.int .i64 t113] rfl gs ?_;(with_reducible refine (laws_szPatS.calls k _ _ l0_1 t113 t114 _ ?side1 ?side2 A8.out).mono ?_);(case side1=>exact ck (Kd.C_below HR0_1.out HB.out));(case side2=>exact HC0_1.out);rintro e w14 ⟨rfl,hb⟩;refine ⟨_,rfl,?_⟩;have n_:=ai (bw BK112 hb) <| bq HB hb;clear BK112 HB;obtain ⟨BK112,HB⟩:=n_;(try clear hb);(try clear hb2);(try clear hk);(try clear hi)))
   go_ret
   exact ⟨cl,bl HB.out⟩
  ·rw [if_neg c9] at H
   have c9b0:decide (t114 < 0) = false:=decide_eq_false c9;clear c9;obtain rfl:=Option.some.inj H
   go_enter Try.func4,Try.ntmps4
   go_wp2_with (first|((with_reducible refine gate_dst (N:=2) rfl ?_);refine box_event ?hg (N:=2) ?hd (cs:=#[.slice A0_0 l0_0.length c0_0,.slice A0_1 l0_1.length c0_1]) (t:=25) ?hr ?_;(case hd=>rfl);(case hg=>rfl);(case hr=>first|(go_simp;done)|(go_simp;rfl));intro gb112 hg w15 hbox hb;have n_:=ai (bq HB hb) <| ai (Aside0.mk (hbox)) <| ai (bz hg HB) <| bz hg HB;clear HB;obtain ⟨HB,BK112,GW112,GE112⟩:=n_;clear hb hbox hg;obtain ⟨hcz16_0,hcz16_1⟩:=kb2 BK112.out;obtain ⟨hfz16_0,hfz16_1⟩:=kz2 BK112.out)|((with_reducible refine gate_callee (f:=9) rfl ?_);refine goesL_ (some 8) rfl rfl Try.func9 (by kernel_rfl) rfl #[.slice A0_0 l0_0.length c0_0,.int .i64 a1] rfl gs ?_;(with_reducible refine (laws_szFnS.calls k _ _ l0_0 a1 t113 _ ?side1 ?side2 A3.out).mono ?_);(case side1=>exact ck (Kd.C_below HR0_0.out HB.out));(case side2=>exact HC0_0.out);rintro e w17 ⟨rfl,hb⟩;refine ⟨_,rfl,?_⟩;have n_:=ai (bw BK112 hb) <| bq HB hb;clear BK112 HB;obtain ⟨BK112,HB⟩:=n_;(try clear hb);(try clear hb2);(try clear hk);(try clear hi);obtain ⟨hcz18_0,hcz18_1⟩:=kb2 BK112.out;obtain ⟨hfz18_0,hfz18_1⟩:=kz2 BK112.out)|((with_reducible refine gate_callee (f:=10) rfl ?_);refine goesL_ (some 14) rfl rfl Try.func10 (by kernel_rfl) rfl #[.slice A0_1 l0_1.length c0_1,.int .i64 t113] rfl gs ?_;(with_reducible refine (laws_szPatS.calls k _ _ l0_1 t113 t114 _ ?side1 ?side2 A8.out).mono ?_);(case side1=>exact ck (Kd.C_below HR0_1.out HB.out));(case side2=>exact HC0_1.out);rintro e w19 ⟨rfl,hb⟩;refine ⟨_,rfl,?_⟩;have n_:=ai (bw BK112 hb) <| bq HB hb;clear BK112 HB;obtain ⟨BK112,HB⟩:=n_;(try clear hb);(try clear hb2);(try clear hk);(try clear hi)))
   go_ret
   exact ⟨cl,bl HB.out⟩

/-! ### spec_l1In: function 22 -/
def spec_l1In.f (a0:Int) (a1:Int) (a2:Int):Option (Bool):=if a0 ≥ a1 then (some (decide (a0≤a2))) else (some false)
set_option maxHeartbeats 8000000 in
set_option maxRecDepth 100000 in
theorem spec_l1In.calls (a0:Int) (a1:Int) (a2:Int) (r:Bool) (w:World) (h:spec_l1In.f a0 a1 a2 = some r) :
  Calls Try.prog 22 #[.int .i64 a0,.int .i64 a1,.int .i64 a2] w fun e w'=>e = .returned (.bool r)∧Drawn0 w w':=by
 have H:(if a0 ≥ a1 then (some (decide (a0≤a2))) else (some false)) = some r:=h;clear h
 by_cases c4:a0 ≥ a1
 ·rw [if_pos c4] at H
  have c4b0:decide (a1≤a0) = true:=decide_eq_true c4;clear c4;obtain rfl:=Option.some.inj H
  go_enter Try.func22,Try.ntmps22
  go_wp2
  go_ret
  exact ⟨cl2,by repeat (first|exact Drawn0.refl _|apply Drawn0.step)⟩
 ·rw [if_neg c4] at H
  have c4b0:decide (a1≤a0) = false:=decide_eq_false c4;clear c4;obtain rfl:=Option.some.inj H
  go_enter Try.func22,Try.ntmps22
  go_wp2
  go_ret
  exact ⟨cl2,by repeat (first|exact Drawn0.refl _|apply Drawn0.step)⟩

/-! ### spec_AtomOk: function 36 -/
def spec_AtomOk.l0:Nat → ByteArray → Int → Option (Bool)
 | 0,_,_=>none
 | k + 1,x0,x3=>if x3 < (x0.size:Int) then (if 0≤x3 then ((spec_l1In.f (wrap64 (bt x0 x3)) 97 122).bind fun t116=>(if t116 = true then (spec_AtomOk.l0 k x0 (wrap64 (x3 + 1))) else (if x3 = 0 then (some false) else ((spec_l1In.f (wrap64 (bt x0 x3)) 48 57).bind fun t117=>(if t117 = true then (spec_AtomOk.l0 k x0 (wrap64 (x3 + 1))) else (if (wrap64 (bt x0 x3)) = 95 then (spec_AtomOk.l0 k x0 (wrap64 (x3 + 1))) else (some false))))))) else (none)) else ((spec_l1In.f (x0.size:Int) 1 20).bind fun t115=>(some t115))
def spec_AtomOk.f (k:Nat) (a0:ByteArray):Option (Bool):=spec_AtomOk.l0 k a0 0
theorem spec_AtomOk.mono_l:∀ k,(∀ y0 y1,LeO (spec_AtomOk.l0 k y0 y1) (spec_AtomOk.l0 (k + 1) y0 y1))
 | 0=>fun _ _ r h=>by simp [spec_AtomOk.l0] at h
 | k + 1=>by
  have ih0:=spec_AtomOk.mono_l k
  ·intro y0 y1
   unfold spec_AtomOk.l0
   with_reducible repeat' first|apply ih0|apply LeO.refl|apply LeO.none|apply LeO.ite|refine LeO.bind ?_ (fun _=>?_)
theorem spec_AtomOk.mono:∀ a0 k,LeO (spec_AtomOk.f k a0) (spec_AtomOk.f (k + 1) a0):=by
 intro a0 k;have ih0:=spec_AtomOk.mono_l k
 unfold spec_AtomOk.f
 with_reducible repeat' first|apply ih0|apply LeO.refl|apply LeO.none|apply LeO.ite|refine LeO.bind ?_ (fun _=>?_)
set_option maxHeartbeats 8000000 in
set_option maxRecDepth 100000 in
theorem spec_AtomOk.calls (k:Nat) (a0:ByteArray) (r:Bool) (w:World) (h:spec_AtomOk.f k a0 = some r) :
  Calls Try.prog 36 #[.string a0] w fun e w'=>e = .returned (.bool r)∧Drawn0 w w':=by
 have H:(spec_AtomOk.l0 k a0 0) = some r:=h;clear h;have H':=Aside0.mk H;clear H
 go_enter Try.func36,Try.ntmps36
 go_wp2
 go_loopg [3] k (fun kq v3 w'=>∃ (x3_1:Int),v3 = .int .i64 x3_1∧Aside0 (spec_AtomOk.l0 kq a0 x3_1 = some r)∧Aside0 (kq≤k)∧Drawn0 w w')
 case atStart=>exact ⟨(0),(cl2),H',⟨Nat.le_refl _⟩,by repeat (first|exact Drawn0.refl _|apply Drawn0.step)⟩
 case round =>
  clear H';obtain ⟨x3_1,rfl,HA,HK1,⟨m1,rfl⟩⟩:=hrel
  cases gk with
  | zero=>exact absurd HA.out (by simp [spec_AtomOk.l0])
  | succ k1 =>
   have H:=HA.out;clear HA;simp only [spec_AtomOk.l0] at H
   by_cases c2:x3_1 < (a0.size:Int)
   ·rw [if_pos c2] at H
    have c2b0:decide (x3_1 < (a0.size:Int)) = true:=decide_eq_true c2;clear c2
    by_cases c3:0≤x3_1
    ·rw [if_pos c3] at H
     have c3b0:decide (0≤x3_1) = true:=decide_eq_true c3;clear c3;replace H:=Option.bind_eq_some_iff.mp H;obtain ⟨t116,A50,H⟩:=H;replace H:(if t116 = true then (spec_AtomOk.l0 k1 a0 (wrap64 (x3_1 + 1))) else (if x3_1 = 0 then (some false) else ((spec_l1In.f (wrap64 (bt a0 x3_1)) 48 57).bind fun t117=>(if t117 = true then (spec_AtomOk.l0 k1 a0 (wrap64 (x3_1 + 1))) else (if (wrap64 (bt a0 x3_1)) = 95 then (spec_AtomOk.l0 k1 a0 (wrap64 (x3_1 + 1))) else (some false)))))) = some r:=H;have A5:=Aside0.mk A50;clear A50
     by_cases c6:t116 = true
     ·subst c6
      have H1:(spec_AtomOk.l0 k1 a0 (wrap64 (x3_1 + 1))) = some r:=by rw [if_pos rfl] at H;exact H
      clear H;have H:=H1;clear H1;have H':=Aside0.mk H;clear H;have p4:0≤(x3_1:Int):=od;have q4:x3_1 < (a0.size:Int):=od;have hx4:=bt_at a0 x3_1;replace p4:=eq_true p4;replace q4:=eq_true q4
      go_wp2_with (first|((with_reducible refine gate_callee (f:=22) rfl ?_);refine goesL_ (some 17) rfl rfl Try.func22 (by kernel_rfl) rfl #[.int .i64 (wrap64 (bt a0 x3_1)),.int .i64 97,.int .i64 122] rfl gs ?_;(with_reducible refine (spec_l1In.calls (wrap64 (bt a0 x3_1)) 97 122 true _ A5.out).mono ?_);rintro e w' ⟨rfl,⟨nd,rfl⟩⟩;refine ⟨_,rfl,?_⟩))
      go_roundg k1
      case measure=>have:=HK1.out;omega
      case rel=>exact ⟨(wrap64 (x3_1 + 1)),(cl2),H',⟨by have:=HK1.out;omega⟩,by repeat (first|exact Drawn0.refl _|apply Drawn0.step)⟩
     ·replace c6:=Bool.eq_false_iff.mpr c6
      subst c6;have H1:(if x3_1 = 0 then (some false) else ((spec_l1In.f (wrap64 (bt a0 x3_1)) 48 57).bind fun t117=>(if t117 = true then (spec_AtomOk.l0 k1 a0 (wrap64 (x3_1 + 1))) else (if (wrap64 (bt a0 x3_1)) = 95 then (spec_AtomOk.l0 k1 a0 (wrap64 (x3_1 + 1))) else (some false))))) = some r:=by rw [if_neg (show ¬ (false = true) by decide)] at H;exact H
      clear H;have H:=H1;clear H1
      by_cases c7:x3_1 = 0
      ·rw [if_pos c7] at H
       have c7b0:(x3_1 == 0) = true:=beq_iff_eq.mpr c7;have c7b1:(x3_1 != 0) = false:=bne_eq_false_iff_eq.mpr c7;clear c7;obtain rfl:=Option.some.inj H;have p4:0≤(x3_1:Int):=od;have q4:x3_1 < (a0.size:Int):=od;have hx4:=bt_at a0 x3_1;replace p4:=eq_true p4;replace q4:=eq_true q4
       go_wp2_with (first|((with_reducible refine gate_callee (f:=22) rfl ?_);refine goesL_ (some 17) rfl rfl Try.func22 (by kernel_rfl) rfl #[.int .i64 (wrap64 (bt a0 x3_1)),.int .i64 97,.int .i64 122] rfl gs ?_;(with_reducible refine (spec_l1In.calls (wrap64 (bt a0 x3_1)) 97 122 false _ A5.out).mono ?_);rintro e w' ⟨rfl,⟨nd,rfl⟩⟩;refine ⟨_,rfl,?_⟩))
       go_ret
       exact ⟨cl2,by repeat (first|exact Drawn0.refl _|apply Drawn0.step)⟩
      ·rw [if_neg c7] at H
       have c7b0:(x3_1 == 0) = false:=beq_eq_false_iff_ne.mpr c7;have c7b1:(x3_1 != 0) = true:=bne_iff_ne.mpr c7;replace H:=Option.bind_eq_some_iff.mp H;obtain ⟨t117,A80,H⟩:=H;replace H:(if t117 = true then (spec_AtomOk.l0 k1 a0 (wrap64 (x3_1 + 1))) else (if (wrap64 (bt a0 x3_1)) = 95 then (spec_AtomOk.l0 k1 a0 (wrap64 (x3_1 + 1))) else (some false))) = some r:=H;have A8:=Aside0.mk A80;clear A80
       by_cases c9:t117 = true
       ·subst c9
        have H1:(spec_AtomOk.l0 k1 a0 (wrap64 (x3_1 + 1))) = some r:=by rw [if_pos rfl] at H;exact H
        clear H;have H:=H1;clear H1;have H':=Aside0.mk H;clear H;have p4:0≤(x3_1:Int):=od;have q4:x3_1 < (a0.size:Int):=od;have hx4:=bt_at a0 x3_1;replace p4:=eq_true p4;replace q4:=eq_true q4
        go_wp2_with (first|((with_reducible refine gate_callee (f:=22) rfl ?_);refine goesL_ (some 17) rfl rfl Try.func22 (by kernel_rfl) rfl #[.int .i64 (wrap64 (bt a0 x3_1)),.int .i64 97,.int .i64 122] rfl gs ?_;(with_reducible refine (spec_l1In.calls (wrap64 (bt a0 x3_1)) 97 122 false _ A5.out).mono ?_);rintro e w' ⟨rfl,⟨nd,rfl⟩⟩;refine ⟨_,rfl,?_⟩)|(go_at_call 22;(with_reducible refine (spec_l1In.calls (wrap64 (bt a0 x3_1)) 48 57 true _ A8.out).mono ?_);rintro e w' ⟨rfl,⟨nd,rfl⟩⟩))
        go_roundg k1
        case measure=>have:=HK1.out;omega
        case rel=>exact ⟨(wrap64 (x3_1 + 1)),(cl2),H',⟨by have:=HK1.out;omega⟩,by repeat (first|exact Drawn0.refl _|apply Drawn0.step)⟩
       ·replace c9:=Bool.eq_false_iff.mpr c9
        subst c9;have H1:(if (wrap64 (bt a0 x3_1)) = 95 then (spec_AtomOk.l0 k1 a0 (wrap64 (x3_1 + 1))) else (some false)) = some r:=by rw [if_neg (show ¬ (false = true) by decide)] at H;exact H
        clear H;have H:=H1;clear H1
        by_cases c10:(wrap64 (bt a0 x3_1)) = 95
        ·rw [if_pos c10] at H
         have c10b0:((wrap64 (bt a0 x3_1)) == 95) = true:=beq_iff_eq.mpr c10;have c10b1:((wrap64 (bt a0 x3_1)) != 95) = false:=bne_eq_false_iff_eq.mpr c10;clear c10;have H':=Aside0.mk H;clear H;have p4:0≤(x3_1:Int):=od;have q4:x3_1 < (a0.size:Int):=od;have hx4:=bt_at a0 x3_1;replace p4:=eq_true p4;replace q4:=eq_true q4
         go_wp2_with (first|((with_reducible refine gate_callee (f:=22) rfl ?_);refine goesL_ (some 17) rfl rfl Try.func22 (by kernel_rfl) rfl #[.int .i64 (wrap64 (bt a0 x3_1)),.int .i64 97,.int .i64 122] rfl gs ?_;(with_reducible refine (spec_l1In.calls (wrap64 (bt a0 x3_1)) 97 122 false _ A5.out).mono ?_);rintro e w' ⟨rfl,⟨nd,rfl⟩⟩;refine ⟨_,rfl,?_⟩)|(go_at_call 22;(with_reducible refine (spec_l1In.calls (wrap64 (bt a0 x3_1)) 48 57 false _ A8.out).mono ?_);rintro e w' ⟨rfl,⟨nd,rfl⟩⟩))
         go_roundg k1
         case measure=>have:=HK1.out;omega
         case rel=>exact ⟨(wrap64 (x3_1 + 1)),(cl2),H',⟨by have:=HK1.out;omega⟩,by repeat (first|exact Drawn0.refl _|apply Drawn0.step)⟩
        ·rw [if_neg c10] at H
         have c10b0:((wrap64 (bt a0 x3_1)) == 95) = false:=beq_eq_false_iff_ne.mpr c10;have c10b1:((wrap64 (bt a0 x3_1)) != 95) = true:=bne_iff_ne.mpr c10;obtain rfl:=Option.some.inj H;have p4:0≤(x3_1:Int):=od;have q4:x3_1 < (a0.size:Int):=od;have hx4:=bt_at a0 x3_1;replace p4:=eq_true p4;replace q4:=eq_true q4
         go_wp2_with (first|((with_reducible refine gate_callee (f:=22) rfl ?_);refine goesL_ (some 17) rfl rfl Try.func22 (by kernel_rfl) rfl #[.int .i64 (wrap64 (bt a0 x3_1)),.int .i64 97,.int .i64 122] rfl gs ?_;(with_reducible refine (spec_l1In.calls (wrap64 (bt a0 x3_1)) 97 122 false _ A5.out).mono ?_);rintro e w' ⟨rfl,⟨nd,rfl⟩⟩;refine ⟨_,rfl,?_⟩)|(go_at_call 22;(with_reducible refine (spec_l1In.calls (wrap64 (bt a0 x3_1)) 48 57 false _ A8.out).mono ?_);rintro e w' ⟨rfl,⟨nd,rfl⟩⟩))
         go_ret
         exact ⟨cl2,by repeat (first|exact Drawn0.refl _|apply Drawn0.step)⟩
    ·rw [if_neg c3] at H
     exact absurd H (by simp)
   ·rw [if_neg c2] at H
    have c2b0:decide (x3_1 < (a0.size:Int)) = false:=decide_eq_false c2;clear c2;replace H:=Option.bind_eq_some_iff.mp H;obtain ⟨t115,A110,H⟩:=H;replace H:(some t115) = some r:=H;have A11:=Aside0.mk A110;clear A110;obtain rfl:=Option.some.inj H
    go_wp2_with (first|((with_reducible refine gate_callee (f:=22) rfl ?_);refine goesL_ (some 35) rfl rfl Try.func22 (by kernel_rfl) rfl #[.int .i64 (a0.size:Int),.int .i64 1,.int .i64 20] rfl gs ?_;(with_reducible refine (spec_l1In.calls (a0.size:Int) 1 20 t115 _ A11.out).mono ?_);rintro e w' ⟨rfl,⟨nd,rfl⟩⟩;refine ⟨_,rfl,?_⟩))
    go_ret
    exact ⟨cl2,by repeat (first|exact Drawn0.refl _|apply Drawn0.step)⟩

end Go.Proofs.Ytghhbdmjafedbaa.QFnExactCodeOk
