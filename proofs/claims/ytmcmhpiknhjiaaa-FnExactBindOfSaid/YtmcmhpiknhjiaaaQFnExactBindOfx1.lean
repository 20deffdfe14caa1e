-- Written by a program of this workplace (print2.py) for this claim, over the print's words.
import Derived.Test.YtmcmhpiknhjiaaaQFnExactBindOfx0
namespace Go.Proofs.Ytmcmhpiknhjiaaa.QFnExactBindOf
open Go.RowKit Go.Proofs.YtmcmhpiknhjiaaaW.PrintWords Go.Proofs.YtmcmhpiknhjiaaaW.PrintLast Go.Proofs.YtmcmhpiknhjiaaaW.PrintMore
attribute [local go_sem] max2_int min2_int max_two min_two max_three min_three max_four min_four   -- for this text's walks alone
set_option linter.unusedVariables false
set_option linter.unusedSimpArgs false

mutual
def laws_szTermS.l0:Nat → List (S39) → Int → Int → Option (Int)
 | 0,_,_,_=>none
 | k + 1,x0,x1,x5=>if x5 < (x0.length:Int) then (if 0≤x5 then ((laws_szTerm.f k ((rd_T39 x0 x5).f0) ((rd_T39 x0 x5).f1) ((rd_T39 x0 x5).f2) ((rd_T39 x0 x5).f3) x1).bind fun t102=>(if t102 < 0 then (some (-1)) else (laws_szTermS.l0 k x0 t102 (wrap64 (x5 + 1))))) else (none)) else (some x1)
def laws_szTermS.f:Nat → List (S39) → Int → Option (Int)
 | 0,_,_=>none
 | k + 1,l0,a1=>if (wrap64 (a1 - (l0.length:Int))) < 0 then (some (-1)) else (laws_szTermS.l0 k l0 (wrap64 (a1 - (l0.length:Int))) 0)
def laws_szTerm.f:Nat → Int → Int → ByteArray → List (S39) → Int → Option (Int)
 | 0,_,_,_,_,_=>none
 | k + 1,a0_0,a0_1,a0_2,l0_3,a1=>if (wrap64 (a1 - (a0_2.size:Int))) < 0 then (some (-1)) else ((laws_szTermS.f k l0_3 (wrap64 (a1 - (a0_2.size:Int)))).bind fun t104=>(if t104 < 0 then (some (-1)) else (some t104)))
end
theorem laws_szTermS.mono_g:∀ k,(∀ y0 y1,LeO (laws_szTermS.f k y0 y1) (laws_szTermS.f (k + 1) y0 y1))∧(∀ y0 y1 y2,LeO (laws_szTermS.l0 k y0 y1 y2) (laws_szTermS.l0 (k + 1) y0 y1 y2))∧(∀ y0 y1 y2 y3 y4,LeO (laws_szTerm.f k y0 y1 y2 y3 y4) (laws_szTerm.f (k + 1) y0 y1 y2 y3 y4))
 | 0=>⟨fun _ _ r h=>by simp [laws_szTermS.f] at h,fun _ _ _ r h=>by simp [laws_szTermS.l0] at h,fun _ _ _ _ _ r h=>by simp [laws_szTerm.f] at h⟩
 | k + 1=>by
  obtain ⟨ih0,ih1,ih2⟩:=laws_szTermS.mono_g k
  refine ⟨?_,?_,?_⟩
  ·intro y0 y1
   unfold laws_szTermS.f
   with_reducible repeat' first|apply ih0|apply ih1|apply ih2|apply LeO.refl|apply LeO.none|apply LeO.ite|refine LeO.bind ?_ (fun _=>?_)
  ·intro y0 y1 y2
   unfold laws_szTermS.l0
   with_reducible repeat' first|apply ih0|apply ih1|apply ih2|apply LeO.refl|apply LeO.none|apply LeO.ite|refine LeO.bind ?_ (fun _=>?_)
  ·intro y0 y1 y2 y3 y4
   unfold laws_szTerm.f
   with_reducible repeat' first|apply ih0|apply ih1|apply ih2|apply LeO.refl|apply LeO.none|apply LeO.ite|refine LeO.bind ?_ (fun _=>?_)
theorem laws_szTermS.mono:∀ a0 a1 k,LeO (laws_szTermS.f k a0 a1) (laws_szTermS.f (k + 1) a0 a1):=by
 intro a0 a1 k;obtain ⟨ih0,ih1,ih2⟩:=laws_szTermS.mono_g k
 exact ih0 a0 a1
theorem laws_szTerm.mono:∀ a0 a1 a2 a3 a4 k,LeO (laws_szTerm.f k a0 a1 a2 a3 a4) (laws_szTerm.f (k + 1) a0 a1 a2 a3 a4):=by
 intro a0 a1 a2 a3 a4 k;obtain ⟨ih0,ih1,ih2⟩:=laws_szTermS.mono_g k
 exact ih2 a0 a1 a2 a3 a4
/-! ### laws_szTermS: function 25 -/
set_option maxHeartbeats 8000000 in
set_option maxRecDepth 100000 in
theorem laws_szTermS.step (k:Nat) (ih_laws_szTermS:∀ k_,k_ < k → ∀ (A0:Option Addr) (c0:Nat) (l0:List (S39)) (a1:Int) (r:Int) (w:World) (hr0:Kd.C k39 w A0 l0.length l0) (hc0:l0.length≤c0) (h:laws_szTermS.f k_ l0 a1 = some r),Calls Try.prog 25 #[.slice A0 l0.length c0,.int .i64 a1] w fun e w'=>e = .returned (.int .i64 r)∧Below w.heap.size w w') (ih_laws_szTerm:∀ k_,k_ < k → ∀ (a0_0:Int) (a0_1:Int) (a0_2:ByteArray) (A0_3:Option Addr) (c0_3:Nat) (l0_3:List (S39)) (a1:Int) (r:Int) (w:World) (hr0_3:Kd.C k39 w A0_3 l0_3.length l0_3) (hc0_3:l0_3.length≤c0_3) (h:laws_szTerm.f k_ a0_0 a0_1 a0_2 l0_3 a1 = some r),Calls Try.prog 22 #[.agg #[.int .i64 a0_0,.int .i64 a0_1,.string a0_2,.slice A0_3 l0_3.length c0_3],.int .i64 a1] w fun e w'=>e = .returned (.int .i64 r)∧Below w.heap.size w w'):∀ (A0:Option Addr) (c0:Nat) (l0:List (S39)) (a1:Int) (r:Int) (w:World) (hr0:Kd.C k39 w A0 l0.length l0) (hc0:l0.length≤c0) (h:laws_szTermS.f k l0 a1 = some r),
  Calls Try.prog 25 #[.slice A0 l0.length c0,.int .i64 a1] w fun e w'=>e = .returned (.int .i64 r)∧Below w.heap.size w w':=by
 intro A0 c0 l0 a1 r w hr0 hc0 h
 cases k with
 | zero=>exact absurd h (by simp [laws_szTermS.f])
 | succ k =>
 simp only [laws_szTermS.f] at h;have hu39:=Try.underlying39;have HR0:=Aside0.mk hr0;have HC0:=Aside0.mk hc0;clear hr0 hc0;have HB:=Aside0.mk (Below.refl w.heap.size w);have H:(if (wrap64 (a1 - (l0.length:Int))) < 0 then (some (-1)) else (laws_szTermS.l0 k l0 (wrap64 (a1 - (l0.length:Int))) 0)) = some r:=h;clear h
 by_cases c3:(wrap64 (a1 - (l0.length:Int))) < 0
 ·rw [if_pos c3] at H
  have c3b0:decide ((wrap64 (a1 - (l0.length:Int))) < 0) = true:=decide_eq_true c3;clear c3;obtain rfl:=Option.some.inj H
  go_enter Try.func25,Try.ntmps25
  go_wp2
  go_ret
  exact ⟨cl,bl HB.out⟩
 ·rw [if_neg c3] at H
  have c3b0:decide ((wrap64 (a1 - (l0.length:Int))) < 0) = false:=decide_eq_false c3;clear c3;have H':=Aside0.mk H;clear H
  go_enter Try.func25,Try.ntmps25
  go_wp2
  go_loopg [1,5] k (fun kq v1 v5 w'=>∃ (x1_1:Int) (x5_1:Int),v1 = .int .i64 x1_1∧v5 = .int .i64 x5_1∧Aside0 (laws_szTermS.l0 kq l0 x1_1 x5_1 = some r)∧Aside0 (kq≤k)∧Aside0 (Below w.heap.size w w'))
  case atStart=>exact ⟨(wrap64 (a1 - (l0.length:Int))),(0),(cl2),(cl2),H',⟨Nat.le_refl _⟩,⟨bl HB.out⟩⟩
  case round =>
   clear H';(try clear c3);(try clear c3b0);(try clear HB);obtain ⟨x1_1,x5_1,rfl,rfl,HA,HK1,HB⟩:=hrel
   cases gk with
   | zero=>exact absurd HA.out (by simp [laws_szTermS.l0])
   | succ k1 =>
    have H:=HA.out;clear HA;simp only [laws_szTermS.l0] at H
    by_cases c4:x5_1 < (l0.length:Int)
    ·rw [if_pos c4] at H
     have c4b0:decide (x5_1 < (l0.length:Int)) = true:=decide_eq_true c4;clear c4
     by_cases c5:0≤x5_1
     ·rw [if_pos c5] at H
      have c5b0:decide (0≤x5_1) = true:=decide_eq_true c5;clear c5;replace H:=Option.bind_eq_some_iff.mp H;obtain ⟨t102,A60,H⟩:=H;replace H:(if t102 < 0 then (some (-1)) else (laws_szTermS.l0 k1 l0 t102 (wrap64 (x5_1 + 1)))) = some r:=H;have A6:=Aside0.mk A60;clear A60
      by_cases c7:t102 < 0
      ·rw [if_pos c7] at H
       have c7b0:decide (t102 < 0) = true:=decide_eq_true c7;clear c7;obtain rfl:=Option.some.inj H;have p101:0≤(x5_1:Int):=od;have q101:x5_1 < (l0.length:Int):=od;obtain ⟨ad101,A101_3,c101_3,e101,hx101_0,hx101_1,hx101_2,hx101_3,hl101_3,hi101_3⟩:=at_T39 HR0.out x5_1 p101 q101;cases e101;replace hx101_0:=cb HB hx101_0;replace hx101_1:=cb HB hx101_1;replace hx101_2:=cb HB hx101_2;replace hx101_3:=cb HB hx101_3;have HR101_3:=Aside0.mk hi101_3;have HC101_3:=Aside0.mk hl101_3;clear hi101_3 hl101_3;replace p101:=eq_true p101;replace q101:=eq_true q101
       go_wp2_with (first|((with_reducible refine gate_callee (f:=22) rfl ?_);refine goesL_ (some 23) rfl rfl Try.func22 (by kernel_rfl) rfl #[.agg #[.int .i64 ((rd_T39 l0 x5_1).f0),.int .i64 ((rd_T39 l0 x5_1).f1),.string ((rd_T39 l0 x5_1).f2),.slice A101_3 ((rd_T39 l0 x5_1).f3).length c101_3],.int .i64 x1_1] rfl gs ?_;(with_reducible refine (ih_laws_szTerm k1 (by have:=HK1.out;omega) ((rd_T39 l0 x5_1).f0) ((rd_T39 l0 x5_1).f1) ((rd_T39 l0 x5_1).f2) _ _ ((rd_T39 l0 x5_1).f3) x1_1 t102 _ ?side1 ?side2 A6.out).mono ?_);(case side1=>exact ck (Kd.C_below HR101_3.out HB.out));(case side2=>exact HC101_3.out);rintro e w8 ⟨rfl,hb⟩;refine ⟨_,rfl,?_⟩;have n_:=bq HB hb;clear HB;have HB:=n_;clear n_;(try clear hb);(try clear hi)))
       go_ret
       exact ⟨cl,bl HB.out⟩
      ·rw [if_neg c7] at H
       have c7b0:decide (t102 < 0) = false:=decide_eq_false c7;clear c7;have H':=Aside0.mk H;clear H;have p101:0≤(x5_1:Int):=od;have q101:x5_1 < (l0.length:Int):=od;obtain ⟨ad101,A101_3,c101_3,e101,hx101_0,hx101_1,hx101_2,hx101_3,hl101_3,hi101_3⟩:=at_T39 HR0.out x5_1 p101 q101;cases e101;replace hx101_0:=cb HB hx101_0;replace hx101_1:=cb HB hx101_1;replace hx101_2:=cb HB hx101_2;replace hx101_3:=cb HB hx101_3;have HR101_3:=Aside0.mk hi101_3;have HC101_3:=Aside0.mk hl101_3;clear hi101_3 hl101_3;replace p101:=eq_true p101;replace q101:=eq_true q101
       go_wp2_with (first|((with_reducible refine gate_callee (f:=22) rfl ?_);refine goesL_ (some 23) rfl rfl Try.func22 (by kernel_rfl) rfl #[.agg #[.int .i64 ((rd_T39 l0 x5_1).f0),.int .i64 ((rd_T39 l0 x5_1).f1),.string ((rd_T39 l0 x5_1).f2),.slice A101_3 ((rd_T39 l0 x5_1).f3).length c101_3],.int .i64 x1_1] rfl gs ?_;(with_reducible refine (ih_laws_szTerm k1 (by have:=HK1.out;omega) ((rd_T39 l0 x5_1).f0) ((rd_T39 l0 x5_1).f1) ((rd_T39 l0 x5_1).f2) _ _ ((rd_T39 l0 x5_1).f3) x1_1 t102 _ ?side1 ?side2 A6.out).mono ?_);(case side1=>exact ck (Kd.C_below HR101_3.out HB.out));(case side2=>exact HC101_3.out);rintro e w9 ⟨rfl,hb⟩;refine ⟨_,rfl,?_⟩;have n_:=bq HB hb;clear HB;have HB:=n_;clear n_;(try clear hb);(try clear hi)))
       go_roundg k1
       case measure=>have:=HK1.out;omega
       case rel=>exact ⟨(t102),(wrap64 (x5_1 + 1)),(cl2),(cl2),H',⟨by have:=HK1.out;omega⟩,⟨bl HB.out⟩⟩
     ·rw [if_neg c5] at H
      exact absurd H (by simp)
    ·rw [if_neg c4] at H
     have c4b0:decide (x5_1 < (l0.length:Int)) = false:=decide_eq_false c4;clear c4;obtain rfl:=Option.some.inj H
     go_wp2
     go_ret
     exact ⟨cl,bl HB.out⟩

/-! ### laws_szTerm: function 22 -/
set_option maxHeartbeats 8000000 in
set_option maxRecDepth 100000 in
theorem laws_szTerm.step (k:Nat) (ih_laws_szTermS:∀ k_,k_ < k → ∀ (A0:Option Addr) (c0:Nat) (l0:List (S39)) (a1:Int) (r:Int) (w:World) (hr0:Kd.C k39 w A0 l0.length l0) (hc0:l0.length≤c0) (h:laws_szTermS.f k_ l0 a1 = some r),Calls Try.prog 25 #[.slice A0 l0.length c0,.int .i64 a1] w fun e w'=>e = .returned (.int .i64 r)∧Below w.heap.size w w') (ih_laws_szTerm:∀ k_,k_ < k → ∀ (a0_0:Int) (a0_1:Int) (a0_2:ByteArray) (A0_3:Option Addr) (c0_3:Nat) (l0_3:List (S39)) (a1:Int) (r:Int) (w:World) (hr0_3:Kd.C k39 w A0_3 l0_3.length l0_3) (hc0_3:l0_3.length≤c0_3) (h:laws_szTerm.f k_ a0_0 a0_1 a0_2 l0_3 a1 = some r),Calls Try.prog 22 #[.agg #[.int .i64 a0_0,.int .i64 a0_1,.string a0_2,.slice A0_3 l0_3.length c0_3],.int .i64 a1] w fun e w'=>e = .returned (.int .i64 r)∧Below w.heap.size w w'):∀ (a0_0:Int) (a0_1:Int) (a0_2:ByteArray) (A0_3:Option Addr) (c0_3:Nat) (l0_3:List (S39)) (a1:Int) (r:Int) (w:World) (hr0_3:Kd.C k39 w A0_3 l0_3.length l0_3) (hc0_3:l0_3.length≤c0_3) (h:laws_szTerm.f k a0_0 a0_1 a0_2 l0_3 a1 = some r),
  Calls Try.prog 22 #[.agg #[.int .i64 a0_0,.int .i64 a0_1,.string a0_2,.slice A0_3 l0_3.length c0_3],.int .i64 a1] w fun e w'=>e = .returned (.int .i64 r)∧Below w.heap.size w w':=by
 intro a0_0 a0_1 a0_2 A0_3 c0_3 l0_3 a1 r w hr0_3 hc0_3 h
 cases k with
 | zero=>exact absurd h (by simp [laws_szTerm.f])
 | succ k =>
 simp only [laws_szTerm.f] at h;have hu39:=Try.underlying39;have HR0_3:=Aside0.mk hr0_3;have HC0_3:=Aside0.mk hc0_3;clear hr0_3 hc0_3;have HB:=Aside0.mk (Below.refl w.heap.size w);have H:(if (wrap64 (a1 - (a0_2.size:Int))) < 0 then (some (-1)) else ((laws_szTermS.f k l0_3 (wrap64 (a1 - (a0_2.size:Int)))).bind fun t104=>(if t104 < 0 then (some (-1)) else (some t104)))) = some r:=h;clear h
 by_cases c3:(wrap64 (a1 - (a0_2.size:Int))) < 0
 ·rw [if_pos c3] at H
  have c3b0:decide ((wrap64 (a1 - (a0_2.size:Int))) < 0) = true:=decide_eq_true c3;clear c3;obtain rfl:=Option.some.inj H
  go_enter Try.func22,Try.ntmps22
  go_wp2_with (first|((with_reducible refine gate_dst (N:=2) rfl ?_);refine box_event ?hg (N:=2) ?hd (cs:=#[.int .i64 a0_0,.int .i64 a0_1,.string a0_2,.slice A0_3 l0_3.length c0_3]) (t:=39) ?hr ?_;(case hd=>rfl);(case hg=>rfl);(case hr=>first|(go_simp;done)|(go_simp;rfl));intro gb103 hg w4 hbox hb;have n_:=ai (bq HB hb) <| ai (Aside0.mk (hbox)) <| ai (bz hg HB) <| bz hg HB;clear HB;obtain ⟨HB,BK103,GW103,GE103⟩:=n_;clear hb hbox hg;obtain ⟨h5_0,h5_1,h5_2,h5_3⟩:=kb4 BK103.out;obtain ⟨z5_0,z5_1,z5_2,z5_3⟩:=kz4 BK103.out))
  go_ret
  exact ⟨cl,bl HB.out⟩
 ·rw [if_neg c3] at H
  have c3b0:decide ((wrap64 (a1 - (a0_2.size:Int))) < 0) = false:=decide_eq_false c3;clear c3;replace H:=Option.bind_eq_some_iff.mp H;obtain ⟨t104,A60,H⟩:=H;replace H:(if t104 < 0 then (some (-1)) else (some t104)) = some r:=H;have A6:=Aside0.mk A60;clear A60
  by_cases c7:t104 < 0
  ·rw [if_pos c7] at H
   have c7b0:decide (t104 < 0) = true:=decide_eq_true c7;clear c7;obtain rfl:=Option.some.inj H
   go_enter Try.func22,Try.ntmps22
   go_wp2_with (first|((with_reducible refine gate_dst (N:=2) rfl ?_);refine box_event ?hg (N:=2) ?hd (cs:=#[.int .i64 a0_0,.int .i64 a0_1,.string a0_2,.slice A0_3 l0_3.length c0_3]) (t:=39) ?hr ?_;(case hd=>rfl);(case hg=>rfl);(case hr=>first|(go_simp;done)|(go_simp;rfl));intro gb103 hg w8 hbox hb;have n_:=ai (bq HB hb) <| ai (Aside0.mk (hbox)) <| ai (bz hg HB) <| bz hg HB;clear HB;obtain ⟨HB,BK103,GW103,GE103⟩:=n_;clear hb hbox hg;obtain ⟨h9_0,h9_1,h9_2,h9_3⟩:=kb4 BK103.out;obtain ⟨z9_0,z9_1,z9_2,z9_3⟩:=kz4 BK103.out)|((with_reducible refine gate_callee (f:=25) rfl ?_);refine goesL_ (some 15) rfl rfl Try.func25 (by kernel_rfl) rfl #[.slice A0_3 l0_3.length c0_3,.int .i64 (wrap64 (a1 - (a0_2.size:Int)))] rfl gs ?_;(with_reducible refine (ih_laws_szTermS k (by omega) _ _ l0_3 (wrap64 (a1 - (a0_2.size:Int))) t104 _ ?side1 ?side2 A6.out).mono ?_);(case side1=>exact ck (Kd.C_below HR0_3.out HB.out));(case side2=>exact HC0_3.out);rintro e w10 ⟨rfl,hb⟩;refine ⟨_,rfl,?_⟩;have n_:=ai (bw BK103 hb) <| bq HB hb;clear BK103 HB;obtain ⟨BK103,HB⟩:=n_;(try clear hb);(try clear hi)))
   go_ret
   exact ⟨cl,bl HB.out⟩
  ·rw [if_neg c7] at H
   have c7b0:decide (t104 < 0) = false:=decide_eq_false c7;clear c7;obtain rfl:=Option.some.inj H
   go_enter Try.func22,Try.ntmps22
   go_wp2_with (first|((with_reducible refine gate_dst (N:=2) rfl ?_);refine box_event ?hg (N:=2) ?hd (cs:=#[.int .i64 a0_0,.int .i64 a0_1,.string a0_2,.slice A0_3 l0_3.length c0_3]) (t:=39) ?hr ?_;(case hd=>rfl);(case hg=>rfl);(case hr=>first|(go_simp;done)|(go_simp;rfl));intro gb103 hg w11 hbox hb;have n_:=ai (bq HB hb) <| ai (Aside0.mk (hbox)) <| ai (bz hg HB) <| bz hg HB;clear HB;obtain ⟨HB,BK103,GW103,GE103⟩:=n_;clear hb hbox hg;obtain ⟨h12_0,h12_1,h12_2,h12_3⟩:=kb4 BK103.out;obtain ⟨z12_0,z12_1,z12_2,z12_3⟩:=kz4 BK103.out)|((with_reducible refine gate_callee (f:=25) rfl ?_);refine goesL_ (some 15) rfl rfl Try.func25 (by kernel_rfl) rfl #[.slice A0_3 l0_3.length c0_3,.int .i64 (wrap64 (a1 - (a0_2.size:Int)))] rfl gs ?_;(with_reducible refine (ih_laws_szTermS k (by omega) _ _ l0_3 (wrap64 (a1 - (a0_2.size:Int))) t104 _ ?side1 ?side2 A6.out).mono ?_);(case side1=>exact ck (Kd.C_below HR0_3.out HB.out));(case side2=>exact HC0_3.out);rintro e w13 ⟨rfl,hb⟩;refine ⟨_,rfl,?_⟩;have n_:=ai (bw BK103 hb) <| bq HB hb;clear BK103 HB;obtain ⟨BK103,HB⟩:=n_;(try clear hb);(try clear hi)))
   go_ret
   exact ⟨cl,bl HB.out⟩

theorem laws_szTermS.all (k:Nat):(∀ (A0:Option Addr) (c0:Nat) (l0:List (S39)) (a1:Int) (r:Int) (w:World) (hr0:Kd.C k39 w A0 l0.length l0) (hc0:l0.length≤c0) (h:laws_szTermS.f k l0 a1 = some r),Calls Try.prog 25 #[.slice A0 l0.length c0,.int .i64 a1] w fun e w'=>e = .returned (.int .i64 r)∧Below w.heap.size w w')∧(∀ (a0_0:Int) (a0_1:Int) (a0_2:ByteArray) (A0_3:Option Addr) (c0_3:Nat) (l0_3:List (S39)) (a1:Int) (r:Int) (w:World) (hr0_3:Kd.C k39 w A0_3 l0_3.length l0_3) (hc0_3:l0_3.length≤c0_3) (h:laws_szTerm.f k a0_0 a0_1 a0_2 l0_3 a1 = some r),Calls Try.prog 22 #[.agg #[.int .i64 a0_0,.int .i64 a0_1,.string a0_2,.slice A0_3 l0_3.length c0_3],.int .i64 a1] w fun e w'=>e = .returned (.int .i64 r)∧Below w.heap.size w w'):=by
 induction k using Nat.strongRecOn with
 | _ k ih =>
 exact ⟨laws_szTermS.step k (fun k_ h_=>(ih k_ h_).1) (fun k_ h_=>(ih k_ h_).2),laws_szTerm.step k (fun k_ h_=>(ih k_ h_).1) (fun k_ h_=>(ih k_ h_).2)⟩
theorem laws_szTermS.calls (k:Nat):∀ (A0:Option Addr) (c0:Nat) (l0:List (S39)) (a1:Int) (r:Int) (w:World) (hr0:Kd.C k39 w A0 l0.length l0) (hc0:l0.length≤c0) (h:laws_szTermS.f k l0 a1 = some r),Calls Try.prog 25 #[.slice A0 l0.length c0,.int .i64 a1] w fun e w'=>e = .returned (.int .i64 r)∧Below w.heap.size w w':=(laws_szTermS.all k).1
theorem laws_szTerm.calls (k:Nat):∀ (a0_0:Int) (a0_1:Int) (a0_2:ByteArray) (A0_3:Option Addr) (c0_3:Nat) (l0_3:List (S39)) (a1:Int) (r:Int) (w:World) (hr0_3:Kd.C k39 w A0_3 l0_3.length l0_3) (hc0_3:l0_3.length≤c0_3) (h:laws_szTerm.f k a0_0 a0_1 a0_2 l0_3 a1 = some r),Calls Try.prog 22 #[.agg #[.int .i64 a0_0,.int .i64 a0_1,.string a0_2,.slice A0_3 l0_3.length c0_3],.int .i64 a1] w fun e w'=>e = .returned (.int .i64 r)∧Below w.heap.size w w':=(laws_szTermS.all k).2

/-! ### laws_szBind: function 13 -/
def laws_szBind.f (k:Nat) (a0_0:ByteArray) (a0_1:Int) (a0_2:Int) (a0_3:ByteArray) (l0_4:List (S39)) (a1:Int):Option (Int):=if (wrap64 (a1 - (a0_0.size:Int))) < 0 then (some (-1)) else ((laws_szTerm.f k a0_1 a0_2 a0_3 l0_4 (wrap64 (a1 - (a0_0.size:Int)))).bind fun t106=>(if t106 < 0 then (some (-1)) else (some t106)))
theorem laws_szBind.mono:∀ a0 a1 a2 a3 a4 a5 k,LeO (laws_szBind.f k a0 a1 a2 a3 a4 a5) (laws_szBind.f (k + 1) a0 a1 a2 a3 a4 a5):=by
 intro a0 a1 a2 a3 a4 a5 k
 unfold laws_szBind.f
 with_reducible repeat' first|apply laws_szTerm.mono|apply LeO.refl|apply LeO.none|apply LeO.ite|refine LeO.bind ?_ (fun _=>?_)
set_option maxHeartbeats 8000000 in
set_option maxRecDepth 100000 in
theorem laws_szBind.calls (k:Nat) (a0_0:ByteArray) (a0_1:Int) (a0_2:Int) (a0_3:ByteArray) (A0_4:Option Addr) (c0_4:Nat) (l0_4:List (S39)) (a1:Int) (r:Int) (w:World) (hr0_4:Kd.C k39 w A0_4 l0_4.length l0_4) (hc0_4:l0_4.length≤c0_4) (h:laws_szBind.f k a0_0 a0_1 a0_2 a0_3 l0_4 a1 = some r) :
  Calls Try.prog 13 #[.agg #[.string a0_0,.int .i64 a0_1,.int .i64 a0_2,.string a0_3,.slice A0_4 l0_4.length c0_4],.int .i64 a1] w fun e w'=>e = .returned (.int .i64 r)∧Below w.heap.size w w':=by
 have hu41:=Try.underlying41;have hu39:=Try.underlying39;have HR0_4:=Aside0.mk hr0_4;have HC0_4:=Aside0.mk hc0_4;clear hr0_4 hc0_4;have HB:=Aside0.mk (Below.refl w.heap.size w);have H:(if (wrap64 (a1 - (a0_0.size:Int))) < 0 then (some (-1)) else ((laws_szTerm.f k a0_1 a0_2 a0_3 l0_4 (wrap64 (a1 - (a0_0.size:Int)))).bind fun t106=>(if t106 < 0 then (some (-1)) else (some t106)))) = some r:=h;clear h
 by_cases c3:(wrap64 (a1 - (a0_0.size:Int))) < 0
 ·rw [if_pos c3] at H
  have c3b0:decide ((wrap64 (a1 - (a0_0.size:Int))) < 0) = true:=decide_eq_true c3;clear c3;obtain rfl:=Option.some.inj H
  go_enter Try.func13,Try.ntmps13
  go_wp2_with (first|((with_reducible refine gate_dst (N:=2) rfl ?_);refine box_event ?hg (N:=2) ?hd (cs:=#[.string a0_0,.int .i64 a0_1,.int .i64 a0_2,.string a0_3,.slice A0_4 l0_4.length c0_4]) (t:=41) ?hr ?_;(case hd=>rfl);(case hg=>rfl);(case hr=>first|(go_simp;done)|(go_simp;rfl));intro gb105 hg w4 hbox hb;have n_:=ai (bq HB hb) <| ai (Aside0.mk (hbox)) <| ai (bz hg HB) <| bz hg HB;clear HB;obtain ⟨HB,BK105,GW105,GE105⟩:=n_;clear hb hbox hg;obtain ⟨h5_0,h5_1,h5_2,h5_3,h5_4⟩:=kb5 BK105.out;obtain ⟨z5_0,z5_1,z5_2,z5_3,z5_4⟩:=kz5 BK105.out))
  go_ret
  exact ⟨cl,bl HB.out⟩
 ·rw [if_neg c3] at H
  have c3b0:decide ((wrap64 (a1 - (a0_0.size:Int))) < 0) = false:=decide_eq_false c3;clear c3;replace H:=Option.bind_eq_some_iff.mp H;obtain ⟨t106,A60,H⟩:=H;replace H:(if t106 < 0 then (some (-1)) else (some t106)) = some r:=H;have A6:=Aside0.mk A60;clear A60
  by_cases c7:t106 < 0
  ·rw [if_pos c7] at H
   have c7b0:decide (t106 < 0) = true:=decide_eq_true c7;clear c7;obtain rfl:=Option.some.inj H
   go_enter Try.func13,Try.ntmps13
   go_wp2_with (first|((with_reducible refine gate_dst (N:=2) rfl ?_);refine box_event ?hg (N:=2) ?hd (cs:=#[.string a0_0,.int .i64 a0_1,.int .i64 a0_2,.string a0_3,.slice A0_4 l0_4.length c0_4]) (t:=41) ?hr ?_;(case hd=>rfl);(case hg=>rfl);(case hr=>first|(go_simp;done)|(go_simp;rfl));intro gb105 hg w8 hbox hb;have n_:=ai (bq HB hb) <| ai (Aside0.mk (hbox)) <| ai (bz hg HB) <| bz hg HB;clear HB;obtain ⟨HB,BK105,GW105,GE105⟩:=n_;clear hb hbox hg;obtain ⟨h9_0,h9_1,h9_2,h9_3,h9_4⟩:=kb5 BK105.out;obtain ⟨z9_0,z9_1,z9_2,z9_3,z9_4⟩:=kz5 BK105.out)|((with_reducible refine gate_callee (f:=22) rfl ?_);refine goesL_ (some 15) rfl rfl Try.func22 (by kernel_rfl) rfl #[.agg #[.int .i64 a0_1,.int .i64 a0_2,.string a0_3,.slice A0_4 l0_4.length c0_4],.int .i64 (wrap64 (a1 - (a0_0.size:Int)))] rfl gs ?_;(with_reducible refine (laws_szTerm.calls k a0_1 a0_2 a0_3 _ _ l0_4 (wrap64 (a1 - (a0_0.size:Int))) t106 _ ?side1 ?side2 A6.out).mono ?_);(case side1=>exact ck (Kd.C_below HR0_4.out HB.out));(case side2=>exact HC0_4.out);rintro e w10 ⟨rfl,hb⟩;refine ⟨_,rfl,?_⟩;have n_:=ai (bw BK105 hb) <| bq HB hb;clear BK105 HB;obtain ⟨BK105,HB⟩:=n_;(try clear hb);(try clear hi)))
   go_ret
   exact ⟨cl,bl HB.out⟩
  ·rw [if_neg c7] at H
   have c7b0:decide (t106 < 0) = false:=decide_eq_false c7;clear c7;obtain rfl:=Option.some.inj H
   go_enter Try.func13,Try.ntmps13
   go_wp2_with (first|((with_reducible refine gate_dst (N:=2) rfl ?_);refine box_event ?hg (N:=2) ?hd (cs:=#[.string a0_0,.int .i64 a0_1,.int .i64 a0_2,.string a0_3,.slice A0_4 l0_4.length c0_4]) (t:=41) ?hr ?_;(case hd=>rfl);(case hg=>rfl);(case hr=>first|(go_simp;done)|(go_simp;rfl));intro gb105 hg w11 hbox hb;have n_:=ai (bq HB hb) <| ai (Aside0.mk (hbox)) <| ai (bz hg HB) <| bz hg HB;clear HB;obtain ⟨HB,BK105,GW105,GE105⟩:=n_;clear hb hbox hg;obtain ⟨h12_0,h12_1,h12_2,h12_3,h12_4⟩:=kb5 BK105.out;obtain ⟨z12_0,z12_1,z12_2,z12_3,z12_4⟩:=kz5 BK105.out)|((with_reducible refine gate_callee (f:=22) rfl ?_);refine goesL_ (some 15) rfl rfl Try.func22 (by kernel_rfl) rfl #[.agg #[.int .i64 a0_1,.int .i64 a0_2,.string a0_3,.slice A0_4 l0_4.length c0_4],.int .i64 (wrap64 (a1 - (a0_0.size:Int)))] rfl gs ?_;(with_reducible refine (laws_szTerm.calls k a0_1 a0_2 a0_3 _ _ l0_4 (wrap64 (a1 - (a0_0.size:Int))) t106 _ ?side1 ?side2 A6.out).mono ?_);(case side1=>exact ck (Kd.C_below HR0_4.out HB.out));(case side2=>exact HC0_4.out);rintro e w13 ⟨rfl,hb⟩;refine ⟨_,rfl,?_⟩;have n_:=ai (bw BK105 hb) <| bq HB hb;clear BK105 HB;obtain ⟨BK105,HB⟩:=n_;(try clear hb);(try clear hi)))
   go_ret
   exact ⟨cl,bl HB.out⟩

/-! ### laws_szBindS: function 4 -/
def laws_szBindS.l0:Nat → List (S41) → Int → Int → Option (Int)
 | 0,_,_,_=>none
 | k + 1,x0,x1,x5=>if x5 < (x0.length:Int) then (if 0≤x5 then ((laws_szBind.f k ((rd_T41 x0 x5).f0) ((rd_T41 x0 x5).f1.f0) ((rd_T41 x0 x5).f1.f1) ((rd_T41 x0 x5).f1.f2) ((rd_T41 x0 x5).f1.f3) x1).bind fun t108=>(if t108 < 0 then (some (-1)) else (laws_szBindS.l0 k x0 t108 (wrap64 (x5 + 1))))) else (none)) else (some x1)
def laws_szBindS.f (k:Nat) (l0:List (S41)) (a1:Int):Option (Int):=if (wrap64 (a1 - (l0.length:Int))) < 0 then (some (-1)) else (laws_szBindS.l0 k l0 (wrap64 (a1 - (l0.length:Int))) 0)
theorem laws_szBindS.mono_l:∀ k,(∀ y0 y1 y2,LeO (laws_szBindS.l0 k y0 y1 y2) (laws_szBindS.l0 (k + 1) y0 y1 y2))
 | 0=>fun _ _ _ r h=>by simp [laws_szBindS.l0] at h
 | k + 1=>by
  have ih0:=laws_szBindS.mono_l k
  ·intro y0 y1 y2
   unfold laws_szBindS.l0
   with_reducible repeat' first|apply ih0|apply laws_szBind.mono|apply LeO.refl|apply LeO.none|apply LeO.ite|refine LeO.bind ?_ (fun _=>?_)
theorem laws_szBindS.mono:∀ a0 a1 k,LeO (laws_szBindS.f k a0 a1) (laws_szBindS.f (k + 1) a0 a1):=by
 intro a0 a1 k;have ih0:=laws_szBindS.mono_l k
 unfold laws_szBindS.f
 with_reducible repeat' first|apply ih0|apply laws_szBind.mono|apply LeO.refl|apply LeO.none|apply LeO.ite|refine LeO.bind ?_ (fun _=>?_)
set_option maxHeartbeats 8000000 in
set_option maxRecDepth 100000 in
theorem laws_szBindS.calls (k:Nat) (A0:Option Addr) (c0:Nat) (l0:List (S41)) (a1:Int) (r:Int) (w:World) (hr0:Kd.C k41 w A0 l0.length l0) (hc0:l0.length≤c0) (h:laws_szBindS.f k l0 a1 = some r) :
  Calls Try.prog 4 #[.slice A0 l0.length c0,.int .i64 a1] w fun e w'=>e = .returned (.int .i64 r)∧Below w.heap.size w w':=by
 have hu41:=Try.underlying41;have HR0:=Aside0.mk hr0;have HC0:=Aside0.mk hc0;clear hr0 hc0;have HB:=Aside0.mk (Below.refl w.heap.size w);have H:(if (wrap64 (a1 - (l0.length:Int))) < 0 then (some (-1)) else (laws_szBindS.l0 k l0 (wrap64 (a1 - (l0.length:Int))) 0)) = some r:=h;clear h
 by_cases c3:(wrap64 (a1 - (l0.length:Int))) < 0
 ·rw [if_pos c3] at H
  have c3b0:decide ((wrap64 (a1 - (l0.length:Int))) < 0) = true:=decide_eq_true c3;clear c3;obtain rfl:=Option.some.inj H
  go_enter Try.func4,Try.ntmps4
  go_wp2
  go_ret
  exact ⟨cl,bl HB.out⟩
 ·rw [if_neg c3] at H
  have c3b0:decide ((wrap64 (a1 - (l0.length:Int))) < 0) = false:=decide_eq_false c3;clear c3;have H':=Aside0.mk H;clear H
  go_enter Try.func4,Try.ntmps4
  go_wp2
  go_loopg [1,5] k (fun kq v1 v5 w'=>∃ (x1_1:Int) (x5_1:Int),v1 = .int .i64 x1_1∧v5 = .int .i64 x5_1∧Aside0 (laws_szBindS.l0 kq l0 x1_1 x5_1 = some r)∧Aside0 (kq≤k)∧Aside0 (Below w.heap.size w w'))
  case atStart=>exact ⟨(wrap64 (a1 - (l0.length:Int))),(0),(cl2),(cl2),H',⟨Nat.le_refl _⟩,⟨bl HB.out⟩⟩
  case round =>
   clear H';(try clear c3);(try clear c3b0);(try clear HB);obtain ⟨x1_1,x5_1,rfl,rfl,HA,HK1,HB⟩:=hrel
   cases gk with
   | zero=>exact absurd HA.out (by simp [laws_szBindS.l0])
   | succ k1 =>
    have H:=HA.out;clear HA;simp only [laws_szBindS.l0] at H
    by_cases c4:x5_1 < (l0.length:Int)
    ·rw [if_pos c4] at H
     have c4b0:decide (x5_1 < (l0.length:Int)) = true:=decide_eq_true c4;clear c4
     by_cases c5:0≤x5_1
     ·rw [if_pos c5] at H
      have c5b0:decide (0≤x5_1) = true:=decide_eq_true c5;clear c5;replace H:=Option.bind_eq_some_iff.mp H;obtain ⟨t108,A60,H⟩:=H;replace H:(if t108 < 0 then (some (-1)) else (laws_szBindS.l0 k1 l0 t108 (wrap64 (x5_1 + 1)))) = some r:=H;have A6:=Aside0.mk A60;clear A60
      by_cases c7:t108 < 0
      ·rw [if_pos c7] at H
       have c7b0:decide (t108 < 0) = true:=decide_eq_true c7;clear c7;obtain rfl:=Option.some.inj H;have p107:0≤(x5_1:Int):=od;have q107:x5_1 < (l0.length:Int):=od;obtain ⟨ad107,A107_4,c107_4,e107,hx107_0,hx107_1,hx107_2,hx107_3,hx107_4,hl107_4,hi107_4⟩:=at_T41 HR0.out x5_1 p107 q107;cases e107;replace hx107_0:=cb HB hx107_0;replace hx107_1:=cb HB hx107_1;replace hx107_2:=cb HB hx107_2;replace hx107_3:=cb HB hx107_3;replace hx107_4:=cb HB hx107_4;have HR107_4:=Aside0.mk hi107_4;have HC107_4:=Aside0.mk hl107_4;clear hi107_4 hl107_4;replace p107:=eq_true p107;replace q107:=eq_true q107
       go_wp2_with (first|((with_reducible refine gate_callee (f:=13) rfl ?_);refine goesL_ (some 23) rfl rfl Try.func13 (by kernel_rfl) rfl #[.agg #[.string ((rd_T41 l0 x5_1).f0),.int .i64 ((rd_T41 l0 x5_1).f1.f0),.int .i64 ((rd_T41 l0 x5_1).f1.f1),.string ((rd_T41 l0 x5_1).f1.f2),.slice A107_4 ((rd_T41 l0 x5_1).f1.f3).length c107_4],.int .i64 x1_1] rfl gs ?_;(with_reducible refine (laws_szBind.calls k1 ((rd_T41 l0 x5_1).f0) ((rd_T41 l0 x5_1).f1.f0) ((rd_T41 l0 x5_1).f1.f1) ((rd_T41 l0 x5_1).f1.f2) _ _ ((rd_T41 l0 x5_1).f1.f3) x1_1 t108 _ ?side1 ?side2 A6.out).mono ?_);(case side1=>exact ck (Kd.C_below HR107_4.out HB.out));(case side2=>exact HC107_4.out);rintro e w8 ⟨rfl,hb⟩;refine ⟨_,rfl,?_⟩;have n_:=bq HB hb;clear HB;have HB:=n_;clear n_;(try clear hb);(try clear hi)))
       go_ret
       exact ⟨cl,bl HB.out⟩
      ·rw [if_neg c7] at H
       have c7b0:decide (t108 < 0) = false:=decide_eq_false c7;clear c7;have H':=Aside0.mk H;clear H;have p107:0≤(x5_1:Int):=od;have q107:x5_1 < (l0.length:Int):=od;obtain ⟨ad107,A107_4,c107_4,e107,hx107_0,hx107_1,hx107_2,hx107_3,hx107_4,hl107_4,hi107_4⟩:=at_T41 HR0.out x5_1 p107 q107;cases e107;replace hx107_0:=cb HB hx107_0;replace hx107_1:=cb HB hx107_1;replace hx107_2:=cb HB hx107_2;replace hx107_3:=cb HB hx107_3;replace hx107_4:=cb HB hx107_4;have HR107_4:=Aside0.mk hi107_4;have HC107_4:=Aside0.mk hl107_4;clear hi107_4 hl107_4;replace p107:=eq_true p107;replace q107:=eq_true q107
       go_wp2_with (first|((with_reducible refine gate_callee (f:=13) rfl ?_);refine goesL_ (some 23) rfl rfl Try.func13 (by kernel_rfl) rfl #[.agg #[.string ((rd_T41 l0 x5_1).f0),.int .i64 ((rd_T41 l0 x5_1).f1.f0),.int .i64 ((rd_T41 l0 x5_1).f1.f1),.string ((rd_T41 l0 x5_1).f1.f2),.slice A107_4 ((rd_T41 l0 x5_1).f1.f3).length c107_4],.int .i64 x1_1] rfl gs ?_;(with_reducible refine (laws_szBind.calls k1 ((rd_T41 l0 x5_1).f0) ((rd_T41 l0 x5_1).f1.f0) ((rd_T41 l0 x5_1).f1.f1) ((rd_T41 l0 x5_1).f1.f2) _ _ ((rd_T41 l0 x5_1).f1.f3) x1_1 t108 _ ?side1 ?side2 A6.out).mono ?_);(case side1=>exact ck (Kd.C_below HR107_4.out HB.out));(case side2=>exact HC107_4.out);rintro e w9 ⟨rfl,hb⟩;refine ⟨_,rfl,?_⟩;have n_:=bq HB hb;clear HB;have HB:=n_;clear n_;(try clear hb);(try clear hi)))
       go_roundg k1
       case measure=>have:=HK1.out;omega
       case rel=>exact ⟨(t108),(wrap64 (x5_1 + 1)),(cl2),(cl2),H',⟨by have:=HK1.out;omega⟩,⟨bl HB.out⟩⟩
     ·rw [if_neg c5] at H
      exact absurd H (by simp)
    ·rw [if_neg c4] at H
     have c4b0:decide (x5_1 < (l0.length:Int)) = false:=decide_eq_false c4;clear c4;obtain rfl:=Option.some.inj H
     go_wp2
     go_ret
     exact ⟨cl,bl HB.out⟩

/-! ### spec_l2Copy: function 14 -/
mutual
def spec_l2Copy.l0:Nat → Int → Int → Int → ByteArray → List (S26) → Int → Int → ByteArray → List (S26) → Option (Int × Int × ByteArray × (List (S26)))
 | 0,_,_,_,_,_,_,_,_,_=>none
 | k + 1,x4,x110000,x110001,x110002,x110003,x112000,x112001,x112002,x112003=>if x4 < (x110003.length:Int) then (if 0≤x4 then ((spec_l2Copy.f k ((rd_T26 x110003 x4).f0) ((rd_T26 x110003 x4).f1) ((rd_T26 x110003 x4).f2) ((rd_T26 x110003 x4).f3)).bind fun bt116=>(if x112003.length < 2513169434916 then (spec_l2Copy.l0 k (wrap64 (x4 + 1)) x110000 x110001 x110002 x110003 x112000 x112001 x112002 (x112003 ++ [(⟨bt116.1,bt116.2.1,bt116.2.2.1,bt116.2.2.2⟩:S26)])) else (none))) else (none)) else (some (x112000,x112001,x112002,x112003))
def spec_l2Copy.f:Nat → Int → Int → ByteArray → List (S26) → Option (Int × Int × ByteArray × (List (S26)))
 | 0,_,_,_,_=>none
 | k + 1,a0_0,a0_1,a0_2,l0_3=>spec_l2Copy.l0 k 0 a0_0 a0_1 a0_2 l0_3 a0_0 a0_1 a0_2 (([]:List (S26)))
end
theorem spec_l2Copy.mono_l:∀ k,(∀ y0 y1 y2 y3,LeO (spec_l2Copy.f k y0 y1 y2 y3) (spec_l2Copy.f (k + 1) y0 y1 y2 y3))∧(∀ y0 y1 y2 y3 y4 y5 y6 y7 y8,LeO (spec_l2Copy.l0 k y0 y1 y2 y3 y4 y5 y6 y7 y8) (spec_l2Copy.l0 (k + 1) y0 y1 y2 y3 y4 y5 y6 y7 y8))
 | 0=>⟨fun _ _ _ _ r h=>by simp [spec_l2Copy.f] at h,fun _ _ _ _ _ _ _ _ _ r h=>by simp [spec_l2Copy.l0] at h⟩
 | k + 1=>by
  obtain ⟨ih0,ih1⟩:=spec_l2Copy.mono_l k
  refine ⟨?_,?_⟩
  ·intro y0 y1 y2 y3
   unfold spec_l2Copy.f
   with_reducible repeat' first|apply ih0|apply ih1|apply LeO.refl|apply LeO.none|apply LeO.ite|refine LeO.bind ?_ (fun _=>?_)
  ·intro y0 y1 y2 y3 y4 y5 y6 y7 y8
   unfold spec_l2Copy.l0
   with_reducible repeat' first|apply ih0|apply ih1|apply LeO.refl|apply LeO.none|apply LeO.ite|refine LeO.bind ?_ (fun _=>?_)
theorem spec_l2Copy.mono:∀ a0 a1 a2 a3 k,LeO (spec_l2Copy.f k a0 a1 a2 a3) (spec_l2Copy.f (k + 1) a0 a1 a2 a3):=by
 intro a0 a1 a2 a3 k;obtain ⟨ih0,ih1⟩:=spec_l2Copy.mono_l k
 exact ih0 a0 a1 a2 a3
def spec_l2Copy.T6:Bool × List (List Nat × List Nat):=(true,[([],[]),([0],[0]),([],[]),([2],[2]),([],[]),([3,4],[3,4]),([5],[5]),([6],[6]),([7],[7]),([1,8,7],[1,8]),([0,1,2,3,4,5,6,7,8,9],[]),([10,9,9,0,1,2,3,4,5,6,7,8,9],[9,10])])
def spec_l2Copy.B6:List Nat:=[0,1,0,4,0,28,60,124,252,511,1023,2047]
theorem spec_l2Copy.tab6:rtab .any (opsOf Try.f14 6) = spec_l2Copy.T6:=by kernel_rfl
theorem spec_l2Copy.bits6:waitsOk spec_l2Copy.T6.2 spec_l2Copy.B6 = true:=by kernel_rfl
set_option maxHeartbeats 8000000 in
set_option maxRecDepth 100000 in
theorem spec_l2Copy.calls (k:Nat):∀ (a0_0:Int) (a0_1:Int) (a0_2:ByteArray) (A0_3:Option Addr) (c0_3:Nat) (l0_3:List (S26)) (r1:Int) (r2:Int) (r3:ByteArray) (r4:List (S26)) (w:World) (hr0_3:Kd.C k26 w A0_3 l0_3.length l0_3) (hc0_3:l0_3.length≤c0_3) (h:spec_l2Copy.f k a0_0 a0_1 a0_2 l0_3 = some (r1,r2,r3,r4)),
  Calls Try.prog 14 #[.agg #[.int .i64 a0_0,.int .i64 a0_1,.string a0_2,.slice A0_3 l0_3.length c0_3]] w fun e w'=>∃ v3_:Value,e = .returned (.agg #[.int .i64 r1,.int .i64 r2,.string r3,v3_])∧Kd.R k26 26 w' w.heap.size (fun _=>True) v3_ r4∧Below w.heap.size w w':=by
 induction k using Nat.strongRecOn with
 | _ k ih =>
 intro a0_0 a0_1 a0_2 A0_3 c0_3 l0_3 r1 r2 r3 r4 w hr0_3 hc0_3 h
 cases k with
 | zero=>exact absurd h (by simp [spec_l2Copy.f])
 | succ k =>
 simp only [spec_l2Copy.f] at h;have hu26:=Try.underlying26;have HR0_3:=Aside0.mk hr0_3;have HC0_3:=Aside0.mk hc0_3;clear hr0_3 hc0_3;have HB:=Aside0.mk (Below.refl w.heap.size w);have H:(spec_l2Copy.l0 k 0 a0_0 a0_1 a0_2 l0_3 a0_0 a0_1 a0_2 (([]:List (S26)))) = some (r1,r2,r3,r4):=h;clear h;obtain ⟨y112,hy112⟩:∃ y_:List (S26),y_ = (([]:List (S26))):=⟨_,rfl⟩;replace H:(spec_l2Copy.l0 k 0 a0_0 a0_1 a0_2 l0_3 a0_0 a0_1 a0_2 y112) = some (r1,r2,r3,r4):=by first|(rw [hy112];with_reducible exact H)|(have H2_:=(Option.bind_some _ _).symm.trans H;rw [hy112];with_reducible exact H2_)|(have H2_:=(Option.bind_some _ _).symm.trans H;with_reducible exact H2_)|with_reducible exact H|(rw [hy112];exact H)|exact H
 have Ny112:=Aside0.mk hy112;clear hy112;have H':=Aside0.mk H;clear H
 go_enter Try.func14,Try.ntmps14
 go_wp2_with (first|((with_reducible refine gate_dst (N:=1) rfl ?_);refine box_event ?hg (N:=1) ?hd (cs:=#[.int .i64 a0_0,.int .i64 a0_1,.string a0_2,.slice A0_3 l0_3.length c0_3]) (t:=26) ?hr ?_;(case hd=>rfl);(case hg=>rfl);(case hr=>first|(go_simp;done)|(go_simp;rfl));intro gb109 hg w2 hbox hb;have n_:=ai (bq HB hb) <| ai (Aside0.mk (hbox)) <| ai (bz hg HB) <| bz hg HB;clear HB;obtain ⟨HB,BK109,GW109,GE109⟩:=n_;clear hb hbox hg)|((with_reducible refine gate_dst (N:=2) rfl ?_);refine box_event ?hg (N:=2) ?hd (cs:=#[.int .i64 0,.int .i64 0,.string (⟨#[]⟩:ByteArray),.slice none 0 0]) (t:=26) ?hr ?_;(case hd=>rfl);(case hg=>rfl);(case hr=>first|(go_simp;done)|(go_simp;rfl));intro gb110 hg w3 hbox hb;have n_:=ai (bw BK109 hb) <| ai (bq HB hb) <| ai (Aside0.mk (hbox)) <| ai (bz hg HB) <| ai (bz hg HB) <| ai (nl hg BK109) <| ng hg BK109;clear BK109 HB;obtain ⟨BK109,HB,BK110,GW110,GE110,NB109_110,NB110_109⟩:=n_;clear hb hbox hg;have:=NB109_110.out;have:=NB110_109.out;obtain ⟨h5_0,h5_1,h5_2,h5_3⟩:=kb4 BK109.out;obtain ⟨z5_0,z5_1,z5_2,z5_3⟩:=kz4 BK109.out)|((with_reducible refine gate_dst (N:=3) rfl ?_);refine box_event ?hg (N:=3) ?hd (cs:=#[.int .i64 0,.int .i64 0,.string (⟨#[]⟩:ByteArray),.slice none 0 0]) (t:=26) ?hr ?_;(case hd=>rfl);(case hg=>rfl);(case hr=>first|(go_simp;done)|(go_simp;rfl));intro gb111 hg w6 hbox hb;have n_:=ai (bw BK109 hb) <| ai (bw BK110 hb) <| ai (bq HB hb) <| ai (Aside0.mk (hbox)) <| ai (bz hg HB) <| ai (bz hg HB) <| ai (nl hg BK109) <| ai (ng hg BK109) <| ai (nl hg BK110) <| ng hg BK110;clear BK109 BK110 HB;obtain ⟨BK109,BK110,HB,BK111,GW111,GE111,NB109_111,NB111_109,NB110_111,NB111_110⟩:=n_;clear hb hbox hg;have:=NB111_109.out;have:=NB109_111.out;have:=NB111_110.out;have:=NB110_111.out;obtain ⟨h9_0,h9_1,h9_2,h9_3⟩:=kb4 BK111.out;obtain ⟨z9_0,z9_1,z9_2,z9_3⟩:=kz4 BK111.out)|((with_reducible refine gate_dst (N:=6) rfl ?_);refine Kd.R_lit k26 _ 26 ?hg (N:=6) ?hd (xs:=([]:List (S26))) (inner:=[]) (ok:=fun _=>True) (okp:=fun _=>True) ?hr ?hp (fun _ hk=>hk) trivial (Below.refl _ _) (Nat.le_refl _) (by simp) ?_;(case hd=>rfl);(case hg=>rfl);(case hr=>first|(go_simp;done)|(go_simp;rfl));(case hp=>exact (Reps.none _ _));intro v113 w10 ho11 hb hg_ hnew_;clear hg_ hnew_;(first|rw [← Ny112.out] at ho11|(simp only [Int.reduceToNat] at ho11;rw [← Ny112.out] at ho11));have n_:=ai (Aside0.mk (Kd.R_lower (Kd.R_newB (Kd.R_newB (Kd.R_newB ho11 (g:=gb109) (o:=.cells #[.int .i64 a0_0,.int .i64 a0_1,.string a0_2,.slice A0_3 l0_3.length c0_3] 26 (0,0)) (bm BK109.out)) (g:=gb110) (o:=.cells #[.int .i64 0,.int .i64 0,.string (⟨#[]⟩:ByteArray),.slice none 0 0] 26 (0,0)) (bm BK110.out)) (g:=gb111) (o:=.cells #[.int .i64 a0_0,.int .i64 a0_1,.string a0_2,.slice A0_3 l0_3.length c0_3] 26 (0,0)) (bmp BK111.out)) (below_size (bl HB.out)))) <| ai (bwm BK109 hb) <| ai (bwm BK110 hb) <| ai (Aside0.mk (blk_below (g:=gb111) (o:=.cells #[.int .i64 a0_0,.int .i64 a0_1,.string a0_2,.slice A0_3 l0_3.length c0_3] 26 (0,0)) (bmp BK111.out) hb)) <| bq HB hb;clear BK109 BK110 BK111 HB;obtain ⟨HO114,BK109,BK110,BK111,HB⟩:=n_;clear hb ho11;obtain ⟨Ao12,co12,eo12⟩:=Kd.R_slice HO114.out;subst eo12;obtain ⟨h13_0,h13_1,h13_2,h13_3⟩:=kb4 BK111.out;obtain ⟨z13_0,z13_1,z13_2,z13_3⟩:=kz4 BK111.out))
 go_loopg [4] k (fun kq v4 w'=>∃ (x4_1:Int) (x112003_1:List (S26)) (u112003:Value),v4 = .int .i64 x4_1∧Aside0 (spec_l2Copy.l0 kq x4_1 a0_0 a0_1 a0_2 l0_3 a0_0 a0_1 a0_2 x112003_1 = some (r1,r2,r3,r4))∧Aside0 (kq≤k)∧Aside0 (Kd.R k26 26 w' w.heap.size (fun k_=>k_≠gb109∧k_≠gb110∧k_≠gb111) u112003 x112003_1)∧Aside0 (w'.heap[gb109]? = some (.cells #[.int .i64 a0_0,.int .i64 a0_1,.string a0_2,(.slice A0_3 l0_3.length c0_3)] 26 (0,0)))∧Aside0 (w'.heap[gb110]? = some (.cells #[.int .i64 0,.int .i64 0,.string (⟨#[]⟩:ByteArray),(.slice none 0 0)] 26 (0,0)))∧Aside0 (w'.heap[gb111]? = some (.cells #[.int .i64 a0_0,.int .i64 a0_1,.string a0_2,u112003] 26 (0,0)))∧Aside0 (Below w.heap.size w w'))
 case atStart=>exact ⟨(0),(y112),(.slice Ao12 y112.length co12),(cl2),H',⟨Nat.le_refl _⟩,⟨by (with_reducible repeat (first|apply Kd.R_alloc|apply Kd.R_drewN|apply Kd.R_drew));exact Kd.R_mono (rfm (Kd.R_mono HO114.out (fun k_ hk=>(⟨hk,hk.2⟩:_∧k_≠gb111)))) (fun _ hk=>⟨hk.1.1.1.2,⟨hk.1.1.2,hk.1.2⟩⟩)⟩,⟨bm BK109.out⟩,⟨bm BK110.out⟩,⟨bmp BK111.out⟩,⟨bl HB.out⟩⟩
 case round =>
  clear H';(try clear h13_0 h13_1 h13_2 h13_3);(try clear h5_0);(try clear h5_1);(try clear h5_2);(try clear h5_3);(try clear h9_0);(try clear h9_1);(try clear h9_2);(try clear h9_3);(try clear z13_0 z13_1 z13_2 z13_3);(try clear z5_0);(try clear z5_1);(try clear z5_2);(try clear z5_3);(try clear z9_0);(try clear z9_1);(try clear z9_2);(try clear z9_3);(try clear BK109);(try clear BK110);(try clear BK111);(try clear HB);obtain ⟨x4_1,x112003_1,u112003,rfl,HA,HK1,HO_112003,BK109,BK110,BK111,HB⟩:=hrel
  cases gk with
  | zero=>exact absurd HA.out (by simp [spec_l2Copy.l0])
  | succ k1 =>
   have H:=HA.out;clear HA;simp only [spec_l2Copy.l0] at H
   by_cases c14:x4_1 < (l0_3.length:Int)
   ·rw [if_pos c14] at H
    have c14b0:decide (x4_1 < (l0_3.length:Int)) = true:=decide_eq_true c14;clear c14
    by_cases c15:0≤x4_1
    ·rw [if_pos c15] at H
     have c15b0:decide (0≤x4_1) = true:=decide_eq_true c15;clear c15;replace H:=Option.bind_eq_some_iff.mp H;obtain ⟨⟨t116,t117,t118,t119⟩,A160,H⟩:=H;replace H:(if x112003_1.length < 2513169434916 then (spec_l2Copy.l0 k1 (wrap64 (x4_1 + 1)) a0_0 a0_1 a0_2 l0_3 a0_0 a0_1 a0_2 (x112003_1 ++ [(⟨t116,t117,t118,t119⟩:S26)])) else (none)) = some (r1,r2,r3,r4):=H;have A16:=Aside0.mk A160;clear A160
     by_cases c17:x112003_1.length < 2513169434916
     ·rw [if_pos c17] at H
      have LMc17:=Aside0.mk c17;clear c17;obtain ⟨y122,hy122⟩:∃ y_:List (S26),y_ = (x112003_1 ++ [(⟨t116,t117,t118,t119⟩:S26)]):=⟨_,rfl⟩;replace H:(spec_l2Copy.l0 k1 (wrap64 (x4_1 + 1)) a0_0 a0_1 a0_2 l0_3 a0_0 a0_1 a0_2 y122) = some (r1,r2,r3,r4):=by first|(rw [hy122];with_reducible exact H)|(have H2_:=(Option.bind_some _ _).symm.trans H;rw [hy122];with_reducible exact H2_)|(have H2_:=(Option.bind_some _ _).symm.trans H;with_reducible exact H2_)|with_reducible exact H|(rw [hy122];exact H)|exact H
      have Ny122:=Aside0.mk hy122;clear hy122;have H':=Aside0.mk H;clear H;have:=NB109_110.out;have:=NB110_109.out;have:=NB109_111.out;have:=NB111_109.out;obtain ⟨h20_0,h20_1,h20_2,h20_3⟩:=kb4 BK109.out
      try go_wp2
      have n_:=ai (Aside0.mk (Kd.R_drew HO_112003.out)) <| ai (dk BK109) <| ai (dk BK110) <| ai (dk BK111) <| dh HB;clear HO_112003 BK109 BK110 BK111 HB;obtain ⟨HO_112003,BK109,BK110,BK111,HB⟩:=n_;have p115:0≤(x4_1:Int):=od;have q115:x4_1 < (l0_3.length:Int):=od;obtain ⟨ad115,A115_3,c115_3,e115,hx115_0,hx115_1,hx115_2,hx115_3,hl115_3,hi115_3⟩:=at_T26 HR0_3.out x4_1 p115 q115;have hw115_3:=hx115_3;have hw115_2:=hx115_2;have hw115_1:=hx115_1;have hw115_0:=hx115_0;cases e115;replace hx115_0:=cb HB hx115_0;replace hx115_1:=cb HB hx115_1;replace hx115_2:=cb HB hx115_2;replace hx115_3:=cb HB hx115_3;have HR115_3:=Aside0.mk hi115_3;have HC115_3:=Aside0.mk hl115_3;clear hi115_3 hl115_3;replace p115:=eq_true p115;replace q115:=eq_true q115
      refine start_ (n:=12) (S:=fun w'=>(w'.cell? ⟨gb111,0,none⟩ = some (.int .i64 a0_0)∧w'.cell? ⟨gb111,1,none⟩ = some (.int .i64 a0_1)∧w'.cell? ⟨gb111,2,none⟩ = some (.string a0_2)∧w'.cell? ⟨gb111,3,none⟩ = some (u112003))∧(w'.cell? ⟨gb109,0,none⟩ = some (.int .i64 a0_0)∧w'.cell? ⟨gb109,1,none⟩ = some (.int .i64 a0_1)∧w'.cell? ⟨gb109,2,none⟩ = some (.string a0_2)∧w'.cell? ⟨gb109,3,none⟩ = some (.slice (some ad115) l0_3.length c0_3))∧w'.cell? (ad115.add ((x4_1).toNat * 4)) = some (.int .i64 ((rd_T26 l0_3 x4_1).f0))∧w'.cell? ⟨(ad115.add ((x4_1).toNat * 4)).block,(ad115.add ((x4_1).toNat * 4)).off + 1,none⟩ = some (.int .i64 ((rd_T26 l0_3 x4_1).f1))∧w'.cell? ⟨(ad115.add ((x4_1).toNat * 4)).block,(ad115.add ((x4_1).toNat * 4)).off + 2,none⟩ = some (.string ((rd_T26 l0_3 x4_1).f2))∧w'.cell? ⟨(ad115.add ((x4_1).toNat * 4)).block,(ad115.add ((x4_1).toNat * 4)).off + 3,none⟩ = some (.slice A115_3 ((rd_T26 l0_3 x4_1).f3).length c115_3)) (ds:=[11]) #[false,false,false,false,false,false,false,false,false,false,false,false] (by kernel_rfl) rfl rfl ⟨kb4 BK111.out,kb4 BK109.out,(cb HB hw115_0 :),(cb HB hw115_1 :),(cb HB hw115_2 :),(cb HB hw115_3 :)⟩ (fun hHeld=>?_);refine with_tabW spec_l2Copy.tab6 spec_l2Copy.bits6 (fun HT_ HW_=>?_)
      generalize wr.drew = w21 at HO_112003 BK109 BK110 BK111 HB HR115_3 hx115_0 hx115_1 hx115_2 hx115_3 hHeld ⊢;refine pu 0 15 ?_;refine pu 2 17 ?_;refine pu 4 19 ?_;refine ta 1 16 hHeld ?_;refine ta 3 18 hHeld ?_;refine pu 5 20 ?_;refine ta 6 21 hHeld ?_
      refine one_ (i:=7) (N:=some 22) #[true,true,true,true,true,true,true,true,false,false,false,false] rfl rfl (one_of HT_.out (by kernel_rfl)) (by decide) (fun K hK=>?_)
      refine goes_ Try.func14 (by kernel_rfl) rfl #[.agg #[.int .i64 ((rd_T26 l0_3 x4_1).f0),.int .i64 ((rd_T26 l0_3 x4_1).f1),.string ((rd_T26 l0_3 x4_1).f2),.slice A115_3 ((rd_T26 l0_3 x4_1).f3).length c115_3]] (by rfl) rfl rfl gs ?_
      with_reducible refine (ih k1 (by have:=HK1.out;omega) ((rd_T26 l0_3 x4_1).f0) ((rd_T26 l0_3 x4_1).f1) ((rd_T26 l0_3 x4_1).f2) _ _ ((rd_T26 l0_3 x4_1).f3) t116 t117 t118 t119 _ ?side1 ?side2 A16.out).mono ?_
      (case side1=>exact ck (Kd.C_below HR115_3.out HB.out))
      (case side2=>exact HC115_3.out)
      rintro e w22 ⟨v120,rfl,ho0,hb⟩
      refine ⟨_,rfl,?_⟩
      have n_:=ai (Aside0.mk (Kd.R_elder' (rk HO_112003.out) (Kd.R_base ho0) hb)) <| ai (Aside0.mk (Kd.R_lower (Kd.R_newB (Kd.R_newB (Kd.R_newB (Kd.R_new' ho0 (Kd.R_lt (rk HO_112003.out))) (g:=gb109) (o:=.cells #[.int .i64 a0_0,.int .i64 a0_1,.string a0_2,.slice (some ad115) l0_3.length c0_3] 26 (0,0)) (bk BK109.out)) (g:=gb110) (o:=.cells #[.int .i64 0,.int .i64 0,.string (⟨#[]⟩:ByteArray),.slice none 0 0] 26 (0,0)) (bk BK110.out)) (g:=gb111) (o:=.cells #[.int .i64 a0_0,.int .i64 a0_1,.string a0_2,u112003] 26 (0,0)) (bk BK111.out)) (below_size (bl HB.out)))) <| ai (bw BK109 hb) <| ai (bw BK110 hb) <| ai (bw BK111 hb) <| bq HB hb;clear HO_112003 BK109 BK110 BK111 HB;obtain ⟨HO_112003,HO121,BK109,BK110,BK111,HB⟩:=n_;(try clear hb);(try clear hk);(try clear ho0);obtain ⟨Ao24,co24,eo24⟩:=Kd.R_slice HO121.out
      (first|subst eo24|(injection eo24 with f1_ f2_ f3_;have f4_:=f1_.symm;have f5_:=f3_.symm;clear f1_ f2_ f3_;subst f4_;subst f5_))
      refine hK.out _ _ ⟨kb4 BK111.out,kb4 BK109.out,(cb HB hw115_0 :),(cb HB hw115_1 :),(cb HB hw115_2 :),(cb HB hw115_3 :)⟩ (fun hHeld=>?_)
      clear hK K
      refine norm_ (a':=?_) ?_ ?_
      rotate_left
      ·show Act.put _ (some 22) _ = _
       simp only [Act.put,List.setIfInBounds_toArray,List.set_cons_zero,List.set_cons_succ,i64_w,i32_w]
       rfl
      refine one_ (i:=8) (N:=some 23) #[true,true,true,true,true,true,true,true,true,false,false,false] rfl rfl (one_of HT_.out (by kernel_rfl)) (by decide) (fun K hK=>?_)
      refine value_ (w1:=?_) (v:=?_) (by rfl) rfl ?_ ?_
      rotate_left 2
      ·go_simp
       constructor
       ·rfl
       ·rfl
      refine hK.out _ _ ⟨kb4 (blk_alloc BK111.out _),kb4 (blk_alloc BK109.out _),(World.cell?_alloc_lt _ _ _ (World.block_lt_of_cell? _ _ ((cb HB hw115_0 :)))).trans ((cb HB hw115_0 :)),(World.cell?_alloc_lt _ _ _ (World.block_lt_of_cell? _ _ ((cb HB hw115_1 :)))).trans ((cb HB hw115_1 :)),(World.cell?_alloc_lt _ _ _ (World.block_lt_of_cell? _ _ ((cb HB hw115_2 :)))).trans ((cb HB hw115_2 :)),(World.cell?_alloc_lt _ _ _ (World.block_lt_of_cell? _ _ ((cb HB hw115_3 :)))).trans ((cb HB hw115_3 :))⟩ (fun hHeld=>?_)
      clear hK K
      refine norm_ (a':=?_) ?_ ?_
      rotate_left
      ·show Act.put _ (some 23) _ = _
       simp only [Act.put,List.setIfInBounds_toArray,List.set_cons_zero,List.set_cons_succ,i64_w,i32_w]
       rfl
      refine one_ (i:=9) (N:=some 24) #[true,true,true,true,true,true,true,true,true,true,false,false] rfl rfl (one_of HT_.out (by kernel_rfl)) (by decide) (fun K hK=>?_)
      refine Kd.R_append_step k26 (w0:=w) w.heap.size (by rfl) (.tmp 16) (.tmp 23) 24 26 (.agg #[(.int .i64 0),(.int .i64 0),(.string ⟨#[]⟩),(.slice none 0 0)]) 56 rfl Try.underlying24 info26 rfl (by decide) (by omega) u112003 x112003_1 (⟨t116,t117,t118,t119⟩:S26) [.int .i64 t116,.int .i64 t117,.string t118,.slice Ao24 t119.length co24] (fun k_=>k_≠gb109∧k_≠gb110∧k_≠gb111) (fun k_=>((fun k_=>k_≠gb109∧k_≠gb110∧k_≠gb111)) k_∧some k_≠(u112003:Value).ownBlock) rfl rfl ?aP (fun _ hk=>hk) ?aF ?aO ?aB ?aS ?aL ?_
      (case aP=>exact k26_mkM _ _ _ (⟨t116,t117,t118,t119⟩:S26) (Kd.R_mono (HO121.out) (fun k_ hk=>⟨⟨hk.1.1.2,⟨hk.1.2,hk.2⟩⟩,hk.1.1.1.2⟩)))
      (case aB=>exact (bl HB.out))
      (case aF=>exact (fun k_ hk=>⟨Kd.freshB (g:=gb109) (o:=.cells #[.int .i64 a0_0,.int .i64 a0_1,.string a0_2,.slice (some ad115) l0_3.length c0_3] 26 (0,0)) (bk BK109.out) k_ hk,Kd.freshB (g:=gb110) (o:=.cells #[.int .i64 0,.int .i64 0,.string (⟨#[]⟩:ByteArray),.slice none 0 0] 26 (0,0)) (bk BK110.out) k_ hk,Kd.freshB (g:=gb111) (o:=.cells #[.int .i64 a0_0,.int .i64 a0_1,.string a0_2,u112003] 26 (0,0)) (bk BK111.out) k_ hk⟩))
      (case aO=>exact (by (with_reducible repeat (first|apply Kd.R_alloc|apply Kd.R_drewN|apply Kd.R_drew));exact Kd.R_mono HO_112003.out (fun _ hk=>⟨hk.1.1,⟨hk.1.2.1,hk.1.2.2⟩⟩)))
      (case aS=>exact (below_size (bl HB.out)))
      (case aL=>have:=LMc17.out;omega)
      intro v123 w23 ho hb hg hat;rw [← Ny122.out] at ho;have n_:=ai (Aside0.mk (blk_grown (g:=gb109) (o:=.cells #[.int .i64 a0_0,.int .i64 a0_1,.string a0_2,.slice (some ad115) l0_3.length c0_3] 26 (0,0)) (bk BK109.out) hg (Kd.R_away HO_112003.out (fun _ hk=>hk.1.1)))) <| ai (Aside0.mk (blk_grown (g:=gb110) (o:=.cells #[.int .i64 0,.int .i64 0,.string (⟨#[]⟩:ByteArray),.slice none 0 0] 26 (0,0)) (bk BK110.out) hg (Kd.R_away HO_112003.out (fun _ hk=>hk.1.2.1)))) <| ai (Aside0.mk (blk_grown (g:=gb111) (o:=.cells #[.int .i64 a0_0,.int .i64 a0_1,.string a0_2,u112003] 26 (0,0)) (bk BK111.out) hg (Kd.R_away HO_112003.out (fun _ hk=>hk.1.2.2)))) <| ai (Aside0.mk (hb)) <| Aside0.mk (ho);clear BK109 BK110 BK111 HB HO_112003 HO121;obtain ⟨BK109,BK110,BK111,HB,HO124⟩:=n_;clear ho hb hg hat;obtain ⟨Ao25,co25,eo25⟩:=Kd.R_slice HO124.out
      (first|subst eo25|(injection eo25 with f1_ f2_ f3_;have f4_:=f1_.symm;have f5_:=f3_.symm;clear f1_ f2_ f3_;subst f4_;subst f5_))
      refine hK.out _ _ ⟨kb4 BK111.out,kb4 BK109.out,(cb HB hw115_0 :),(cb HB hw115_1 :),(cb HB hw115_2 :),(cb HB hw115_3 :)⟩ (fun hHeld=>?_)
      clear hK K
      refine norm_ (a':=?_) ?_ ?_
      rotate_left
      ·show Act.put _ (some 24) _ = _
       simp only [Act.put,List.setIfInBounds_toArray,List.set_cons_zero,List.set_cons_succ,i64_w,i32_w]
       rfl
      refine pu 10 25 ?_
      refine last_ (i:=11) (N:=none) #[true,true,true,true,true,true,true,true,true,true,true,true] rfl rfl (one_of HT_.out (by kernel_rfl)) (by decide) (fun K hK=>?_)
      have hs26:w23.cell? ⟨gb111,3,none⟩ = some (u112003):=(blk_cell BK111.out 3).trans rfl;have hfs26:=blk_frozen BK111.out 3;have hns26_0:=NB109_111.out;have hns26_1:=NB110_111.out;have hms26_0:=NB111_109.out;have hms26_1:=NB111_110.out
      refine skip_ (w1:=?_) (by rfl) rfl ?_ ?_
      rotate_left
      ·go_simp
       rfl
      refine hK.out _ _ ?_
      clear hK K
      refine done_ (done_of HT_.out (by kernel_rfl)) ?_
      try go_wp2
      go_roundg k1
      case measure=>have:=HK1.out;omega
      case rel=>exact ⟨(wrap64 (x4_1 + 1)),(y122),(.slice Ao25 y122.length co25),(cl2),H',⟨by have:=HK1.out;omega⟩,⟨by (with_reducible repeat (first|apply Kd.R_alloc|apply Kd.R_drewN|apply Kd.R_drew));exact Kd.R_mono (rfm (Kd.R_mono HO124.out (fun k_ hk=>(⟨hk,hk.2.2⟩:_∧k_≠gb111)))) (fun _ hk=>⟨hk.1.1,⟨hk.1.2.1,hk.1.2.2⟩⟩)⟩,⟨bm BK109.out⟩,⟨bm BK110.out⟩,⟨bmp BK111.out⟩,⟨bl HB.out⟩⟩
     ·rw [if_neg c17] at H
      exact absurd H (by simp)
    ·rw [if_neg c15] at H
     exact absurd H (by simp)
   ·rw [if_neg c14] at H
    have c14b0:decide (x4_1 < (l0_3.length:Int)) = false:=decide_eq_false c14;clear c14;simp only [Option.some.injEq,Prod.mk.injEq] at H;obtain ⟨rfl,rfl,rfl,rfl⟩:=H;have:=NB109_110.out;have:=NB110_109.out;have:=NB109_111.out;have:=NB111_109.out;obtain ⟨h29_0,h29_1,h29_2,h29_3⟩:=kb4 BK109.out;have:=NB111_110.out;have:=NB110_111.out;obtain ⟨h31_0,h31_1,h31_2,h31_3⟩:=kb4 BK111.out;obtain ⟨z31_0,z31_1,z31_2,z31_3⟩:=kz4 BK111.out;obtain ⟨h32_0,h32_1,h32_2,h32_3⟩:=kb4 BK110.out;obtain ⟨z32_0,z32_1,z32_2,z32_3⟩:=kz4 BK110.out;obtain ⟨Ao33,co33,eo33⟩:=Kd.R_slice HO_112003.out;subst eo33
    go_wp2
    refine bodyPost_ret (results_cell_row rfl _ _ gb110 26 #[.int .i64 a0_0,.int .i64 a0_1,.string a0_2,.slice Ao33 x112003_1.length co33] (0,0) _ rfl (bmp BK110.out) Try.underlying26 rfl (by kernel_rfl)) rfl ?_
    exact ⟨_,cl,by (with_reducible repeat (first|apply Kd.R_alloc|apply Kd.R_drewN|apply Kd.R_drew));exact Kd.R_mono (rfm (Kd.R_mono HO_112003.out (fun k_ hk=>(⟨hk,hk.2.1⟩:_∧k_≠gb110)))) (fun _ hk=>trivial),bl HB.out⟩

end Go.Proofs.Ytmcmhpiknhjiaaa.QFnExactBindOf
