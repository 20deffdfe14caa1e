-- Written by a program of this workplace (print2.py) for this claim, over the print's words.
import Derived.Test.YtghhbdmjafedbaaQFnExactCodeOkx0
import Derived.Test.YtghhbdmjafedbaaQFnExactCodeOkx19
namespace Go.Proofs.Ytghhbdmjafedbaa.QFnExactCodeOk
open Go.RowKit Go.Proofs.YtghhbdmjafedbaaW.PrintWords Go.Proofs.YtghhbdmjafedbaaW.PrintLast Go.Proofs.YtghhbdmjafedbaaW.PrintMore
attribute [local go_sem] max2_int min2_int max_two min_two max_three min_three max_four min_four   -- for this text's walks alone
set_option linter.unusedVariables false
set_option linter.unusedSimpArgs false

mutual
def laws_eqPat.f:Nat → Int → Int → ByteArray → List (S67) → Int → Int → ByteArray → List (S67) → Option (Bool)
 | 0,_,_,_,_,_,_,_,_=>none
 | k + 1,a0_0,a0_1,a0_2,l0_3,a1_0,a1_1,a1_2,l1_3=>if a0_0 = a1_0 then (if a0_1 = a1_1 then (if a0_2.toList = a1_2.toList then ((laws_eqPatS.f k l0_3 l1_3).bind fun t400=>(if t400 = true then (some true) else (some false))) else (some false)) else (some false)) else (some false)
def laws_eqPatS.l0:Nat → List (S67) → List (S67) → Int → Option (Bool)
 | 0,_,_,_=>none
 | k + 1,x0,x1,x5=>if x5 < (x0.length:Int) then (if 0≤x5 then (if x5 < (x1.length:Int) then ((laws_eqPat.f k ((rd_T67 x0 x5).f0) ((rd_T67 x0 x5).f1) ((rd_T67 x0 x5).f2) ((rd_T67 x0 x5).f3) ((rd_T67 x1 x5).f0) ((rd_T67 x1 x5).f1) ((rd_T67 x1 x5).f2) ((rd_T67 x1 x5).f3)).bind fun t403=>(if t403 = true then (laws_eqPatS.l0 k x0 x1 (wrap64 (x5 + 1))) else (some false))) else (none)) else (none)) else (some true)
def laws_eqPatS.f:Nat → List (S67) → List (S67) → Option (Bool)
 | 0,_,_=>none
 | k + 1,l0,l1=>if (l0.length:Int) = (l1.length:Int) then (laws_eqPatS.l0 k l0 l1 0) else (some false)
end
theorem laws_eqPat.mono_g:∀ k,(∀ y0 y1 y2 y3 y4 y5 y6 y7,LeO (laws_eqPat.f k y0 y1 y2 y3 y4 y5 y6 y7) (laws_eqPat.f (k + 1) y0 y1 y2 y3 y4 y5 y6 y7))∧(∀ y0 y1,LeO (laws_eqPatS.f k y0 y1) (laws_eqPatS.f (k + 1) y0 y1))∧(∀ y0 y1 y2,LeO (laws_eqPatS.l0 k y0 y1 y2) (laws_eqPatS.l0 (k + 1) y0 y1 y2))
 | 0=>⟨fun _ _ _ _ _ _ _ _ r h=>by simp [laws_eqPat.f] at h,fun _ _ r h=>by simp [laws_eqPatS.f] at h,fun _ _ _ r h=>by simp [laws_eqPatS.l0] at h⟩
 | k + 1=>by
  obtain ⟨ih0,ih1,ih2⟩:=laws_eqPat.mono_g k
  refine ⟨?_,?_,?_⟩
  ·intro y0 y1 y2 y3 y4 y5 y6 y7
   unfold laws_eqPat.f
   with_reducible repeat' first|apply ih0|apply ih1|apply ih2|apply LeO.refl|apply LeO.none|apply LeO.ite|refine LeO.bind ?_ (fun _=>?_)
  ·intro y0 y1
   unfold laws_eqPatS.f
   with_reducible repeat' first|apply ih0|apply ih1|apply ih2|apply LeO.refl|apply LeO.none|apply LeO.ite|refine LeO.bind ?_ (fun _=>?_)
  ·intro y0 y1 y2
   unfold laws_eqPatS.l0
   with_reducible repeat' first|apply ih0|apply ih1|apply ih2|apply LeO.refl|apply LeO.none|apply LeO.ite|refine LeO.bind ?_ (fun _=>?_)
theorem laws_eqPat.mono:∀ a0 a1 a2 a3 a4 a5 a6 a7 k,LeO (laws_eqPat.f k a0 a1 a2 a3 a4 a5 a6 a7) (laws_eqPat.f (k + 1) a0 a1 a2 a3 a4 a5 a6 a7):=by
 intro a0 a1 a2 a3 a4 a5 a6 a7 k;obtain ⟨ih0,ih1,ih2⟩:=laws_eqPat.mono_g k
 exact ih0 a0 a1 a2 a3 a4 a5 a6 a7
theorem laws_eqPatS.mono:∀ a0 a1 k,LeO (laws_eqPatS.f k a0 a1) (laws_eqPatS.f (k + 1) a0 a1):=by
 intro a0 a1 k;obtain ⟨ih0,ih1,ih2⟩:=laws_eqPat.mono_g k
 exact ih1 a0 a1
/-! ### laws_eqPat: function 34 -/
set_option maxHeartbeats 8000000 in
set_option maxRecDepth 100000 in
theorem laws_eqPat.step (k:Nat) (ih_laws_eqPat:∀ k_,k_ < k → ∀ (a0_0:Int) (a0_1:Int) (a0_2:ByteArray) (A0_3:Option Addr) (c0_3:Nat) (l0_3:List (S67)) (a1_0:Int) (a1_1:Int) (a1_2:ByteArray) (A1_3:Option Addr) (c1_3:Nat) (l1_3:List (S67)) (r:Bool) (w:World) (hr0_3:Kd.C k67 w A0_3 l0_3.length l0_3) (hc0_3:l0_3.length≤c0_3) (hr1_3:Kd.C k67 w A1_3 l1_3.length l1_3) (hc1_3:l1_3.length≤c1_3) (h:laws_eqPat.f k_ a0_0 a0_1 a0_2 l0_3 a1_0 a1_1 a1_2 l1_3 = some r),Calls Try.prog 34 #[.agg #[.int .i64 a0_0,.int .i64 a0_1,.string a0_2,.slice A0_3 l0_3.length c0_3],.agg #[.int .i64 a1_0,.int .i64 a1_1,.string a1_2,.slice A1_3 l1_3.length c1_3]] w fun e w'=>e = .returned (.bool r)∧Below w.heap.size w w') (ih_laws_eqPatS:∀ k_,k_ < k → ∀ (A0:Option Addr) (c0:Nat) (l0:List (S67)) (A1:Option Addr) (c1:Nat) (l1:List (S67)) (r:Bool) (w:World) (hr0:Kd.C k67 w A0 l0.length l0) (hc0:l0.length≤c0) (hr1:Kd.C k67 w A1 l1.length l1) (hc1:l1.length≤c1) (h:laws_eqPatS.f k_ l0 l1 = some r),Calls Try.prog 17 #[.slice A0 l0.length c0,.slice A1 l1.length c1] w fun e w'=>e = .returned (.bool r)∧Below w.heap.size w w'):∀ (a0_0:Int) (a0_1:Int) (a0_2:ByteArray) (A0_3:Option Addr) (c0_3:Nat) (l0_3:List (S67)) (a1_0:Int) (a1_1:Int) (a1_2:ByteArray) (A1_3:Option Addr) (c1_3:Nat) (l1_3:List (S67)) (r:Bool) (w:World) (hr0_3:Kd.C k67 w A0_3 l0_3.length l0_3) (hc0_3:l0_3.length≤c0_3) (hr1_3:Kd.C k67 w A1_3 l1_3.length l1_3) (hc1_3:l1_3.length≤c1_3) (h:laws_eqPat.f k a0_0 a0_1 a0_2 l0_3 a1_0 a1_1 a1_2 l1_3 = some r),
  Calls Try.prog 34 #[.agg #[.int .i64 a0_0,.int .i64 a0_1,.string a0_2,.slice A0_3 l0_3.length c0_3],.agg #[.int .i64 a1_0,.int .i64 a1_1,.string a1_2,.slice A1_3 l1_3.length c1_3]] w fun e w'=>e = .returned (.bool r)∧Below w.heap.size w w':=by
 intro a0_0 a0_1 a0_2 A0_3 c0_3 l0_3 a1_0 a1_1 a1_2 A1_3 c1_3 l1_3 r w hr0_3 hc0_3 hr1_3 hc1_3 h
 cases k with
 | zero=>exact absurd h (by simp [laws_eqPat.f])
 | succ k =>
 simp only [laws_eqPat.f] at h;have hu67:=Try.underlying67;have HR0_3:=Aside0.mk hr0_3;have HC0_3:=Aside0.mk hc0_3;clear hr0_3 hc0_3;have HR1_3:=Aside0.mk hr1_3;have HC1_3:=Aside0.mk hc1_3;clear hr1_3 hc1_3;have HB:=Aside0.mk (Below.refl w.heap.size w);have H:(if a0_0 = a1_0 then (if a0_1 = a1_1 then (if a0_2.toList = a1_2.toList then ((laws_eqPatS.f k l0_3 l1_3).bind fun t400=>(if t400 = true then (some true) else (some false))) else (some false)) else (some false)) else (some false)) = some r:=h;clear h
 by_cases c3:a0_0 = a1_0
 ·rw [if_pos c3] at H
  have c3b0:(a0_0 == a1_0) = true:=beq_iff_eq.mpr c3;have c3b1:(a0_0 != a1_0) = false:=bne_eq_false_iff_eq.mpr c3;clear c3
  by_cases c4:a0_1 = a1_1
  ·rw [if_pos c4] at H
   have c4b0:(a0_1 == a1_1) = true:=beq_iff_eq.mpr c4;have c4b1:(a0_1 != a1_1) = false:=bne_eq_false_iff_eq.mpr c4;clear c4
   by_cases c5:a0_2.toList = a1_2.toList
   ·rw [if_pos c5] at H
    have c5b0:(a0_2.toList == a1_2.toList) = true:=beq_iff_eq.mpr c5;have c5b1:(a0_2.toList != a1_2.toList) = false:=bne_eq_false_iff_eq.mpr c5;clear c5;replace H:=Option.bind_eq_some_iff.mp H;obtain ⟨t400,A60,H⟩:=H;replace H:(if t400 = true then (some true) else (some false)) = some r:=H;have A6:=Aside0.mk A60;clear A60
    by_cases c7:t400 = true
    ·subst c7
     have H1:(some true) = some r:=by rw [if_pos rfl] at H;exact H
     clear H;have H:=H1;clear H1;obtain rfl:=Option.some.inj H
     go_enter Try.func34,Try.ntmps34
     go_wp2_with (first|((with_reducible refine gate_dst (N:=2) rfl ?_);refine box_event ?hg (N:=2) ?hd (cs:=#[.int .i64 a0_0,.int .i64 a0_1,.string a0_2,.slice A0_3 l0_3.length c0_3]) (t:=67) ?hr ?_;(case hd=>rfl);(case hg=>rfl);(case hr=>first|(go_simp;done)|(go_simp;rfl));intro gb398 hg w8 hbox hb;have n_:=ai (bq HB hb) <| ai (Aside0.mk (hbox)) <| ai (bz hg HB) <| bz hg HB;clear HB;obtain ⟨HB,BK398,GW398,GE398⟩:=n_;clear hb hbox hg)|((with_reducible refine gate_dst (N:=3) rfl ?_);refine box_event ?hg (N:=3) ?hd (cs:=#[.int .i64 a1_0,.int .i64 a1_1,.string a1_2,.slice A1_3 l1_3.length c1_3]) (t:=67) ?hr ?_;(case hd=>rfl);(case hg=>rfl);(case hr=>first|(go_simp;done)|(go_simp;rfl));intro gb399 hg w9 hbox hb;have n_:=ai (bw BK398 hb) <| ai (bq HB hb) <| ai (Aside0.mk (hbox)) <| ai (bz hg HB) <| ai (bz hg HB) <| ai (nl hg BK398) <| ng hg BK398;clear BK398 HB;obtain ⟨BK398,HB,BK399,GW399,GE399,NB398_399,NB399_398⟩:=n_;clear hb hbox hg;have hnb10:=NB398_399.out;have hnc10:=NB399_398.out;obtain ⟨hcz11_0,hcz11_1,hcz11_2,hcz11_3⟩:=kb4 BK398.out;obtain ⟨hfz11_0,hfz11_1,hfz11_2,hfz11_3⟩:=kz4 BK398.out;obtain ⟨hcz12_0,hcz12_1,hcz12_2,hcz12_3⟩:=kb4 BK399.out;obtain ⟨hfz12_0,hfz12_1,hfz12_2,hfz12_3⟩:=kz4 BK399.out)|((with_reducible refine gate_callee (f:=17) rfl ?_);refine goesL_ (some 24) rfl rfl Try.func17 (by kernel_rfl) rfl #[.slice A0_3 l0_3.length c0_3,.slice A1_3 l1_3.length c1_3] rfl gs ?_;(with_reducible refine (ih_laws_eqPatS k (by omega) _ _ l0_3 _ _ l1_3 true _ ?side1 ?side2 ?side3 ?side4 A6.out).mono ?_);(case side1=>exact ck (Kd.C_below HR0_3.out HB.out));(case side2=>exact HC0_3.out);(case side3=>exact ck (Kd.C_below HR1_3.out HB.out));(case side4=>exact HC1_3.out);rintro e w13 ⟨rfl,hb⟩;refine ⟨_,rfl,?_⟩;have n_:=ai (bw BK398 hb) <| ai (bw BK399 hb) <| bq HB hb;clear BK398 BK399 HB;obtain ⟨BK398,BK399,HB⟩:=n_;(try clear hb);(try clear hb2);(try clear hk);(try clear hi)))
     go_ret
     exact ⟨cl,bl HB.out⟩
    ·replace c7:=Bool.eq_false_iff.mpr c7
     subst c7;have H1:(some false) = some r:=by rw [if_neg (show ¬ (false = true) by decide)] at H;exact H
     clear H;have H:=H1;clear H1;obtain rfl:=Option.some.inj H
     go_enter Try.func34,Try.ntmps34
     go_wp2_with (first|((with_reducible refine gate_dst (N:=2) rfl ?_);refine box_event ?hg (N:=2) ?hd (cs:=#[.int .i64 a0_0,.int .i64 a0_1,.string a0_2,.slice A0_3 l0_3.length c0_3]) (t:=67) ?hr ?_;(case hd=>rfl);(case hg=>rfl);(case hr=>first|(go_simp;done)|(go_simp;rfl));intro gb398 hg w14 hbox hb;have n_:=ai (bq HB hb) <| ai (Aside0.mk (hbox)) <| ai (bz hg HB) <| bz hg HB;clear HB;obtain ⟨HB,BK398,GW398,GE398⟩:=n_;clear hb hbox hg)|((with_reducible refine gate_dst (N:=3) rfl ?_);refine box_event ?hg (N:=3) ?hd (cs:=#[.int .i64 a1_0,.int .i64 a1_1,.string a1_2,.slice A1_3 l1_3.length c1_3]) (t:=67) ?hr ?_;(case hd=>rfl);(case hg=>rfl);(case hr=>first|(go_simp;done)|(go_simp;rfl));intro gb399 hg w15 hbox hb;have n_:=ai (bw BK398 hb) <| ai (bq HB hb) <| ai (Aside0.mk (hbox)) <| ai (bz hg HB) <| ai (bz hg HB) <| ai (nl hg BK398) <| ng hg BK398;clear BK398 HB;obtain ⟨BK398,HB,BK399,GW399,GE399,NB398_399,NB399_398⟩:=n_;clear hb hbox hg;have hnb16:=NB398_399.out;have hnc16:=NB399_398.out;obtain ⟨hcz17_0,hcz17_1,hcz17_2,hcz17_3⟩:=kb4 BK398.out;obtain ⟨hfz17_0,hfz17_1,hfz17_2,hfz17_3⟩:=kz4 BK398.out;obtain ⟨hcz18_0,hcz18_1,hcz18_2,hcz18_3⟩:=kb4 BK399.out;obtain ⟨hfz18_0,hfz18_1,hfz18_2,hfz18_3⟩:=kz4 BK399.out)|((with_reducible refine gate_callee (f:=17) rfl ?_);refine goesL_ (some 24) rfl rfl Try.func17 (by kernel_rfl) rfl #[.slice A0_3 l0_3.length c0_3,.slice A1_3 l1_3.length c1_3] rfl gs ?_;(with_reducible refine (ih_laws_eqPatS k (by omega) _ _ l0_3 _ _ l1_3 false _ ?side1 ?side2 ?side3 ?side4 A6.out).mono ?_);(case side1=>exact ck (Kd.C_below HR0_3.out HB.out));(case side2=>exact HC0_3.out);(case side3=>exact ck (Kd.C_below HR1_3.out HB.out));(case side4=>exact HC1_3.out);rintro e w19 ⟨rfl,hb⟩;refine ⟨_,rfl,?_⟩;have n_:=ai (bw BK398 hb) <| ai (bw BK399 hb) <| bq HB hb;clear BK398 BK399 HB;obtain ⟨BK398,BK399,HB⟩:=n_;(try clear hb);(try clear hb2);(try clear hk);(try clear hi)))
     go_ret
     exact ⟨cl,bl HB.out⟩
   ·rw [if_neg c5] at H
    have c5b0:(a0_2.toList == a1_2.toList) = false:=beq_eq_false_iff_ne.mpr c5;have c5b1:(a0_2.toList != a1_2.toList) = true:=bne_iff_ne.mpr c5;obtain rfl:=Option.some.inj H
    go_enter Try.func34,Try.ntmps34
    go_wp2_with (first|((with_reducible refine gate_dst (N:=2) rfl ?_);refine box_event ?hg (N:=2) ?hd (cs:=#[.int .i64 a0_0,.int .i64 a0_1,.string a0_2,.slice A0_3 l0_3.length c0_3]) (t:=67) ?hr ?_;(case hd=>rfl);(case hg=>rfl);(case hr=>first|(go_simp;done)|(go_simp;rfl));intro gb398 hg w20 hbox hb;have n_:=ai (bq HB hb) <| ai (Aside0.mk (hbox)) <| ai (bz hg HB) <| bz hg HB;clear HB;obtain ⟨HB,BK398,GW398,GE398⟩:=n_;clear hb hbox hg)|((with_reducible refine gate_dst (N:=3) rfl ?_);refine box_event ?hg (N:=3) ?hd (cs:=#[.int .i64 a1_0,.int .i64 a1_1,.string a1_2,.slice A1_3 l1_3.length c1_3]) (t:=67) ?hr ?_;(case hd=>rfl);(case hg=>rfl);(case hr=>first|(go_simp;done)|(go_simp;rfl));intro gb399 hg w21 hbox hb;have n_:=ai (bw BK398 hb) <| ai (bq HB hb) <| ai (Aside0.mk (hbox)) <| ai (bz hg HB) <| ai (bz hg HB) <| ai (nl hg BK398) <| ng hg BK398;clear BK398 HB;obtain ⟨BK398,HB,BK399,GW399,GE399,NB398_399,NB399_398⟩:=n_;clear hb hbox hg;have hnb22:=NB398_399.out;have hnc22:=NB399_398.out;obtain ⟨hcz23_0,hcz23_1,hcz23_2,hcz23_3⟩:=kb4 BK398.out;obtain ⟨hfz23_0,hfz23_1,hfz23_2,hfz23_3⟩:=kz4 BK398.out;obtain ⟨hcz24_0,hcz24_1,hcz24_2,hcz24_3⟩:=kb4 BK399.out;obtain ⟨hfz24_0,hfz24_1,hfz24_2,hfz24_3⟩:=kz4 BK399.out))
    go_ret
    exact ⟨cl,bl HB.out⟩
  ·rw [if_neg c4] at H
   have c4b0:(a0_1 == a1_1) = false:=beq_eq_false_iff_ne.mpr c4;have c4b1:(a0_1 != a1_1) = true:=bne_iff_ne.mpr c4;obtain rfl:=Option.some.inj H
   go_enter Try.func34,Try.ntmps34
   go_wp2_with (first|((with_reducible refine gate_dst (N:=2) rfl ?_);refine box_event ?hg (N:=2) ?hd (cs:=#[.int .i64 a0_0,.int .i64 a0_1,.string a0_2,.slice A0_3 l0_3.length c0_3]) (t:=67) ?hr ?_;(case hd=>rfl);(case hg=>rfl);(case hr=>first|(go_simp;done)|(go_simp;rfl));intro gb398 hg w25 hbox hb;have n_:=ai (bq HB hb) <| ai (Aside0.mk (hbox)) <| ai (bz hg HB) <| bz hg HB;clear HB;obtain ⟨HB,BK398,GW398,GE398⟩:=n_;clear hb hbox hg)|((with_reducible refine gate_dst (N:=3) rfl ?_);refine box_event ?hg (N:=3) ?hd (cs:=#[.int .i64 a1_0,.int .i64 a1_1,.string a1_2,.slice A1_3 l1_3.length c1_3]) (t:=67) ?hr ?_;(case hd=>rfl);(case hg=>rfl);(case hr=>first|(go_simp;done)|(go_simp;rfl));intro gb399 hg w26 hbox hb;have n_:=ai (bw BK398 hb) <| ai (bq HB hb) <| ai (Aside0.mk (hbox)) <| ai (bz hg HB) <| ai (bz hg HB) <| ai (nl hg BK398) <| ng hg BK398;clear BK398 HB;obtain ⟨BK398,HB,BK399,GW399,GE399,NB398_399,NB399_398⟩:=n_;clear hb hbox hg;have hnb27:=NB398_399.out;have hnc27:=NB399_398.out;obtain ⟨hcz28_0,hcz28_1,hcz28_2,hcz28_3⟩:=kb4 BK398.out;obtain ⟨hfz28_0,hfz28_1,hfz28_2,hfz28_3⟩:=kz4 BK398.out;obtain ⟨hcz29_0,hcz29_1,hcz29_2,hcz29_3⟩:=kb4 BK399.out;obtain ⟨hfz29_0,hfz29_1,hfz29_2,hfz29_3⟩:=kz4 BK399.out))
   go_ret
   exact ⟨cl,bl HB.out⟩
 ·rw [if_neg c3] at H
  have c3b0:(a0_0 == a1_0) = false:=beq_eq_false_iff_ne.mpr c3;have c3b1:(a0_0 != a1_0) = true:=bne_iff_ne.mpr c3;obtain rfl:=Option.some.inj H
  go_enter Try.func34,Try.ntmps34
  go_wp2_with (first|((with_reducible refine gate_dst (N:=2) rfl ?_);refine box_event ?hg (N:=2) ?hd (cs:=#[.int .i64 a0_0,.int .i64 a0_1,.string a0_2,.slice A0_3 l0_3.length c0_3]) (t:=67) ?hr ?_;(case hd=>rfl);(case hg=>rfl);(case hr=>first|(go_simp;done)|(go_simp;rfl));intro gb398 hg w30 hbox hb;have n_:=ai (bq HB hb) <| ai (Aside0.mk (hbox)) <| ai (bz hg HB) <| bz hg HB;clear HB;obtain ⟨HB,BK398,GW398,GE398⟩:=n_;clear hb hbox hg)|((with_reducible refine gate_dst (N:=3) rfl ?_);refine box_event ?hg (N:=3) ?hd (cs:=#[.int .i64 a1_0,.int .i64 a1_1,.string a1_2,.slice A1_3 l1_3.length c1_3]) (t:=67) ?hr ?_;(case hd=>rfl);(case hg=>rfl);(case hr=>first|(go_simp;done)|(go_simp;rfl));intro gb399 hg w31 hbox hb;have n_:=ai (bw BK398 hb) <| ai (bq HB hb) <| ai (Aside0.mk (hbox)) <| ai (bz hg HB) <| ai (bz hg HB) <| ai (nl hg BK398) <| ng hg BK398;clear BK398 HB;obtain ⟨BK398,HB,BK399,GW399,GE399,NB398_399,NB399_398⟩:=n_;clear hb hbox hg;have hnb32:=NB398_399.out;have hnc32:=NB399_398.out;obtain ⟨hcz33_0,hcz33_1,hcz33_2,hcz33_3⟩:=kb4 BK398.out;obtain ⟨hfz33_0,hfz33_1,hfz33_2,hfz33_3⟩:=kz4 BK398.out;obtain ⟨hcz34_0,hcz34_1,hcz34_2,hcz34_3⟩:=kb4 BK399.out;obtain ⟨hfz34_0,hfz34_1,hfz34_2,hfz34_3⟩:=kz4 BK399.out))
  go_ret
  exact ⟨cl,bl HB.out⟩

/-! ### laws_eqPatS: function 17 -/
def laws_eqPatS.T6:Bool × List (List Nat × List Nat):=(true,[([],[]),([],[]),([0,1],[0,1]),([2],[2]),([],[]),([],[]),([4,5],[4,5]),([6],[6]),([3,7],[3,7]),([8],[8])])
def laws_eqPatS.B6:List Nat:=[0,0,3,7,0,0,48,112,255,511]
theorem laws_eqPatS.tab6:rtab .any (opsOf Try.f17 6) = laws_eqPatS.T6:=by kernel_rfl
theorem laws_eqPatS.bits6:waitsOk laws_eqPatS.T6.2 laws_eqPatS.B6 = true:=by kernel_rfl
set_option maxHeartbeats 8000000 in
set_option maxRecDepth 100000 in
theorem laws_eqPatS.step (k:Nat) (ih_laws_eqPat:∀ k_,k_ < k → ∀ (a0_0:Int) (a0_1:Int) (a0_2:ByteArray) (A0_3:Option Addr) (c0_3:Nat) (l0_3:List (S67)) (a1_0:Int) (a1_1:Int) (a1_2:ByteArray) (A1_3:Option Addr) (c1_3:Nat) (l1_3:List (S67)) (r:Bool) (w:World) (hr0_3:Kd.C k67 w A0_3 l0_3.length l0_3) (hc0_3:l0_3.length≤c0_3) (hr1_3:Kd.C k67 w A1_3 l1_3.length l1_3) (hc1_3:l1_3.length≤c1_3) (h:laws_eqPat.f k_ a0_0 a0_1 a0_2 l0_3 a1_0 a1_1 a1_2 l1_3 = some r),Calls Try.prog 34 #[.agg #[.int .i64 a0_0,.int .i64 a0_1,.string a0_2,.slice A0_3 l0_3.length c0_3],.agg #[.int .i64 a1_0,.int .i64 a1_1,.string a1_2,.slice A1_3 l1_3.length c1_3]] w fun e w'=>e = .returned (.bool r)∧Below w.heap.size w w') (ih_laws_eqPatS:∀ k_,k_ < k → ∀ (A0:Option Addr) (c0:Nat) (l0:List (S67)) (A1:Option Addr) (c1:Nat) (l1:List (S67)) (r:Bool) (w:World) (hr0:Kd.C k67 w A0 l0.length l0) (hc0:l0.length≤c0) (hr1:Kd.C k67 w A1 l1.length l1) (hc1:l1.length≤c1) (h:laws_eqPatS.f k_ l0 l1 = some r),Calls Try.prog 17 #[.slice A0 l0.length c0,.slice A1 l1.length c1] w fun e w'=>e = .returned (.bool r)∧Below w.heap.size w w'):∀ (A0:Option Addr) (c0:Nat) (l0:List (S67)) (A1:Option Addr) (c1:Nat) (l1:List (S67)) (r:Bool) (w:World) (hr0:Kd.C k67 w A0 l0.length l0) (hc0:l0.length≤c0) (hr1:Kd.C k67 w A1 l1.length l1) (hc1:l1.length≤c1) (h:laws_eqPatS.f k l0 l1 = some r),
  Calls Try.prog 17 #[.slice A0 l0.length c0,.slice A1 l1.length c1] w fun e w'=>e = .returned (.bool r)∧Below w.heap.size w w':=by
 intro A0 c0 l0 A1 c1 l1 r w hr0 hc0 hr1 hc1 h
 cases k with
 | zero=>exact absurd h (by simp [laws_eqPatS.f])
 | succ k =>
 simp only [laws_eqPatS.f] at h;have hu67:=Try.underlying67;have HR0:=Aside0.mk hr0;have HC0:=Aside0.mk hc0;clear hr0 hc0;have HR1:=Aside0.mk hr1;have HC1:=Aside0.mk hc1;clear hr1 hc1;have HB:=Aside0.mk (Below.refl w.heap.size w);have H:(if (l0.length:Int) = (l1.length:Int) then (laws_eqPatS.l0 k l0 l1 0) else (some false)) = some r:=h;clear h
 by_cases c3:(l0.length:Int) = (l1.length:Int)
 ·rw [if_pos c3] at H
  have c3b0:((l0.length:Int) == (l1.length:Int)) = true:=beq_iff_eq.mpr c3;have c3b1:((l0.length:Int) != (l1.length:Int)) = false:=bne_eq_false_iff_eq.mpr c3;have c3b2:(l0.length == l1.length) = true:=by first|simpa using c3|(simp at c3 ⊢;omega)
  clear c3;have H':=Aside0.mk H;clear H
  go_enter Try.func17,Try.ntmps17
  go_wp2
  go_loopg [5] k (fun kq v5 w'=>∃ (x5_1:Int),v5 = .int .i64 x5_1∧Aside0 (laws_eqPatS.l0 kq l0 l1 x5_1 = some r)∧Aside0 (kq≤k)∧Aside0 (Below w.heap.size w w'))
  case atStart=>exact ⟨(0),(cl2),H',⟨Nat.le_refl _⟩,⟨bl HB.out⟩⟩
  case round =>
   clear H';(try clear c1);(try clear p2);(try clear c3);(try clear c3b0);(try clear c3b1);(try clear c3b2);(try clear HB);obtain ⟨x5_1,rfl,HA,HK1,HB⟩:=hrel
   cases gk with
   | zero=>exact absurd HA.out (by simp [laws_eqPatS.l0])
   | succ k1 =>
    have H:=HA.out;clear HA;simp only [laws_eqPatS.l0] at H
    by_cases c4:x5_1 < (l0.length:Int)
    ·rw [if_pos c4] at H
     have c4b0:decide (x5_1 < (l0.length:Int)) = true:=decide_eq_true c4;clear c4
     by_cases c5:0≤x5_1
     ·rw [if_pos c5] at H
      have c5b0:decide (0≤x5_1) = true:=decide_eq_true c5;clear c5
      by_cases c6:x5_1 < (l1.length:Int)
      ·rw [if_pos c6] at H
       have c6b0:decide (x5_1 < (l1.length:Int)) = true:=decide_eq_true c6;clear c6;replace H:=Option.bind_eq_some_iff.mp H;obtain ⟨t403,A70,H⟩:=H;replace H:(if t403 = true then (laws_eqPatS.l0 k1 l0 l1 (wrap64 (x5_1 + 1))) else (some false)) = some r:=H;have A7:=Aside0.mk A70;clear A70
       try go_wp2
       have n_:=dh HB;clear HB;have HB:=n_;clear n_;have p401:0≤(x5_1:Int):=od;have q401:x5_1 < (l0.length:Int):=od;obtain ⟨ad401,A401_3,c401_3,e401,hx401_0,hx401_1,hx401_2,hx401_3,hl401_3,hi401_3⟩:=at_T67 HR0.out x5_1 p401 q401;have hw401_3:=hx401_3;have hw401_2:=hx401_2;have hw401_1:=hx401_1;have hw401_0:=hx401_0;cases e401;replace hx401_0:=cb HB hx401_0;replace hx401_1:=cb HB hx401_1;replace hx401_2:=cb HB hx401_2;replace hx401_3:=cb HB hx401_3;have HR401_3:=Aside0.mk hi401_3;have HC401_3:=Aside0.mk hl401_3;clear hi401_3 hl401_3;replace p401:=eq_true p401;replace q401:=eq_true q401;have p402:0≤(x5_1:Int):=od;have q402:x5_1 < (l1.length:Int):=od;obtain ⟨ad402,A402_3,c402_3,e402,hx402_0,hx402_1,hx402_2,hx402_3,hl402_3,hi402_3⟩:=at_T67 HR1.out x5_1 p402 q402;have hw402_3:=hx402_3;have hw402_2:=hx402_2;have hw402_1:=hx402_1;have hw402_0:=hx402_0;cases e402;replace hx402_0:=cb HB hx402_0;replace hx402_1:=cb HB hx402_1;replace hx402_2:=cb HB hx402_2;replace hx402_3:=cb HB hx402_3;have HR402_3:=Aside0.mk hi402_3;have HC402_3:=Aside0.mk hl402_3;clear hi402_3 hl402_3;replace p402:=eq_true p402;replace q402:=eq_true q402
       refine start_ (n:=10) (S:=fun w'=>w'.cell? (ad401.add ((x5_1).toNat * 4)) = some (.int .i64 ((rd_T67 l0 x5_1).f0))∧w'.cell? ⟨(ad401.add ((x5_1).toNat * 4)).block,(ad401.add ((x5_1).toNat * 4)).off + 1,none⟩ = some (.int .i64 ((rd_T67 l0 x5_1).f1))∧w'.cell? ⟨(ad401.add ((x5_1).toNat * 4)).block,(ad401.add ((x5_1).toNat * 4)).off + 2,none⟩ = some (.string ((rd_T67 l0 x5_1).f2))∧w'.cell? ⟨(ad401.add ((x5_1).toNat * 4)).block,(ad401.add ((x5_1).toNat * 4)).off + 3,none⟩ = some (.slice A401_3 ((rd_T67 l0 x5_1).f3).length c401_3)∧w'.cell? (ad402.add ((x5_1).toNat * 4)) = some (.int .i64 ((rd_T67 l1 x5_1).f0))∧w'.cell? ⟨(ad402.add ((x5_1).toNat * 4)).block,(ad402.add ((x5_1).toNat * 4)).off + 1,none⟩ = some (.int .i64 ((rd_T67 l1 x5_1).f1))∧w'.cell? ⟨(ad402.add ((x5_1).toNat * 4)).block,(ad402.add ((x5_1).toNat * 4)).off + 2,none⟩ = some (.string ((rd_T67 l1 x5_1).f2))∧w'.cell? ⟨(ad402.add ((x5_1).toNat * 4)).block,(ad402.add ((x5_1).toNat * 4)).off + 3,none⟩ = some (.slice A402_3 ((rd_T67 l1 x5_1).f3).length c402_3)) (ds:=[]) #[false,false,false,false,false,false,false,false,false,false] (by kernel_rfl) rfl rfl ⟨(cb HB hw401_0 :),(cb HB hw401_1 :),(cb HB hw401_2 :),(cb HB hw401_3 :),(cb HB hw402_0 :),(cb HB hw402_1 :),(cb HB hw402_2 :),(cb HB hw402_3 :)⟩ (fun hHeld=>?_);refine with_tabW laws_eqPatS.tab6 laws_eqPatS.bits6 (fun HT_ HW_=>?_)
       generalize wr.drew = w9 at HB HR401_3 HR402_3 hx401_0 hx401_1 hx401_2 hx401_3 hx402_0 hx402_1 hx402_2 hx402_3 hHeld ⊢;refine pu 0 17 ?_;refine pu 1 18 ?_;refine pu 2 19 ?_;refine pu 4 21 ?_;refine pu 5 22 ?_;refine pu 6 23 ?_;refine ta 3 20 hHeld ?_;refine ta 7 24 hHeld ?_
       refine one_ (i:=8) (N:=some 25) #[true,true,true,true,true,true,true,true,true,false] rfl rfl (one_of HT_.out (by kernel_rfl)) (by decide) (fun K hK=>?_)
       refine goes_ Try.func34 (by kernel_rfl) rfl #[.agg #[.int .i64 ((rd_T67 l0 x5_1).f0),.int .i64 ((rd_T67 l0 x5_1).f1),.string ((rd_T67 l0 x5_1).f2),.slice A401_3 ((rd_T67 l0 x5_1).f3).length c401_3],.agg #[.int .i64 ((rd_T67 l1 x5_1).f0),.int .i64 ((rd_T67 l1 x5_1).f1),.string ((rd_T67 l1 x5_1).f2),.slice A402_3 ((rd_T67 l1 x5_1).f3).length c402_3]] (by rfl) rfl rfl gs ?_
       with_reducible refine (ih_laws_eqPat k1 (by have:=HK1.out;omega) ((rd_T67 l0 x5_1).f0) ((rd_T67 l0 x5_1).f1) ((rd_T67 l0 x5_1).f2) _ _ ((rd_T67 l0 x5_1).f3) ((rd_T67 l1 x5_1).f0) ((rd_T67 l1 x5_1).f1) ((rd_T67 l1 x5_1).f2) _ _ ((rd_T67 l1 x5_1).f3) t403 _ ?side1 ?side2 ?side3 ?side4 A7.out).mono ?_
       (case side1=>exact ck (Kd.C_below HR401_3.out HB.out))
       (case side2=>exact HC401_3.out)
       (case side3=>exact ck (Kd.C_below HR402_3.out HB.out))
       (case side4=>exact HC402_3.out)
       rintro e w10 ⟨rfl,hb⟩
       refine ⟨_,rfl,?_⟩
       have n_:=bq HB hb;clear HB;have HB:=n_;clear n_;(try clear hb);(try clear hb2);(try clear hk);(try clear hi)
       refine hK.out _ _ ⟨(cb HB hw401_0 :),(cb HB hw401_1 :),(cb HB hw401_2 :),(cb HB hw401_3 :),(cb HB hw402_0 :),(cb HB hw402_1 :),(cb HB hw402_2 :),(cb HB hw402_3 :)⟩ (fun hHeld=>?_)
       clear hK K
       refine norm_ (a':=?_) ?_ ?_
       rotate_left
       ·show Act.put _ (some 25) _ = _
        simp only [Act.put,List.setIfInBounds_toArray,List.set_cons_zero,List.set_cons_succ,i64_w,i32_w]
        rfl
       refine pu 9 26 ?_
       refine done_ (done_of HT_.out (by kernel_rfl)) ?_
       by_cases c8:t403 = true
       ·subst c8
        have H1:(laws_eqPatS.l0 k1 l0 l1 (wrap64 (x5_1 + 1))) = some r:=by rw [if_pos rfl] at H;exact H
        clear H;have H:=H1;clear H1;have H':=Aside0.mk H;clear H
        try go_wp2
        go_roundg k1
        case measure=>have:=HK1.out;omega
        case rel=>exact ⟨(wrap64 (x5_1 + 1)),(cl2),H',⟨by have:=HK1.out;omega⟩,⟨bl HB.out⟩⟩
       ·replace c8:=Bool.eq_false_iff.mpr c8
        subst c8;have H1:(some false) = some r:=by rw [if_neg (show ¬ (false = true) by decide)] at H;exact H
        clear H;have H:=H1;clear H1;obtain rfl:=Option.some.inj H
        try go_wp2
        go_ret
        exact ⟨cl,bl HB.out⟩
      ·rw [if_neg c6] at H
       exact absurd H (by simp)
     ·rw [if_neg c5] at H
      exact absurd H (by simp)
    ·rw [if_neg c4] at H
     have c4b0:decide (x5_1 < (l0.length:Int)) = false:=decide_eq_false c4;clear c4;obtain rfl:=Option.some.inj H
     go_wp2
     go_ret
     exact ⟨cl,bl HB.out⟩
 ·rw [if_neg c3] at H
  have c3b0:((l0.length:Int) == (l1.length:Int)) = false:=beq_eq_false_iff_ne.mpr c3;have c3b1:((l0.length:Int) != (l1.length:Int)) = true:=bne_iff_ne.mpr c3;have c3b2:(l0.length == l1.length) = false:=by first|simpa using c3|(simp at c3 ⊢;omega)
  obtain rfl:=Option.some.inj H
  go_enter Try.func17,Try.ntmps17
  go_wp2
  go_ret
  exact ⟨cl,bl HB.out⟩

theorem laws_eqPat.all (k:Nat):(∀ (a0_0:Int) (a0_1:Int) (a0_2:ByteArray) (A0_3:Option Addr) (c0_3:Nat) (l0_3:List (S67)) (a1_0:Int) (a1_1:Int) (a1_2:ByteArray) (A1_3:Option Addr) (c1_3:Nat) (l1_3:List (S67)) (r:Bool) (w:World) (hr0_3:Kd.C k67 w A0_3 l0_3.length l0_3) (hc0_3:l0_3.length≤c0_3) (hr1_3:Kd.C k67 w A1_3 l1_3.length l1_3) (hc1_3:l1_3.length≤c1_3) (h:laws_eqPat.f k a0_0 a0_1 a0_2 l0_3 a1_0 a1_1 a1_2 l1_3 = some r),Calls Try.prog 34 #[.agg #[.int .i64 a0_0,.int .i64 a0_1,.string a0_2,.slice A0_3 l0_3.length c0_3],.agg #[.int .i64 a1_0,.int .i64 a1_1,.string a1_2,.slice A1_3 l1_3.length c1_3]] w fun e w'=>e = .returned (.bool r)∧Below w.heap.size w w')∧(∀ (A0:Option Addr) (c0:Nat) (l0:List (S67)) (A1:Option Addr) (c1:Nat) (l1:List (S67)) (r:Bool) (w:World) (hr0:Kd.C k67 w A0 l0.length l0) (hc0:l0.length≤c0) (hr1:Kd.C k67 w A1 l1.length l1) (hc1:l1.length≤c1) (h:laws_eqPatS.f k l0 l1 = some r),Calls Try.prog 17 #[.slice A0 l0.length c0,.slice A1 l1.length c1] w fun e w'=>e = .returned (.bool r)∧Below w.heap.size w w'):=by
 induction k using Nat.strongRecOn with
 | _ k ih =>
 exact ⟨laws_eqPat.step k (fun k_ h_=>(ih k_ h_).1) (fun k_ h_=>(ih k_ h_).2),laws_eqPatS.step k (fun k_ h_=>(ih k_ h_).1) (fun k_ h_=>(ih k_ h_).2)⟩
theorem laws_eqPat.calls (k:Nat):∀ (a0_0:Int) (a0_1:Int) (a0_2:ByteArray) (A0_3:Option Addr) (c0_3:Nat) (l0_3:List (S67)) (a1_0:Int) (a1_1:Int) (a1_2:ByteArray) (A1_3:Option Addr) (c1_3:Nat) (l1_3:List (S67)) (r:Bool) (w:World) (hr0_3:Kd.C k67 w A0_3 l0_3.length l0_3) (hc0_3:l0_3.length≤c0_3) (hr1_3:Kd.C k67 w A1_3 l1_3.length l1_3) (hc1_3:l1_3.length≤c1_3) (h:laws_eqPat.f k a0_0 a0_1 a0_2 l0_3 a1_0 a1_1 a1_2 l1_3 = some r),Calls Try.prog 34 #[.agg #[.int .i64 a0_0,.int .i64 a0_1,.string a0_2,.slice A0_3 l0_3.length c0_3],.agg #[.int .i64 a1_0,.int .i64 a1_1,.string a1_2,.slice A1_3 l1_3.length c1_3]] w fun e w'=>e = .returned (.bool r)∧Below w.heap.size w w':=(laws_eqPat.all k).1
theorem laws_eqPatS.calls (k:Nat):∀ (A0:Option Addr) (c0:Nat) (l0:List (S67)) (A1:Option Addr) (c1:Nat) (l1:List (S67)) (r:Bool) (w:World) (hr0:Kd.C k67 w A0 l0.length l0) (hc0:l0.length≤c0) (hr1:Kd.C k67 w A1 l1.length l1) (hc1:l1.length≤c1) (h:laws_eqPatS.f k l0 l1 = some r),Calls Try.prog 17 #[.slice A0 l0.length c0,.slice A1 l1.length c1] w fun e w'=>e = .returned (.bool r)∧Below w.heap.size w w':=(laws_eqPat.all k).2

/-! ### laws_eqCode: function 8 -/
def laws_eqCode.f (k:Nat) (l0_0:List (S44)) (l0_1:List (S67)) (l1_0:List (S44)) (l1_1:List (S67)):Option (Bool):=(laws_eqFnS.f k l0_0 l1_0).bind fun t406=>(if t406 = true then ((laws_eqPatS.f k l0_1 l1_1).bind fun t407=>(if t407 = true then (some true) else (some false))) else (some false))
theorem laws_eqCode.mono:∀ a0 a1 a2 a3 k,LeO (laws_eqCode.f k a0 a1 a2 a3) (laws_eqCode.f (k + 1) a0 a1 a2 a3):=by
 intro a0 a1 a2 a3 k
 unfold laws_eqCode.f
 with_reducible repeat' first|apply laws_eqFnS.mono|apply laws_eqPatS.mono|apply LeO.refl|apply LeO.none|apply LeO.ite|refine LeO.bind ?_ (fun _=>?_)
set_option maxHeartbeats 8000000 in
set_option maxRecDepth 100000 in
theorem laws_eqCode.calls (k:Nat) (A0_0:Option Addr) (c0_0:Nat) (l0_0:List (S44)) (A0_1:Option Addr) (c0_1:Nat) (l0_1:List (S67)) (A1_0:Option Addr) (c1_0:Nat) (l1_0:List (S44)) (A1_1:Option Addr) (c1_1:Nat) (l1_1:List (S67)) (r:Bool) (w:World) (hr0_0:Kd.C k44 w A0_0 l0_0.length l0_0) (hc0_0:l0_0.length≤c0_0) (hr0_1:Kd.C k67 w A0_1 l0_1.length l0_1) (hc0_1:l0_1.length≤c0_1) (hr1_0:Kd.C k44 w A1_0 l1_0.length l1_0) (hc1_0:l1_0.length≤c1_0) (hr1_1:Kd.C k67 w A1_1 l1_1.length l1_1) (hc1_1:l1_1.length≤c1_1) (h:laws_eqCode.f k l0_0 l0_1 l1_0 l1_1 = some r) :
  Calls Try.prog 8 #[.agg #[.slice A0_0 l0_0.length c0_0,.slice A0_1 l0_1.length c0_1],.agg #[.slice A1_0 l1_0.length c1_0,.slice A1_1 l1_1.length c1_1]] w fun e w'=>e = .returned (.bool r)∧Below w.heap.size w w':=by
 have hu31:=Try.underlying31;have HR0_0:=Aside0.mk hr0_0;have HC0_0:=Aside0.mk hc0_0;clear hr0_0 hc0_0;have HR0_1:=Aside0.mk hr0_1;have HC0_1:=Aside0.mk hc0_1;clear hr0_1 hc0_1;have HR1_0:=Aside0.mk hr1_0;have HC1_0:=Aside0.mk hc1_0;clear hr1_0 hc1_0;have HR1_1:=Aside0.mk hr1_1;have HC1_1:=Aside0.mk hc1_1;clear hr1_1 hc1_1;have HB:=Aside0.mk (Below.refl w.heap.size w);have H:((laws_eqFnS.f k l0_0 l1_0).bind fun t406=>(if t406 = true then ((laws_eqPatS.f k l0_1 l1_1).bind fun t407=>(if t407 = true then (some true) else (some false))) else (some false))) = some r:=h;clear h;replace H:=Option.bind_eq_some_iff.mp H;obtain ⟨t406,A30,H⟩:=H;replace H:(if t406 = true then ((laws_eqPatS.f k l0_1 l1_1).bind fun t407=>(if t407 = true then (some true) else (some false))) else (some false)) = some r:=H;have A3:=Aside0.mk A30;clear A30
 by_cases c4:t406 = true
 ·subst c4
  have H1:((laws_eqPatS.f k l0_1 l1_1).bind fun t407=>(if t407 = true then (some true) else (some false))) = some r:=by rw [if_pos rfl] at H;exact H
  clear H;have H:=H1;clear H1;replace H:=Option.bind_eq_some_iff.mp H;obtain ⟨t407,A50,H⟩:=H;replace H:(if t407 = true then (some true) else (some false)) = some r:=H;have A5:=Aside0.mk A50;clear A50
  by_cases c6:t407 = true
  ·subst c6
   have H1:(some true) = some r:=by rw [if_pos rfl] at H;exact H
   clear H;have H:=H1;clear H1;obtain rfl:=Option.some.inj H
   go_enter Try.func8,Try.ntmps8
   go_wp2_with (first|((with_reducible refine gate_dst (N:=2) rfl ?_);refine box_event ?hg (N:=2) ?hd (cs:=#[.slice A0_0 l0_0.length c0_0,.slice A0_1 l0_1.length c0_1]) (t:=31) ?hr ?_;(case hd=>rfl);(case hg=>rfl);(case hr=>first|(go_simp;done)|(go_simp;rfl));intro gb404 hg w7 hbox hb;have n_:=ai (bq HB hb) <| ai (Aside0.mk (hbox)) <| ai (bz hg HB) <| bz hg HB;clear HB;obtain ⟨HB,BK404,GW404,GE404⟩:=n_;clear hb hbox hg)|((with_reducible refine gate_dst (N:=3) rfl ?_);refine box_event ?hg (N:=3) ?hd (cs:=#[.slice A1_0 l1_0.length c1_0,.slice A1_1 l1_1.length c1_1]) (t:=31) ?hr ?_;(case hd=>rfl);(case hg=>rfl);(case hr=>first|(go_simp;done)|(go_simp;rfl));intro gb405 hg w8 hbox hb;have n_:=ai (bw BK404 hb) <| ai (bq HB hb) <| ai (Aside0.mk (hbox)) <| ai (bz hg HB) <| ai (bz hg HB) <| ai (nl hg BK404) <| ng hg BK404;clear BK404 HB;obtain ⟨BK404,HB,BK405,GW405,GE405,NB404_405,NB405_404⟩:=n_;clear hb hbox hg;have hnb9:=NB404_405.out;have hnc9:=NB405_404.out;obtain ⟨hcz10_0,hcz10_1⟩:=kb2 BK404.out;obtain ⟨hfz10_0,hfz10_1⟩:=kz2 BK404.out;obtain ⟨hcz11_0,hcz11_1⟩:=kb2 BK405.out;obtain ⟨hfz11_0,hfz11_1⟩:=kz2 BK405.out)|((with_reducible refine gate_callee (f:=16) rfl ?_);refine goesL_ (some 9) rfl rfl Try.func16 (by kernel_rfl) rfl #[.slice A0_0 l0_0.length c0_0,.slice A1_0 l1_0.length c1_0] rfl gs ?_;(with_reducible refine (laws_eqFnS.calls k _ _ l0_0 _ _ l1_0 true _ ?side1 ?side2 ?side3 ?side4 A3.out).mono ?_);(case side1=>exact ck (Kd.C_below HR0_0.out HB.out));(case side2=>exact HC0_0.out);(case side3=>exact ck (Kd.C_below HR1_0.out HB.out));(case side4=>exact HC1_0.out);rintro e w12 ⟨rfl,hb⟩;refine ⟨_,rfl,?_⟩;have n_:=ai (bw BK404 hb) <| ai (bw BK405 hb) <| bq HB hb;clear BK404 BK405 HB;obtain ⟨BK404,BK405,HB⟩:=n_;(try clear hb);(try clear hb2);(try clear hk);(try clear hi);obtain ⟨hcz13_0,hcz13_1⟩:=kb2 BK404.out;obtain ⟨hfz13_0,hfz13_1⟩:=kz2 BK404.out;obtain ⟨hcz14_0,hcz14_1⟩:=kb2 BK405.out;obtain ⟨hfz14_0,hfz14_1⟩:=kz2 BK405.out)|((with_reducible refine gate_callee (f:=17) rfl ?_);refine goesL_ (some 15) rfl rfl Try.func17 (by kernel_rfl) rfl #[.slice A0_1 l0_1.length c0_1,.slice A1_1 l1_1.length c1_1] rfl gs ?_;(with_reducible refine (laws_eqPatS.calls k _ _ l0_1 _ _ l1_1 true _ ?side1 ?side2 ?side3 ?side4 A5.out).mono ?_);(case side1=>exact ck (Kd.C_below HR0_1.out HB.out));(case side2=>exact HC0_1.out);(case side3=>exact ck (Kd.C_below HR1_1.out HB.out));(case side4=>exact HC1_1.out);rintro e w15 ⟨rfl,hb⟩;refine ⟨_,rfl,?_⟩;have n_:=ai (bw BK404 hb) <| ai (bw BK405 hb) <| bq HB hb;clear BK404 BK405 HB;obtain ⟨BK404,BK405,HB⟩:=n_;(try clear hb);(try clear hb2);(try clear hk);(try clear hi)))
   go_ret
   exact ⟨cl,bl HB.out⟩
  ·replace c6:=Bool.eq_false_iff.mpr c6
   subst c6;have H1:(some false) = some r:=by rw [if_neg (show ¬ (false = true) by decide)] at H;exact H
   clear H;have H:=H1;clear H1;obtain rfl:=Option.some.inj H
   go_enter Try.func8,Try.ntmps8
   go_wp2_with (first|((with_reducible refine gate_dst (N:=2) rfl ?_);refine box_event ?hg (N:=2) ?hd (cs:=#[.slice A0_0 l0_0.length c0_0,.slice A0_1 l0_1.length c0_1]) (t:=31) ?hr ?_;(case hd=>rfl);(case hg=>rfl);(case hr=>first|(go_simp;done)|(go_simp;rfl));intro gb404 hg w16 hbox hb;have n_:=ai (bq HB hb) <| ai (Aside0.mk (hbox)) <| ai (bz hg HB) <| bz hg HB;clear HB;obtain ⟨HB,BK404,GW404,GE404⟩:=n_;clear hb hbox hg)|((with_reducible refine gate_dst (N:=3) rfl ?_);refine box_event ?hg (N:=3) ?hd (cs:=#[.slice A1_0 l1_0.length c1_0,.slice A1_1 l1_1.length c1_1]) (t:=31) ?hr ?_;(case hd=>rfl);(case hg=>rfl);(case hr=>first|(go_simp;done)|(go_simp;rfl));intro gb405 hg w17 hbox hb;have n_:=ai (bw BK404 hb) <| ai (bq HB hb) <| ai (Aside0.mk (hbox)) <| ai (bz hg HB) <| ai (bz hg HB) <| ai (nl hg BK404) <| ng hg BK404;clear BK404 HB;obtain ⟨BK404,HB,BK405,GW405,GE405,NB404_405,NB405_404⟩:=n_;clear hb hbox hg;have hnb18:=NB404_405.out;have hnc18:=NB405_404.out;obtain ⟨hcz19_0,hcz19_1⟩:=kb2 BK404.out;obtain ⟨hfz19_0,hfz19_1⟩:=kz2 BK404.out;obtain ⟨hcz20_0,hcz20_1⟩:=kb2 BK405.out;obtain ⟨hfz20_0,hfz20_1⟩:=kz2 BK405.out)|((with_reducible refine gate_callee (f:=16) rfl ?_);refine goesL_ (some 9) rfl rfl Try.func16 (by kernel_rfl) rfl #[.slice A0_0 l0_0.length c0_0,.slice A1_0 l1_0.length c1_0] rfl gs ?_;(with_reducible refine (laws_eqFnS.calls k _ _ l0_0 _ _ l1_0 true _ ?side1 ?side2 ?side3 ?side4 A3.out).mono ?_);(case side1=>exact ck (Kd.C_below HR0_0.out HB.out));(case side2=>exact HC0_0.out);(case side3=>exact ck (Kd.C_below HR1_0.out HB.out));(case side4=>exact HC1_0.out);rintro e w21 ⟨rfl,hb⟩;refine ⟨_,rfl,?_⟩;have n_:=ai (bw BK404 hb) <| ai (bw BK405 hb) <| bq HB hb;clear BK404 BK405 HB;obtain ⟨BK404,BK405,HB⟩:=n_;(try clear hb);(try clear hb2);(try clear hk);(try clear hi);obtain ⟨hcz22_0,hcz22_1⟩:=kb2 BK404.out;obtain ⟨hfz22_0,hfz22_1⟩:=kz2 BK404.out;obtain ⟨hcz23_0,hcz23_1⟩:=kb2 BK405.out;obtain ⟨hfz23_0,hfz23_1⟩:=kz2 BK405.out)|((with_reducible refine gate_callee (f:=17) rfl ?_);refine goesL_ (some 15) rfl rfl Try.func17 (by kernel_rfl) rfl #[.slice A0_1 l0_1.length c0_1,.slice A1_1 l1_1.length c1_1] rfl gs ?_;(with_reducible refine (laws_eqPatS.calls k _ _ l0_1 _ _ l1_1 false _ ?side1 ?side2 ?side3 ?side4 A5.out).mono ?_);(case side1=>exact ck (Kd.C_below HR0_1.out HB.out));(case side2=>exact HC0_1.out);(case side3=>exact ck (Kd.C_below HR1_1.out HB.out));(case side4=>exact HC1_1.out);rintro e w24 ⟨rfl,hb⟩;refine ⟨_,rfl,?_⟩;have n_:=ai (bw BK404 hb) <| ai (bw BK405 hb) <| bq HB hb;clear BK404 BK405 HB;obtain ⟨BK404,BK405,HB⟩:=n_;(try clear hb);(try clear hb2);(try clear hk);(try clear hi)))
   go_ret
   exact ⟨cl,bl HB.out⟩
 ·replace c4:=Bool.eq_false_iff.mpr c4
  subst c4;have H1:(some false) = some r:=by rw [if_neg (show ¬ (false = true) by decide)] at H;exact H
  clear H;have H:=H1;clear H1;obtain rfl:=Option.some.inj H
  go_enter Try.func8,Try.ntmps8
  go_wp2_with (first|((with_reducible refine gate_dst (N:=2) rfl ?_);refine box_event ?hg (N:=2) ?hd (cs:=#[.slice A0_0 l0_0.length c0_0,.slice A0_1 l0_1.length c0_1]) (t:=31) ?hr ?_;(case hd=>rfl);(case hg=>rfl);(case hr=>first|(go_simp;done)|(go_simp;rfl));intro gb404 hg w25 hbox hb;have n_:=ai (bq HB hb) <| ai (Aside0.mk (hbox)) <| ai (bz hg HB) <| bz hg HB;clear HB;obtain ⟨HB,BK404,GW404,GE404⟩:=n_;clear hb hbox hg)|((with_reducible refine gate_dst (N:=3) rfl ?_);refine box_event ?hg (N:=3) ?hd (cs:=#[.slice A1_0 l1_0.length c1_0,.slice A1_1 l1_1.length c1_1]) (t:=31) ?hr ?_;(case hd=>rfl);(case hg=>rfl);(case hr=>first|(go_simp;done)|(go_simp;rfl));intro gb405 hg w26 hbox hb;have n_:=ai (bw BK404 hb) <| ai (bq HB hb) <| ai (Aside0.mk (hbox)) <| ai (bz hg HB) <| ai (bz hg HB) <| ai (nl hg BK404) <| ng hg BK404;clear BK404 HB;obtain ⟨BK404,HB,BK405,GW405,GE405,NB404_405,NB405_404⟩:=n_;clear hb hbox hg;have hnb27:=NB404_405.out;have hnc27:=NB405_404.out;obtain ⟨hcz28_0,hcz28_1⟩:=kb2 BK404.out;obtain ⟨hfz28_0,hfz28_1⟩:=kz2 BK404.out;obtain ⟨hcz29_0,hcz29_1⟩:=kb2 BK405.out;obtain ⟨hfz29_0,hfz29_1⟩:=kz2 BK405.out)|((with_reducible refine gate_callee (f:=16) rfl ?_);refine goesL_ (some 9) rfl rfl Try.func16 (by kernel_rfl) rfl #[.slice A0_0 l0_0.length c0_0,.slice A1_0 l1_0.length c1_0] rfl gs ?_;(with_reducible refine (laws_eqFnS.calls k _ _ l0_0 _ _ l1_0 false _ ?side1 ?side2 ?side3 ?side4 A3.out).mono ?_);(case side1=>exact ck (Kd.C_below HR0_0.out HB.out));(case side2=>exact HC0_0.out);(case side3=>exact ck (Kd.C_below HR1_0.out HB.out));(case side4=>exact HC1_0.out);rintro e w30 ⟨rfl,hb⟩;refine ⟨_,rfl,?_⟩;have n_:=ai (bw BK404 hb) <| ai (bw BK405 hb) <| bq HB hb;clear BK404 BK405 HB;obtain ⟨BK404,BK405,HB⟩:=n_;(try clear hb);(try clear hb2);(try clear hk);(try clear hi)))
  go_ret
  exact ⟨cl,bl HB.out⟩

end Go.Proofs.Ytghhbdmjafedbaa.QFnExactCodeOk
