-- Written by a program of this workplace (print2.py) for this claim, over the print's words.
import Derived.Test.YtiooogcjoobjnaaQFnExactOperatex0
import Derived.Test.YtiooogcjoobjnaaQFnExactOperatex1
import Derived.Test.YtiooogcjoobjnaaQFnExactOperatex2
import Derived.Test.YtiooogcjoobjnaaQFnExactOperatex6
namespace Go.Proofs.Ytiooogcjoobjnaa.QFnExactOperate
open Go.RowKit Go.Proofs.YtiooogcjoobjnaaW.PrintWords Go.Proofs.YtiooogcjoobjnaaW.PrintLast Go.Proofs.YtiooogcjoobjnaaW.PrintMore
attribute [local go_sem] binOp_string_gtr max2_int min2_int max_two min_two max_three min_three max_four min_four   -- for this text's walks alone
set_option linter.unusedVariables false
set_option linter.unusedSimpArgs false

/-! ### spec_Operate: function 5 -/
def spec_Operate.f (k:Nat) (a0:ByteArray) (a1_0:Int) (a1_1:Int) (a1_2:ByteArray) (l1_3:List (S28)) (a2_0:Int) (a2_1:Int) (a2_2:ByteArray) (l2_3:List (S28)):Option (Int × Int × ByteArray × (List (S28)) × Int):=(spec_l4Op.f a0).bind fun t157=>(if t157 = true then ((spec_TermOk.f k a1_0 a1_1 a1_2 l1_3).bind fun t158=>(if t158 = true then ((spec_TermOk.f k a2_0 a2_1 a2_2 l2_3).bind fun t159=>(if t159 = true then ((spec_l8Operate.f k a0 a1_0 a1_1 a1_2 l1_3 a2_0 a2_1 a2_2 l2_3).bind fun bt160=>(some (bt160.1,bt160.2.1,bt160.2.2.1,bt160.2.2.2.1,bt160.2.2.2.2))) else (some (0,0,(⟨#[]⟩:ByteArray),([]:List (S28)),1)))) else (some (0,0,(⟨#[]⟩:ByteArray),([]:List (S28)),1)))) else (some (0,0,(⟨#[]⟩:ByteArray),([]:List (S28)),1)))
theorem spec_Operate.mono:∀ a0 a1 a2 a3 a4 a5 a6 a7 a8 k,LeO (spec_Operate.f k a0 a1 a2 a3 a4 a5 a6 a7 a8) (spec_Operate.f (k + 1) a0 a1 a2 a3 a4 a5 a6 a7 a8):=by
 intro a0 a1 a2 a3 a4 a5 a6 a7 a8 k
 unfold spec_Operate.f
 with_reducible repeat' first|apply spec_TermOk.mono|apply spec_l8Operate.mono|apply LeO.refl|apply LeO.none|apply LeO.ite|refine LeO.bind ?_ (fun _=>?_)
set_option maxHeartbeats 8000000 in
set_option maxRecDepth 100000 in
theorem spec_Operate.calls (k:Nat) (a0:ByteArray) (a1_0:Int) (a1_1:Int) (a1_2:ByteArray) (A1_3:Option Addr) (c1_3:Nat) (l1_3:List (S28)) (a2_0:Int) (a2_1:Int) (a2_2:ByteArray) (A2_3:Option Addr) (c2_3:Nat) (l2_3:List (S28)) (r1:Int) (r2:Int) (r3:ByteArray) (r4:List (S28)) (r5:Int) (w:World) (hr1_3:Kd.C k28 w A1_3 l1_3.length l1_3) (hc1_3:l1_3.length≤c1_3) (hr2_3:Kd.C k28 w A2_3 l2_3.length l2_3) (hc2_3:l2_3.length≤c2_3) (h:spec_Operate.f k a0 a1_0 a1_1 a1_2 l1_3 a2_0 a2_1 a2_2 l2_3 = some (r1,r2,r3,r4,r5)) :
  Calls Try.prog 5 #[.string a0,.agg #[.int .i64 a1_0,.int .i64 a1_1,.string a1_2,.slice A1_3 l1_3.length c1_3],.agg #[.int .i64 a2_0,.int .i64 a2_1,.string a2_2,.slice A2_3 l2_3.length c2_3]] w fun e w'=>∃ v3_:Value,e = .returned (.tuple #[.agg #[.int .i64 r1,.int .i64 r2,.string r3,v3_],.int .i64 r5])∧Kd.R k28 28 w' w.heap.size (fun _=>True) v3_ r4∧Below w.heap.size w w':=by
 have hu28:=Try.underlying28;have HR1_3:=Aside0.mk hr1_3;have HC1_3:=Aside0.mk hc1_3;clear hr1_3 hc1_3;have HR2_3:=Aside0.mk hr2_3;have HC2_3:=Aside0.mk hc2_3;clear hr2_3 hc2_3;have HB:=Aside0.mk (Below.refl w.heap.size w);have H:((spec_l4Op.f a0).bind fun t157=>(if t157 = true then ((spec_TermOk.f k a1_0 a1_1 a1_2 l1_3).bind fun t158=>(if t158 = true then ((spec_TermOk.f k a2_0 a2_1 a2_2 l2_3).bind fun t159=>(if t159 = true then ((spec_l8Operate.f k a0 a1_0 a1_1 a1_2 l1_3 a2_0 a2_1 a2_2 l2_3).bind fun bt160=>(some (bt160.1,bt160.2.1,bt160.2.2.1,bt160.2.2.2.1,bt160.2.2.2.2))) else (some (0,0,(⟨#[]⟩:ByteArray),([]:List (S28)),1)))) else (some (0,0,(⟨#[]⟩:ByteArray),([]:List (S28)),1)))) else (some (0,0,(⟨#[]⟩:ByteArray),([]:List (S28)),1)))) = some (r1,r2,r3,r4,r5):=h;clear h;replace H:=Option.bind_eq_some_iff.mp H;obtain ⟨t157,A40,H⟩:=H;replace H:(if t157 = true then ((spec_TermOk.f k a1_0 a1_1 a1_2 l1_3).bind fun t158=>(if t158 = true then ((spec_TermOk.f k a2_0 a2_1 a2_2 l2_3).bind fun t159=>(if t159 = true then ((spec_l8Operate.f k a0 a1_0 a1_1 a1_2 l1_3 a2_0 a2_1 a2_2 l2_3).bind fun bt160=>(some (bt160.1,bt160.2.1,bt160.2.2.1,bt160.2.2.2.1,bt160.2.2.2.2))) else (some (0,0,(⟨#[]⟩:ByteArray),([]:List (S28)),1)))) else (some (0,0,(⟨#[]⟩:ByteArray),([]:List (S28)),1)))) else (some (0,0,(⟨#[]⟩:ByteArray),([]:List (S28)),1))) = some (r1,r2,r3,r4,r5):=H;have A4:=Aside0.mk A40;clear A40
 by_cases c5:t157 = true
 ·subst c5
  have H1:((spec_TermOk.f k a1_0 a1_1 a1_2 l1_3).bind fun t158=>(if t158 = true then ((spec_TermOk.f k a2_0 a2_1 a2_2 l2_3).bind fun t159=>(if t159 = true then ((spec_l8Operate.f k a0 a1_0 a1_1 a1_2 l1_3 a2_0 a2_1 a2_2 l2_3).bind fun bt160=>(some (bt160.1,bt160.2.1,bt160.2.2.1,bt160.2.2.2.1,bt160.2.2.2.2))) else (some (0,0,(⟨#[]⟩:ByteArray),([]:List (S28)),1)))) else (some (0,0,(⟨#[]⟩:ByteArray),([]:List (S28)),1)))) = some (r1,r2,r3,r4,r5):=by rw [if_pos rfl] at H;exact H
  clear H;have H:=H1;clear H1;replace H:=Option.bind_eq_some_iff.mp H;obtain ⟨t158,A60,H⟩:=H;replace H:(if t158 = true then ((spec_TermOk.f k a2_0 a2_1 a2_2 l2_3).bind fun t159=>(if t159 = true then ((spec_l8Operate.f k a0 a1_0 a1_1 a1_2 l1_3 a2_0 a2_1 a2_2 l2_3).bind fun bt160=>(some (bt160.1,bt160.2.1,bt160.2.2.1,bt160.2.2.2.1,bt160.2.2.2.2))) else (some (0,0,(⟨#[]⟩:ByteArray),([]:List (S28)),1)))) else (some (0,0,(⟨#[]⟩:ByteArray),([]:List (S28)),1))) = some (r1,r2,r3,r4,r5):=H;have A6:=Aside0.mk A60;clear A60
  by_cases c7:t158 = true
  ·subst c7
   have H1:((spec_TermOk.f k a2_0 a2_1 a2_2 l2_3).bind fun t159=>(if t159 = true then ((spec_l8Operate.f k a0 a1_0 a1_1 a1_2 l1_3 a2_0 a2_1 a2_2 l2_3).bind fun bt160=>(some (bt160.1,bt160.2.1,bt160.2.2.1,bt160.2.2.2.1,bt160.2.2.2.2))) else (some (0,0,(⟨#[]⟩:ByteArray),([]:List (S28)),1)))) = some (r1,r2,r3,r4,r5):=by rw [if_pos rfl] at H;exact H
   clear H;have H:=H1;clear H1;replace H:=Option.bind_eq_some_iff.mp H;obtain ⟨t159,A80,H⟩:=H;replace H:(if t159 = true then ((spec_l8Operate.f k a0 a1_0 a1_1 a1_2 l1_3 a2_0 a2_1 a2_2 l2_3).bind fun bt160=>(some (bt160.1,bt160.2.1,bt160.2.2.1,bt160.2.2.2.1,bt160.2.2.2.2))) else (some (0,0,(⟨#[]⟩:ByteArray),([]:List (S28)),1))) = some (r1,r2,r3,r4,r5):=H;have A8:=Aside0.mk A80;clear A80
   by_cases c9:t159 = true
   ·subst c9
    have H1:((spec_l8Operate.f k a0 a1_0 a1_1 a1_2 l1_3 a2_0 a2_1 a2_2 l2_3).bind fun bt160=>(some (bt160.1,bt160.2.1,bt160.2.2.1,bt160.2.2.2.1,bt160.2.2.2.2))) = some (r1,r2,r3,r4,r5):=by rw [if_pos rfl] at H;exact H
    clear H;have H:=H1;clear H1;replace H:=Option.bind_eq_some_iff.mp H;obtain ⟨⟨t160,t161,t162,t163,t166⟩,A100,H⟩:=H;replace H:(some (t160,t161,t162,t163,t166)) = some (r1,r2,r3,r4,r5):=H;have A10:=Aside0.mk A100;clear A100;simp only [Option.some.injEq,Prod.mk.injEq] at H;obtain ⟨rfl,rfl,rfl,rfl,rfl⟩:=H
    go_enter Try.func5,Try.ntmps5
    go_wp2_with (first|((with_reducible refine gate_dst (N:=4) rfl ?_);refine box_event ?hg (N:=4) ?hd (cs:=#[.int .i64 a1_0,.int .i64 a1_1,.string a1_2,.slice A1_3 l1_3.length c1_3]) (t:=28) ?hr ?_;(case hd=>rfl);(case hg=>rfl);(case hr=>first|(go_simp;done)|(go_simp;rfl));intro gb154 hg w11 hbox hb;have n_:=ai (bq HB hb) <| ai (Aside0.mk (hbox)) <| ai (bz hg HB) <| bz hg HB;clear HB;obtain ⟨HB,BK154,GW154,GE154⟩:=n_;clear hb hbox hg)|((with_reducible refine gate_dst (N:=5) rfl ?_);refine box_event ?hg (N:=5) ?hd (cs:=#[.int .i64 a2_0,.int .i64 a2_1,.string a2_2,.slice A2_3 l2_3.length c2_3]) (t:=28) ?hr ?_;(case hd=>rfl);(case hg=>rfl);(case hr=>first|(go_simp;done)|(go_simp;rfl));intro gb155 hg w12 hbox hb;have n_:=ai (bw BK154 hb) <| ai (bq HB hb) <| ai (Aside0.mk (hbox)) <| ai (bz hg HB) <| ai (bz hg HB) <| ai (nl hg BK154) <| ng hg BK154;clear BK154 HB;obtain ⟨BK154,HB,BK155,GW155,GE155,NB154_155,NB155_154⟩:=n_;clear hb hbox hg)|((with_reducible refine gate_dst (N:=6) rfl ?_);refine box_event ?hg (N:=6) ?hd (cs:=#[.int .i64 0,.int .i64 0,.string (⟨#[]⟩:ByteArray),.slice none 0 0]) (t:=28) ?hr ?_;(case hd=>rfl);(case hg=>rfl);(case hr=>first|(go_simp;done)|(go_simp;rfl));intro gb156 hg w13 hbox hb;have n_:=ai (bw BK154 hb) <| ai (bw BK155 hb) <| ai (bq HB hb) <| ai (Aside0.mk (hbox)) <| ai (bz hg HB) <| ai (bz hg HB) <| ai (nl hg BK154) <| ai (ng hg BK154) <| ai (nl hg BK155) <| ng hg BK155;clear BK154 BK155 HB;obtain ⟨BK154,BK155,HB,BK156,GW156,GE156,NB154_156,NB156_154,NB155_156,NB156_155⟩:=n_;clear hb hbox hg)|((with_reducible refine gate_callee (f:=12) rfl ?_);refine goesL_ (some 9) rfl rfl Try.func12 (by kernel_rfl) rfl #[.string a0] rfl gs ?_;(with_reducible refine (spec_l4Op.calls a0 true _ A4.out).mono ?_);rintro e w' ⟨rfl,⟨nd,rfl⟩⟩;refine ⟨_,rfl,?_⟩;(try (rw [drewN_self w13];generalize hq_:World.drewN w13 _ = w13;have n_:=ai ((⟨by rw [← hq_];exact (bk BK154.out)⟩:Aside0 (w13.heap[gb154]? = some (.cells #[.int .i64 a1_0,.int .i64 a1_1,.string a1_2,.slice A1_3 l1_3.length c1_3] 28 (0,0))))) <| ai ((⟨by rw [← hq_];exact (bk BK155.out)⟩:Aside0 (w13.heap[gb155]? = some (.cells #[.int .i64 a2_0,.int .i64 a2_1,.string a2_2,.slice A2_3 l2_3.length c2_3] 28 (0,0))))) <| ai ((⟨by rw [← hq_];exact (bk BK156.out)⟩:Aside0 (w13.heap[gb156]? = some (.cells #[.int .i64 0,.int .i64 0,.string (⟨#[]⟩:ByteArray),.slice none 0 0] 28 (0,0))))) <| (⟨by rw [← hq_];exact (bl HB.out)⟩:Aside0 (Below w.heap.size w w13));clear BK154 BK155 BK156 HB hq_;obtain ⟨BK154,BK155,BK156,HB⟩:=n_));have:=NB154_155.out;have:=NB155_154.out;have:=NB154_156.out;have:=NB156_154.out;obtain ⟨h16_0,h16_1,h16_2,h16_3⟩:=kb4 BK154.out;obtain ⟨z16_0,z16_1,z16_2,z16_3⟩:=kz4 BK154.out)|(go_at_call 13;(with_reducible refine (spec_TermOk.calls k a1_0 a1_1 a1_2 _ _ l1_3 true _ ?side1 ?side2 A6.out).mono ?_);(case side1=>exact ck (Kd.C_below HR1_3.out HB.out));(case side2=>exact HC1_3.out);rintro e w17 ⟨rfl,hb⟩;have n_:=ai (bw BK154 hb) <| ai (bw BK155 hb) <| ai (bw BK156 hb) <| bq HB hb;clear BK154 BK155 BK156 HB;obtain ⟨BK154,BK155,BK156,HB⟩:=n_;(try clear hb);have:=NB155_156.out;have:=NB156_155.out;obtain ⟨h19_0,h19_1,h19_2,h19_3⟩:=kb4 BK155.out;obtain ⟨z19_0,z19_1,z19_2,z19_3⟩:=kz4 BK155.out)|(go_at_call 13;(with_reducible refine (spec_TermOk.calls k a2_0 a2_1 a2_2 _ _ l2_3 true _ ?side1 ?side2 A8.out).mono ?_);(case side1=>exact ck (Kd.C_below HR2_3.out HB.out));(case side2=>exact HC2_3.out);rintro e w20 ⟨rfl,hb⟩;have n_:=ai (bw BK154 hb) <| ai (bw BK155 hb) <| ai (bw BK156 hb) <| bq HB hb;clear BK154 BK155 BK156 HB;obtain ⟨BK154,BK155,BK156,HB⟩:=n_;(try clear hb);(try clear hb2);(try clear hk);(try clear hi);obtain ⟨h21_0,h21_1,h21_2,h21_3⟩:=kb4 BK154.out;obtain ⟨z21_0,z21_1,z21_2,z21_3⟩:=kz4 BK154.out;obtain ⟨h22_0,h22_1,h22_2,h22_3⟩:=kb4 BK155.out;obtain ⟨z22_0,z22_1,z22_2,z22_3⟩:=kz4 BK155.out)|((with_reducible refine gate_callee (f:=14) rfl ?_);refine goesL_ (some 25) rfl rfl Try.func14 (by kernel_rfl) rfl #[.string a0,.agg #[.int .i64 a1_0,.int .i64 a1_1,.string a1_2,.slice A1_3 l1_3.length c1_3],.agg #[.int .i64 a2_0,.int .i64 a2_1,.string a2_2,.slice A2_3 l2_3.length c2_3]] rfl gs ?_;(with_reducible refine (spec_l8Operate.calls k a0 a1_0 a1_1 a1_2 _ _ l1_3 a2_0 a2_1 a2_2 _ _ l2_3 t160 t161 t162 t163 t166 _ ?side1 ?side2 ?side3 ?side4 A10.out).mono ?_);(case side1=>exact ck (Kd.C_below HR1_3.out HB.out));(case side2=>exact HC1_3.out);(case side3=>exact ck (Kd.C_below HR2_3.out HB.out));(case side4=>exact HC2_3.out);rintro e w23 ⟨v164,rfl,ho0,hb⟩;refine ⟨_,rfl,?_⟩;have n_:=ai (Aside0.mk (Kd.R_lower (Kd.R_newB (Kd.R_newB (Kd.R_newB ho0 (g:=gb154) (o:=.cells #[.int .i64 a1_0,.int .i64 a1_1,.string a1_2,.slice A1_3 l1_3.length c1_3] 28 (0,0)) (bk BK154.out)) (g:=gb155) (o:=.cells #[.int .i64 a2_0,.int .i64 a2_1,.string a2_2,.slice A2_3 l2_3.length c2_3] 28 (0,0)) (bk BK155.out)) (g:=gb156) (o:=.cells #[.int .i64 0,.int .i64 0,.string (⟨#[]⟩:ByteArray),.slice none 0 0] 28 (0,0)) (bk BK156.out)) (below_size (bl HB.out)))) <| ai (bw BK154 hb) <| ai (bw BK155 hb) <| ai (bw BK156 hb) <| bq HB hb;clear BK154 BK155 BK156 HB;obtain ⟨HO165,BK154,BK155,BK156,HB⟩:=n_;(try clear hb);(try clear hb2);(try clear hk);(try clear hi);(try clear ho0);obtain ⟨h24_0,h24_1,h24_2,h24_3⟩:=kb4 BK156.out;obtain ⟨z24_0,z24_1,z24_2,z24_3⟩:=kz4 BK156.out;obtain ⟨Ao25,co25,eo25⟩:=Kd.R_slice HO165.out;subst eo25))
    refine bodyPost_ret (results_ct rfl _ _ gb156 28 #[.int .i64 t160,.int .i64 t161,.string t162,.slice Ao25 t163.length co25] (0,0) _ rfl (bmp BK156.out) Try.underlying28 rfl (by kernel_rfl)) rfl ?_
    exact ⟨_,cl,by (with_reducible repeat (first|apply Kd.R_alloc|apply Kd.R_drewN|apply Kd.R_drew));exact Kd.R_mono (rfm (Kd.R_mono HO165.out (fun k_ hk=>(⟨hk,hk.2⟩:_∧k_≠gb156)))) (fun _ hk=>trivial),bl HB.out⟩
   ·replace c9:=Bool.eq_false_iff.mpr c9
    subst c9;have H1:(some (0,0,(⟨#[]⟩:ByteArray),([]:List (S28)),1)) = some (r1,r2,r3,r4,r5):=by rw [if_neg (show ¬ (false = true) by decide)] at H;exact H
    clear H;have H:=H1;clear H1;simp only [Option.some.injEq,Prod.mk.injEq] at H;obtain ⟨rfl,rfl,rfl,rfl,rfl⟩:=H
    go_enter Try.func5,Try.ntmps5
    go_wp2_with (first|((with_reducible refine gate_dst (N:=4) rfl ?_);refine box_event ?hg (N:=4) ?hd (cs:=#[.int .i64 a1_0,.int .i64 a1_1,.string a1_2,.slice A1_3 l1_3.length c1_3]) (t:=28) ?hr ?_;(case hd=>rfl);(case hg=>rfl);(case hr=>first|(go_simp;done)|(go_simp;rfl));intro gb154 hg w26 hbox hb;have n_:=ai (bq HB hb) <| ai (Aside0.mk (hbox)) <| ai (bz hg HB) <| bz hg HB;clear HB;obtain ⟨HB,BK154,GW154,GE154⟩:=n_;clear hb hbox hg)|((with_reducible refine gate_dst (N:=5) rfl ?_);refine box_event ?hg (N:=5) ?hd (cs:=#[.int .i64 a2_0,.int .i64 a2_1,.string a2_2,.slice A2_3 l2_3.length c2_3]) (t:=28) ?hr ?_;(case hd=>rfl);(case hg=>rfl);(case hr=>first|(go_simp;done)|(go_simp;rfl));intro gb155 hg w27 hbox hb;have n_:=ai (bw BK154 hb) <| ai (bq HB hb) <| ai (Aside0.mk (hbox)) <| ai (bz hg HB) <| ai (bz hg HB) <| ai (nl hg BK154) <| ng hg BK154;clear BK154 HB;obtain ⟨BK154,HB,BK155,GW155,GE155,NB154_155,NB155_154⟩:=n_;clear hb hbox hg)|((with_reducible refine gate_dst (N:=6) rfl ?_);refine box_event ?hg (N:=6) ?hd (cs:=#[.int .i64 0,.int .i64 0,.string (⟨#[]⟩:ByteArray),.slice none 0 0]) (t:=28) ?hr ?_;(case hd=>rfl);(case hg=>rfl);(case hr=>first|(go_simp;done)|(go_simp;rfl));intro gb156 hg w28 hbox hb;have n_:=ai (bw BK154 hb) <| ai (bw BK155 hb) <| ai (bq HB hb) <| ai (Aside0.mk (hbox)) <| ai (bz hg HB) <| ai (bz hg HB) <| ai (nl hg BK154) <| ai (ng hg BK154) <| ai (nl hg BK155) <| ng hg BK155;clear BK154 BK155 HB;obtain ⟨BK154,BK155,HB,BK156,GW156,GE156,NB154_156,NB156_154,NB155_156,NB156_155⟩:=n_;clear hb hbox hg)|((with_reducible refine gate_callee (f:=12) rfl ?_);refine goesL_ (some 9) rfl rfl Try.func12 (by kernel_rfl) rfl #[.string a0] rfl gs ?_;(with_reducible refine (spec_l4Op.calls a0 true _ A4.out).mono ?_);rintro e w' ⟨rfl,⟨nd,rfl⟩⟩;refine ⟨_,rfl,?_⟩;(try (rw [drewN_self w28];generalize hq_:World.drewN w28 _ = w28;have n_:=ai ((⟨by rw [← hq_];exact (bk BK154.out)⟩:Aside0 (w28.heap[gb154]? = some (.cells #[.int .i64 a1_0,.int .i64 a1_1,.string a1_2,.slice A1_3 l1_3.length c1_3] 28 (0,0))))) <| ai ((⟨by rw [← hq_];exact (bk BK155.out)⟩:Aside0 (w28.heap[gb155]? = some (.cells #[.int .i64 a2_0,.int .i64 a2_1,.string a2_2,.slice A2_3 l2_3.length c2_3] 28 (0,0))))) <| ai ((⟨by rw [← hq_];exact (bk BK156.out)⟩:Aside0 (w28.heap[gb156]? = some (.cells #[.int .i64 0,.int .i64 0,.string (⟨#[]⟩:ByteArray),.slice none 0 0] 28 (0,0))))) <| (⟨by rw [← hq_];exact (bl HB.out)⟩:Aside0 (Below w.heap.size w w28));clear BK154 BK155 BK156 HB hq_;obtain ⟨BK154,BK155,BK156,HB⟩:=n_));have:=NB154_155.out;have:=NB155_154.out;have:=NB154_156.out;have:=NB156_154.out;obtain ⟨h31_0,h31_1,h31_2,h31_3⟩:=kb4 BK154.out;obtain ⟨z31_0,z31_1,z31_2,z31_3⟩:=kz4 BK154.out)|(go_at_call 13;(with_reducible refine (spec_TermOk.calls k a1_0 a1_1 a1_2 _ _ l1_3 true _ ?side1 ?side2 A6.out).mono ?_);(case side1=>exact ck (Kd.C_below HR1_3.out HB.out));(case side2=>exact HC1_3.out);rintro e w32 ⟨rfl,hb⟩;have n_:=ai (bw BK154 hb) <| ai (bw BK155 hb) <| ai (bw BK156 hb) <| bq HB hb;clear BK154 BK155 BK156 HB;obtain ⟨BK154,BK155,BK156,HB⟩:=n_;(try clear hb);have:=NB155_156.out;have:=NB156_155.out;obtain ⟨h34_0,h34_1,h34_2,h34_3⟩:=kb4 BK155.out;obtain ⟨z34_0,z34_1,z34_2,z34_3⟩:=kz4 BK155.out)|(go_at_call 13;(with_reducible refine (spec_TermOk.calls k a2_0 a2_1 a2_2 _ _ l2_3 false _ ?side1 ?side2 A8.out).mono ?_);(case side1=>exact ck (Kd.C_below HR2_3.out HB.out));(case side2=>exact HC2_3.out);rintro e w35 ⟨rfl,hb⟩;have n_:=ai (bw BK154 hb) <| ai (bw BK155 hb) <| ai (bw BK156 hb) <| bq HB hb;clear BK154 BK155 BK156 HB;obtain ⟨BK154,BK155,BK156,HB⟩:=n_;(try clear hb);(try clear hb2);(try clear hk);(try clear hi);obtain ⟨h36_0,h36_1,h36_2,h36_3⟩:=kb4 BK156.out;obtain ⟨z36_0,z36_1,z36_2,z36_3⟩:=kz4 BK156.out))
    refine bodyPost_ret (results_ct rfl _ _ gb156 28 #[.int .i64 0,.int .i64 0,.string (⟨#[]⟩:ByteArray),.slice none 0 0] (0,0) _ rfl (bmp BK156.out) Try.underlying28 rfl (by kernel_rfl)) rfl ?_
    exact ⟨_,cl,by first|exact Kd.R_nil _ _ _ _ _|exact Kd.N_nil _ _ _ _ _|exact Kd.V_nil _ _ _ _ _|exact Kd.Q_nil _ _ _ _ _|exact Kd.S_nil _ _ _ _ _,bl HB.out⟩
  ·replace c7:=Bool.eq_false_iff.mpr c7
   subst c7;have H1:(some (0,0,(⟨#[]⟩:ByteArray),([]:List (S28)),1)) = some (r1,r2,r3,r4,r5):=by rw [if_neg (show ¬ (false = true) by decide)] at H;exact H
   clear H;have H:=H1;clear H1;simp only [Option.some.injEq,Prod.mk.injEq] at H;obtain ⟨rfl,rfl,rfl,rfl,rfl⟩:=H
   go_enter Try.func5,Try.ntmps5
   go_wp2_with (first|((with_reducible refine gate_dst (N:=4) rfl ?_);refine box_event ?hg (N:=4) ?hd (cs:=#[.int .i64 a1_0,.int .i64 a1_1,.string a1_2,.slice A1_3 l1_3.length c1_3]) (t:=28) ?hr ?_;(case hd=>rfl);(case hg=>rfl);(case hr=>first|(go_simp;done)|(go_simp;rfl));intro gb154 hg w37 hbox hb;have n_:=ai (bq HB hb) <| ai (Aside0.mk (hbox)) <| ai (bz hg HB) <| bz hg HB;clear HB;obtain ⟨HB,BK154,GW154,GE154⟩:=n_;clear hb hbox hg)|((with_reducible refine gate_dst (N:=5) rfl ?_);refine box_event ?hg (N:=5) ?hd (cs:=#[.int .i64 a2_0,.int .i64 a2_1,.string a2_2,.slice A2_3 l2_3.length c2_3]) (t:=28) ?hr ?_;(case hd=>rfl);(case hg=>rfl);(case hr=>first|(go_simp;done)|(go_simp;rfl));intro gb155 hg w38 hbox hb;have n_:=ai (bw BK154 hb) <| ai (bq HB hb) <| ai (Aside0.mk (hbox)) <| ai (bz hg HB) <| ai (bz hg HB) <| ai (nl hg BK154) <| ng hg BK154;clear BK154 HB;obtain ⟨BK154,HB,BK155,GW155,GE155,NB154_155,NB155_154⟩:=n_;clear hb hbox hg)|((with_reducible refine gate_dst (N:=6) rfl ?_);refine box_event ?hg (N:=6) ?hd (cs:=#[.int .i64 0,.int .i64 0,.string (⟨#[]⟩:ByteArray),.slice none 0 0]) (t:=28) ?hr ?_;(case hd=>rfl);(case hg=>rfl);(case hr=>first|(go_simp;done)|(go_simp;rfl));intro gb156 hg w39 hbox hb;have n_:=ai (bw BK154 hb) <| ai (bw BK155 hb) <| ai (bq HB hb) <| ai (Aside0.mk (hbox)) <| ai (bz hg HB) <| ai (bz hg HB) <| ai (nl hg BK154) <| ai (ng hg BK154) <| ai (nl hg BK155) <| ng hg BK155;clear BK154 BK155 HB;obtain ⟨BK154,BK155,HB,BK156,GW156,GE156,NB154_156,NB156_154,NB155_156,NB156_155⟩:=n_;clear hb hbox hg)|((with_reducible refine gate_callee (f:=12) rfl ?_);refine goesL_ (some 9) rfl rfl Try.func12 (by kernel_rfl) rfl #[.string a0] rfl gs ?_;(with_reducible refine (spec_l4Op.calls a0 true _ A4.out).mono ?_);rintro e w' ⟨rfl,⟨nd,rfl⟩⟩;refine ⟨_,rfl,?_⟩;(try (rw [drewN_self w39];generalize hq_:World.drewN w39 _ = w39;have n_:=ai ((⟨by rw [← hq_];exact (bk BK154.out)⟩:Aside0 (w39.heap[gb154]? = some (.cells #[.int .i64 a1_0,.int .i64 a1_1,.string a1_2,.slice A1_3 l1_3.length c1_3] 28 (0,0))))) <| ai ((⟨by rw [← hq_];exact (bk BK155.out)⟩:Aside0 (w39.heap[gb155]? = some (.cells #[.int .i64 a2_0,.int .i64 a2_1,.string a2_2,.slice A2_3 l2_3.length c2_3] 28 (0,0))))) <| ai ((⟨by rw [← hq_];exact (bk BK156.out)⟩:Aside0 (w39.heap[gb156]? = some (.cells #[.int .i64 0,.int .i64 0,.string (⟨#[]⟩:ByteArray),.slice none 0 0] 28 (0,0))))) <| (⟨by rw [← hq_];exact (bl HB.out)⟩:Aside0 (Below w.heap.size w w39));clear BK154 BK155 BK156 HB hq_;obtain ⟨BK154,BK155,BK156,HB⟩:=n_));have:=NB154_155.out;have:=NB155_154.out;have:=NB154_156.out;have:=NB156_154.out;obtain ⟨h42_0,h42_1,h42_2,h42_3⟩:=kb4 BK154.out;obtain ⟨z42_0,z42_1,z42_2,z42_3⟩:=kz4 BK154.out)|(go_at_call 13;(with_reducible refine (spec_TermOk.calls k a1_0 a1_1 a1_2 _ _ l1_3 false _ ?side1 ?side2 A6.out).mono ?_);(case side1=>exact ck (Kd.C_below HR1_3.out HB.out));(case side2=>exact HC1_3.out);rintro e w43 ⟨rfl,hb⟩;have n_:=ai (bw BK154 hb) <| ai (bw BK155 hb) <| ai (bw BK156 hb) <| bq HB hb;clear BK154 BK155 BK156 HB;obtain ⟨BK154,BK155,BK156,HB⟩:=n_;(try clear hb);have:=NB156_155.out;have:=NB155_156.out;obtain ⟨h45_0,h45_1,h45_2,h45_3⟩:=kb4 BK156.out;obtain ⟨z45_0,z45_1,z45_2,z45_3⟩:=kz4 BK156.out))
   refine bodyPost_ret (results_ct rfl _ _ gb156 28 #[.int .i64 0,.int .i64 0,.string (⟨#[]⟩:ByteArray),.slice none 0 0] (0,0) _ rfl (bmp BK156.out) Try.underlying28 rfl (by kernel_rfl)) rfl ?_
   exact ⟨_,cl,by first|exact Kd.R_nil _ _ _ _ _|exact Kd.N_nil _ _ _ _ _|exact Kd.V_nil _ _ _ _ _|exact Kd.Q_nil _ _ _ _ _|exact Kd.S_nil _ _ _ _ _,bl HB.out⟩
 ·replace c5:=Bool.eq_false_iff.mpr c5
  subst c5;have H1:(some (0,0,(⟨#[]⟩:ByteArray),([]:List (S28)),1)) = some (r1,r2,r3,r4,r5):=by rw [if_neg (show ¬ (false = true) by decide)] at H;exact H
  clear H;have H:=H1;clear H1;simp only [Option.some.injEq,Prod.mk.injEq] at H;obtain ⟨rfl,rfl,rfl,rfl,rfl⟩:=H
  go_enter Try.func5,Try.ntmps5
  go_wp2_with (first|((with_reducible refine gate_dst (N:=4) rfl ?_);refine box_event ?hg (N:=4) ?hd (cs:=#[.int .i64 a1_0,.int .i64 a1_1,.string a1_2,.slice A1_3 l1_3.length c1_3]) (t:=28) ?hr ?_;(case hd=>rfl);(case hg=>rfl);(case hr=>first|(go_simp;done)|(go_simp;rfl));intro gb154 hg w46 hbox hb;have n_:=ai (bq HB hb) <| ai (Aside0.mk (hbox)) <| ai (bz hg HB) <| bz hg HB;clear HB;obtain ⟨HB,BK154,GW154,GE154⟩:=n_;clear hb hbox hg)|((with_reducible refine gate_dst (N:=5) rfl ?_);refine box_event ?hg (N:=5) ?hd (cs:=#[.int .i64 a2_0,.int .i64 a2_1,.string a2_2,.slice A2_3 l2_3.length c2_3]) (t:=28) ?hr ?_;(case hd=>rfl);(case hg=>rfl);(case hr=>first|(go_simp;done)|(go_simp;rfl));intro gb155 hg w47 hbox hb;have n_:=ai (bw BK154 hb) <| ai (bq HB hb) <| ai (Aside0.mk (hbox)) <| ai (bz hg HB) <| ai (bz hg HB) <| ai (nl hg BK154) <| ng hg BK154;clear BK154 HB;obtain ⟨BK154,HB,BK155,GW155,GE155,NB154_155,NB155_154⟩:=n_;clear hb hbox hg)|((with_reducible refine gate_dst (N:=6) rfl ?_);refine box_event ?hg (N:=6) ?hd (cs:=#[.int .i64 0,.int .i64 0,.string (⟨#[]⟩:ByteArray),.slice none 0 0]) (t:=28) ?hr ?_;(case hd=>rfl);(case hg=>rfl);(case hr=>first|(go_simp;done)|(go_simp;rfl));intro gb156 hg w48 hbox hb;have n_:=ai (bw BK154 hb) <| ai (bw BK155 hb) <| ai (bq HB hb) <| ai (Aside0.mk (hbox)) <| ai (bz hg HB) <| ai (bz hg HB) <| ai (nl hg BK154) <| ai (ng hg BK154) <| ai (nl hg BK155) <| ng hg BK155;clear BK154 BK155 HB;obtain ⟨BK154,BK155,HB,BK156,GW156,GE156,NB154_156,NB156_154,NB155_156,NB156_155⟩:=n_;clear hb hbox hg)|((with_reducible refine gate_callee (f:=12) rfl ?_);refine goesL_ (some 9) rfl rfl Try.func12 (by kernel_rfl) rfl #[.string a0] rfl gs ?_;(with_reducible refine (spec_l4Op.calls a0 false _ A4.out).mono ?_);rintro e w' ⟨rfl,⟨nd,rfl⟩⟩;refine ⟨_,rfl,?_⟩;(try (rw [drewN_self w48];generalize hq_:World.drewN w48 _ = w48;have n_:=ai ((⟨by rw [← hq_];exact (bk BK154.out)⟩:Aside0 (w48.heap[gb154]? = some (.cells #[.int .i64 a1_0,.int .i64 a1_1,.string a1_2,.slice A1_3 l1_3.length c1_3] 28 (0,0))))) <| ai ((⟨by rw [← hq_];exact (bk BK155.out)⟩:Aside0 (w48.heap[gb155]? = some (.cells #[.int .i64 a2_0,.int .i64 a2_1,.string a2_2,.slice A2_3 l2_3.length c2_3] 28 (0,0))))) <| ai ((⟨by rw [← hq_];exact (bk BK156.out)⟩:Aside0 (w48.heap[gb156]? = some (.cells #[.int .i64 0,.int .i64 0,.string (⟨#[]⟩:ByteArray),.slice none 0 0] 28 (0,0))))) <| (⟨by rw [← hq_];exact (bl HB.out)⟩:Aside0 (Below w.heap.size w w48));clear BK154 BK155 BK156 HB hq_;obtain ⟨BK154,BK155,BK156,HB⟩:=n_));have:=NB156_154.out;have:=NB154_156.out;have:=NB156_155.out;have:=NB155_156.out;obtain ⟨h51_0,h51_1,h51_2,h51_3⟩:=kb4 BK156.out;obtain ⟨z51_0,z51_1,z51_2,z51_3⟩:=kz4 BK156.out))
  refine bodyPost_ret (results_ct rfl _ _ gb156 28 #[.int .i64 0,.int .i64 0,.string (⟨#[]⟩:ByteArray),.slice none 0 0] (0,0) _ rfl (bmp BK156.out) Try.underlying28 rfl (by kernel_rfl)) rfl ?_
  exact ⟨_,cl,by first|exact Kd.R_nil _ _ _ _ _|exact Kd.N_nil _ _ _ _ _|exact Kd.V_nil _ _ _ _ _|exact Kd.Q_nil _ _ _ _ _|exact Kd.S_nil _ _ _ _ _,bl HB.out⟩
theorem spec_Operate.f_nilA (k:Nat) (a0:ByteArray) (a1_0:Int) (a1_1:Int) (a1_2:ByteArray) (l1_3:List (S28)) (a2_0:Int) (a2_1:Int) (a2_2:ByteArray) (l2_3:List (S28)):OptAll (fun (r:Int × Int × ByteArray × (List (S28)) × Int)=>r.2.2.2.1 = []) (spec_Operate.f k a0 a1_0 a1_1 a1_2 l1_3 a2_0 a2_1 a2_2 l2_3):=by
 unfold spec_Operate.f
 repeat' (first|exact OptAll.no _|exact OptAll.so rfl|exact spec_l8Operate.f_nilA _ _ _ _ _ _ _ _ _ _|exact OptAll.so (spec_l8Operate.f_nilA _ _ _ _ _ _ _ _ _ _ _ h_)|refine OptAll.ite ?_ ?_|refine OptAll.bind (fun t_ h_=>?_))
theorem spec_Operate.nil {k:Nat} {a0:ByteArray} {a1_0:Int} {a1_1:Int} {a1_2:ByteArray} {l1_3:List (S28)} {a2_0:Int} {a2_1:Int} {a2_2:ByteArray} {l2_3:List (S28)} {r:Int × Int × ByteArray × (List (S28)) × Int} (h:spec_Operate.f k a0 a1_0 a1_1 a1_2 l1_3 a2_0 a2_1 a2_2 l2_3 = some r):r.2.2.2.1 = []:=spec_Operate.f_nilA k a0 a1_0 a1_1 a1_2 l1_3 a2_0 a2_1 a2_2 l2_3 r h

mutual
def laws_toTermS.l0:Nat → List (S24) → List (S28) → Int → Option ((List (S28)))
 | 0,_,_,_=>none
 | k + 1,x0,x3,x4=>if x4 < (x0.length:Int) then (if 0≤x4 then ((laws_toTerm.f k ((rd_T24 x0 x4).f0) ((rd_T24 x0 x4).f1) ((rd_T24 x0 x4).f2) ((rd_T24 x0 x4).f3)).bind fun bt171=>(if x4 < (x3.length:Int) then (laws_toTermS.l0 k x0 (x3.set (x4:Int).toNat (⟨bt171.1,bt171.2.1,bt171.2.2.1,bt171.2.2.2⟩:S28)) (wrap64 (x4 + 1))) else (none))) else (none)) else (some x3)
def laws_toTermS.f:Nat → List (S24) → Option ((List (S28)))
 | 0,_=>none
 | k + 1,l0=>if 0≤(l0.length:Int) then (if ((l0.length:Int):Int).toNat≤5026338869833 then (laws_toTermS.l0 k l0 (List.replicate ((l0.length:Int):Int).toNat z28) 0) else (none)) else (none)
def laws_toTerm.f:Nat → Int → Int → ByteArray → List (S24) → Option (Int × Int × ByteArray × (List (S28)))
 | 0,_,_,_,_=>none
 | k + 1,a0_0,a0_1,a0_2,l0_3=>(laws_toTermS.f k l0_3).bind fun t181=>(some (a0_0,a0_1,a0_2,t181))
end
theorem laws_toTermS.mono_g:∀ k,(∀ y0,LeO (laws_toTermS.f k y0) (laws_toTermS.f (k + 1) y0))∧(∀ y0 y1 y2,LeO (laws_toTermS.l0 k y0 y1 y2) (laws_toTermS.l0 (k + 1) y0 y1 y2))∧(∀ y0 y1 y2 y3,LeO (laws_toTerm.f k y0 y1 y2 y3) (laws_toTerm.f (k + 1) y0 y1 y2 y3))
 | 0=>⟨fun _ r h=>by simp [laws_toTermS.f] at h,fun _ _ _ r h=>by simp [laws_toTermS.l0] at h,fun _ _ _ _ r h=>by simp [laws_toTerm.f] at h⟩
 | k + 1=>by
  obtain ⟨ih0,ih1,ih2⟩:=laws_toTermS.mono_g k
  refine ⟨?_,?_,?_⟩
  ·intro y0
   unfold laws_toTermS.f
   with_reducible repeat' first|apply ih0|apply ih1|apply ih2|apply LeO.refl|apply LeO.none|apply LeO.ite|refine LeO.bind ?_ (fun _=>?_)
  ·intro y0 y1 y2
   unfold laws_toTermS.l0
   with_reducible repeat' first|apply ih0|apply ih1|apply ih2|apply LeO.refl|apply LeO.none|apply LeO.ite|refine LeO.bind ?_ (fun _=>?_)
  ·intro y0 y1 y2 y3
   unfold laws_toTerm.f
   with_reducible repeat' first|apply ih0|apply ih1|apply ih2|apply LeO.refl|apply LeO.none|apply LeO.ite|refine LeO.bind ?_ (fun _=>?_)
theorem laws_toTermS.mono:∀ a0 k,LeO (laws_toTermS.f k a0) (laws_toTermS.f (k + 1) a0):=by
 intro a0 k;obtain ⟨ih0,ih1,ih2⟩:=laws_toTermS.mono_g k
 exact ih0 a0
theorem laws_toTerm.mono:∀ a0 a1 a2 a3 k,LeO (laws_toTerm.f k a0 a1 a2 a3) (laws_toTerm.f (k + 1) a0 a1 a2 a3):=by
 intro a0 a1 a2 a3 k;obtain ⟨ih0,ih1,ih2⟩:=laws_toTermS.mono_g k
 exact ih2 a0 a1 a2 a3
/-! ### laws_toTermS: function 15 -/
set_option maxHeartbeats 8000000 in
set_option maxRecDepth 100000 in
theorem laws_toTermS.step (k:Nat) (ih_laws_toTermS:∀ k_,k_ < k → ∀ (A0:Option Addr) (c0:Nat) (l0:List (S24)) (r:List (S28)) (w:World) (hr0:Kd.C k24 w A0 l0.length l0) (hc0:l0.length≤c0) (h:laws_toTermS.f k_ l0 = some r),Calls Try.prog 15 #[.slice A0 l0.length c0] w fun e w'=>∃ v0_:Value,e = .returned (v0_)∧Kd.R k28 28 w' w.heap.size (fun _=>True) v0_ r∧Below w.heap.size w w') (ih_laws_toTerm:∀ k_,k_ < k → ∀ (a0_0:Int) (a0_1:Int) (a0_2:ByteArray) (A0_3:Option Addr) (c0_3:Nat) (l0_3:List (S24)) (r1:Int) (r2:Int) (r3:ByteArray) (r4:List (S28)) (w:World) (hr0_3:Kd.C k24 w A0_3 l0_3.length l0_3) (hc0_3:l0_3.length≤c0_3) (h:laws_toTerm.f k_ a0_0 a0_1 a0_2 l0_3 = some (r1,r2,r3,r4)),Calls Try.prog 6 #[.agg #[.int .i64 a0_0,.int .i64 a0_1,.string a0_2,.slice A0_3 l0_3.length c0_3]] w fun e w'=>∃ v3_:Value,e = .returned (.agg #[.int .i64 r1,.int .i64 r2,.string r3,v3_])∧Kd.R k28 28 w' w.heap.size (fun _=>True) v3_ r4∧Below w.heap.size w w'):∀ (A0:Option Addr) (c0:Nat) (l0:List (S24)) (r:List (S28)) (w:World) (hr0:Kd.C k24 w A0 l0.length l0) (hc0:l0.length≤c0) (h:laws_toTermS.f k l0 = some r),
  Calls Try.prog 15 #[.slice A0 l0.length c0] w fun e w'=>∃ v0_:Value,e = .returned (v0_)∧Kd.R k28 28 w' w.heap.size (fun _=>True) v0_ r∧Below w.heap.size w w':=by
 intro A0 c0 l0 r w hr0 hc0 h
 cases k with
 | zero=>exact absurd h (by simp [laws_toTermS.f])
 | succ k =>
 simp only [laws_toTermS.f] at h;have hu24:=Try.underlying24;have hu28:=Try.underlying28;have HR0:=Aside0.mk hr0;have HC0:=Aside0.mk hc0;clear hr0 hc0;have HB:=Aside0.mk (Below.refl w.heap.size w);have H:(if 0≤(l0.length:Int) then (if ((l0.length:Int):Int).toNat≤5026338869833 then (laws_toTermS.l0 k l0 (List.replicate ((l0.length:Int):Int).toNat z28) 0) else (none)) else (none)) = some r:=h;clear h
 by_cases c2:0≤(l0.length:Int)
 ·rw [if_pos c2] at H
  have c2b0:=eq_true c2;have c2b1:decide (0≤(l0.length:Int)) = true:=decide_eq_true c2;clear c2
  by_cases c3:((l0.length:Int):Int).toNat≤5026338869833
  ·rw [if_pos c3] at H
   have c3b0:=eq_true c3;have c3b1:decide (((l0.length:Int):Int).toNat≤5026338869833) = true:=decide_eq_true c3;clear c3;obtain ⟨y167,hy167⟩:∃ y_:List (S28),y_ = (List.replicate ((l0.length:Int):Int).toNat z28):=⟨_,rfl⟩;replace H:(laws_toTermS.l0 k l0 y167 0) = some r:=by first|(rw [hy167];with_reducible exact H)|(have H2_:=(Option.bind_some _ _).symm.trans H;rw [hy167];with_reducible exact H2_)|(have H2_:=(Option.bind_some _ _).symm.trans H;with_reducible exact H2_)|with_reducible exact H|(rw [hy167];exact H)|exact H
   have Ny167:=Aside0.mk hy167;clear hy167;have H':=Aside0.mk H;clear H
   go_enter Try.func15,Try.ntmps15
   go_wp2_with (first|((with_reducible refine gate_dst (N:=7) rfl ?_);refine Kd.R_make k28 _ 28 rfl (N:=7) rfl 26 _ _ rfl (l0.length:Int) rfl rfl Try.underlying26 (.agg #[(.int .i64 0),(.int .i64 0),(.string ⟨#[]⟩),(.slice none 0 0)]) 56 info28 rfl (by decide) (by omega) z28 (ok:=fun _=>True) (okp:=fun _=>True) (k28_mkM _ _ _ z28 (Kd.R_nil _ _ _ _ _)) (fun _ hk=>hk) trivial (od) (Nat.le_trans (Nat.mul_le_mul_right _ (od:(l0.length:Int).toNat≤5026338869833)) (by omega)) (Below.refl _ _) (Nat.le_refl _) ?_;intro v168 w4 ho5 hb hg_ hnew_;clear hg_ hnew_;(first|rw [← Ny167.out] at ho5|(simp only [Int.reduceToNat] at ho5;rw [← Ny167.out] at ho5));have n_:=ai (Aside0.mk (Kd.R_lower ho5 (below_size (bl HB.out)))) <| bq HB hb;clear HB;obtain ⟨HO169,HB⟩:=n_;clear hb ho5))
   go_loopg [4] k (fun kq v4 w'=>∃ (x3_1:List (S28)) (x4_1:Int),v4 = .int .i64 x4_1∧Aside0 (laws_toTermS.l0 kq l0 x3_1 x4_1 = some r)∧Aside0 (kq≤k)∧Aside0 (Kd.R k28 28 w' w.heap.size (fun _=>True) v168 x3_1)∧Aside0 (Below w.heap.size w w'))
   case atStart=>exact ⟨(y167),(0),(cl2),H',⟨Nat.le_refl _⟩,⟨rk HO169.out⟩,⟨bl HB.out⟩⟩
   case round =>
    clear H';(try clear c2);(try clear c2b0);(try clear c2b1);(try clear c3);(try clear c3b0);(try clear c3b1);(try clear HB);obtain ⟨x3_1,x4_1,rfl,HA,HK1,HO_3,HB⟩:=hrel
    cases gk with
    | zero=>exact absurd HA.out (by simp [laws_toTermS.l0])
    | succ k1 =>
     have H:=HA.out;clear HA;simp only [laws_toTermS.l0] at H
     by_cases c6:x4_1 < (l0.length:Int)
     ·rw [if_pos c6] at H
      have c6b0:decide (x4_1 < (l0.length:Int)) = true:=decide_eq_true c6;clear c6
      by_cases c7:0≤x4_1
      ·rw [if_pos c7] at H
       have c7b0:decide (0≤x4_1) = true:=decide_eq_true c7;clear c7;replace H:=Option.bind_eq_some_iff.mp H;obtain ⟨⟨t171,t172,t173,t174⟩,A80,H⟩:=H;replace H:(if x4_1 < (x3_1.length:Int) then (laws_toTermS.l0 k1 l0 (x3_1.set (x4_1:Int).toNat (⟨t171,t172,t173,t174⟩:S28)) (wrap64 (x4_1 + 1))) else (none)) = some r:=H;have A8:=Aside0.mk A80;clear A80
       by_cases c9:x4_1 < (x3_1.length:Int)
       ·rw [if_pos c9] at H
        have c9b0:decide (x4_1 < (x3_1.length:Int)) = true:=decide_eq_true c9;clear c9;obtain ⟨y177,hy177⟩:∃ y_:List (S28),y_ = (x3_1.set (x4_1:Int).toNat (⟨t171,t172,t173,t174⟩:S28)):=⟨_,rfl⟩;replace H:(laws_toTermS.l0 k1 l0 y177 (wrap64 (x4_1 + 1))) = some r:=by first|(rw [hy177];with_reducible exact H)|(have H2_:=(Option.bind_some _ _).symm.trans H;rw [hy177];with_reducible exact H2_)|(have H2_:=(Option.bind_some _ _).symm.trans H;with_reducible exact H2_)|with_reducible exact H|(rw [hy177];exact H)|exact H
        have Ny177:=Aside0.mk hy177;clear hy177;have H':=Aside0.mk H;clear H;have p170:0≤(x4_1:Int):=od;have q170:x4_1 < (l0.length:Int):=od;obtain ⟨ad170,A170_3,c170_3,e170,hx170_0,hx170_1,hx170_2,hx170_3,hl170_3,hi170_3⟩:=at_T24 HR0.out x4_1 p170 q170;cases e170;replace hx170_0:=cb HB hx170_0;replace hx170_1:=cb HB hx170_1;replace hx170_2:=cb HB hx170_2;replace hx170_3:=cb HB hx170_3;have HR170_3:=Aside0.mk hi170_3;have HC170_3:=Aside0.mk hl170_3;clear hi170_3 hl170_3;replace p170:=eq_true p170;replace q170:=eq_true q170
        go_wp2_with (first|((with_reducible refine gate_callee (f:=6) rfl ?_);refine goesL_ (some 20) rfl rfl Try.func6 (by kernel_rfl) rfl #[.agg #[.int .i64 ((rd_T24 l0 x4_1).f0),.int .i64 ((rd_T24 l0 x4_1).f1),.string ((rd_T24 l0 x4_1).f2),.slice A170_3 ((rd_T24 l0 x4_1).f3).length c170_3]] rfl gs ?_;(with_reducible refine (ih_laws_toTerm k1 (by have:=HK1.out;omega) ((rd_T24 l0 x4_1).f0) ((rd_T24 l0 x4_1).f1) ((rd_T24 l0 x4_1).f2) _ _ ((rd_T24 l0 x4_1).f3) t171 t172 t173 t174 _ ?side1 ?side2 A8.out).mono ?_);(case side1=>exact ck (Kd.C_below HR170_3.out HB.out));(case side2=>exact HC170_3.out);rintro e w11 ⟨v175,rfl,ho0,hb⟩;refine ⟨_,rfl,?_⟩;have n_:=ai (Aside0.mk (Kd.R_elder' (rk HO_3.out) (Kd.R_base ho0) hb)) <| ai (Aside0.mk (Kd.R_lower (Kd.R_new' ho0 (Kd.R_lt (rk HO_3.out))) (below_size (bl HB.out)))) <| bq HB hb;clear HO_3 HB;obtain ⟨HO_3,HO176,HB⟩:=n_;(try clear hb);(try clear hk);(try clear ho0);have p10:0≤(x4_1:Int):=od;have q10:(x4_1:Int) < ((x3_1.length:Int):Int):=od;obtain ⟨go10,co10,eo10,gb10,gl10,cl10,HG10⟩:=Kd.R_form HO_3.out (by omega);(first|cases eo10|(injection eo10 with ea_ en_ ec_;(first|subst ea_|(injection ea_ with ea_;subst ea_));subst ec_;clear en_));have GB10:=Aside0.mk gb10;have GG10:=Aside0.mk HG10;clear gb10 gl10 HG10;obtain ⟨ce10,hcl10,hM10,hcc10,hfr10⟩:=Kd.R_elem HO_3.out z28 (x4_1:Int) p10 q10;obtain ⟨ve10_3,rfl,ge10_3⟩:=k28_openM hM10;have hx10_0:w11.cell? ⟨go10,(x4_1:Int).toNat * 4,none⟩ = some (.int .i64 ((rd_T28 x3_1 x4_1).f0)):=hcc10 0 _ rfl;have hx10_1:w11.cell? ⟨go10,(x4_1:Int).toNat * 4 + 1,none⟩ = some (.int .i64 ((rd_T28 x3_1 x4_1).f1)):=hcc10 1 _ rfl;have hx10_2:w11.cell? ⟨go10,(x4_1:Int).toNat * 4 + 2,none⟩ = some (.string ((rd_T28 x3_1 x4_1).f2)):=hcc10 2 _ rfl;have hx10_3:w11.cell? ⟨go10,(x4_1:Int).toNat * 4 + 3,none⟩ = some (ve10_3):=hcc10 3 _ rfl;have hf10_0:w11.frozen? ⟨go10,(x4_1:Int).toNat * 4,none⟩ = false:=hfr10 0;have hf10_1:w11.frozen? ⟨go10,(x4_1:Int).toNat * 4 + 1,none⟩ = false:=hfr10 1;have hf10_2:w11.frozen? ⟨go10,(x4_1:Int).toNat * 4 + 2,none⟩ = false:=hfr10 2;have hf10_3:w11.frozen? ⟨go10,(x4_1:Int).toNat * 4 + 3,none⟩ = false:=hfr10 3;clear hcl10 hcc10 hfr10 hM10;replace p10:=eq_true p10;replace q10:=eq_true q10;obtain ⟨Ao12,co12,eo12⟩:=Kd.R_slice HO176.out;subst eo12;have n_:=Aside0.mk (Kd.R_mono (ok':=(fun k_=>some k_≠(.slice Ao12 t174.length co12:Value).ownBlock)) HO_3.out (fun k_ hk=>hk.2));clear HO_3;have HO_3:=n_;clear n_;have HX13:=Aside0.mk (show Kd.R k28 28 w11 w.heap.size (fun _=>True) (.slice (some ⟨go10,0,none⟩) x3_1.length co10) x3_1 from (by (with_reducible repeat (first|apply Kd.R_alloc|apply Kd.R_drewN|apply Kd.R_drew));exact Kd.R_mono HO_3.out (fun _ hk=>trivial)));obtain ⟨ce13,hcl13,hM13,hcc13,hfr13⟩:=Kd.R_elem HX13.out z28 (x4_1:Int) (od) (by have h_:(x4_1:Int) < ((x3_1.length:Int):Int):=od;first|exact h_|(have e_:=(Kd.R_reads' HO_3.out).1;omega)|simpa using h_);obtain ⟨ve13_3,rfl,ge13_3⟩:=k28_openM hM13;have HP13:=Kd.R_seg HX13.out (x4_1:Int) (od) (by have h_:(x4_1:Int) < ((x3_1.length:Int):Int):=od;first|exact h_|(have e_:=(Kd.R_reads' HO_3.out).1;omega)|simpa using h_) (seg:=[.int .i64 t171,.int .i64 t172,.string t173,.slice Ao12 t174.length co12]) (j:=0) hcl13 hcc13 (show 4≤4 from by decide) (x':=(⟨t171,t172,t173,t174⟩:S28)) (k28_mkM _ _ _ (⟨t171,t172,t173,t174⟩:S28) (Kd.R_mono (HO176.out) (fun k_ hk=>⟨trivial,fun e_=>(hk.2) (by rw [e_];rfl)⟩))) (fun _ hk=>hk);have hx13_0:=hcc13 0 _ rfl;(try simp only [show (k28).sz = 4 from rfl,Nat.mul_one,Nat.add_zero] at hx13_0);have hf13_0:=hfr13 0;(try simp only [show (k28).sz = 4 from rfl,Nat.mul_one,Nat.add_zero] at hf13_0);have hx13_1:=hcc13 1 _ rfl;(try simp only [show (k28).sz = 4 from rfl,Nat.mul_one,Nat.add_zero] at hx13_1);have hf13_1:=hfr13 1;(try simp only [show (k28).sz = 4 from rfl,Nat.mul_one,Nat.add_zero] at hf13_1);have hx13_2:=hcc13 2 _ rfl;(try simp only [show (k28).sz = 4 from rfl,Nat.mul_one,Nat.add_zero] at hx13_2);have hf13_2:=hfr13 2;(try simp only [show (k28).sz = 4 from rfl,Nat.mul_one,Nat.add_zero] at hf13_2);have hx13_3:=hcc13 3 _ rfl;(try simp only [show (k28).sz = 4 from rfl,Nat.mul_one,Nat.add_zero] at hx13_3);have hf13_3:=hfr13 3;(try simp only [show (k28).sz = 4 from rfl,Nat.mul_one,Nat.add_zero] at hf13_3);clear hcl13 hcc13 hfr13 hM13)|((with_reducible refine gate_store (t:=28) (p:=21) rfl ?_);refine store_event (t:=28) (p:=21) (v:=?vo_w14) (w1:=((((w11.setCell ⟨go10,(x4_1:Int).toNat * 4,none⟩ (.int .i64 t171)).setCell ⟨go10,(x4_1:Int).toNat * 4 + 1,none⟩ (.int .i64 t172)).setCell ⟨go10,(x4_1:Int).toNat * 4 + 2,none⟩ (.string t173)).setCell ⟨go10,(x4_1:Int).toNat * 4 + 3,none⟩ (.slice Ao12 t174.length co12))) ?hg ?ho ?hn ?hr ?_;(case ho=>rfl);(case hg=>rfl);(case hn=>rfl);(case hr=>first|(go_simp;done)|(go_simp;rfl));intro w14 hw;have hg:w11.grownBy w14 (some go10):=(by rw [hw];exact HP13.2);have hp_:Kd.R k28 28 w14 w.heap.size (fun _=>True) (.slice (some ⟨go10,0,none⟩) x3_1.length co10) y177:=(by rw [hw,Ny177.out];exact HP13.1);clear HP13;have n_:=ai (Aside0.mk (hp_)) <| Aside0.mk ((by rw [hw];exact below_set (below_set (below_set (below_set (HB.out) GB10.out) GB10.out) GB10.out) GB10.out:Below w.heap.size w w14));clear HO_3 HB HO176;obtain ⟨HO_3,HB⟩:=n_;clear hg hw hp_))
        go_roundg k1
        case measure=>have:=HK1.out;omega
        case rel=>exact ⟨(y177),(wrap64 (x4_1 + 1)),(cl2),H',⟨by have:=HK1.out;omega⟩,⟨rk HO_3.out⟩,⟨bl HB.out⟩⟩
       ·rw [if_neg c9] at H
        exact absurd H (by simp)
      ·rw [if_neg c7] at H
       exact absurd H (by simp)
     ·rw [if_neg c6] at H
      have c6b0:decide (x4_1 < (l0.length:Int)) = false:=decide_eq_false c6;clear c6;obtain rfl:=Option.some.inj H
      go_wp2
      go_ret
      exact ⟨_,cl,rk HO_3.out,bl HB.out⟩
  ·rw [if_neg c3] at H
   exact absurd H (by simp)
 ·rw [if_neg c2] at H
  exact absurd H (by simp)

/-! ### laws_toTerm: function 6 -/
set_option maxHeartbeats 8000000 in
set_option maxRecDepth 100000 in
theorem laws_toTerm.step (k:Nat) (ih_laws_toTermS:∀ k_,k_ < k → ∀ (A0:Option Addr) (c0:Nat) (l0:List (S24)) (r:List (S28)) (w:World) (hr0:Kd.C k24 w A0 l0.length l0) (hc0:l0.length≤c0) (h:laws_toTermS.f k_ l0 = some r),Calls Try.prog 15 #[.slice A0 l0.length c0] w fun e w'=>∃ v0_:Value,e = .returned (v0_)∧Kd.R k28 28 w' w.heap.size (fun _=>True) v0_ r∧Below w.heap.size w w') (ih_laws_toTerm:∀ k_,k_ < k → ∀ (a0_0:Int) (a0_1:Int) (a0_2:ByteArray) (A0_3:Option Addr) (c0_3:Nat) (l0_3:List (S24)) (r1:Int) (r2:Int) (r3:ByteArray) (r4:List (S28)) (w:World) (hr0_3:Kd.C k24 w A0_3 l0_3.length l0_3) (hc0_3:l0_3.length≤c0_3) (h:laws_toTerm.f k_ a0_0 a0_1 a0_2 l0_3 = some (r1,r2,r3,r4)),Calls Try.prog 6 #[.agg #[.int .i64 a0_0,.int .i64 a0_1,.string a0_2,.slice A0_3 l0_3.length c0_3]] w fun e w'=>∃ v3_:Value,e = .returned (.agg #[.int .i64 r1,.int .i64 r2,.string r3,v3_])∧Kd.R k28 28 w' w.heap.size (fun _=>True) v3_ r4∧Below w.heap.size w w'):∀ (a0_0:Int) (a0_1:Int) (a0_2:ByteArray) (A0_3:Option Addr) (c0_3:Nat) (l0_3:List (S24)) (r1:Int) (r2:Int) (r3:ByteArray) (r4:List (S28)) (w:World) (hr0_3:Kd.C k24 w A0_3 l0_3.length l0_3) (hc0_3:l0_3.length≤c0_3) (h:laws_toTerm.f k a0_0 a0_1 a0_2 l0_3 = some (r1,r2,r3,r4)),
  Calls Try.prog 6 #[.agg #[.int .i64 a0_0,.int .i64 a0_1,.string a0_2,.slice A0_3 l0_3.length c0_3]] w fun e w'=>∃ v3_:Value,e = .returned (.agg #[.int .i64 r1,.int .i64 r2,.string r3,v3_])∧Kd.R k28 28 w' w.heap.size (fun _=>True) v3_ r4∧Below w.heap.size w w':=by
 intro a0_0 a0_1 a0_2 A0_3 c0_3 l0_3 r1 r2 r3 r4 w hr0_3 hc0_3 h
 cases k with
 | zero=>exact absurd h (by simp [laws_toTerm.f])
 | succ k =>
 simp only [laws_toTerm.f] at h;have hu24:=Try.underlying24;have hu28:=Try.underlying28;have HR0_3:=Aside0.mk hr0_3;have HC0_3:=Aside0.mk hc0_3;clear hr0_3 hc0_3;have HB:=Aside0.mk (Below.refl w.heap.size w);have H:((laws_toTermS.f k l0_3).bind fun t181=>(some (a0_0,a0_1,a0_2,t181))) = some (r1,r2,r3,r4):=h;clear h;replace H:=Option.bind_eq_some_iff.mp H;obtain ⟨t181,A20,H⟩:=H;replace H:(some (a0_0,a0_1,a0_2,t181)) = some (r1,r2,r3,r4):=H;have A2:=Aside0.mk A20;clear A20;simp only [Option.some.injEq,Prod.mk.injEq] at H;obtain ⟨rfl,rfl,rfl,rfl⟩:=H
 go_enter Try.func6,Try.ntmps6
 go_wp2_with (first|((with_reducible refine gate_dst (N:=1) rfl ?_);refine box_event ?hg (N:=1) ?hd (cs:=#[.int .i64 a0_0,.int .i64 a0_1,.string a0_2,.slice A0_3 l0_3.length c0_3]) (t:=24) ?hr ?_;(case hd=>rfl);(case hg=>rfl);(case hr=>first|(go_simp;done)|(go_simp;rfl));intro gb178 hg w3 hbox hb;have n_:=ai (bq HB hb) <| ai (Aside0.mk (hbox)) <| ai (bz hg HB) <| bz hg HB;clear HB;obtain ⟨HB,BK178,GW178,GE178⟩:=n_;clear hb hbox hg)|((with_reducible refine gate_dst (N:=2) rfl ?_);refine box_event ?hg (N:=2) ?hd (cs:=#[.int .i64 0,.int .i64 0,.string (⟨#[]⟩:ByteArray),.slice none 0 0]) (t:=28) ?hr ?_;(case hd=>rfl);(case hg=>rfl);(case hr=>first|(go_simp;done)|(go_simp;rfl));intro gb179 hg w4 hbox hb;have n_:=ai (bw BK178 hb) <| ai (bq HB hb) <| ai (Aside0.mk (hbox)) <| ai (bz hg HB) <| ai (bz hg HB) <| ai (nl hg BK178) <| ng hg BK178;clear BK178 HB;obtain ⟨BK178,HB,BK179,GW179,GE179,NB178_179,NB179_178⟩:=n_;clear hb hbox hg)|((with_reducible refine gate_dst (N:=3) rfl ?_);refine box_event ?hg (N:=3) ?hd (cs:=#[.int .i64 0,.int .i64 0,.string (⟨#[]⟩:ByteArray),.slice none 0 0]) (t:=28) ?hr ?_;(case hd=>rfl);(case hg=>rfl);(case hr=>first|(go_simp;done)|(go_simp;rfl));intro gb180 hg w5 hbox hb;have n_:=ai (bw BK178 hb) <| ai (bw BK179 hb) <| ai (bq HB hb) <| ai (Aside0.mk (hbox)) <| ai (bz hg HB) <| ai (bz hg HB) <| ai (nl hg BK178) <| ai (ng hg BK178) <| ai (nl hg BK179) <| ng hg BK179;clear BK178 BK179 HB;obtain ⟨BK178,BK179,HB,BK180,GW180,GE180,NB178_180,NB180_178,NB179_180,NB180_179⟩:=n_;clear hb hbox hg;have:=NB178_179.out;have:=NB179_178.out;have:=NB178_180.out;have:=NB180_178.out;obtain ⟨h8_0,h8_1,h8_2,h8_3⟩:=kb4 BK178.out;obtain ⟨z8_0,z8_1,z8_2,z8_3⟩:=kz4 BK178.out;have:=NB180_179.out;have:=NB179_180.out;obtain ⟨h10_0,h10_1,h10_2,h10_3⟩:=kb4 BK180.out;obtain ⟨z10_0,z10_1,z10_2,z10_3⟩:=kz4 BK180.out)|((with_reducible refine gate_callee (f:=15) rfl ?_);refine goesL_ (some 15) rfl rfl Try.func15 (by kernel_rfl) rfl #[.slice A0_3 l0_3.length c0_3] rfl gs ?_;(with_reducible refine (ih_laws_toTermS k (by omega) _ _ l0_3 t181 _ ?side1 ?side2 A2.out).mono ?_);(case side1=>exact Kd.C_below HR0_3.out (bl HB.out));(case side2=>exact HC0_3.out);rintro e w11 ⟨v182,rfl,ho0,hb⟩;refine ⟨_,rfl,?_⟩;have n_:=ai (Aside0.mk (Kd.R_lower (Kd.R_newB (Kd.R_newB ho0 (g:=gb179) (o:=.cells #[.int .i64 0,.int .i64 0,.string (⟨#[]⟩:ByteArray),.slice none 0 0] 28 (0,0)) (bm BK179.out)) (g:=gb180) (o:=.cells #[.int .i64 a0_0,.int .i64 a0_1,.string a0_2,.slice none 0 0] 28 (0,0)) (bmp BK180.out)) (below_size (bl HB.out)))) <| ai (bwm BK178 hb) <| ai (bwm BK179 hb) <| ai (Aside0.mk (blk_below (g:=gb180) (o:=.cells #[.int .i64 a0_0,.int .i64 a0_1,.string a0_2,.slice none 0 0] 28 (0,0)) (bmp BK180.out) hb)) <| bq HB hb;clear BK178 BK179 BK180 HB;obtain ⟨HO183,BK178,BK179,BK180,HB⟩:=n_;(try clear hb);(try clear ho0);obtain ⟨Ao12,co12,eo12⟩:=Kd.R_slice HO183.out;subst eo12;obtain ⟨h13_0,h13_1,h13_2,h13_3⟩:=kb4 BK180.out;obtain ⟨z13_0,z13_1,z13_2,z13_3⟩:=kz4 BK180.out;obtain ⟨h14_0,h14_1,h14_2,h14_3⟩:=kb4 BK179.out;obtain ⟨z14_0,z14_1,z14_2,z14_3⟩:=kz4 BK179.out))
 refine bodyPost_ret (results_cell_row rfl _ _ gb179 28 #[.int .i64 a0_0,.int .i64 a0_1,.string a0_2,.slice Ao12 t181.length co12] (0,0) _ rfl (bmp BK179.out) Try.underlying28 rfl (by kernel_rfl)) rfl ?_
 exact ⟨_,cl,by (with_reducible repeat (first|apply Kd.R_alloc|apply Kd.R_drewN|apply Kd.R_drew));exact Kd.R_mono (rfm (Kd.R_mono (Kd.R_mono HO183.out (fun k_ hk=>(⟨hk,hk.2⟩:_∧k_≠gb180))) (fun k_ hk=>(⟨hk,hk.1.1.2⟩:_∧k_≠gb179)))) (fun _ hk=>trivial),bl HB.out⟩

theorem laws_toTermS.all (k:Nat):(∀ (A0:Option Addr) (c0:Nat) (l0:List (S24)) (r:List (S28)) (w:World) (hr0:Kd.C k24 w A0 l0.length l0) (hc0:l0.length≤c0) (h:laws_toTermS.f k l0 = some r),Calls Try.prog 15 #[.slice A0 l0.length c0] w fun e w'=>∃ v0_:Value,e = .returned (v0_)∧Kd.R k28 28 w' w.heap.size (fun _=>True) v0_ r∧Below w.heap.size w w')∧(∀ (a0_0:Int) (a0_1:Int) (a0_2:ByteArray) (A0_3:Option Addr) (c0_3:Nat) (l0_3:List (S24)) (r1:Int) (r2:Int) (r3:ByteArray) (r4:List (S28)) (w:World) (hr0_3:Kd.C k24 w A0_3 l0_3.length l0_3) (hc0_3:l0_3.length≤c0_3) (h:laws_toTerm.f k a0_0 a0_1 a0_2 l0_3 = some (r1,r2,r3,r4)),Calls Try.prog 6 #[.agg #[.int .i64 a0_0,.int .i64 a0_1,.string a0_2,.slice A0_3 l0_3.length c0_3]] w fun e w'=>∃ v3_:Value,e = .returned (.agg #[.int .i64 r1,.int .i64 r2,.string r3,v3_])∧Kd.R k28 28 w' w.heap.size (fun _=>True) v3_ r4∧Below w.heap.size w w'):=by
 induction k using Nat.strongRecOn with
 | _ k ih =>
 exact ⟨laws_toTermS.step k (fun k_ h_=>(ih k_ h_).1) (fun k_ h_=>(ih k_ h_).2),laws_toTerm.step k (fun k_ h_=>(ih k_ h_).1) (fun k_ h_=>(ih k_ h_).2)⟩
theorem laws_toTermS.calls (k:Nat):∀ (A0:Option Addr) (c0:Nat) (l0:List (S24)) (r:List (S28)) (w:World) (hr0:Kd.C k24 w A0 l0.length l0) (hc0:l0.length≤c0) (h:laws_toTermS.f k l0 = some r),Calls Try.prog 15 #[.slice A0 l0.length c0] w fun e w'=>∃ v0_:Value,e = .returned (v0_)∧Kd.R k28 28 w' w.heap.size (fun _=>True) v0_ r∧Below w.heap.size w w':=(laws_toTermS.all k).1
theorem laws_toTerm.calls (k:Nat):∀ (a0_0:Int) (a0_1:Int) (a0_2:ByteArray) (A0_3:Option Addr) (c0_3:Nat) (l0_3:List (S24)) (r1:Int) (r2:Int) (r3:ByteArray) (r4:List (S28)) (w:World) (hr0_3:Kd.C k24 w A0_3 l0_3.length l0_3) (hc0_3:l0_3.length≤c0_3) (h:laws_toTerm.f k a0_0 a0_1 a0_2 l0_3 = some (r1,r2,r3,r4)),Calls Try.prog 6 #[.agg #[.int .i64 a0_0,.int .i64 a0_1,.string a0_2,.slice A0_3 l0_3.length c0_3]] w fun e w'=>∃ v3_:Value,e = .returned (.agg #[.int .i64 r1,.int .i64 r2,.string r3,v3_])∧Kd.R k28 28 w' w.heap.size (fun _=>True) v3_ r4∧Below w.heap.size w w':=(laws_toTermS.all k).2

/-! ### impl_isOp: function 16 -/
def impl_isOp.f (a0:ByteArray):Option (Bool):=if a0.toList = ([43]:List UInt8) then (some true) else (if a0.toList = ([45]:List UInt8) then (some true) else (if a0.toList = ([42]:List UInt8) then (some true) else (if a0.toList = ([61,61]:List UInt8) then (some true) else (if a0.toList = ([60]:List UInt8) then (some true) else (some false)))))
set_option maxHeartbeats 8000000 in
set_option maxRecDepth 100000 in
theorem impl_isOp.calls (a0:ByteArray) (r:Bool) (w:World) (h:impl_isOp.f a0 = some r) :
  Calls Try.prog 16 #[.string a0] w fun e w'=>e = .returned (.bool r)∧Drawn0 w w':=by
 have H:(if a0.toList = ([43]:List UInt8) then (some true) else (if a0.toList = ([45]:List UInt8) then (some true) else (if a0.toList = ([42]:List UInt8) then (some true) else (if a0.toList = ([61,61]:List UInt8) then (some true) else (if a0.toList = ([60]:List UInt8) then (some true) else (some false)))))) = some r:=h;clear h
 by_cases c2:a0.toList = ([43]:List UInt8)
 ·rw [if_pos c2] at H
  have c2b0:(a0.toList == ([43]:List UInt8)) = true:=beq_iff_eq.mpr c2;have c2b1:(a0.toList != ([43]:List UInt8)) = false:=bne_eq_false_iff_eq.mpr c2;clear c2;obtain rfl:=Option.some.inj H
  go_enter Try.func16,Try.ntmps16
  go_wp2
  go_ret
  exact ⟨cl2,by repeat (first|exact Drawn0.refl _|apply Drawn0.step)⟩
 ·rw [if_neg c2] at H
  have c2b0:(a0.toList == ([43]:List UInt8)) = false:=beq_eq_false_iff_ne.mpr c2;have c2b1:(a0.toList != ([43]:List UInt8)) = true:=bne_iff_ne.mpr c2
  by_cases c3:a0.toList = ([45]:List UInt8)
  ·rw [if_pos c3] at H
   have c3b0:(a0.toList == ([45]:List UInt8)) = true:=beq_iff_eq.mpr c3;have c3b1:(a0.toList != ([45]:List UInt8)) = false:=bne_eq_false_iff_eq.mpr c3;clear c3;obtain rfl:=Option.some.inj H
   go_enter Try.func16,Try.ntmps16
   go_wp2
   go_ret
   exact ⟨cl2,by repeat (first|exact Drawn0.refl _|apply Drawn0.step)⟩
  ·rw [if_neg c3] at H
   have c3b0:(a0.toList == ([45]:List UInt8)) = false:=beq_eq_false_iff_ne.mpr c3;have c3b1:(a0.toList != ([45]:List UInt8)) = true:=bne_iff_ne.mpr c3
   by_cases c4:a0.toList = ([42]:List UInt8)
   ·rw [if_pos c4] at H
    have c4b0:(a0.toList == ([42]:List UInt8)) = true:=beq_iff_eq.mpr c4;have c4b1:(a0.toList != ([42]:List UInt8)) = false:=bne_eq_false_iff_eq.mpr c4;clear c4;obtain rfl:=Option.some.inj H
    go_enter Try.func16,Try.ntmps16
    go_wp2
    go_ret
    exact ⟨cl2,by repeat (first|exact Drawn0.refl _|apply Drawn0.step)⟩
   ·rw [if_neg c4] at H
    have c4b0:(a0.toList == ([42]:List UInt8)) = false:=beq_eq_false_iff_ne.mpr c4;have c4b1:(a0.toList != ([42]:List UInt8)) = true:=bne_iff_ne.mpr c4
    by_cases c5:a0.toList = ([61,61]:List UInt8)
    ·rw [if_pos c5] at H
     have c5b0:(a0.toList == ([61,61]:List UInt8)) = true:=beq_iff_eq.mpr c5;have c5b1:(a0.toList != ([61,61]:List UInt8)) = false:=bne_eq_false_iff_eq.mpr c5;clear c5;obtain rfl:=Option.some.inj H
     go_enter Try.func16,Try.ntmps16
     go_wp2
     go_ret
     exact ⟨cl2,by repeat (first|exact Drawn0.refl _|apply Drawn0.step)⟩
    ·rw [if_neg c5] at H
     have c5b0:(a0.toList == ([61,61]:List UInt8)) = false:=beq_eq_false_iff_ne.mpr c5;have c5b1:(a0.toList != ([61,61]:List UInt8)) = true:=bne_iff_ne.mpr c5
     by_cases c6:a0.toList = ([60]:List UInt8)
     ·rw [if_pos c6] at H
      have c6b0:(a0.toList == ([60]:List UInt8)) = true:=beq_iff_eq.mpr c6;have c6b1:(a0.toList != ([60]:List UInt8)) = false:=bne_eq_false_iff_eq.mpr c6;clear c6;obtain rfl:=Option.some.inj H
      go_enter Try.func16,Try.ntmps16
      go_wp2
      go_ret
      exact ⟨cl2,by repeat (first|exact Drawn0.refl _|apply Drawn0.step)⟩
     ·rw [if_neg c6] at H
      have c6b0:(a0.toList == ([60]:List UInt8)) = false:=beq_eq_false_iff_ne.mpr c6;have c6b1:(a0.toList != ([60]:List UInt8)) = true:=bne_iff_ne.mpr c6;obtain rfl:=Option.some.inj H
      go_enter Try.func16,Try.ntmps16
      go_wp2
      go_ret
      exact ⟨cl2,by repeat (first|exact Drawn0.refl _|apply Drawn0.step)⟩

/-! ### impl_inRange: function 39 -/
def impl_inRange.f (a0:Int) (a1:Int) (a2:Int):Option (Bool):=if a0 ≥ a1 then (some (decide (a0≤a2))) else (some false)
set_option maxHeartbeats 8000000 in
set_option maxRecDepth 100000 in
theorem impl_inRange.calls (a0:Int) (a1:Int) (a2:Int) (r:Bool) (w:World) (h:impl_inRange.f a0 a1 a2 = some r) :
  Calls Try.prog 39 #[.int .i64 a0,.int .i64 a1,.int .i64 a2] w fun e w'=>e = .returned (.bool r)∧Drawn0 w w':=by
 have H:(if a0 ≥ a1 then (some (decide (a0≤a2))) else (some false)) = some r:=h;clear h
 by_cases c4:a0 ≥ a1
 ·rw [if_pos c4] at H
  have c4b0:decide (a1≤a0) = true:=decide_eq_true c4;clear c4;obtain rfl:=Option.some.inj H
  go_enter Try.func39,Try.ntmps39
  go_wp2
  go_ret
  exact ⟨cl2,by repeat (first|exact Drawn0.refl _|apply Drawn0.step)⟩
 ·rw [if_neg c4] at H
  have c4b0:decide (a1≤a0) = false:=decide_eq_false c4;clear c4;obtain rfl:=Option.some.inj H
  go_enter Try.func39,Try.ntmps39
  go_wp2
  go_ret
  exact ⟨cl2,by repeat (first|exact Drawn0.refl _|apply Drawn0.step)⟩

/-! ### impl_isSmall: function 45 -/
def impl_isSmall.f (a0:Int):Option (Bool):=if a0 ≥ 97 then (some (decide (a0≤122))) else (some false)
set_option maxHeartbeats 8000000 in
set_option maxRecDepth 100000 in
theorem impl_isSmall.calls (a0:Int) (r:Bool) (w:World) (h:impl_isSmall.f a0 = some r) :
  Calls Try.prog 45 #[.int .u8 a0] w fun e w'=>e = .returned (.bool r)∧Drawn0 w w':=by
 have H:(if a0 ≥ 97 then (some (decide (a0≤122))) else (some false)) = some r:=h;clear h
 by_cases c2:a0 ≥ 97
 ·rw [if_pos c2] at H
  have c2b0:decide (97≤a0) = true:=decide_eq_true c2;clear c2;obtain rfl:=Option.some.inj H
  go_enter Try.func45,Try.ntmps45
  go_wp2
  go_ret
  exact ⟨cl2,by repeat (first|exact Drawn0.refl _|apply Drawn0.step)⟩
 ·rw [if_neg c2] at H
  have c2b0:decide (97≤a0) = false:=decide_eq_false c2;clear c2;obtain rfl:=Option.some.inj H
  go_enter Try.func45,Try.ntmps45
  go_wp2
  go_ret
  exact ⟨cl2,by repeat (first|exact Drawn0.refl _|apply Drawn0.step)⟩

/-! ### impl_isFigure: function 46 -/
def impl_isFigure.f (a0:Int):Option (Bool):=if a0 ≥ 48 then (some (decide (a0≤57))) else (some false)
set_option maxHeartbeats 8000000 in
set_option maxRecDepth 100000 in
theorem impl_isFigure.calls (a0:Int) (r:Bool) (w:World) (h:impl_isFigure.f a0 = some r) :
  Calls Try.prog 46 #[.int .u8 a0] w fun e w'=>e = .returned (.bool r)∧Drawn0 w w':=by
 have H:(if a0 ≥ 48 then (some (decide (a0≤57))) else (some false)) = some r:=h;clear h
 by_cases c2:a0 ≥ 48
 ·rw [if_pos c2] at H
  have c2b0:decide (48≤a0) = true:=decide_eq_true c2;clear c2;obtain rfl:=Option.some.inj H
  go_enter Try.func46,Try.ntmps46
  go_wp2
  go_ret
  exact ⟨cl2,by repeat (first|exact Drawn0.refl _|apply Drawn0.step)⟩
 ·rw [if_neg c2] at H
  have c2b0:decide (48≤a0) = false:=decide_eq_false c2;clear c2;obtain rfl:=Option.some.inj H
  go_enter Try.func46,Try.ntmps46
  go_wp2
  go_ret
  exact ⟨cl2,by repeat (first|exact Drawn0.refl _|apply Drawn0.step)⟩

/-! ### impl_AtomOk: function 41 -/
def impl_AtomOk.l0:Nat → ByteArray → Int → Option (Bool)
 | 0,_,_=>none
 | k + 1,x0,x3=>if x3 < (x0.size:Int) then (if 0≤x3 then ((impl_isSmall.f (bt x0 x3)).bind fun t185=>(if t185 = true then (impl_AtomOk.l0 k x0 (wrap64 (x3 + 1))) else (if x3 = 0 then (some false) else ((impl_isFigure.f (bt x0 x3)).bind fun t186=>(if t186 = true then (impl_AtomOk.l0 k x0 (wrap64 (x3 + 1))) else (if (bt x0 x3) = 95 then (impl_AtomOk.l0 k x0 (wrap64 (x3 + 1))) else (some false))))))) else (none)) else ((impl_inRange.f (x0.size:Int) 1 20).bind fun t184=>(some t184))
def impl_AtomOk.f (k:Nat) (a0:ByteArray):Option (Bool):=impl_AtomOk.l0 k a0 0
theorem impl_AtomOk.mono_l:∀ k,(∀ y0 y1,LeO (impl_AtomOk.l0 k y0 y1) (impl_AtomOk.l0 (k + 1) y0 y1))
 | 0=>fun _ _ r h=>by simp [impl_AtomOk.l0] at h
 | k + 1=>by
  have ih0:=impl_AtomOk.mono_l k
  ·intro y0 y1
   unfold impl_AtomOk.l0
   with_reducible repeat' first|apply ih0|apply LeO.refl|apply LeO.none|apply LeO.ite|refine LeO.bind ?_ (fun _=>?_)
theorem impl_AtomOk.mono:∀ a0 k,LeO (impl_AtomOk.f k a0) (impl_AtomOk.f (k + 1) a0):=by
 intro a0 k;have ih0:=impl_AtomOk.mono_l k
 unfold impl_AtomOk.f
 with_reducible repeat' first|apply ih0|apply LeO.refl|apply LeO.none|apply LeO.ite|refine LeO.bind ?_ (fun _=>?_)
set_option maxHeartbeats 8000000 in
set_option maxRecDepth 100000 in
theorem impl_AtomOk.calls (k:Nat) (a0:ByteArray) (r:Bool) (w:World) (h:impl_AtomOk.f k a0 = some r) :
  Calls Try.prog 41 #[.string a0] w fun e w'=>e = .returned (.bool r)∧Drawn0 w w':=by
 have H:(impl_AtomOk.l0 k a0 0) = some r:=h;clear h;have H':=Aside0.mk H;clear H
 go_enter Try.func41,Try.ntmps41
 go_wp2
 go_loopg [3] k (fun kq v3 w'=>∃ (x3_1:Int),v3 = .int .i64 x3_1∧Aside0 (impl_AtomOk.l0 kq a0 x3_1 = some r)∧Aside0 (kq≤k)∧Drawn0 w w')
 case atStart=>exact ⟨(0),(cl2),H',⟨Nat.le_refl _⟩,by repeat (first|exact Drawn0.refl _|apply Drawn0.step)⟩
 case round =>
  clear H';obtain ⟨x3_1,rfl,HA,HK1,⟨m1,rfl⟩⟩:=hrel
  cases gk with
  | zero=>exact absurd HA.out (by simp [impl_AtomOk.l0])
  | succ k1 =>
   have H:=HA.out;clear HA;simp only [impl_AtomOk.l0] at H
   by_cases c2:x3_1 < (a0.size:Int)
   ·rw [if_pos c2] at H
    have c2b0:decide (x3_1 < (a0.size:Int)) = true:=decide_eq_true c2;clear c2
    by_cases c3:0≤x3_1
    ·rw [if_pos c3] at H
     have c3b0:decide (0≤x3_1) = true:=decide_eq_true c3;clear c3;replace H:=Option.bind_eq_some_iff.mp H;obtain ⟨t185,A50,H⟩:=H;replace H:(if t185 = true then (impl_AtomOk.l0 k1 a0 (wrap64 (x3_1 + 1))) else (if x3_1 = 0 then (some false) else ((impl_isFigure.f (bt a0 x3_1)).bind fun t186=>(if t186 = true then (impl_AtomOk.l0 k1 a0 (wrap64 (x3_1 + 1))) else (if (bt a0 x3_1) = 95 then (impl_AtomOk.l0 k1 a0 (wrap64 (x3_1 + 1))) else (some false)))))) = some r:=H;have A5:=Aside0.mk A50;clear A50
     by_cases c6:t185 = true
     ·subst c6
      have H1:(impl_AtomOk.l0 k1 a0 (wrap64 (x3_1 + 1))) = some r:=by rw [if_pos rfl] at H;exact H
      clear H;have H:=H1;clear H1;have H':=Aside0.mk H;clear H;have p4:0≤(x3_1:Int):=od;have q4:x3_1 < (a0.size:Int):=od;have hx4:=bt_at a0 x3_1;replace p4:=eq_true p4;replace q4:=eq_true q4
      go_wp2_with (first|((with_reducible refine gate_callee (f:=45) rfl ?_);refine goesL_ (some 13) rfl rfl Try.func45 (by kernel_rfl) rfl #[.int .u8 (bt a0 x3_1)] rfl gs ?_;(with_reducible refine (impl_isSmall.calls (bt a0 x3_1) true _ A5.out).mono ?_);rintro e w' ⟨rfl,⟨nd,rfl⟩⟩;refine ⟨_,rfl,?_⟩))
      go_roundg k1
      case measure=>have:=HK1.out;omega
      case rel=>exact ⟨(wrap64 (x3_1 + 1)),(cl2),H',⟨by have:=HK1.out;omega⟩,by repeat (first|exact Drawn0.refl _|apply Drawn0.step)⟩
     ·replace c6:=Bool.eq_false_iff.mpr c6
      subst c6;have H1:(if x3_1 = 0 then (some false) else ((impl_isFigure.f (bt a0 x3_1)).bind fun t186=>(if t186 = true then (impl_AtomOk.l0 k1 a0 (wrap64 (x3_1 + 1))) else (if (bt a0 x3_1) = 95 then (impl_AtomOk.l0 k1 a0 (wrap64 (x3_1 + 1))) else (some false))))) = some r:=by rw [if_neg (show ¬ (false = true) by decide)] at H;exact H
      clear H;have H:=H1;clear H1
      by_cases c7:x3_1 = 0
      ·rw [if_pos c7] at H
       have c7b0:(x3_1 == 0) = true:=beq_iff_eq.mpr c7;have c7b1:(x3_1 != 0) = false:=bne_eq_false_iff_eq.mpr c7;clear c7;obtain rfl:=Option.some.inj H;have p4:0≤(x3_1:Int):=od;have q4:x3_1 < (a0.size:Int):=od;have hx4:=bt_at a0 x3_1;replace p4:=eq_true p4;replace q4:=eq_true q4
       go_wp2_with (first|((with_reducible refine gate_callee (f:=45) rfl ?_);refine goesL_ (some 13) rfl rfl Try.func45 (by kernel_rfl) rfl #[.int .u8 (bt a0 x3_1)] rfl gs ?_;(with_reducible refine (impl_isSmall.calls (bt a0 x3_1) false _ A5.out).mono ?_);rintro e w' ⟨rfl,⟨nd,rfl⟩⟩;refine ⟨_,rfl,?_⟩))
       go_ret
       exact ⟨cl2,by repeat (first|exact Drawn0.refl _|apply Drawn0.step)⟩
      ·rw [if_neg c7] at H
       have c7b0:(x3_1 == 0) = false:=beq_eq_false_iff_ne.mpr c7;have c7b1:(x3_1 != 0) = true:=bne_iff_ne.mpr c7;replace H:=Option.bind_eq_some_iff.mp H;obtain ⟨t186,A90,H⟩:=H;replace H:(if t186 = true then (impl_AtomOk.l0 k1 a0 (wrap64 (x3_1 + 1))) else (if (bt a0 x3_1) = 95 then (impl_AtomOk.l0 k1 a0 (wrap64 (x3_1 + 1))) else (some false))) = some r:=H;have A9:=Aside0.mk A90;clear A90
       by_cases c10:t186 = true
       ·subst c10
        have H1:(impl_AtomOk.l0 k1 a0 (wrap64 (x3_1 + 1))) = some r:=by rw [if_pos rfl] at H;exact H
        clear H;have H:=H1;clear H1;have H':=Aside0.mk H;clear H;have p4:0≤(x3_1:Int):=od;have q4:x3_1 < (a0.size:Int):=od;have hx4:=bt_at a0 x3_1;replace p4:=eq_true p4;replace q4:=eq_true q4
        go_wp2_with (first|((with_reducible refine gate_callee (f:=45) rfl ?_);refine goesL_ (some 13) rfl rfl Try.func45 (by kernel_rfl) rfl #[.int .u8 (bt a0 x3_1)] rfl gs ?_;(with_reducible refine (impl_isSmall.calls (bt a0 x3_1) false _ A5.out).mono ?_);rintro e w' ⟨rfl,⟨nd,rfl⟩⟩;refine ⟨_,rfl,?_⟩;have p8:0≤(x3_1:Int):=od;have q8:x3_1 < (a0.size:Int):=od;have hx8:=bt_at a0 x3_1;replace p8:=eq_true p8;replace q8:=eq_true q8)|(go_at_call 46;(with_reducible refine (impl_isFigure.calls (bt a0 x3_1) true _ A9.out).mono ?_);rintro e w' ⟨rfl,⟨nd,rfl⟩⟩))
        go_roundg k1
        case measure=>have:=HK1.out;omega
        case rel=>exact ⟨(wrap64 (x3_1 + 1)),(cl2),H',⟨by have:=HK1.out;omega⟩,by repeat (first|exact Drawn0.refl _|apply Drawn0.step)⟩
       ·replace c10:=Bool.eq_false_iff.mpr c10
        subst c10;have H1:(if (bt a0 x3_1) = 95 then (impl_AtomOk.l0 k1 a0 (wrap64 (x3_1 + 1))) else (some false)) = some r:=by rw [if_neg (show ¬ (false = true) by decide)] at H;exact H
        clear H;have H:=H1;clear H1
        by_cases c12:(bt a0 x3_1) = 95
        ·rw [if_pos c12] at H
         have c12b0:((bt a0 x3_1) == 95) = true:=beq_iff_eq.mpr c12;have c12b1:((bt a0 x3_1) != 95) = false:=bne_eq_false_iff_eq.mpr c12;clear c12;have H':=Aside0.mk H;clear H;have p4:0≤(x3_1:Int):=od;have q4:x3_1 < (a0.size:Int):=od;have hx4:=bt_at a0 x3_1;replace p4:=eq_true p4;replace q4:=eq_true q4
         go_wp2_with (first|((with_reducible refine gate_callee (f:=45) rfl ?_);refine goesL_ (some 13) rfl rfl Try.func45 (by kernel_rfl) rfl #[.int .u8 (bt a0 x3_1)] rfl gs ?_;(with_reducible refine (impl_isSmall.calls (bt a0 x3_1) false _ A5.out).mono ?_);rintro e w' ⟨rfl,⟨nd,rfl⟩⟩;refine ⟨_,rfl,?_⟩;have p8:0≤(x3_1:Int):=od;have q8:x3_1 < (a0.size:Int):=od;have hx8:=bt_at a0 x3_1;replace p8:=eq_true p8;replace q8:=eq_true q8)|(go_at_call 46;(with_reducible refine (impl_isFigure.calls (bt a0 x3_1) false _ A9.out).mono ?_);rintro e w' ⟨rfl,⟨nd,rfl⟩⟩;have p11:0≤(x3_1:Int):=od;have q11:x3_1 < (a0.size:Int):=od;have hx11:=bt_at a0 x3_1;replace p11:=eq_true p11;replace q11:=eq_true q11))
         go_roundg k1
         case measure=>have:=HK1.out;omega
         case rel=>exact ⟨(wrap64 (x3_1 + 1)),(cl2),H',⟨by have:=HK1.out;omega⟩,by repeat (first|exact Drawn0.refl _|apply Drawn0.step)⟩
        ·rw [if_neg c12] at H
         have c12b0:((bt a0 x3_1) == 95) = false:=beq_eq_false_iff_ne.mpr c12;have c12b1:((bt a0 x3_1) != 95) = true:=bne_iff_ne.mpr c12;obtain rfl:=Option.some.inj H;have p4:0≤(x3_1:Int):=od;have q4:x3_1 < (a0.size:Int):=od;have hx4:=bt_at a0 x3_1;replace p4:=eq_true p4;replace q4:=eq_true q4
         go_wp2_with (first|((with_reducible refine gate_callee (f:=45) rfl ?_);refine goesL_ (some 13) rfl rfl Try.func45 (by kernel_rfl) rfl #[.int .u8 (bt a0 x3_1)] rfl gs ?_;(with_reducible refine (impl_isSmall.calls (bt a0 x3_1) false _ A5.out).mono ?_);rintro e w' ⟨rfl,⟨nd,rfl⟩⟩;refine ⟨_,rfl,?_⟩;have p8:0≤(x3_1:Int):=od;have q8:x3_1 < (a0.size:Int):=od;have hx8:=bt_at a0 x3_1;replace p8:=eq_true p8;replace q8:=eq_true q8)|(go_at_call 46;(with_reducible refine (impl_isFigure.calls (bt a0 x3_1) false _ A9.out).mono ?_);rintro e w' ⟨rfl,⟨nd,rfl⟩⟩;have p11:0≤(x3_1:Int):=od;have q11:x3_1 < (a0.size:Int):=od;have hx11:=bt_at a0 x3_1;replace p11:=eq_true p11;replace q11:=eq_true q11))
         go_ret
         exact ⟨cl2,by repeat (first|exact Drawn0.refl _|apply Drawn0.step)⟩
    ·rw [if_neg c3] at H
     exact absurd H (by simp)
   ·rw [if_neg c2] at H
    have c2b0:decide (x3_1 < (a0.size:Int)) = false:=decide_eq_false c2;clear c2;replace H:=Option.bind_eq_some_iff.mp H;obtain ⟨t184,A130,H⟩:=H;replace H:(some t184) = some r:=H;have A13:=Aside0.mk A130;clear A130;obtain rfl:=Option.some.inj H
    go_wp2_with (first|((with_reducible refine gate_callee (f:=39) rfl ?_);refine goesL_ (some 34) rfl rfl Try.func39 (by kernel_rfl) rfl #[.int .i64 (a0.size:Int),.int .i64 1,.int .i64 20] rfl gs ?_;(with_reducible refine (impl_inRange.calls (a0.size:Int) 1 20 t184 _ A13.out).mono ?_);rintro e w' ⟨rfl,⟨nd,rfl⟩⟩;refine ⟨_,rfl,?_⟩))
    go_ret
    exact ⟨cl2,by repeat (first|exact Drawn0.refl _|apply Drawn0.step)⟩

end Go.Proofs.Ytiooogcjoobjnaa.QFnExactOperate
