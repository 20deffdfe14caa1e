-- Written by a program of this workplace (print2.py) for this claim, over the print's words.
import Derived.Test.YtlgenmndgngmdaaQFnExactFreeOfx0
namespace Go.Proofs.Ytlgenmndgngmdaa.QFnExactFreeOf
open Go.RowKit Go.Proofs.YtlgenmndgngmdaaW.PrintWords Go.Proofs.YtlgenmndgngmdaaW.PrintLast Go.Proofs.YtlgenmndgngmdaaW.PrintMore
attribute [local go_sem] max2_int min2_int max_two min_two max_three min_three max_four min_four   -- for this text's walks alone
set_option linter.unusedVariables false
set_option linter.unusedSimpArgs false

/-! ### impl_VarsOf: function 19 -/
mutual
def impl_VarsOf.j0:Nat → Bool → Int → Int → ByteArray → List (S32) → List (S46) → Option (List ByteArray)
 | 0,_,_,_,_,_,_=>none
 | k + 1,x13,x238000,x238001,x238002,x238003,x238004=>if x13 = true then (some (([x238002]:List ByteArray))) else (if x238000 = 3 then (some ([]:List ByteArray)) else (impl_VarsOf.l0 k ([]:List ByteArray) x238003 (x238003.length:Int) 0))
def impl_VarsOf.l0:Nat → List ByteArray → List (S32) → Int → Int → Option (List ByteArray)
 | 0,_,_,_,_=>none
 | k + 1,x3,x21,x22,x23=>if x23 < x22 then (if 0≤x23 then (if x23 < (x21.length:Int) then ((impl_VarsOf.f k ((rd_T32 x21 x23).f0) ((rd_T32 x21 x23).f1) ((rd_T32 x21 x23).f2) ((rd_T32 x21 x23).f3) ((rd_T32 x21 x23).f4)).bind fun t243=>(if x3.length + t243.length < 8796093022208 then (impl_VarsOf.l0 k (x3 ++ t243) x21 x22 (wrap64 (x23 + 1))) else (none))) else (none)) else (none)) else (some x3)
def impl_VarsOf.f:Nat → Int → Int → ByteArray → List (S32) → List (S46) → Option (List ByteArray)
 | 0,_,_,_,_,_=>none
 | k + 1,a0_0,a0_1,a0_2,l0_3,l0_4=>if a0_0 = 3 then (impl_VarsOf.j0 k (a0_2.toList != ([95]:List UInt8)) a0_0 a0_1 a0_2 l0_3 l0_4) else (impl_VarsOf.j0 k false a0_0 a0_1 a0_2 l0_3 l0_4)
end
theorem impl_VarsOf.mono_l:∀ k,(∀ y0 y1 y2 y3 y4,LeO (impl_VarsOf.f k y0 y1 y2 y3 y4) (impl_VarsOf.f (k + 1) y0 y1 y2 y3 y4))∧(∀ y0 y1 y2 y3 y4 y5,LeO (impl_VarsOf.j0 k y0 y1 y2 y3 y4 y5) (impl_VarsOf.j0 (k + 1) y0 y1 y2 y3 y4 y5))∧(∀ y0 y1 y2 y3,LeO (impl_VarsOf.l0 k y0 y1 y2 y3) (impl_VarsOf.l0 (k + 1) y0 y1 y2 y3))
 | 0=>⟨fun _ _ _ _ _ r h=>by simp [impl_VarsOf.f] at h,fun _ _ _ _ _ _ r h=>by simp [impl_VarsOf.j0] at h,fun _ _ _ _ r h=>by simp [impl_VarsOf.l0] at h⟩
 | k + 1=>by
  obtain ⟨ih0,ih1,ih2⟩:=impl_VarsOf.mono_l k
  refine ⟨?_,?_,?_⟩
  ·intro y0 y1 y2 y3 y4
   unfold impl_VarsOf.f
   with_reducible repeat' first|apply ih0|apply ih1|apply ih2|apply LeO.refl|apply LeO.none|apply LeO.ite|refine LeO.bind ?_ (fun _=>?_)
  ·intro y0 y1 y2 y3 y4 y5
   unfold impl_VarsOf.j0
   with_reducible repeat' first|apply ih0|apply ih1|apply ih2|apply LeO.refl|apply LeO.none|apply LeO.ite|refine LeO.bind ?_ (fun _=>?_)
  ·intro y0 y1 y2 y3
   unfold impl_VarsOf.l0
   with_reducible repeat' first|apply ih0|apply ih1|apply ih2|apply LeO.refl|apply LeO.none|apply LeO.ite|refine LeO.bind ?_ (fun _=>?_)
theorem impl_VarsOf.mono:∀ a0 a1 a2 a3 a4 k,LeO (impl_VarsOf.f k a0 a1 a2 a3 a4) (impl_VarsOf.f (k + 1) a0 a1 a2 a3 a4):=by
 intro a0 a1 a2 a3 a4 k;obtain ⟨ih0,ih1,ih2⟩:=impl_VarsOf.mono_l k
 exact ih0 a0 a1 a2 a3 a4
set_option maxHeartbeats 8000000 in
set_option maxRecDepth 100000 in
theorem impl_VarsOf.calls (k:Nat):∀ (a0_0:Int) (a0_1:Int) (a0_2:ByteArray) (A0_3:Option Addr) (c0_3:Nat) (l0_3:List (S32)) (A0_4:Option Addr) (c0_4:Nat) (l0_4:List (S46)) (r:List ByteArray) (w:World) (hr0_3:Kd.C k32 w A0_3 l0_3.length l0_3) (hc0_3:l0_3.length≤c0_3) (hr0_4:Kd.C k46 w A0_4 l0_4.length l0_4) (hc0_4:l0_4.length≤c0_4) (h:impl_VarsOf.f k a0_0 a0_1 a0_2 l0_3 l0_4 = some r),
  Calls Try.prog 19 #[.agg #[.int .i64 a0_0,.int .i64 a0_1,.string a0_2,.slice A0_3 l0_3.length c0_3,.slice A0_4 l0_4.length c0_4]] w fun e w'=>∃ v0_:Value,e = .returned (v0_)∧Kd.R Kd.string 9 w' w.heap.size (fun _=>True) v0_ r∧Below w.heap.size w w':=by
 induction k using Nat.strongRecOn with
 | _ k ih =>
 intro a0_0 a0_1 a0_2 A0_3 c0_3 l0_3 A0_4 c0_4 l0_4 r w hr0_3 hc0_3 hr0_4 hc0_4 h
 cases k with
 | zero=>exact absurd h (by simp [impl_VarsOf.f])
 | succ k =>
 simp only [impl_VarsOf.f] at h;have hu32:=Try.underlying32;have HR0_3:=Aside0.mk hr0_3;have HC0_3:=Aside0.mk hc0_3;clear hr0_3 hc0_3;have HR0_4:=Aside0.mk hr0_4;have HC0_4:=Aside0.mk hc0_4;clear hr0_4 hc0_4;have HB:=Aside0.mk (Below.refl w.heap.size w);have H:(if a0_0 = 3 then (impl_VarsOf.j0 k (a0_2.toList != ([95]:List UInt8)) a0_0 a0_1 a0_2 l0_3 l0_4) else (impl_VarsOf.j0 k false a0_0 a0_1 a0_2 l0_3 l0_4)) = some r:=h;clear h;have HC2:=Aside0.mk H;clear H
 go_enter Try.func19,Try.ntmps19
 go_upto_region 1 with (first|((with_reducible refine gate_dst (N:=1) rfl ?_);refine box_event ?hg (N:=1) ?hd (cs:=#[.int .i64 a0_0,.int .i64 a0_1,.string a0_2,.slice A0_3 l0_3.length c0_3,.slice A0_4 l0_4.length c0_4]) (t:=32) ?hr ?_;(case hd=>rfl);(case hg=>rfl);(case hr=>first|(go_simp;done)|(go_simp;rfl));intro gb237 hg w3 hbox hb;have n_:=ai (bq HB hb) <| ai (Aside0.mk (hbox)) <| ai (bz hg HB) <| bz hg HB;clear HB;obtain ⟨HB,BK237,GW237,GE237⟩:=n_;clear hb hbox hg))
 (try simp only [Act.put,List.setIfInBounds_toArray,List.set_cons_zero,List.set_cons_succ])
 go_cut [13] (fun v13 wc=>∃ (kq:Nat) (x13_1:Bool),v13 = .bool x13_1∧Aside0 (impl_VarsOf.j0 kq x13_1 a0_0 a0_1 a0_2 l0_3 l0_4 = some r)∧Aside0 (kq≤k)∧Aside0 (wc.heap[gb237]? = some (.cells #[.int .i64 a0_0,.int .i64 a0_1,.string a0_2,(.slice A0_3 l0_3.length c0_3),(.slice A0_4 l0_4.length c0_4)] 32 (0,0)))∧Aside0 (Below w.heap.size w wc))
 case first =>
  have H:=HC2.out;clear HC2
  by_cases c4:a0_0 = 3
  ·rw [if_pos c4] at H
   have c4b0:(a0_0 == 3) = true:=beq_iff_eq.mpr c4;have c4b1:(a0_0 != 3) = false:=bne_eq_false_iff_eq.mpr c4;clear c4
   (first|rw [c4b0]|(simp only [i64_w,i32_w];rw [c4b0])|(simp only [c4b2,Bool.not_true,Bool.not_false])|skip)
   have H':=Aside0.mk H;clear H;obtain ⟨hcz5_0,hcz5_1,hcz5_2,hcz5_3,hcz5_4⟩:=kb5 BK237.out
   go_wp2
   go_meet
   case rel=>exact ⟨_,((a0_2.toList != ([95]:List UInt8))),(cl2),H',⟨by first|omega|exact Nat.le_refl _⟩,⟨bk BK237.out⟩,⟨bl HB.out⟩⟩
  ·rw [if_neg c4] at H
   have c4b0:(a0_0 == 3) = false:=beq_eq_false_iff_ne.mpr c4;have c4b1:(a0_0 != 3) = true:=bne_iff_ne.mpr c4
   (first|rw [c4b0]|(simp only [i64_w,i32_w];rw [c4b0])|(simp only [c4b2,Bool.not_true,Bool.not_false])|skip)
   have H':=Aside0.mk H;clear H;obtain ⟨hcz6_0,hcz6_1,hcz6_2,hcz6_3,hcz6_4⟩:=kb5 BK237.out
   go_wp2
   go_meet
   case rel=>exact ⟨_,(false),(cl2),H',⟨by first|omega|exact Nat.le_refl _⟩,⟨bk BK237.out⟩,⟨bl HB.out⟩⟩
 case rest =>
  clear HC2;(try clear c1);(try clear p2);(try clear c4);(try clear c4b0);(try clear c4b1);(try clear c4b2);(try clear hcz5_0);(try clear hcz5_1);(try clear hcz5_2);(try clear hcz5_3);(try clear hcz5_4);(try clear hcz6_0);(try clear hcz6_1);(try clear hcz6_2);(try clear hcz6_3);(try clear hcz6_4);(try clear hfz5_0);(try clear hfz5_1);(try clear hfz5_2);(try clear hfz5_3);(try clear hfz5_4);(try clear hfz6_0);(try clear hfz6_1);(try clear hfz6_2);(try clear hfz6_3);(try clear hfz6_4);(try clear BK237);(try clear HB);obtain ⟨kq,x13_1,rfl,HA,HJ1,BK237,HB⟩:=hcut
  cases kq with
  | zero=>exact absurd HA.out (by simp [impl_VarsOf.j0])
  | succ kj1 =>
   have H:=HA.out;clear HA;simp only [impl_VarsOf.j0] at H
   by_cases c7:x13_1 = true
   ·subst c7
    have H1:(some (([a0_2]:List ByteArray))) = some r:=by rw [if_pos rfl] at H;exact H
    clear H;have H:=H1;clear H1;obtain ⟨y238,hy238⟩:∃ y_:List ByteArray,y_ = (([a0_2]:List ByteArray)):=⟨_,rfl⟩;replace H:(some y238) = some r:=by first|(rw [hy238];with_reducible exact H)|(have H2_:=(Option.bind_some _ _).symm.trans H;rw [hy238];with_reducible exact H2_)|(have H2_:=(Option.bind_some _ _).symm.trans H;with_reducible exact H2_)|with_reducible exact H|(rw [hy238];exact H)|exact H
    have Ny238:=Aside0.mk hy238;clear hy238;obtain rfl:=Option.some.inj H;obtain ⟨hcz8_0,hcz8_1,hcz8_2,hcz8_3,hcz8_4⟩:=kb5 BK237.out
    go_wp2_with (first|((with_reducible refine gate_dst (N:=16) rfl ?_);refine Kd.R_lit Kd.string _ 9 ?hg (N:=16) ?hd (xs:=([a0_2]:List ByteArray)) (inner:=[.string a0_2]) (ok:=fun _=>True) (okp:=fun _=>True) ?hr ?hp (fun _ hk=>hk) trivial (Below.refl _ _) (Nat.le_refl _) (by simp) ?_;(case hd=>rfl);(case hg=>rfl);(case hr=>first|(go_simp;done)|(go_simp;rfl));(case hp=>exact (Reps.one (show Kd.M Kd.string _ _ _ a0_2 [.string a0_2] from rfl) (Reps.none _ _)));intro v239 w9 ho10 hb hg_ hnew_;clear hg_ hnew_;(first|rw [← Ny238.out] at ho10|(simp only [Int.reduceToNat] at ho10;rw [← Ny238.out] at ho10));have n_:=ai (Aside0.mk (Kd.R_lower ho10 (below_size (bl HB.out)))) <| ai (bw BK237 hb) <| bq HB hb;clear BK237 HB;obtain ⟨HO240,BK237,HB⟩:=n_;clear hb ho10))
    go_ret
    exact ⟨_,cl,rk HO240.out,bl HB.out⟩
   ·replace c7:=Bool.eq_false_iff.mpr c7
    subst c7;have H1:(if a0_0 = 3 then (some ([]:List ByteArray)) else (impl_VarsOf.l0 kj1 ([]:List ByteArray) l0_3 (l0_3.length:Int) 0)) = some r:=by rw [if_neg (show ¬ (false = true) by decide)] at H;exact H
    clear H;have H:=H1;clear H1
    by_cases c11:a0_0 = 3
    ·rw [if_pos c11] at H
     have c11b0:(a0_0 == 3) = true:=beq_iff_eq.mpr c11;have c11b1:(a0_0 != 3) = false:=bne_eq_false_iff_eq.mpr c11;clear c11;obtain rfl:=Option.some.inj H;obtain ⟨hcz12_0,hcz12_1,hcz12_2,hcz12_3,hcz12_4⟩:=kb5 BK237.out
     go_wp2
     go_ret
     exact ⟨_,cl,by first|exact Kd.R_nil _ _ _ _ _|exact Kd.N_nil _ _ _ _ _|exact Kd.V_nil _ _ _ _ _|exact Kd.Q_nil _ _ _ _ _|exact Kd.S_nil _ _ _ _ _,bl HB.out⟩
    ·rw [if_neg c11] at H
     have c11b0:(a0_0 == 3) = false:=beq_eq_false_iff_ne.mpr c11;have c11b1:(a0_0 != 3) = true:=bne_iff_ne.mpr c11;have H':=Aside0.mk H;clear H;obtain ⟨hcz13_0,hcz13_1,hcz13_2,hcz13_3,hcz13_4⟩:=kb5 BK237.out
     go_wp2
     go_loopg [3,23] kj1 (fun kq v3 v23 w'=>∃ (x3_2:List ByteArray) (x23_2:Int),v23 = .int .i64 x23_2∧Aside0 (impl_VarsOf.l0 kq x3_2 l0_3 (l0_3.length:Int) x23_2 = some r)∧Aside0 (kq≤kj1)∧Aside0 (Kd.R Kd.string 9 w' w.heap.size (fun _=>True) v3 x3_2)∧Aside0 (w'.heap[gb237]? = some (.cells #[.int .i64 a0_0,.int .i64 a0_1,.string a0_2,(.slice A0_3 l0_3.length c0_3),(.slice A0_4 l0_4.length c0_4)] 32 (0,0)))∧Aside0 (Below w.heap.size w w'))
     case atStart=>exact ⟨(([]:List ByteArray)),(0),(cl2),H',⟨Nat.le_refl _⟩,⟨by first|exact Kd.R_nil _ _ _ _ _|exact Kd.N_nil _ _ _ _ _|exact Kd.V_nil _ _ _ _ _|exact Kd.Q_nil _ _ _ _ _|exact Kd.S_nil _ _ _ _ _⟩,⟨bk BK237.out⟩,⟨bl HB.out⟩⟩
     case round =>
      clear H';(try clear c1);(try clear p2);(try clear c4);(try clear c4b0);(try clear c4b1);(try clear c4b2);(try clear c7);(try clear c11);(try clear c11b0);(try clear c11b1);(try clear hcz12_0);(try clear hcz12_1);(try clear hcz12_2);(try clear hcz12_3);(try clear hcz12_4);(try clear hcz13_0);(try clear hcz13_1);(try clear hcz13_2);(try clear hcz13_3);(try clear hcz13_4);(try clear hcz5_0);(try clear hcz5_1);(try clear hcz5_2);(try clear hcz5_3);(try clear hcz5_4);(try clear hcz6_0);(try clear hcz6_1);(try clear hcz6_2);(try clear hcz6_3);(try clear hcz6_4);(try clear hcz8_0);(try clear hcz8_1);(try clear hcz8_2);(try clear hcz8_3);(try clear hcz8_4);(try clear hfz12_0);(try clear hfz12_1);(try clear hfz12_2);(try clear hfz12_3);(try clear hfz12_4);(try clear hfz13_0);(try clear hfz13_1);(try clear hfz13_2);(try clear hfz13_3);(try clear hfz13_4);(try clear hfz5_0);(try clear hfz5_1);(try clear hfz5_2);(try clear hfz5_3);(try clear hfz5_4);(try clear hfz6_0);(try clear hfz6_1);(try clear hfz6_2);(try clear hfz6_3);(try clear hfz6_4);(try clear hfz8_0);(try clear hfz8_1);(try clear hfz8_2);(try clear hfz8_3);(try clear hfz8_4);(try clear p2);(try clear HO_3);(try clear BK237);(try clear HB);obtain ⟨x3_2,x23_2,rfl,HA,HK2,HO_3,BK237,HB⟩:=hrel
      cases gk with
      | zero=>exact absurd HA.out (by simp [impl_VarsOf.l0])
      | succ k2 =>
       have H:=HA.out;clear HA;simp only [impl_VarsOf.l0] at H
       by_cases c14:x23_2 < (l0_3.length:Int)
       ·rw [if_pos c14] at H
        have c14b0:decide (x23_2 < (l0_3.length:Int)) = true:=decide_eq_true c14;clear c14
        by_cases c15:0≤x23_2
        ·rw [if_pos c15] at H
         have c15b0:decide (0≤x23_2) = true:=decide_eq_true c15;clear c15
         by_cases c16:x23_2 < (l0_3.length:Int)
         ·rw [if_pos c16] at H
          have c16b0:decide (x23_2 < (l0_3.length:Int)) = true:=decide_eq_true c16;clear c16;replace H:=Option.bind_eq_some_iff.mp H;obtain ⟨t243,A170,H⟩:=H;replace H:(if x3_2.length + t243.length < 8796093022208 then (impl_VarsOf.l0 k2 (x3_2 ++ t243) l0_3 (l0_3.length:Int) (wrap64 (x23_2 + 1))) else (none)) = some r:=H;have A17:=Aside0.mk A170;clear A170
          by_cases c18:x3_2.length + t243.length < 8796093022208
          ·rw [if_pos c18] at H
           have LMc18:=Aside0.mk c18;clear c18;obtain ⟨y246,hy246⟩:∃ y_:List ByteArray,y_ = (x3_2 ++ t243):=⟨_,rfl⟩;replace H:(impl_VarsOf.l0 k2 y246 l0_3 (l0_3.length:Int) (wrap64 (x23_2 + 1))) = some r:=by first|(rw [hy246];with_reducible exact H)|(have H2_:=(Option.bind_some _ _).symm.trans H;rw [hy246];with_reducible exact H2_)|(have H2_:=(Option.bind_some _ _).symm.trans H;with_reducible exact H2_)|with_reducible exact H|(rw [hy246];exact H)|exact H
           have Ny246:=Aside0.mk hy246;clear hy246;have H':=Aside0.mk H;clear H;have p241:0≤(x23_2:Int):=od;have q241:x23_2 < (l0_3.length:Int):=od;obtain ⟨ad241,A241_3,c241_3,A241_4,c241_4,e241,hx241_0,hx241_1,hx241_2,hx241_3,hx241_4,hl241_3,hi241_3,hl241_4,hi241_4⟩:=at_T32 HR0_3.out x23_2 p241 q241;cases e241;replace hx241_0:=cb HB hx241_0;replace hx241_1:=cb HB hx241_1;replace hx241_2:=cb HB hx241_2;replace hx241_3:=cb HB hx241_3;replace hx241_4:=cb HB hx241_4;have HR241_3:=Aside0.mk hi241_3;have HC241_3:=Aside0.mk hl241_3;clear hi241_3 hl241_3;have HR241_4:=Aside0.mk hi241_4;have HC241_4:=Aside0.mk hl241_4;clear hi241_4 hl241_4;replace p241:=eq_true p241;replace q241:=eq_true q241
           go_wp2_with (first|((with_reducible refine gate_dst (N:=5) rfl ?_);refine box_event ?hg (N:=5) ?hd (cs:=#[.int .i64 0,.int .i64 0,.string (⟨#[]⟩:ByteArray),.slice none 0 0,.slice none 0 0]) (t:=32) ?hr ?_;(case hd=>rfl);(case hg=>rfl);(case hr=>first|(go_simp;done)|(go_simp;rfl));intro gb242 hg w19 hbox hb;have n_:=ai (Aside0.mk (Kd.R_below (rk HO_3.out) hb)) <| ai (bw BK237 hb) <| ai (bq HB hb) <| ai (Aside0.mk (hbox)) <| ai (bz hg HB) <| ai (bz hg HB) <| ai (nl hg BK237) <| ng hg BK237;clear HO_3 BK237 HB;obtain ⟨HO_3,BK237,HB,BK242,GW242,GE242,NB237_242,NB242_237⟩:=n_;clear hb hbox hg;have hnb20:=NB242_237.out;have hnc20:=NB237_242.out;obtain ⟨hcz21_0,hcz21_1,hcz21_2,hcz21_3,hcz21_4⟩:=kb5 BK242.out;obtain ⟨hfz21_0,hfz21_1,hfz21_2,hfz21_3,hfz21_4⟩:=kz5 BK242.out)|((with_reducible refine gate_callee (f:=19) rfl ?_);refine goesL_ (some 29) rfl rfl Try.func19 (by kernel_rfl) rfl #[.agg #[.int .i64 ((rd_T32 l0_3 x23_2).f0),.int .i64 ((rd_T32 l0_3 x23_2).f1),.string ((rd_T32 l0_3 x23_2).f2),.slice A241_3 ((rd_T32 l0_3 x23_2).f3).length c241_3,.slice A241_4 ((rd_T32 l0_3 x23_2).f4).length c241_4]] rfl gs ?_;(with_reducible refine (ih k2 (by have:=HJ1.out;have:=HK2.out;omega) ((rd_T32 l0_3 x23_2).f0) ((rd_T32 l0_3 x23_2).f1) ((rd_T32 l0_3 x23_2).f2) _ _ ((rd_T32 l0_3 x23_2).f3) _ _ ((rd_T32 l0_3 x23_2).f4) t243 _ ?side1 ?side2 ?side3 ?side4 A17.out).mono ?_);(case side1=>exact Kd.C_below HR241_3.out (bl HB.out));(case side2=>exact HC241_3.out);(case side3=>exact Kd.C_below HR241_4.out (bl HB.out));(case side4=>exact HC241_4.out);rintro e w22 ⟨v244,rfl,ho0,hb⟩;refine ⟨_,rfl,?_⟩;have n_:=ai (Aside0.mk (Kd.R_elder' (by (with_reducible repeat (first|apply Kd.R_alloc|apply Kd.R_drewN|apply Kd.R_drew));exact (Kd.R_mono (Kd.R_far (p:=⟨gb242,4,none⟩) (Kd.R_far (p:=⟨gb242,3,none⟩) (Kd.R_far (p:=⟨gb242,2,none⟩) (Kd.R_far (p:=⟨gb242,1,none⟩) (Kd.R_far (p:=⟨gb242,0,none⟩) (Kd.R_types HO_3.out BK242.out (by decide)) (fun _ hk=>hk.2) (.int .i64 ((rd_T32 l0_3 x23_2).f0))) (fun _ hk=>hk.2) (.int .i64 ((rd_T32 l0_3 x23_2).f1))) (fun _ hk=>hk.2) (.string ((rd_T32 l0_3 x23_2).f2))) (fun _ hk=>hk.2) (.slice A241_3 ((rd_T32 l0_3 x23_2).f3).length c241_3)) (fun _ hk=>hk.2) (.slice A241_4 ((rd_T32 l0_3 x23_2).f4).length c241_4)) (fun _ h_=>h_.1))) (Kd.R_base ho0) hb)) <| ai (Aside0.mk (Kd.R_lower (Kd.R_new' ho0 (Kd.R_lt (by (with_reducible repeat (first|apply Kd.R_alloc|apply Kd.R_drewN|apply Kd.R_drew));exact (Kd.R_mono (Kd.R_far (p:=⟨gb242,4,none⟩) (Kd.R_far (p:=⟨gb242,3,none⟩) (Kd.R_far (p:=⟨gb242,2,none⟩) (Kd.R_far (p:=⟨gb242,1,none⟩) (Kd.R_far (p:=⟨gb242,0,none⟩) (Kd.R_types HO_3.out BK242.out (by decide)) (fun _ hk=>hk.2) (.int .i64 ((rd_T32 l0_3 x23_2).f0))) (fun _ hk=>hk.2) (.int .i64 ((rd_T32 l0_3 x23_2).f1))) (fun _ hk=>hk.2) (.string ((rd_T32 l0_3 x23_2).f2))) (fun _ hk=>hk.2) (.slice A241_3 ((rd_T32 l0_3 x23_2).f3).length c241_3)) (fun _ hk=>hk.2) (.slice A241_4 ((rd_T32 l0_3 x23_2).f4).length c241_4)) (fun _ h_=>h_.1))))) (below_size (bl HB.out)))) <| ai (Aside0.mk (blk_below (g:=gb237) (o:=.cells #[.int .i64 a0_0,.int .i64 a0_1,.string a0_2,.slice (some ad241) l0_3.length c0_3,.slice A0_4 l0_4.length c0_4] 32 (0,0)) (by (with_reducible repeat (first|refine blk_drewN ?_ _|refine blk_drew ?_|refine blk_alloc ?_ _));refine blk_far ?_ NB237_242.out _;(with_reducible repeat (first|refine blk_drewN ?_ _|refine blk_drew ?_|refine blk_alloc ?_ _));refine blk_far ?_ NB237_242.out _;(with_reducible repeat (first|refine blk_drewN ?_ _|refine blk_drew ?_|refine blk_alloc ?_ _));refine blk_far ?_ NB237_242.out _;(with_reducible repeat (first|refine blk_drewN ?_ _|refine blk_drew ?_|refine blk_alloc ?_ _));refine blk_far ?_ NB237_242.out _;(with_reducible repeat (first|refine blk_drewN ?_ _|refine blk_drew ?_|refine blk_alloc ?_ _));refine blk_far ?_ NB237_242.out _;(with_reducible repeat (first|refine blk_drewN ?_ _|refine blk_drew ?_|refine blk_alloc ?_ _));exact BK237.out) hb)) <| ai (Aside0.mk (blk_below (g:=gb242) (o:=.cells #[.int .i64 ((rd_T32 l0_3 x23_2).f0),.int .i64 ((rd_T32 l0_3 x23_2).f1),.string ((rd_T32 l0_3 x23_2).f2),.slice A241_3 ((rd_T32 l0_3 x23_2).f3).length c241_3,.slice A241_4 ((rd_T32 l0_3 x23_2).f4).length c241_4] 32 (0,0)) (by (with_reducible repeat (first|refine blk_drewN ?_ _|refine blk_drew ?_|refine blk_alloc ?_ _));refine blk_put (cs:=#[.int .i64 ((rd_T32 l0_3 x23_2).f0),.int .i64 ((rd_T32 l0_3 x23_2).f1),.string ((rd_T32 l0_3 x23_2).f2),.slice A241_3 ((rd_T32 l0_3 x23_2).f3).length c241_3,.slice none 0 0]) ?_ 4 _ rfl;(with_reducible repeat (first|refine blk_drewN ?_ _|refine blk_drew ?_|refine blk_alloc ?_ _));refine blk_put (cs:=#[.int .i64 ((rd_T32 l0_3 x23_2).f0),.int .i64 ((rd_T32 l0_3 x23_2).f1),.string ((rd_T32 l0_3 x23_2).f2),.slice none 0 0,.slice none 0 0]) ?_ 3 _ rfl;(with_reducible repeat (first|refine blk_drewN ?_ _|refine blk_drew ?_|refine blk_alloc ?_ _));refine blk_put (cs:=#[.int .i64 ((rd_T32 l0_3 x23_2).f0),.int .i64 ((rd_T32 l0_3 x23_2).f1),.string (⟨#[]⟩:ByteArray),.slice none 0 0,.slice none 0 0]) ?_ 2 _ rfl;(with_reducible repeat (first|refine blk_drewN ?_ _|refine blk_drew ?_|refine blk_alloc ?_ _));refine blk_put (cs:=#[.int .i64 ((rd_T32 l0_3 x23_2).f0),.int .i64 0,.string (⟨#[]⟩:ByteArray),.slice none 0 0,.slice none 0 0]) ?_ 1 _ rfl;(with_reducible repeat (first|refine blk_drewN ?_ _|refine blk_drew ?_|refine blk_alloc ?_ _));refine blk_put (cs:=#[.int .i64 0,.int .i64 0,.string (⟨#[]⟩:ByteArray),.slice none 0 0,.slice none 0 0]) ?_ 0 _ rfl;(with_reducible repeat (first|refine blk_drewN ?_ _|refine blk_drew ?_|refine blk_alloc ?_ _));exact BK242.out) hb)) <| bq HB hb;clear HO_3 BK237 BK242 HB;obtain ⟨HO_3,HO245,BK237,BK242,HB⟩:=n_;(try clear hb);(try clear hb2);(try clear hk);(try clear hi);(try clear ho0);obtain ⟨Ao24,co24,eo24⟩:=Kd.R_slice HO245.out;subst eo24)|((with_reducible refine gate_builtin (b:=.append) (xs:=#[.tmp 27,.tmp 29]) rfl ?_);at_builtin;refine Kd.R_append_rows Kd.string (w0:=w) w.heap.size rfl (.tmp 27) (.tmp 29) 27 9 (.string ⟨#[]⟩) 16 rfl Try.underlying27 info9 rfl (by decide) (by omega) u3 x3_2 t243 _ _ _ (fun k_=>some k_≠(.slice Ao24 t243.length co24:Value).ownBlock) (fun _=>False) rfl rfl ?aO ?aR (fun _ _ h=>h) (fun _ h=>h.elim) ?aF ?aB ?aS ?aL ?_;(case aR=>repeat (first|exact (Kd.R_reads' HO245.out).2.2|(with_reducible refine Kd.C_alloc ?_ _)|(with_reducible refine Kd.C_drewN ?_ _)|(with_reducible refine Kd.C_drew ?_)));(case aB=>exact (bl HB.out));(case aF=>exact (fun k_ hk=>Kd.fresh' (Kd.R_lt (rk HO245.out)) k_ hk));(case aO=>exact (by (with_reducible repeat (first|apply Kd.R_alloc|apply Kd.R_drewN|apply Kd.R_drew));exact Kd.R_mono HO_3.out (fun _ hk=>hk.2)));(case aS=>exact (below_size (bl HB.out)));(case aL=>have:=LMc18.out;omega);intro v247 w23 ho hb hg hat;rw [← Ny246.out] at ho;have n_:=ai (Aside0.mk (blk_grown (g:=gb237) (o:=.cells #[.int .i64 a0_0,.int .i64 a0_1,.string a0_2,.slice (some ad241) l0_3.length c0_3,.slice A0_4 l0_4.length c0_4] 32 (0,0)) (bk BK237.out) hg (Kd.R_ne HO_3.out BK237.out (by decide)))) <| ai (Aside0.mk (blk_grown (g:=gb242) (o:=.cells #[.int .i64 ((rd_T32 l0_3 x23_2).f0),.int .i64 ((rd_T32 l0_3 x23_2).f1),.string ((rd_T32 l0_3 x23_2).f2),.slice A241_3 ((rd_T32 l0_3 x23_2).f3).length c241_3,.slice A241_4 ((rd_T32 l0_3 x23_2).f4).length c241_4] 32 (0,0)) (bk BK242.out) hg (Kd.R_ne HO_3.out BK242.out (by decide)))) <| ai (Aside0.mk (Kd.R_after (ok:=(fun _=>True)) (rk HO245.out) hg hat)) <| ai (Aside0.mk (hb)) <| Aside0.mk (ho);clear BK237 BK242 HO245 HB HO_3;obtain ⟨BK237,BK242,HO245,HB,HO248⟩:=n_;clear ho hb hg hat))
           go_roundg k2
           case measure=>have:=HJ1.out;have:=HK2.out;omega
           case rel=>exact ⟨(y246),(wrap64 (x23_2 + 1)),(cl2),H',⟨by have:=HJ1.out;have:=HK2.out;omega⟩,⟨by (with_reducible repeat (first|apply Kd.R_alloc|apply Kd.R_drewN|apply Kd.R_drew));exact Kd.R_mono HO248.out (fun _ hk=>trivial)⟩,⟨bk BK237.out⟩,⟨bl HB.out⟩⟩
          ·rw [if_neg c18] at H
           exact absurd H (by simp)
         ·rw [if_neg c16] at H
          exact absurd H (by simp)
        ·rw [if_neg c15] at H
         exact absurd H (by simp)
       ·rw [if_neg c14] at H
        have c14b0:decide (x23_2 < (l0_3.length:Int)) = false:=decide_eq_false c14;clear c14;obtain rfl:=Option.some.inj H
        go_wp2
        go_ret
        exact ⟨_,cl,rk HO_3.out,bl HB.out⟩

end Go.Proofs.Ytlgenmndgngmdaa.QFnExactFreeOf
