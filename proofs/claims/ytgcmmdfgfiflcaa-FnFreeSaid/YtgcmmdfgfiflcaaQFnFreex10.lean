import Derived.Test.YtgcmmdfgfiflcaaQFnFreex0
import Derived.Test.YtgcmmdfgfiflcaaQFnFreex5
import Derived.Test.YtgcmmdfgfiflcaaQFnFreex1
namespace Go.Proofs.Ytgcmmdfgfiflcaa.QFnFree
open Go.RowKit Go.Proofs.YtgcmmdfgfiflcaaW.PrintWords Go.Proofs.YtgcmmdfgfiflcaaW.PrintLast Go.Proofs.YtgcmmdfgfiflcaaW.PrintMore
attribute [local go_sem] max2_int min2_int max_two min_two max_three min_three max_four min_four
set_option linter.unusedVariables false
set_option linter.unusedSimpArgs false
set_option maxHeartbeats 8000000
set_option maxRecDepth 100000
mutual
def impl_FreeOf.l0:Nat→List ByteArray→List (S27)→Int→Int→Int→Int→ByteArray→List (S27)→List (S33)→Option (List ByteArray)
 | 0,_,_,_,_,_,_,_,_,_=>none
 | k + 1,x3,x18,x19,x20,x553000,x553001,x553002,x553003,x553004=>if x20 < x19 then (if 0≤x20 then (if x20 < (x18.length:Int) then ((impl_FreeOf.f k ((rd_T27 x18 x20).f0) ((rd_T27 x18 x20).f1) ((rd_T27 x18 x20).f2) ((rd_T27 x18 x20).f3) ((rd_T27 x18 x20).f4)).bind fun t558=>((impl_addOnce.f k x3 t558).bind fun t561=>(impl_FreeOf.l0 k t561 x18 x19 (wrap64 (x20 + 1)) x553000 x553001 x553002 x553003 x553004))) else (none)) else (none)) else (impl_FreeOf.l1 k x3 x553004 (x553004.length:Int) 0)
def impl_FreeOf.l1:Nat→List ByteArray→List (S33)→Int→Int→Option (List ByteArray)
 | 0,_,_,_,_=>none
 | k + 1,x3,x30,x31,x32=>if x32 < x31 then (if 0≤x32 then (if x32 < (x30.length:Int) then ((impl_VarsOf.f k ((rd_T33 x30 x32).f0.f0) ((rd_T33 x30 x32).f0.f1) ((rd_T33 x30 x32).f0.f2) ((rd_T33 x30 x32).f0.f3) ((rd_T33 x30 x32).f0.f4)).bind fun t566=>((impl_FreeOf.f k ((rd_T33 x30 x32).f1.f0) ((rd_T33 x30 x32).f1.f1) ((rd_T33 x30 x32).f1.f2) ((rd_T33 x30 x32).f1.f3) ((rd_T33 x30 x32).f1.f4)).bind fun t569=>(impl_FreeOf.l2 k x3 t566 x30 x31 x32 t569 (t569.length:Int) 0))) else (none)) else (none)) else (some x3)
def impl_FreeOf.l2:Nat→List ByteArray→List ByteArray→List (S33)→Int→Int→List ByteArray→Int→Int→Option (List ByteArray)
 | 0,_,_,_,_,_,_,_,_=>none
 | k + 1,x3,x8,x30,x31,x32,x41,x42,x43=>if x43 < x42 then (if 0≤x43 then (if x43 < (x41.length:Int) then ((slices_Contains_string_string.f k x8 (rdOf ByteArray.empty x41 x43)).bind fun t573=>(if t573=true then (impl_FreeOf.l2 k x3 x8 x30 x31 x32 x41 x42 (wrap64 (x43 + 1))) else ((impl_addOnce.f k x3 (([rdOf ByteArray.empty x41 x43]:List ByteArray))).bind fun t577=>(impl_FreeOf.l2 k t577 x8 x30 x31 x32 x41 x42 (wrap64 (x43 + 1)))))) else (none)) else (none)) else (impl_FreeOf.l1 k x3 x30 x31 (wrap64 (x32 + 1)))
def impl_FreeOf.f:Nat→Int→Int→ByteArray→List (S27)→List (S33)→Option (List ByteArray)
 | 0,_,_,_,_,_=>none
 | k + 1,a0_0,a0_1,a0_2,l0_3,l0_4=>if a0_0=3 then (some (([a0_2]:List ByteArray))) else (impl_FreeOf.l0 k ([]:List ByteArray) l0_3 (l0_3.length:Int) 0 a0_0 a0_1 a0_2 l0_3 l0_4)
end
theorem impl_FreeOf.mono_l:∀ k,(∀ y0 y1 y2 y3 y4,LeO (impl_FreeOf.f k y0 y1 y2 y3 y4) (impl_FreeOf.f (k + 1) y0 y1 y2 y3 y4))∧(∀ y0 y1 y2 y3 y4 y5 y6 y7 y8,LeO (impl_FreeOf.l0 k y0 y1 y2 y3 y4 y5 y6 y7 y8) (impl_FreeOf.l0 (k + 1) y0 y1 y2 y3 y4 y5 y6 y7 y8))∧(∀ y0 y1 y2 y3,LeO (impl_FreeOf.l1 k y0 y1 y2 y3) (impl_FreeOf.l1 (k + 1) y0 y1 y2 y3))∧(∀ y0 y1 y2 y3 y4 y5 y6 y7,LeO (impl_FreeOf.l2 k y0 y1 y2 y3 y4 y5 y6 y7) (impl_FreeOf.l2 (k + 1) y0 y1 y2 y3 y4 y5 y6 y7))
 | 0=>⟨fun _ _ _ _ _ r h=>by simp [impl_FreeOf.f] at h,fun _ _ _ _ _ _ _ _ _ r h=>by simp [impl_FreeOf.l0] at h,fun _ _ _ _ r h=>by simp [impl_FreeOf.l1] at h,fun _ _ _ _ _ _ _ _ r h=>by simp [impl_FreeOf.l2] at h⟩
 | k + 1=>by
  obtain ⟨ih0,ih1,ih2,ih3⟩:=impl_FreeOf.mono_l k
  refine ⟨?_,?_,?_,?_⟩
  ·intro y0 y1 y2 y3 y4
   unfold impl_FreeOf.f
   with_reducible repeat' first|apply ih0|apply ih1|apply ih2|apply ih3|apply impl_VarsOf.mono|apply impl_addOnce.mono|apply slices_Contains_string_string.mono|apply LeO.refl|apply LeO.none|apply LeO.ite|refine LeO.bind ?_ (fun _=>?_)
  ·intro y0 y1 y2 y3 y4 y5 y6 y7 y8
   unfold impl_FreeOf.l0
   with_reducible repeat' first|apply ih0|apply ih1|apply ih2|apply ih3|apply impl_VarsOf.mono|apply impl_addOnce.mono|apply slices_Contains_string_string.mono|apply LeO.refl|apply LeO.none|apply LeO.ite|refine LeO.bind ?_ (fun _=>?_)
  ·intro y0 y1 y2 y3
   unfold impl_FreeOf.l1
   with_reducible repeat' first|apply ih0|apply ih1|apply ih2|apply ih3|apply impl_VarsOf.mono|apply impl_addOnce.mono|apply slices_Contains_string_string.mono|apply LeO.refl|apply LeO.none|apply LeO.ite|refine LeO.bind ?_ (fun _=>?_)
  ·intro y0 y1 y2 y3 y4 y5 y6 y7
   unfold impl_FreeOf.l2
   with_reducible repeat' first|apply ih0|apply ih1|apply ih2|apply ih3|apply impl_VarsOf.mono|apply impl_addOnce.mono|apply slices_Contains_string_string.mono|apply LeO.refl|apply LeO.none|apply LeO.ite|refine LeO.bind ?_ (fun _=>?_)
theorem impl_FreeOf.mono:∀ a0 a1 a2 a3 a4 k,LeO (impl_FreeOf.f k a0 a1 a2 a3 a4) (impl_FreeOf.f (k + 1) a0 a1 a2 a3 a4):=by
 intro a0 a1 a2 a3 a4 k;obtain ⟨ih0,ih1,ih2,ih3⟩:=impl_FreeOf.mono_l k
 exact ih0 a0 a1 a2 a3 a4
theorem impl_FreeOf.calls (k:Nat):∀ (a0_0:Int) (a0_1:Int) (a0_2:ByteArray) (A0_3:Option Addr) (c0_3:Nat) (l0_3:List (S27)) (A0_4:Option Addr) (c0_4:Nat) (l0_4:List (S33)) (r:List ByteArray) (w:World) (hr0_3:Kd.C k27 w A0_3 l0_3.length l0_3) (hc0_3:l0_3.length≤c0_3) (hr0_4:Kd.C k33 w A0_4 l0_4.length l0_4) (hc0_4:l0_4.length≤c0_4) (h:impl_FreeOf.f k a0_0 a0_1 a0_2 l0_3 l0_4=some r),
  Calls Try.prog 6 #[.agg #[.int .i64 a0_0,.int .i64 a0_1,.string a0_2,.slice A0_3 l0_3.length c0_3,.slice A0_4 l0_4.length c0_4]] w fun e w'=>∃ v0_:Value,e=.returned (v0_)∧Kd.R Kd.string 9 w' w.heap.size (fun _=>True) v0_ r∧Below w.heap.size w w':=by
 induction k using Nat.strongRecOn with
 | _ k ih =>
 intro a0_0 a0_1 a0_2 A0_3 c0_3 l0_3 A0_4 c0_4 l0_4 r w hr0_3 hc0_3 hr0_4 hc0_4 h
 cases k with
 | zero=>exact absurd h (by simp [impl_FreeOf.f])
 | succ k =>
 simp only [impl_FreeOf.f] at h;have hu27:=Try.underlying27;have hu33:=Try.underlying33;have HR0_3:=Aside0.mk hr0_3;have HC0_3:=Aside0.mk hc0_3;clear hr0_3 hc0_3;have HR0_4:=Aside0.mk hr0_4;have HC0_4:=Aside0.mk hc0_4;clear hr0_4 hc0_4;have HB:=Aside0.mk (Below.refl w.heap.size w);have H:(if a0_0=3 then (some (([a0_2]:List ByteArray))) else (impl_FreeOf.l0 k ([]:List ByteArray) l0_3 (l0_3.length:Int) 0 a0_0 a0_1 a0_2 l0_3 l0_4))=some r:=h;clear h
 by_cases c2:a0_0=3
 ·rw [if_pos c2] at H
  have c2b0:(a0_0 == 3)=true:=beq_iff_eq.mpr c2;have c2b1:(a0_0 != 3)=false:=bne_eq_false_iff_eq.mpr c2;clear c2;obtain ⟨y553,hy553⟩:∃ y_:List ByteArray,y_=(([a0_2]:List ByteArray)):=⟨_,rfl⟩;replace H:(some y553)=some r:=hw hy553 H
  have Ny553:=Aside0.mk hy553;clear hy553;obtain rfl:=Option.some.inj H
  go_enter Try.func6,Try.ntmps6
  go_wp2_with (first|((with_reducible refine gate_dst (N:=1) rfl ?_);refine box_event ?hg (N:=1) ?hd (cs:=#[.int .i64 a0_0,.int .i64 a0_1,.string a0_2,.slice A0_3 l0_3.length c0_3,.slice A0_4 l0_4.length c0_4]) (t:=27) ?hr ?_;(case hd|hg=>rfl);(case hr=>first|(go_simp;done)|(go_simp;rfl));intro gb552 hg w3 hbox hb;have n_:=ai (bq HB hb)<|aj (hbox)<|ai (bz hg HB)<|bz hg HB;clear HB;obtain ⟨HB,BK552,GW552,GE552⟩:=n_;clear hb hbox hg;obtain ⟨h4_0,h4_1,h4_2,h4_3,h4_4⟩:=kb5 BK552.out;obtain ⟨z4_0,z4_1,z4_2,z4_3,z4_4⟩:=kz5 BK552.out)|((with_reducible refine gate_dst (N:=16) rfl ?_);refine Kd.R_lit Kd.string _ 9 ?hg (N:=16) ?hd (xs:=([a0_2]:List ByteArray)) (inner:=[.string a0_2]) (ok:=fun _=>True) (okp:=fun _=>True) ?hr ?hp (fun _ hk=>hk) trivial (Below.refl _ _) (Nat.le_refl _) (by simp) ?_;(case hd|hg=>rfl);(case hr=>first|(go_simp;done)|(go_simp;rfl));(case hp=>exact (Reps.one (show Kd.M Kd.string _ _ _ a0_2 [.string a0_2] from rfl) (Reps.none _ _)));intro v554 w5 ho6 hb hg_ hnew_;clear hg_ hnew_;(first|rw [← Ny553.out] at ho6|(simp only [Int.reduceToNat] at ho6;rw [← Ny553.out] at ho6));have n_:=aj (Kd.R_lower ho6 (below_size (bl HB.out)))<|ai (bw BK552 hb)<|bq HB hb;clear BK552 HB;obtain ⟨HO555,BK552,HB⟩:=n_;clear hb ho6))
  go_ret
  exact ⟨_,cl,rk HO555.out,bl HB.out⟩
 ·rw [if_neg c2] at H
  have c2b0:(a0_0 == 3)=false:=beq_eq_false_iff_ne.mpr c2;have c2b1:(a0_0 != 3)=true:=bne_iff_ne.mpr c2;have H':=Aside0.mk H;clear H
  go_enter Try.func6,Try.ntmps6
  go_wp2_with (first|((with_reducible refine gate_dst (N:=1) rfl ?_);refine box_event ?hg (N:=1) ?hd (cs:=#[.int .i64 a0_0,.int .i64 a0_1,.string a0_2,.slice A0_3 l0_3.length c0_3,.slice A0_4 l0_4.length c0_4]) (t:=27) ?hr ?_;(case hd|hg=>rfl);(case hr=>first|(go_simp;done)|(go_simp;rfl));intro gb552 hg w7 hbox hb;have n_:=ai (bq HB hb)<|aj (hbox)<|ai (bz hg HB)<|bz hg HB;clear HB;obtain ⟨HB,BK552,GW552,GE552⟩:=n_;clear hb hbox hg;obtain ⟨h8_0,h8_1,h8_2,h8_3,h8_4⟩:=kb5 BK552.out;obtain ⟨z8_0,z8_1,z8_2,z8_3,z8_4⟩:=kz5 BK552.out))
  go_loopg [3,20] k (fun kq v3 v20 w'=>∃ (x3_1:List ByteArray) (x20_1:Int),v20=.int .i64 x20_1∧Aside0 (impl_FreeOf.l0 kq x3_1 l0_3 (l0_3.length:Int) x20_1 a0_0 a0_1 a0_2 l0_3 l0_4=some r)∧Aside0 (kq≤k)∧Aside0 (Kd.R Kd.string 9 w' w.heap.size (fun _=>True) v3 x3_1)∧Aside0 (w'.heap[gb552]?=some (.cells #[.int .i64 a0_0,.int .i64 a0_1,.string a0_2,(.slice A0_3 l0_3.length c0_3),(.slice A0_4 l0_4.length c0_4)] 27 (0,0)))∧Aside0 (Below w.heap.size w w'))
  case atStart=>exact ⟨(([]:List ByteArray)),(0),(cl2),H',⟨Nat.le_refl _⟩,⟨by first|exact Kd.R_nil _ _ _ _ _|exact Kd.N_nil _ _ _ _ _|exact Kd.V_nil _ _ _ _ _|exact Kd.Q_nil _ _ _ _ _|exact Kd.S_nil _ _ _ _ _⟩,⟨bk BK552.out⟩,⟨bl HB.out⟩⟩
  case round =>
   clear H';(try clear c2);(try clear c2b0);(try clear c2b1);(try clear h8_0 h8_1 h8_2 h8_3 h8_4);(try clear z8_0 z8_1 z8_2 z8_3 z8_4);(try clear BK552);(try clear HB);obtain ⟨x3_1,x20_1,rfl,HA,HK1,HO_3,BK552,HB⟩:=hrel
   cases gk with
   | zero=>exact absurd HA.out (by simp [impl_FreeOf.l0])
   | succ k1 =>
    have H:=HA.out;clear HA;simp only [impl_FreeOf.l0] at H
    by_cases c9:x20_1 < (l0_3.length:Int)
    ·rw [if_pos c9] at H
     have c9b0:decide (x20_1 < (l0_3.length:Int))=true:=decide_eq_true c9;clear c9
     by_cases c10:0≤x20_1
     ·rw [if_pos c10] at H
      have c10b0:decide (0≤x20_1)=true:=decide_eq_true c10;clear c10
      by_cases c11:x20_1 < (l0_3.length:Int)
      ·rw [if_pos c11] at H
       have c11b0:decide (x20_1 < (l0_3.length:Int))=true:=decide_eq_true c11;clear c11;replace H:=bs H;obtain ⟨t558,A120,H⟩:=H;replace H:((impl_addOnce.f k1 x3_1 t558).bind fun t561=>(impl_FreeOf.l0 k1 t561 l0_3 (l0_3.length:Int) (wrap64 (x20_1 + 1)) a0_0 a0_1 a0_2 l0_3 l0_4))=some r:=H;have A12:=Aside0.mk A120;clear A120;replace H:=bs H;obtain ⟨t561,A130,H⟩:=H;replace H:(impl_FreeOf.l0 k1 t561 l0_3 (l0_3.length:Int) (wrap64 (x20_1 + 1)) a0_0 a0_1 a0_2 l0_3 l0_4)=some r:=H;have A13:=Aside0.mk A130;clear A130;have H':=Aside0.mk H;clear H;have p556:0≤(x20_1:Int):=od;have q556:x20_1 < (l0_3.length:Int):=od;obtain ⟨ad556,A556_3,c556_3,A556_4,c556_4,e556,hx556_0,hx556_1,hx556_2,hx556_3,hx556_4,hl556_3,hi556_3,hl556_4,hi556_4⟩:=at_T27 HR0_3.out x20_1 p556 q556;cases e556;replace hx556_0:=cb HB hx556_0;replace hx556_1:=cb HB hx556_1;replace hx556_2:=cb HB hx556_2;replace hx556_3:=cb HB hx556_3;replace hx556_4:=cb HB hx556_4;have HR556_3:=Aside0.mk hi556_3;have HC556_3:=Aside0.mk hl556_3;clear hi556_3 hl556_3;have HR556_4:=Aside0.mk hi556_4;have HC556_4:=Aside0.mk hl556_4;clear hi556_4 hl556_4;replace p556:=eq_true p556;replace q556:=eq_true q556
       go_wp2_with (first|((with_reducible refine gate_dst (N:=5) rfl ?_);refine box_event ?hg (N:=5) ?hd (cs:=#[.int .i64 0,.int .i64 0,.string (⟨#[]⟩:ByteArray),.slice none 0 0,.slice none 0 0]) (t:=27) ?hr ?_;(case hd|hg=>rfl);(case hr=>first|(go_simp;done)|(go_simp;rfl));intro gb557 hg w14 hbox hb;have n_:=ai (rwm HO_3 hb)<|ai (bw BK552 hb)<|ai (bq HB hb)<|aj (hbox)<|ai (bz hg HB)<|ai (bz hg HB)<|ai (nl hg BK552)<|ng hg BK552;clear HO_3 BK552 HB;obtain ⟨HO_3,BK552,HB,BK557,GW557,GE557,NB552_557,NB557_552⟩:=n_;clear hb hbox hg;have:=NB557_552.out;have:=NB552_557.out;obtain ⟨h16_0,h16_1,h16_2,h16_3,h16_4⟩:=kb5 BK557.out;obtain ⟨z16_0,z16_1,z16_2,z16_3,z16_4⟩:=kz5 BK557.out)|((with_reducible refine gate_callee (f:=6) rfl ?_);refine goesL_ (some 26) rfl rfl Try.func6 (by kernel_rfl) rfl #[.agg #[.int .i64 ((rd_T27 l0_3 x20_1).f0),.int .i64 ((rd_T27 l0_3 x20_1).f1),.string ((rd_T27 l0_3 x20_1).f2),.slice A556_3 ((rd_T27 l0_3 x20_1).f3).length c556_3,.slice A556_4 ((rd_T27 l0_3 x20_1).f4).length c556_4]] rfl gs ?_;(with_reducible refine (ih k1 (by have:=HK1.out;omega) ((rd_T27 l0_3 x20_1).f0) ((rd_T27 l0_3 x20_1).f1) ((rd_T27 l0_3 x20_1).f2) _ _ ((rd_T27 l0_3 x20_1).f3) _ _ ((rd_T27 l0_3 x20_1).f4) t558 _ ?side1 ?side2 ?side3 ?side4 A12.out).mono ?_);(case side1=>exact Kd.C_below HR556_3.out (bl HB.out));(case side2=>exact HC556_3.out);(case side3=>exact Kd.C_below HR556_4.out (bl HB.out));(case side4=>exact HC556_4.out);rintro e w17 ⟨v559,rfl,ho0,hb⟩;refine ⟨_,rfl,?_⟩;have n_:=aj (Kd.R_elder' ((Kd.R_mono (rfm (Kd.R_types HO_3.out BK557.out (by decide))) (fun _ h_=>h_.1))) (Kd.R_base ho0) hb)<|aj (Kd.R_lower (Kd.R_new' ho0 (Kd.R_lt ((Kd.R_mono (rfm (Kd.R_types HO_3.out BK557.out (by decide))) (fun _ h_=>h_.1))))) (below_size (bl HB.out)))<|ai (bwm BK552 hb)<|aj (blk_below (g:=gb557) (o:=.cells #[.int .i64 ((rd_T27 l0_3 x20_1).f0),.int .i64 ((rd_T27 l0_3 x20_1).f1),.string ((rd_T27 l0_3 x20_1).f2),.slice A556_3 ((rd_T27 l0_3 x20_1).f3).length c556_3,.slice A556_4 ((rd_T27 l0_3 x20_1).f4).length c556_4] 27 (0,0)) (bmp BK557.out) hb)<|bq HB hb;clear HO_3 BK552 BK557 HB;obtain ⟨HO_3,HO560,BK552,BK557,HB⟩:=n_;(try clear hb);(try clear ho0);obtain ⟨Ao18,co18,eo18⟩:=Kd.R_slice HO_3.out;subst eo18;obtain ⟨Ao19,co19,eo19⟩:=Kd.R_slice HO560.out;subst eo19)|((with_reducible refine gate_callee (f:=12) rfl ?_);refine goesL_ (some 27) rfl rfl Try.func12 (by kernel_rfl) rfl #[.slice Ao18 x3_1.length co18,.slice Ao19 t558.length co19] rfl gs ?_;(with_reducible refine (impl_addOnce.calls k1 (fun k_=>some k_=(.slice Ao18 x3_1.length co18:Value).ownBlock) (.slice Ao18 x3_1.length co18) x3_1 _ _ t558 t561 w _ ?side1 ?side2 ?side3 ?side4 A13.out).mono ?_);(case side1=>exact bl HB.out);(case side2=>exact Kd.R_tight rfl HO_3.out);(case side3=>exact Kd.C_kept_own (HO560.out) (fun k_ hk_ hs_=>(hk_.2) hs_));(case side4=>exact (Kd.R_reads' HO560.out).2.1);rintro e w20 ⟨v562,rfl,ho0,hb,hkp⟩;refine ⟨_,rfl,?_⟩;have n_:=aj (blk_kept (bk BK552.out) hkp (fun hs_=>(fun e_=>(Kd.R_ne HO_3.out BK552.out (by decide)) e_) hs_))<|aj (blk_kept (bk BK557.out) hkp (fun hs_=>(fun e_=>(Kd.R_ne HO_3.out BK557.out (by decide)) e_) hs_))<|aj (Kd.R_mono (ok':=fun k_=>some k_≠(v562:Value).ownBlock) (Kd.R_keptB (HO560.out) hkp (fun k_ hk_ hs_=>(hk_.2) hs_)) (fun k_ hk_=>fun e_=>Or.elim (ho0.1 k_ e_.symm) (fun hs_=>hk_.2.1 hs_) (fun hn_=>Nat.not_le.2 hk_.2.2 hn_)))<|aj (Kd.R_mono (ok':=fun k_=>some k_≠(.slice Ao19 t558.length co19:Value).ownBlock) ho0 (fun k_ hk_=>Or.elim hk_ (fun hs_=>fun e_=>(((HO560.out).1 k_ e_.symm).2) hs_) (fun hn_=>(Kd.fresh' (Kd.R_lt (rk HO560.out)) k_ hn_))))<|Aside0.mk (hb);clear BK552 BK557 HO560 HB HO_3;obtain ⟨BK552,BK557,HO560,HO563,HB⟩:=n_;(try clear hb);(try clear hkp);(try clear ho0)))
       go_roundg k1
       case measure=>have:=HK1.out;omega
       case rel=>exact ⟨(t561),(wrap64 (x20_1 + 1)),(cl2),H',⟨by have:=HK1.out;omega⟩,⟨Kd.R_mono (rfm HO563.out) (fun _ hk=>trivial)⟩,⟨bk BK552.out⟩,⟨bl HB.out⟩⟩
      ·rw [if_neg c11] at H
       exact absurd H (by simp)
     ·rw [if_neg c10] at H
      exact absurd H (by simp)
    ·rw [if_neg c9] at H
     have c9b0:decide (x20_1 < (l0_3.length:Int))=false:=decide_eq_false c9;clear c9;have H':=Aside0.mk H;clear H;obtain ⟨h21_0,h21_1,h21_2,h21_3,h21_4⟩:=kb5 BK552.out
     go_wp2
     go_loopg [3,32] k1 (fun kq v3 v32 w'=>∃ (x3_2:List ByteArray) (x32_2:Int),v32=.int .i64 x32_2∧Aside0 (impl_FreeOf.l1 kq x3_2 l0_4 (l0_4.length:Int) x32_2=some r)∧Aside0 (kq≤k1)∧Aside0 (Kd.R Kd.string 9 w' w.heap.size (fun _=>True) v3 x3_2)∧Aside0 (w'.heap[gb552]?=some (.cells #[.int .i64 a0_0,.int .i64 a0_1,.string a0_2,(.slice A0_3 l0_3.length c0_3),(.slice A0_4 l0_4.length c0_4)] 27 (0,0)))∧Aside0 (Below w.heap.size w w'))
     case atStart=>exact ⟨(x3_1),(0),(cl2),H',⟨Nat.le_refl _⟩,⟨rk HO_3.out⟩,⟨bk BK552.out⟩,⟨bl HB.out⟩⟩
     case round =>
      clear H';(try clear c2);(try clear c2b0);(try clear c2b1);(try clear c9);(try clear c9b0);(try clear h21_0 h21_1 h21_2 h21_3 h21_4);(try clear h8_0 h8_1 h8_2 h8_3 h8_4);(try clear z8_0 z8_1 z8_2 z8_3 z8_4);(try clear p2);(try clear HO_3);(try clear BK552);(try clear HB);obtain ⟨x3_2,x32_2,rfl,HA,HK2,HO_3,BK552,HB⟩:=hrel
      cases gk with
      | zero=>exact absurd HA.out (by simp [impl_FreeOf.l1])
      | succ k2 =>
       have H:=HA.out;clear HA;simp only [impl_FreeOf.l1] at H
       by_cases c22:x32_2 < (l0_4.length:Int)
       ·rw [if_pos c22] at H
        have c22b0:decide (x32_2 < (l0_4.length:Int))=true:=decide_eq_true c22;clear c22
        by_cases c23:0≤x32_2
        ·rw [if_pos c23] at H
         have c23b0:decide (0≤x32_2)=true:=decide_eq_true c23;clear c23
         by_cases c24:x32_2 < (l0_4.length:Int)
         ·rw [if_pos c24] at H
          have c24b0:decide (x32_2 < (l0_4.length:Int))=true:=decide_eq_true c24;clear c24;replace H:=bs H;obtain ⟨t566,A250,H⟩:=H;replace H:((impl_FreeOf.f k2 ((rd_T33 l0_4 x32_2).f1.f0) ((rd_T33 l0_4 x32_2).f1.f1) ((rd_T33 l0_4 x32_2).f1.f2) ((rd_T33 l0_4 x32_2).f1.f3) ((rd_T33 l0_4 x32_2).f1.f4)).bind fun t569=>(impl_FreeOf.l2 k2 x3_2 t566 l0_4 (l0_4.length:Int) x32_2 t569 (t569.length:Int) 0))=some r:=H;have A25:=Aside0.mk A250;clear A250;replace H:=bs H;obtain ⟨t569,A260,H⟩:=H;replace H:(impl_FreeOf.l2 k2 x3_2 t566 l0_4 (l0_4.length:Int) x32_2 t569 (t569.length:Int) 0)=some r:=H;have A26:=Aside0.mk A260;clear A260;have H':=Aside0.mk H;clear H;have p564:0≤(x32_2:Int):=od;have q564:x32_2 < (l0_4.length:Int):=od;obtain ⟨ad564,A564_3,c564_3,A564_4,c564_4,A564_8,c564_8,A564_9,c564_9,e564,hx564_0,hx564_1,hx564_2,hx564_3,hx564_4,hx564_5,hx564_6,hx564_7,hx564_8,hx564_9,hl564_3,hi564_3,hl564_4,hi564_4,hl564_8,hi564_8,hl564_9,hi564_9⟩:=at_T33 HR0_4.out x32_2 p564 q564;cases e564;replace hx564_0:=cb HB hx564_0;replace hx564_1:=cb HB hx564_1;replace hx564_2:=cb HB hx564_2;replace hx564_3:=cb HB hx564_3;replace hx564_4:=cb HB hx564_4;replace hx564_5:=cb HB hx564_5;replace hx564_6:=cb HB hx564_6;replace hx564_7:=cb HB hx564_7;replace hx564_8:=cb HB hx564_8;replace hx564_9:=cb HB hx564_9;have HR564_3:=Aside0.mk hi564_3;have HC564_3:=Aside0.mk hl564_3;clear hi564_3 hl564_3;have HR564_4:=Aside0.mk hi564_4;have HC564_4:=Aside0.mk hl564_4;clear hi564_4 hl564_4;have HR564_8:=Aside0.mk hi564_8;have HC564_8:=Aside0.mk hl564_8;clear hi564_8 hl564_8;have HR564_9:=Aside0.mk hi564_9;have HC564_9:=Aside0.mk hl564_9;clear hi564_9 hl564_9;replace p564:=eq_true p564;replace q564:=eq_true q564
          go_wp2_with (first|((with_reducible refine gate_dst (N:=7) rfl ?_);refine box_event ?hg (N:=7) ?hd (cs:=#[.int .i64 0,.int .i64 0,.string (⟨#[]⟩:ByteArray),.slice none 0 0,.slice none 0 0,.int .i64 0,.int .i64 0,.string (⟨#[]⟩:ByteArray),.slice none 0 0,.slice none 0 0]) (t:=33) ?hr ?_;(case hd|hg=>rfl);(case hr=>first|(go_simp;done)|(go_simp;rfl));intro gb565 hg w27 hbox hb;have n_:=ai (rwm HO_3 hb)<|ai (bw BK552 hb)<|ai (bq HB hb)<|aj (hbox)<|ai (bz hg HB)<|ai (bz hg HB)<|ai (nl hg BK552)<|ng hg BK552;clear HO_3 BK552 HB;obtain ⟨HO_3,BK552,HB,BK565,GW565,GE565,NB552_565,NB565_552⟩:=n_;clear hb hbox hg;have:=NB565_552.out;have:=NB552_565.out;have h29_0:=bc BK565.out 0;have h29_1:=bc BK565.out 1;have h29_2:=bc BK565.out 2;have h29_3:=bc BK565.out 3;have h29_4:=bc BK565.out 4;have h29_5:=bc BK565.out 5;have h29_6:=bc BK565.out 6;have h29_7:=bc BK565.out 7;have h29_8:=bc BK565.out 8;have h29_9:=bc BK565.out 9;have z29_0:=blk_frozen BK565.out 0;have z29_1:=blk_frozen BK565.out 1;have z29_2:=blk_frozen BK565.out 2;have z29_3:=blk_frozen BK565.out 3;have z29_4:=blk_frozen BK565.out 4;have z29_5:=blk_frozen BK565.out 5;have z29_6:=blk_frozen BK565.out 6;have z29_7:=blk_frozen BK565.out 7;have z29_8:=blk_frozen BK565.out 8;have z29_9:=blk_frozen BK565.out 9)|((with_reducible refine gate_callee (f:=13) rfl ?_);refine goesL_ (some 38) rfl rfl Try.func13 (by kernel_rfl) rfl #[.agg #[.int .i64 ((rd_T33 l0_4 x32_2).f0.f0),.int .i64 ((rd_T33 l0_4 x32_2).f0.f1),.string ((rd_T33 l0_4 x32_2).f0.f2),.slice A564_3 ((rd_T33 l0_4 x32_2).f0.f3).length c564_3,.slice A564_4 ((rd_T33 l0_4 x32_2).f0.f4).length c564_4]] rfl gs ?_;(with_reducible refine (impl_VarsOf.calls k2 ((rd_T33 l0_4 x32_2).f0.f0) ((rd_T33 l0_4 x32_2).f0.f1) ((rd_T33 l0_4 x32_2).f0.f2) _ _ ((rd_T33 l0_4 x32_2).f0.f3) _ _ ((rd_T33 l0_4 x32_2).f0.f4) t566 _ ?side1 ?side2 ?side3 ?side4 A25.out).mono ?_);(case side1=>exact Kd.C_below HR564_3.out (bl HB.out));(case side2=>exact HC564_3.out);(case side3=>exact Kd.C_below HR564_4.out (bl HB.out));(case side4=>exact HC564_4.out);rintro e w30 ⟨v567,rfl,ho0,hb⟩;refine ⟨_,rfl,?_⟩;have n_:=aj (Kd.R_elder' ((Kd.R_mono (rfm (Kd.R_types HO_3.out BK565.out (by decide))) (fun _ h_=>h_.1))) (Kd.R_base ho0) hb)<|aj (Kd.R_lower (Kd.R_new' ho0 (Kd.R_lt ((Kd.R_mono (rfm (Kd.R_types HO_3.out BK565.out (by decide))) (fun _ h_=>h_.1))))) (below_size (bl HB.out)))<|ai (bwm BK552 hb)<|aj (blk_below (g:=gb565) (o:=.cells #[.int .i64 ((rd_T33 l0_4 x32_2).f0.f0),.int .i64 ((rd_T33 l0_4 x32_2).f0.f1),.string ((rd_T33 l0_4 x32_2).f0.f2),.slice A564_3 ((rd_T33 l0_4 x32_2).f0.f3).length c564_3,.slice A564_4 ((rd_T33 l0_4 x32_2).f0.f4).length c564_4,.int .i64 ((rd_T33 l0_4 x32_2).f1.f0),.int .i64 ((rd_T33 l0_4 x32_2).f1.f1),.string ((rd_T33 l0_4 x32_2).f1.f2),.slice A564_8 ((rd_T33 l0_4 x32_2).f1.f3).length c564_8,.slice A564_9 ((rd_T33 l0_4 x32_2).f1.f4).length c564_9] 33 (0,0)) (by (with_reducible repeat (first|refine blk_drewN ?_ _|refine blk_drew ?_|refine blk_alloc ?_ _));refine blk_put (cs:=#[.int .i64 ((rd_T33 l0_4 x32_2).f0.f0),.int .i64 ((rd_T33 l0_4 x32_2).f0.f1),.string ((rd_T33 l0_4 x32_2).f0.f2),.slice A564_3 ((rd_T33 l0_4 x32_2).f0.f3).length c564_3,.slice A564_4 ((rd_T33 l0_4 x32_2).f0.f4).length c564_4,.int .i64 ((rd_T33 l0_4 x32_2).f1.f0),.int .i64 ((rd_T33 l0_4 x32_2).f1.f1),.string ((rd_T33 l0_4 x32_2).f1.f2),.slice A564_8 ((rd_T33 l0_4 x32_2).f1.f3).length c564_8,.slice none 0 0]) ?_ 9 _ rfl;(with_reducible repeat (first|refine blk_drewN ?_ _|refine blk_drew ?_|refine blk_alloc ?_ _));refine blk_put (cs:=#[.int .i64 ((rd_T33 l0_4 x32_2).f0.f0),.int .i64 ((rd_T33 l0_4 x32_2).f0.f1),.string ((rd_T33 l0_4 x32_2).f0.f2),.slice A564_3 ((rd_T33 l0_4 x32_2).f0.f3).length c564_3,.slice A564_4 ((rd_T33 l0_4 x32_2).f0.f4).length c564_4,.int .i64 ((rd_T33 l0_4 x32_2).f1.f0),.int .i64 ((rd_T33 l0_4 x32_2).f1.f1),.string ((rd_T33 l0_4 x32_2).f1.f2),.slice none 0 0,.slice none 0 0]) ?_ 8 _ rfl;(with_reducible repeat (first|refine blk_drewN ?_ _|refine blk_drew ?_|refine blk_alloc ?_ _));refine blk_put (cs:=#[.int .i64 ((rd_T33 l0_4 x32_2).f0.f0),.int .i64 ((rd_T33 l0_4 x32_2).f0.f1),.string ((rd_T33 l0_4 x32_2).f0.f2),.slice A564_3 ((rd_T33 l0_4 x32_2).f0.f3).length c564_3,.slice A564_4 ((rd_T33 l0_4 x32_2).f0.f4).length c564_4,.int .i64 ((rd_T33 l0_4 x32_2).f1.f0),.int .i64 ((rd_T33 l0_4 x32_2).f1.f1),.string (⟨#[]⟩:ByteArray),.slice none 0 0,.slice none 0 0]) ?_ 7 _ rfl;(with_reducible repeat (first|refine blk_drewN ?_ _|refine blk_drew ?_|refine blk_alloc ?_ _));refine blk_put (cs:=#[.int .i64 ((rd_T33 l0_4 x32_2).f0.f0),.int .i64 ((rd_T33 l0_4 x32_2).f0.f1),.string ((rd_T33 l0_4 x32_2).f0.f2),.slice A564_3 ((rd_T33 l0_4 x32_2).f0.f3).length c564_3,.slice A564_4 ((rd_T33 l0_4 x32_2).f0.f4).length c564_4,.int .i64 ((rd_T33 l0_4 x32_2).f1.f0),.int .i64 0,.string (⟨#[]⟩:ByteArray),.slice none 0 0,.slice none 0 0]) ?_ 6 _ rfl;(with_reducible repeat (first|refine blk_drewN ?_ _|refine blk_drew ?_|refine blk_alloc ?_ _));refine blk_put (cs:=#[.int .i64 ((rd_T33 l0_4 x32_2).f0.f0),.int .i64 ((rd_T33 l0_4 x32_2).f0.f1),.string ((rd_T33 l0_4 x32_2).f0.f2),.slice A564_3 ((rd_T33 l0_4 x32_2).f0.f3).length c564_3,.slice A564_4 ((rd_T33 l0_4 x32_2).f0.f4).length c564_4,.int .i64 0,.int .i64 0,.string (⟨#[]⟩:ByteArray),.slice none 0 0,.slice none 0 0]) ?_ 5 _ rfl;(with_reducible repeat (first|refine blk_drewN ?_ _|refine blk_drew ?_|refine blk_alloc ?_ _));refine blk_put (cs:=#[.int .i64 ((rd_T33 l0_4 x32_2).f0.f0),.int .i64 ((rd_T33 l0_4 x32_2).f0.f1),.string ((rd_T33 l0_4 x32_2).f0.f2),.slice A564_3 ((rd_T33 l0_4 x32_2).f0.f3).length c564_3,.slice none 0 0,.int .i64 0,.int .i64 0,.string (⟨#[]⟩:ByteArray),.slice none 0 0,.slice none 0 0]) ?_ 4 _ rfl;(with_reducible repeat (first|refine blk_drewN ?_ _|refine blk_drew ?_|refine blk_alloc ?_ _));refine blk_put (cs:=#[.int .i64 ((rd_T33 l0_4 x32_2).f0.f0),.int .i64 ((rd_T33 l0_4 x32_2).f0.f1),.string ((rd_T33 l0_4 x32_2).f0.f2),.slice none 0 0,.slice none 0 0,.int .i64 0,.int .i64 0,.string (⟨#[]⟩:ByteArray),.slice none 0 0,.slice none 0 0]) ?_ 3 _ rfl;(with_reducible repeat (first|refine blk_drewN ?_ _|refine blk_drew ?_|refine blk_alloc ?_ _));refine blk_put (cs:=#[.int .i64 ((rd_T33 l0_4 x32_2).f0.f0),.int .i64 ((rd_T33 l0_4 x32_2).f0.f1),.string (⟨#[]⟩:ByteArray),.slice none 0 0,.slice none 0 0,.int .i64 0,.int .i64 0,.string (⟨#[]⟩:ByteArray),.slice none 0 0,.slice none 0 0]) ?_ 2 _ rfl;(with_reducible repeat (first|refine blk_drewN ?_ _|refine blk_drew ?_|refine blk_alloc ?_ _));refine blk_put (cs:=#[.int .i64 ((rd_T33 l0_4 x32_2).f0.f0),.int .i64 0,.string (⟨#[]⟩:ByteArray),.slice none 0 0,.slice none 0 0,.int .i64 0,.int .i64 0,.string (⟨#[]⟩:ByteArray),.slice none 0 0,.slice none 0 0]) ?_ 1 _ rfl;(with_reducible repeat (first|refine blk_drewN ?_ _|refine blk_drew ?_|refine blk_alloc ?_ _));refine blk_put (cs:=#[.int .i64 0,.int .i64 0,.string (⟨#[]⟩:ByteArray),.slice none 0 0,.slice none 0 0,.int .i64 0,.int .i64 0,.string (⟨#[]⟩:ByteArray),.slice none 0 0,.slice none 0 0]) ?_ 0 _ rfl;(with_reducible repeat (first|refine blk_drewN ?_ _|refine blk_drew ?_|refine blk_alloc ?_ _));exact BK565.out) hb)<|bq HB hb;clear HO_3 BK552 BK565 HB;obtain ⟨HO_3,HO568,BK552,BK565,HB⟩:=n_;(try clear hb);(try clear ho0);have h31_0:=bc BK565.out 0;have h31_1:=bc BK565.out 1;have h31_2:=bc BK565.out 2;have h31_3:=bc BK565.out 3;have h31_4:=bc BK565.out 4;have h31_5:=bc BK565.out 5;have h31_6:=bc BK565.out 6;have h31_7:=bc BK565.out 7;have h31_8:=bc BK565.out 8;have h31_9:=bc BK565.out 9;have z31_0:=blk_frozen BK565.out 0;have z31_1:=blk_frozen BK565.out 1;have z31_2:=blk_frozen BK565.out 2;have z31_3:=blk_frozen BK565.out 3;have z31_4:=blk_frozen BK565.out 4;have z31_5:=blk_frozen BK565.out 5;have z31_6:=blk_frozen BK565.out 6;have z31_7:=blk_frozen BK565.out 7;have z31_8:=blk_frozen BK565.out 8;have z31_9:=blk_frozen BK565.out 9)|((with_reducible refine gate_callee (f:=6) rfl ?_);refine goesL_ (some 41) rfl rfl Try.func6 (by kernel_rfl) rfl #[.agg #[.int .i64 ((rd_T33 l0_4 x32_2).f1.f0),.int .i64 ((rd_T33 l0_4 x32_2).f1.f1),.string ((rd_T33 l0_4 x32_2).f1.f2),.slice A564_8 ((rd_T33 l0_4 x32_2).f1.f3).length c564_8,.slice A564_9 ((rd_T33 l0_4 x32_2).f1.f4).length c564_9]] rfl gs ?_;(with_reducible refine (ih k2 (by have:=HK1.out;have:=HK2.out;omega) ((rd_T33 l0_4 x32_2).f1.f0) ((rd_T33 l0_4 x32_2).f1.f1) ((rd_T33 l0_4 x32_2).f1.f2) _ _ ((rd_T33 l0_4 x32_2).f1.f3) _ _ ((rd_T33 l0_4 x32_2).f1.f4) t569 _ ?side1 ?side2 ?side3 ?side4 A26.out).mono ?_);(case side1=>exact ck (Kd.C_below HR564_8.out HB.out));(case side2=>exact HC564_8.out);(case side3=>exact ck (Kd.C_below HR564_9.out HB.out));(case side4=>exact HC564_9.out);rintro e w32 ⟨v570,rfl,ho0,hb⟩;refine ⟨_,rfl,?_⟩;have n_:=aj (Kd.R_elder' (rk HO_3.out) (Kd.R_base ho0) hb)<|aj (Kd.R_elder' (rk HO568.out) (Kd.R_base ho0) hb)<|aj (Kd.R_lower (Kd.R_new' (Kd.R_new' ho0 (Kd.R_lt (rk HO_3.out))) (Kd.R_lt (rk HO568.out))) (below_size (bl HB.out)))<|ai (bw BK552 hb)<|ai (bw BK565 hb)<|bq HB hb;clear HO_3 HO568 BK552 BK565 HB;obtain ⟨HO_3,HO568,HO571,BK552,BK565,HB⟩:=n_;(try clear hb);(try clear hb2);(try clear hk);(try clear hi);(try clear ho0);obtain ⟨Ao33,co33,eo33⟩:=Kd.R_slice HO571.out;subst eo33))
          go_loopg [3,43] k2 (fun kq v3 v43 w'=>∃ (x3_3:List ByteArray) (x43_3:Int),v43=.int .i64 x43_3∧Aside0 (impl_FreeOf.l2 kq x3_3 t566 l0_4 (l0_4.length:Int) x32_2 t569 (t569.length:Int) x43_3=some r)∧Aside0 (kq≤k2)∧Aside0 (Kd.R Kd.string 9 w' w.heap.size (fun k_=>some k_≠(v567:Value).ownBlock∧some k_≠((.slice Ao33 t569.length co33):Value).ownBlock) v3 x3_3)∧Aside0 (Kd.R Kd.string 9 w' w.heap.size (fun k_=>some k_≠(v3:Value).ownBlock∧some k_≠((.slice Ao33 t569.length co33):Value).ownBlock) v567 t566)∧Aside0 (Kd.R Kd.string 9 w' w.heap.size (fun k_=>some k_≠(v3:Value).ownBlock∧some k_≠(v567:Value).ownBlock) (.slice Ao33 t569.length co33) t569)∧Aside0 (w'.heap[gb552]?=some (.cells #[.int .i64 a0_0,.int .i64 a0_1,.string a0_2,(.slice A0_3 l0_3.length c0_3),(.slice (some ad564) l0_4.length c0_4)] 27 (0,0)))∧Aside0 (w'.heap[gb565]?=some (.cells #[.int .i64 ((rd_T33 l0_4 x32_2).f0.f0),.int .i64 ((rd_T33 l0_4 x32_2).f0.f1),.string ((rd_T33 l0_4 x32_2).f0.f2),(.slice A564_3 ((rd_T33 l0_4 x32_2).f0.f3).length c564_3),(.slice A564_4 ((rd_T33 l0_4 x32_2).f0.f4).length c564_4),.int .i64 ((rd_T33 l0_4 x32_2).f1.f0),.int .i64 ((rd_T33 l0_4 x32_2).f1.f1),.string ((rd_T33 l0_4 x32_2).f1.f2),(.slice A564_8 ((rd_T33 l0_4 x32_2).f1.f3).length c564_8),(.slice A564_9 ((rd_T33 l0_4 x32_2).f1.f4).length c564_9)] 33 (0,0)))∧Aside0 (Below w.heap.size w w'))
          case atStart=>exact ⟨(x3_2),(0),(cl2),H',⟨Nat.le_refl _⟩,⟨Kd.R_mono (rfm HO_3.out) (fun _ hk=>⟨hk.1.2,hk.2⟩)⟩,⟨Kd.R_mono (rfm HO568.out) (fun _ hk=>⟨hk.1.2,hk.2⟩)⟩,⟨Kd.R_mono (rfm HO571.out) (fun _ hk=>⟨hk.1.2,hk.2⟩)⟩,⟨bk BK552.out⟩,⟨bk BK565.out⟩,⟨bl HB.out⟩⟩
          case round =>
           clear H';(try clear c2);(try clear c2b0);(try clear c2b1);(try clear c9);(try clear c9b0);(try clear c22);(try clear c22b0);(try clear c23);(try clear c23b0);(try clear c24);(try clear c24b0);(try clear h21_0 h21_1 h21_2 h21_3 h21_4);(try clear h29_0);(try clear h29_1);(try clear h29_2);(try clear h29_3);(try clear h29_4);(try clear h29_5);(try clear h29_6);(try clear h29_7);(try clear h29_8);(try clear h29_9);(try clear h31_0);(try clear h31_1);(try clear h31_2);(try clear h31_3);(try clear h31_4);(try clear h31_5);(try clear h31_6);(try clear h31_7);(try clear h31_8);(try clear h31_9);(try clear h8_0 h8_1 h8_2 h8_3 h8_4);(try clear z29_0);(try clear z29_1);(try clear z29_2);(try clear z29_3);(try clear z29_4);(try clear z29_5);(try clear z29_6);(try clear z29_7);(try clear z29_8);(try clear z29_9);(try clear z31_0);(try clear z31_1);(try clear z31_2);(try clear z31_3);(try clear z31_4);(try clear z31_5);(try clear z31_6);(try clear z31_7);(try clear z31_8);(try clear z31_9);(try clear z8_0 z8_1 z8_2 z8_3 z8_4);(try clear hx564_0);(try clear hx564_1);(try clear hx564_2);(try clear hx564_3);(try clear hx564_4);(try clear hx564_5);(try clear hx564_6);(try clear hx564_7);(try clear hx564_8);(try clear hx564_9);(try clear p2);(try clear p5);(try clear p564);(try clear p6);(try clear q5);(try clear q564);(try clear HO_3);(try clear BK552);(try clear BK565);(try clear HB);obtain ⟨x3_3,x43_3,rfl,HA,HK3,HO_3,HO_8,HO_41,BK552,BK565,HB⟩:=hrel
           cases gk with
           | zero=>exact absurd HA.out (by simp [impl_FreeOf.l2])
           | succ k3 =>
            have H:=HA.out;clear HA;simp only [impl_FreeOf.l2] at H
            by_cases c34:x43_3 < (t569.length:Int)
            ·rw [if_pos c34] at H
             have c34b0:decide (x43_3 < (t569.length:Int))=true:=decide_eq_true c34;clear c34
             by_cases c35:0≤x43_3
             ·rw [if_pos c35] at H
              have c35b0:decide (0≤x43_3)=true:=decide_eq_true c35;clear c35
              by_cases c36:x43_3 < (t569.length:Int)
              ·rw [if_pos c36] at H
               have c36b0:decide (x43_3 < (t569.length:Int))=true:=decide_eq_true c36;clear c36;replace H:=bs H;obtain ⟨t573,A370,H⟩:=H;replace H:(if t573=true then (impl_FreeOf.l2 k3 x3_3 t566 l0_4 (l0_4.length:Int) x32_2 t569 (t569.length:Int) (wrap64 (x43_3 + 1))) else ((impl_addOnce.f k3 x3_3 (([rdOf ByteArray.empty t569 x43_3]:List ByteArray))).bind fun t577=>(impl_FreeOf.l2 k3 t577 t566 l0_4 (l0_4.length:Int) x32_2 t569 (t569.length:Int) (wrap64 (x43_3 + 1)))))=some r:=H;have A37:=Aside0.mk A370;clear A370
               by_cases c38:t573=true
               ·subst c38
                replace H:(impl_FreeOf.l2 k3 x3_3 t566 l0_4 (l0_4.length:Int) x32_2 t569 (t569.length:Int) (wrap64 (x43_3 + 1)))=some r:=pt H;have H':=Aside0.mk H;clear H;have p572:0≤(x43_3:Int):=od;have q572:x43_3 < (t569.length:Int):=od;obtain ⟨ad572,e572,hx572_0⟩:=Kd.at_string (Kd.R_reads' HO_41.out).2.2 x43_3 p572 q572;cases e572;replace p572:=eq_true p572;replace q572:=eq_true q572;obtain ⟨Ao39,co39,eo39⟩:=Kd.R_slice HO_8.out;subst eo39
                go_wp2_with (first|((with_reducible refine gate_callee (f:=14) rfl ?_);refine goesL_ (some 49) rfl rfl Try.func14 (by kernel_rfl) rfl #[.slice Ao39 t566.length co39,.string (rdOf ByteArray.empty t569 x43_3)] rfl gs ?_;(with_reducible refine (slices_Contains_string_string.calls k3 _ _ t566 (rdOf ByteArray.empty t569 x43_3) true _ ?side1 ?side2 A37.out).mono ?_);(case side1=>exact ck (Kd.R_reads' HO_8.out).2.2);(case side2=>exact (Kd.R_reads' HO_8.out).2.1);rintro e w' ⟨rfl,⟨nd,rfl⟩⟩;refine ⟨_,rfl,?_⟩))
                go_roundg k3
                case measure=>have:=HK1.out;have:=HK2.out;have:=HK3.out;omega
                case rel=>exact ⟨(x3_3),(wrap64 (x43_3 + 1)),(cl2),H',⟨by have:=HK1.out;have:=HK2.out;have:=HK3.out;omega⟩,⟨rk HO_3.out⟩,⟨rk HO_8.out⟩,⟨rk HO_41.out⟩,⟨bk BK552.out⟩,⟨bk BK565.out⟩,⟨bl HB.out⟩⟩
               ·replace c38:=Bool.eq_false_iff.mpr c38
                subst c38;replace H:((impl_addOnce.f k3 x3_3 (([rdOf ByteArray.empty t569 x43_3]:List ByteArray))).bind fun t577=>(impl_FreeOf.l2 k3 t577 t566 l0_4 (l0_4.length:Int) x32_2 t569 (t569.length:Int) (wrap64 (x43_3 + 1))))=some r:=nt H;obtain ⟨y574,hy574⟩:∃ y_:List ByteArray,y_=(([rdOf ByteArray.empty t569 x43_3]:List ByteArray)):=⟨_,rfl⟩;replace H:((impl_addOnce.f k3 x3_3 y574).bind fun t577=>(impl_FreeOf.l2 k3 t577 t566 l0_4 (l0_4.length:Int) x32_2 t569 (t569.length:Int) (wrap64 (x43_3 + 1))))=some r:=hw hy574 H
                have Ny574:=Aside0.mk hy574;clear hy574;replace H:=bs H;obtain ⟨t577,A400,H⟩:=H;replace H:(impl_FreeOf.l2 k3 t577 t566 l0_4 (l0_4.length:Int) x32_2 t569 (t569.length:Int) (wrap64 (x43_3 + 1)))=some r:=H;have A40:=Aside0.mk A400;clear A400;have H':=Aside0.mk H;clear H;have p572:0≤(x43_3:Int):=od;have q572:x43_3 < (t569.length:Int):=od;obtain ⟨ad572,e572,hx572_0⟩:=Kd.at_string (Kd.R_reads' HO_41.out).2.2 x43_3 p572 q572;cases e572;replace p572:=eq_true p572;replace q572:=eq_true q572;obtain ⟨Ao41,co41,eo41⟩:=Kd.R_slice HO_8.out;subst eo41
                go_wp2_with (first|((with_reducible refine gate_callee (f:=14) rfl ?_);refine goesL_ (some 49) rfl rfl Try.func14 (by kernel_rfl) rfl #[.slice Ao41 t566.length co41,.string (rdOf ByteArray.empty t569 x43_3)] rfl gs ?_;(with_reducible refine (slices_Contains_string_string.calls k3 _ _ t566 (rdOf ByteArray.empty t569 x43_3) false _ ?side1 ?side2 A37.out).mono ?_);(case side1=>exact ck (Kd.R_reads' HO_8.out).2.2);(case side2=>exact (Kd.R_reads' HO_8.out).2.1);rintro e w' ⟨rfl,⟨nd,rfl⟩⟩;refine ⟨_,rfl,?_⟩)|((with_reducible refine gate_dst (N:=53) rfl ?_);refine Kd.R_lit Kd.string _ 9 ?hg (N:=53) ?hd (xs:=([rdOf ByteArray.empty t569 x43_3]:List ByteArray)) (inner:=[.string (rdOf ByteArray.empty t569 x43_3)]) (ok:=fun _=>True) (okp:=fun _=>True) ?hr ?hp (fun _ hk=>hk) trivial (Below.refl _ _) (Nat.le_refl _) (by simp) ?_;(case hd|hg=>rfl);(case hr=>first|(go_simp;done)|(go_simp;rfl));(case hp=>exact (Reps.one (show Kd.M Kd.string _ _ _ (rdOf ByteArray.empty t569 x43_3) [.string (rdOf ByteArray.empty t569 x43_3)] from rfl) (Reps.none _ _)));intro v575 w42 ho43 hb hg_ hnew_;clear hg_ hnew_;(first|rw [← Ny574.out] at ho43|(simp only [Int.reduceToNat] at ho43;rw [← Ny574.out] at ho43));have n_:=aj (Kd.R_elder' (rk HO_3.out) (Kd.R_base ho43) hb)<|aj (Kd.R_elder' (rk HO_8.out) (Kd.R_base ho43) hb)<|aj (Kd.R_elder' (rk HO_41.out) (Kd.R_base ho43) hb)<|aj (Kd.R_lower (Kd.R_new' (Kd.R_new' (Kd.R_new' ho43 (Kd.R_lt (rk HO_3.out))) (Kd.R_lt (rk HO_8.out))) (Kd.R_lt (rk HO_41.out))) (below_size (bl HB.out)))<|ai (bw BK552 hb)<|ai (bw BK565 hb)<|bq HB hb;clear HO_3 HO_8 HO_41 BK552 BK565 HB;obtain ⟨HO_3,HO_8,HO_41,HO576,BK552,BK565,HB⟩:=n_;clear hb ho43;obtain ⟨Ao44,co44,eo44⟩:=Kd.R_slice HO_3.out;subst eo44;obtain ⟨Ao45,co45,eo45⟩:=Kd.R_slice HO576.out;subst eo45)|((with_reducible refine gate_callee (f:=12) rfl ?_);refine goesL_ (some 54) rfl rfl Try.func12 (by kernel_rfl) rfl #[.slice Ao44 x3_3.length co44,.slice Ao45 y574.length co45] rfl gs ?_;(with_reducible refine (impl_addOnce.calls k3 (fun k_=>some k_=(.slice Ao44 x3_3.length co44:Value).ownBlock) (.slice Ao44 x3_3.length co44) x3_3 _ _ y574 t577 w _ ?side1 ?side2 ?side3 ?side4 A40.out).mono ?_);(case side1=>exact bl HB.out);(case side2=>exact Kd.R_tight rfl HO_3.out);(case side3=>exact Kd.C_kept_own (HO576.out) (fun k_ hk_ hs_=>(hk_.1.1.2) hs_));(case side4=>exact (Kd.R_reads' HO576.out).2.1);rintro e w46 ⟨v578,rfl,ho0,hb,hkp⟩;refine ⟨_,rfl,?_⟩;have n_:=aj (Kd.R_mono (ok':=fun k_=>some k_≠(.slice (some ad572) t569.length co33:Value).ownBlock∧some k_≠(.slice Ao45 y574.length co45:Value).ownBlock∧some k_≠(v578:Value).ownBlock) (Kd.R_keptB (HO_8.out) hkp (fun k_ hk_ hs_=>(hk_.1.1) hs_)) (fun k_ hk_=>⟨hk_.1.1.2,hk_.1.2,fun e_=>Or.elim (ho0.1 k_ e_.symm) (fun hs_=>hk_.2.1 hs_) (fun hn_=>Nat.not_le.2 hk_.2.2 hn_)⟩))<|aj (Kd.R_mono (ok':=fun k_=>some k_≠(.slice Ao41 t566.length co41:Value).ownBlock∧some k_≠(.slice Ao45 y574.length co45:Value).ownBlock∧some k_≠(v578:Value).ownBlock) (Kd.R_keptB (HO_41.out) hkp (fun k_ hk_ hs_=>(hk_.1.1) hs_)) (fun k_ hk_=>⟨hk_.1.1.2,hk_.1.2,fun e_=>Or.elim (ho0.1 k_ e_.symm) (fun hs_=>hk_.2.1 hs_) (fun hn_=>Nat.not_le.2 hk_.2.2 hn_)⟩))<|aj (blk_kept (bk BK552.out) hkp (fun hs_=>(fun e_=>(Kd.R_ne HO_3.out BK552.out (by decide)) e_) hs_))<|aj (blk_kept (bk BK565.out) hkp (fun hs_=>(fun e_=>(Kd.R_ne HO_3.out BK565.out (by decide)) e_) hs_))<|aj (Kd.R_mono (ok':=fun k_=>some k_≠(.slice Ao41 t566.length co41:Value).ownBlock∧some k_≠(.slice (some ad572) t569.length co33:Value).ownBlock∧some k_≠(v578:Value).ownBlock) (Kd.R_keptB (HO576.out) hkp (fun k_ hk_ hs_=>(hk_.1.1.2) hs_)) (fun k_ hk_=>⟨hk_.1.1.2,hk_.1.2,fun e_=>Or.elim (ho0.1 k_ e_.symm) (fun hs_=>hk_.2.1 hs_) (fun hn_=>Nat.not_le.2 hk_.2.2 hn_)⟩))<|aj (Kd.R_mono (ok':=fun k_=>some k_≠(.slice Ao41 t566.length co41:Value).ownBlock∧some k_≠(.slice (some ad572) t569.length co33:Value).ownBlock∧some k_≠(.slice Ao45 y574.length co45:Value).ownBlock) ho0 (fun k_ hk_=>⟨Or.elim hk_ (fun hs_=>fun e_=>(((HO_8.out).1 k_ e_.symm).1.1) hs_) (fun hn_=>(Kd.fresh' (Kd.R_lt (rk HO_8.out)) k_ hn_)),Or.elim hk_ (fun hs_=>fun e_=>(((HO_41.out).1 k_ e_.symm).1.1) hs_) (fun hn_=>(Kd.fresh' (Kd.R_lt (rk HO_41.out)) k_ hn_)),Or.elim hk_ (fun hs_=>fun e_=>(((HO576.out).1 k_ e_.symm).1.1.2) hs_) (fun hn_=>(Kd.fresh' (Kd.R_lt (rk HO576.out)) k_ hn_))⟩))<|Aside0.mk (hb);clear HO_8 HO_41 BK552 BK565 HO576 HB HO_3;obtain ⟨HO_8,HO_41,BK552,BK565,HO576,HO579,HB⟩:=n_;(try clear hb);(try clear hkp);(try clear ho0)))
                go_roundg k3
                case measure=>have:=HK1.out;have:=HK2.out;have:=HK3.out;omega
                case rel=>exact ⟨(t577),(wrap64 (x43_3 + 1)),(cl2),H',⟨by have:=HK1.out;have:=HK2.out;have:=HK3.out;omega⟩,⟨Kd.R_mono (rfm HO579.out) (fun _ hk=>⟨hk.1,hk.2.1⟩)⟩,⟨Kd.R_mono (rfm HO_8.out) (fun _ hk=>⟨hk.2.2,hk.1⟩)⟩,⟨Kd.R_mono (rfm HO_41.out) (fun _ hk=>⟨hk.2.2,hk.1⟩)⟩,⟨bk BK552.out⟩,⟨bk BK565.out⟩,⟨bl HB.out⟩⟩
              ·rw [if_neg c36] at H
               exact absurd H (by simp)
             ·rw [if_neg c35] at H
              exact absurd H (by simp)
            ·rw [if_neg c34] at H
             have c34b0:decide (x43_3 < (t569.length:Int))=false:=decide_eq_false c34;clear c34;have H':=Aside0.mk H;clear H
             go_wp2
             go_roundg k3
             case measure=>have:=HK1.out;have:=HK2.out;have:=HK3.out;omega
             case rel=>exact ⟨(x3_3),(wrap64 (x32_2 + 1)),(cl2),H',⟨by have:=HK1.out;have:=HK2.out;have:=HK3.out;omega⟩,⟨Kd.R_mono (rfm HO_3.out) (fun _ hk=>trivial)⟩,⟨bk BK552.out⟩,⟨bl HB.out⟩⟩
         ·rw [if_neg c24] at H
          exact absurd H (by simp)
        ·rw [if_neg c23] at H
         exact absurd H (by simp)
       ·rw [if_neg c22] at H
        have c22b0:decide (x32_2 < (l0_4.length:Int))=false:=decide_eq_false c22;clear c22;obtain rfl:=Option.some.inj H
        go_wp2
        go_ret
        exact ⟨_,cl,rk HO_3.out,bl HB.out⟩
mutual
def spec_l4Free.l0:Nat→List ByteArray→List ByteArray→Int→Int→Int→ByteArray→List (S27)→List (S33)→Option (List ByteArray)
 | 0,_,_,_,_,_,_,_,_=>none
 | k + 1,x0,x1,x7,x581000,x581001,x581002,x581003,x581004=>if x7 < (x581003.length:Int) then (if 0≤x7 then ((spec_l4Free.f k x0 x1 ((rd_T27 x581003 x7).f0) ((rd_T27 x581003 x7).f1) ((rd_T27 x581003 x7).f2) ((rd_T27 x581003 x7).f3) ((rd_T27 x581003 x7).f4)).bind fun t587=>(spec_l4Free.l0 k t587 x1 (wrap64 (x7 + 1)) x581000 x581001 x581002 x581003 x581004)) else (none)) else (spec_l4Free.l1 k x0 x1 0 x581000 x581001 x581002 x581003 x581004)
def spec_l4Free.l1:Nat→List ByteArray→List ByteArray→Int→Int→Int→ByteArray→List (S27)→List (S33)→Option (List ByteArray)
 | 0,_,_,_,_,_,_,_,_=>none
 | k + 1,x0,x1,x8,x581000,x581001,x581002,x581003,x581004=>if x8 < (x581004.length:Int) then ((some (([]:List ByteArray):List ByteArray)).bind fun y590=>(if y590.length + x1.length < 8796093022208 then ((some (y590 ++ x1:List ByteArray)).bind fun y593=>(if 0≤x8 then ((spec_VarsOf.f k ((rd_T33 x581004 x8).f0.f0) ((rd_T33 x581004 x8).f0.f1) ((rd_T33 x581004 x8).f0.f2) ((rd_T33 x581004 x8).f0.f3) ((rd_T33 x581004 x8).f0.f4)).bind fun t597=>(if y593.length + t597.length < 8796093022208 then ((spec_l4Free.f k x0 (y593 ++ t597) ((rd_T33 x581004 x8).f1.f0) ((rd_T33 x581004 x8).f1.f1) ((rd_T33 x581004 x8).f1.f2) ((rd_T33 x581004 x8).f1.f3) ((rd_T33 x581004 x8).f1.f4)).bind fun t604=>(spec_l4Free.l1 k t604 x1 (wrap64 (x8 + 1)) x581000 x581001 x581002 x581003 x581004)) else (none))) else (none))) else (none))) else (some x0)
def spec_l4Free.f:Nat→List ByteArray→List ByteArray→Int→Int→ByteArray→List (S27)→List (S33)→Option (List ByteArray)
 | 0,_,_,_,_,_,_,_=>none
 | k + 1,l0,l1,a2_0,a2_1,a2_2,l2_3,l2_4=>if a2_0=3 then ((spec_l4Has.f k l1 a2_2).bind fun t581=>(if t581=true then (some l0) else ((spec_l4Has.f k l0 a2_2).bind fun t582=>(if t582=true then (some l0) else (if l0.length < 8796093022208 then (some (l0 ++ [a2_2])) else (none)))))) else (spec_l4Free.l0 k l0 l1 0 a2_0 a2_1 a2_2 l2_3 l2_4)
end
theorem spec_l4Free.mono_l:∀ k,(∀ y0 y1 y2 y3 y4 y5 y6,LeO (spec_l4Free.f k y0 y1 y2 y3 y4 y5 y6) (spec_l4Free.f (k + 1) y0 y1 y2 y3 y4 y5 y6))∧(∀ y0 y1 y2 y3 y4 y5 y6 y7,LeO (spec_l4Free.l0 k y0 y1 y2 y3 y4 y5 y6 y7) (spec_l4Free.l0 (k + 1) y0 y1 y2 y3 y4 y5 y6 y7))∧(∀ y0 y1 y2 y3 y4 y5 y6 y7,LeO (spec_l4Free.l1 k y0 y1 y2 y3 y4 y5 y6 y7) (spec_l4Free.l1 (k + 1) y0 y1 y2 y3 y4 y5 y6 y7))
 | 0=>⟨fun _ _ _ _ _ _ _ r h=>by simp [spec_l4Free.f] at h,fun _ _ _ _ _ _ _ _ r h=>by simp [spec_l4Free.l0] at h,fun _ _ _ _ _ _ _ _ r h=>by simp [spec_l4Free.l1] at h⟩
 | k + 1=>by
  obtain ⟨ih0,ih1,ih2⟩:=spec_l4Free.mono_l k
  refine ⟨?_,?_,?_⟩
  ·intro y0 y1 y2 y3 y4 y5 y6
   unfold spec_l4Free.f
   with_reducible repeat' first|apply ih0|apply ih1|apply ih2|apply spec_VarsOf.mono|apply spec_l4Has.mono|apply LeO.refl|apply LeO.none|apply LeO.ite|refine LeO.bind ?_ (fun _=>?_)
  ·intro y0 y1 y2 y3 y4 y5 y6 y7
   unfold spec_l4Free.l0
   with_reducible repeat' first|apply ih0|apply ih1|apply ih2|apply spec_VarsOf.mono|apply spec_l4Has.mono|apply LeO.refl|apply LeO.none|apply LeO.ite|refine LeO.bind ?_ (fun _=>?_)
  ·intro y0 y1 y2 y3 y4 y5 y6 y7
   unfold spec_l4Free.l1
   with_reducible repeat' first|apply ih0|apply ih1|apply ih2|apply spec_VarsOf.mono|apply spec_l4Has.mono|apply LeO.refl|apply LeO.none|apply LeO.ite|refine LeO.bind ?_ (fun _=>?_)
theorem spec_l4Free.mono:∀ a0 a1 a2 a3 a4 a5 a6 k,LeO (spec_l4Free.f k a0 a1 a2 a3 a4 a5 a6) (spec_l4Free.f (k + 1) a0 a1 a2 a3 a4 a5 a6):=by
 intro a0 a1 a2 a3 a4 a5 a6 k;obtain ⟨ih0,ih1,ih2⟩:=spec_l4Free.mono_l k
 exact ih0 a0 a1 a2 a3 a4 a5 a6
def spec_l4Free.T12:Bool×List (List Nat×List Nat):=(true,[([],[]),([],[]),([0,1],[0,1]),([],[]),([3],[3]),([],[]),([4,5],[4,5]),([6],[6]),([7],[7]),([8,2],[8]),([2,9,9],[2,9]),([10,10,0,1,2,3,4,5,6,7,8,9,10],[10])])
def spec_l4Free.B12:List Nat:=[0,0,3,0,8,0,56,120,248,511,1023,2047]
theorem spec_l4Free.tab12:rtab .any (opsOf Try.f15 12)=spec_l4Free.T12:=by kernel_rfl
theorem spec_l4Free.bits12:waitsOk spec_l4Free.T12.2 spec_l4Free.B12=true:=by kernel_rfl
theorem spec_l4Free.calls (k:Nat):∀ (P0_:Nat→Prop) (u9000_:Value) (l0:List ByteArray) (A1:Option Addr) (c1:Nat) (l1:List ByteArray) (a2_0:Int) (a2_1:Int) (a2_2:ByteArray) (P2_3_:Nat→Prop) (A2_3:Option Addr) (c2_3:Nat) (l2_3:List (S27)) (P2_4_:Nat→Prop) (A2_4:Option Addr) (c2_4:Nat) (l2_4:List (S33)) (r:List ByteArray) (w0 w:World) (hB:Below w0.heap.size w0 w) (ho0:Kd.R Kd.string 9 w w0.heap.size P0_ u9000_ l0) (hr1:∀ W_,Kept w W_ (fun k_=>P0_ k_)→Kd.C Kd.string W_ A1 l1.length l1) (hc1:l1.length≤c1) (hs2_3:Kd.V k27 27 w w0.heap.size (fun k_=>P2_3_ k_∧some k_≠(u9000_:Value).ownBlock) (.slice A2_3 l2_3.length c2_3) l2_3) (hs2_4:Kd.V k33 33 w w0.heap.size (fun k_=>P2_4_ k_∧some k_≠(u9000_:Value).ownBlock) (.slice A2_4 l2_4.length c2_4) l2_4) (h:spec_l4Free.f k l0 l1 a2_0 a2_1 a2_2 l2_3 l2_4=some r),
  Calls Try.prog 15 #[u9000_,.slice A1 l1.length c1,.agg #[.int .i64 a2_0,.int .i64 a2_1,.string a2_2,.slice A2_3 l2_3.length c2_3,.slice A2_4 l2_4.length c2_4]] w fun e w'=>∃ v0_:Value,e=.returned (v0_)∧Kd.R Kd.string 9 w' w0.heap.size (fun k_=>(P0_ k_∨w.heap.size≤k_)) v0_ r∧Below w0.heap.size w0 w'∧Kept w w' (fun k_=>P0_ k_):=by
 induction k using Nat.strongRecOn with
 | _ k ih =>
 intro P0_ u9000_ l0 A1 c1 l1 a2_0 a2_1 a2_2 P2_3_ A2_3 c2_3 l2_3 P2_4_ A2_4 c2_4 l2_4 r w0 w hB ho0 hr1 hc1 hs2_3 hs2_4 h
 cases k with
 | zero=>exact absurd h (by simp [spec_l4Free.f])
 | succ k =>
 simp only [spec_l4Free.f] at h;have hu27:=Try.underlying27;have HO0:=Aside0.mk (show Kd.R Kd.string 9 w w0.heap.size (fun k_=>(P0_ k_∨w.heap.size≤k_)) u9000_ l0 from Kd.R_mono ho0 (fun k_ hk=>(.inl hk)));have HR1:=Aside0.mk hr1;have HC1:=Aside0.mk hc1;clear hr1 hc1;have HO2_3:=Aside0.mk (show Kd.V k27 27 w w0.heap.size (fun k_=>((P0_ k_∨P2_3_ k_∨P2_4_ k_)∨w.heap.size≤k_)∧some k_≠(u9000_:Value).ownBlock) (.slice A2_3 l2_3.length c2_3) l2_3 from Kd.V_mono hs2_3 (fun k_ hk=>⟨.inl (.inr (.inl hk.1)),hk.2⟩));have HO2_4:=Aside0.mk (show Kd.V k33 33 w w0.heap.size (fun k_=>((P0_ k_∨P2_3_ k_∨P2_4_ k_)∨w.heap.size≤k_)∧some k_≠(u9000_:Value).ownBlock) (.slice A2_4 l2_4.length c2_4) l2_4 from Kd.V_mono hs2_4 (fun k_ hk=>⟨.inl (.inr (.inr hk.1)),hk.2⟩));have HK:=Aside0.mk (Kept.refl w (fun k_=>P0_ k_));have HW0:=Aside0.mk hB.size;have HB:=Aside0.mk hB;clear hB;have H:(if a2_0=3 then ((spec_l4Has.f k l1 a2_2).bind fun t581=>(if t581=true then (some l0) else ((spec_l4Has.f k l0 a2_2).bind fun t582=>(if t582=true then (some l0) else (if l0.length < 8796093022208 then (some (l0 ++ [a2_2])) else (none)))))) else (spec_l4Free.l0 k l0 l1 0 a2_0 a2_1 a2_2 l2_3 l2_4))=some r:=h;clear h
 by_cases c4:a2_0=3
 ·rw [if_pos c4] at H
  have c4b0:(a2_0 == 3)=true:=beq_iff_eq.mpr c4;have c4b1:(a2_0 != 3)=false:=bne_eq_false_iff_eq.mpr c4;clear c4;replace H:=bs H;obtain ⟨t581,A50,H⟩:=H;replace H:(if t581=true then (some l0) else ((spec_l4Has.f k l0 a2_2).bind fun t582=>(if t582=true then (some l0) else (if l0.length < 8796093022208 then (some (l0 ++ [a2_2])) else (none)))))=some r:=H;have A5:=Aside0.mk A50;clear A50
  by_cases c6:t581=true
  ·subst c6
   replace H:(some l0)=some r:=pt H;obtain rfl:=Option.some.inj H
   go_enter Try.func15,Try.ntmps15
   go_wp2_with (first|((with_reducible refine gate_dst (N:=5) rfl ?_);refine box_event ?hg (N:=5) ?hd (cs:=#[.int .i64 a2_0,.int .i64 a2_1,.string a2_2,.slice A2_3 l2_3.length c2_3,.slice A2_4 l2_4.length c2_4]) (t:=27) ?hr ?_;(case hd|hg=>rfl);(case hr=>first|(go_simp;done)|(go_simp;rfl));intro gb580 hg w7 hbox hb;have n_:=ai (rwm HO0 hb)<|ai (vbm HO2_3 hg hb)<|ai (vbm HO2_4 hg hb)<|aj (Kept.below (S:=(fun k_=>P0_ k_)) (kp HK.out) hb)<|ai (bq HB hb)<|aj (hbox)<|aj ((by rw [hg];exact (by first|exact HK.out.1|exact (show Kept w _ (fun k_=>P0_ k_) from kp HK.out).1):w.heap.size≤gb580))<|Aside0.mk ((by rw [hg];exact (below_size (bl HB.out)):w0.heap.size≤gb580));clear HO0 HO2_3 HO2_4 HK HB;obtain ⟨HO0,HO2_3,HO2_4,HK,HB,BK580,GW580,GE580⟩:=n_;clear hb hbox hg;obtain ⟨h8_0,h8_1,h8_2,h8_3,h8_4⟩:=kb5 BK580.out;obtain ⟨z8_0,z8_1,z8_2,z8_3,z8_4⟩:=kz5 BK580.out)|((with_reducible refine gate_callee (f:=21) rfl ?_);refine goesL_ (some 16) rfl rfl Try.func21 (by kernel_rfl) rfl #[.slice A1 l1.length c1,.string a2_2] rfl gs ?_;(with_reducible refine (spec_l4Has.calls k _ _ l1 a2_2 true _ ?side1 ?side2 A5.out).mono ?_);(case side1=>exact Kd.C_kept_now HR1.out (kp HK.out));(case side2=>exact HC1.out);rintro e w' ⟨rfl,⟨nd,rfl⟩⟩;refine ⟨_,rfl,?_⟩))
   go_ret
   exact ⟨_,cl,rk HO0.out,bl HB.out,kp HK.out⟩
  ·replace c6:=Bool.eq_false_iff.mpr c6
   subst c6;replace H:((spec_l4Has.f k l0 a2_2).bind fun t582=>(if t582=true then (some l0) else (if l0.length < 8796093022208 then (some (l0 ++ [a2_2])) else (none))))=some r:=nt H;replace H:=bs H;obtain ⟨t582,A90,H⟩:=H;replace H:(if t582=true then (some l0) else (if l0.length < 8796093022208 then (some (l0 ++ [a2_2])) else (none)))=some r:=H;have A9:=Aside0.mk A90;clear A90
   by_cases c10:t582=true
   ·subst c10
    replace H:(some l0)=some r:=pt H;obtain rfl:=Option.some.inj H
    go_enter Try.func15,Try.ntmps15
    go_wp2_with (first|((with_reducible refine gate_dst (N:=5) rfl ?_);refine box_event ?hg (N:=5) ?hd (cs:=#[.int .i64 a2_0,.int .i64 a2_1,.string a2_2,.slice A2_3 l2_3.length c2_3,.slice A2_4 l2_4.length c2_4]) (t:=27) ?hr ?_;(case hd|hg=>rfl);(case hr=>first|(go_simp;done)|(go_simp;rfl));intro gb580 hg w11 hbox hb;have n_:=ai (rwm HO0 hb)<|ai (vbm HO2_3 hg hb)<|ai (vbm HO2_4 hg hb)<|aj (Kept.below (S:=(fun k_=>P0_ k_)) (kp HK.out) hb)<|ai (bq HB hb)<|aj (hbox)<|aj ((by rw [hg];exact (by first|exact HK.out.1|exact (show Kept w _ (fun k_=>P0_ k_) from kp HK.out).1):w.heap.size≤gb580))<|Aside0.mk ((by rw [hg];exact (below_size (bl HB.out)):w0.heap.size≤gb580));clear HO0 HO2_3 HO2_4 HK HB;obtain ⟨HO0,HO2_3,HO2_4,HK,HB,BK580,GW580,GE580⟩:=n_;clear hb hbox hg;obtain ⟨h12_0,h12_1,h12_2,h12_3,h12_4⟩:=kb5 BK580.out;obtain ⟨z12_0,z12_1,z12_2,z12_3,z12_4⟩:=kz5 BK580.out)|((with_reducible refine gate_callee (f:=21) rfl ?_);refine goesL_ (some 16) rfl rfl Try.func21 (by kernel_rfl) rfl #[.slice A1 l1.length c1,.string a2_2] rfl gs ?_;(with_reducible refine (spec_l4Has.calls k _ _ l1 a2_2 false _ ?side1 ?side2 A5.out).mono ?_);(case side1=>exact Kd.C_kept_now HR1.out (kp HK.out));(case side2=>exact HC1.out);rintro e w' ⟨rfl,⟨nd,rfl⟩⟩;refine ⟨_,rfl,?_⟩;obtain ⟨Ao13,co13,eo13⟩:=Kd.R_slice HO0.out;subst eo13)|(go_at_call 21;(with_reducible refine (spec_l4Has.calls k _ _ l0 a2_2 true _ ?side1 ?side2 A9.out).mono ?_);(case side1=>repeat (first|exact (Kd.R_reads' HO0.out).2.2|(with_reducible refine Kd.C_alloc ?_ _)|(with_reducible refine Kd.C_drewN ?_ _)|(with_reducible refine Kd.C_drew ?_)));(case side2=>exact (Kd.R_reads' HO0.out).2.1);rintro e w' ⟨rfl,⟨nd,rfl⟩⟩))
    go_ret
    exact ⟨_,cl,rk HO0.out,bl HB.out,kp HK.out⟩
   ·replace c10:=Bool.eq_false_iff.mpr c10
    subst c10;replace H:(if l0.length < 8796093022208 then (some (l0 ++ [a2_2])) else (none))=some r:=nt H
    by_cases c14:l0.length < 8796093022208
    ·rw [if_pos c14] at H
     have LMc14:=Aside0.mk c14;clear c14;obtain ⟨y583,hy583⟩:∃ y_:List ByteArray,y_=(l0 ++ [a2_2]):=⟨_,rfl⟩;replace H:(some y583)=some r:=hw hy583 H
     have Ny583:=Aside0.mk hy583;clear hy583;obtain rfl:=Option.some.inj H
     go_enter Try.func15,Try.ntmps15
     go_wp2_with (first|((with_reducible refine gate_dst (N:=5) rfl ?_);refine box_event ?hg (N:=5) ?hd (cs:=#[.int .i64 a2_0,.int .i64 a2_1,.string a2_2,.slice A2_3 l2_3.length c2_3,.slice A2_4 l2_4.length c2_4]) (t:=27) ?hr ?_;(case hd|hg=>rfl);(case hr=>first|(go_simp;done)|(go_simp;rfl));intro gb580 hg w15 hbox hb;have n_:=ai (rwm HO0 hb)<|ai (vbm HO2_3 hg hb)<|ai (vbm HO2_4 hg hb)<|aj (Kept.below (S:=(fun k_=>P0_ k_)) (kp HK.out) hb)<|ai (bq HB hb)<|aj (hbox)<|aj ((by rw [hg];exact (by first|exact HK.out.1|exact (show Kept w _ (fun k_=>P0_ k_) from kp HK.out).1):w.heap.size≤gb580))<|Aside0.mk ((by rw [hg];exact (below_size (bl HB.out)):w0.heap.size≤gb580));clear HO0 HO2_3 HO2_4 HK HB;obtain ⟨HO0,HO2_3,HO2_4,HK,HB,BK580,GW580,GE580⟩:=n_;clear hb hbox hg;obtain ⟨h16_0,h16_1,h16_2,h16_3,h16_4⟩:=kb5 BK580.out;obtain ⟨z16_0,z16_1,z16_2,z16_3,z16_4⟩:=kz5 BK580.out)|((with_reducible refine gate_callee (f:=21) rfl ?_);refine goesL_ (some 16) rfl rfl Try.func21 (by kernel_rfl) rfl #[.slice A1 l1.length c1,.string a2_2] rfl gs ?_;(with_reducible refine (spec_l4Has.calls k _ _ l1 a2_2 false _ ?side1 ?side2 A5.out).mono ?_);(case side1=>exact Kd.C_kept_now HR1.out (kp HK.out));(case side2=>exact HC1.out);rintro e w' ⟨rfl,⟨nd,rfl⟩⟩;refine ⟨_,rfl,?_⟩;obtain ⟨Ao17,co17,eo17⟩:=Kd.R_slice HO0.out;subst eo17)|(go_at_call 21;(with_reducible refine (spec_l4Has.calls k _ _ l0 a2_2 false _ ?side1 ?side2 A9.out).mono ?_);(case side1=>repeat (first|exact (Kd.R_reads' HO0.out).2.2|(with_reducible refine Kd.C_alloc ?_ _)|(with_reducible refine Kd.C_drewN ?_ _)|(with_reducible refine Kd.C_drew ?_)));(case side2=>exact (Kd.R_reads' HO0.out).2.1);rintro e w' ⟨rfl,⟨nd,rfl⟩⟩)|((with_reducible refine gate_builtin (b:=.append) (xs:=#[.tmp 25,.tmp 28]) rfl ?_);at_builtin;refine Kd.R_append Kd.string (w0:=w0) w0.heap.size rfl (.tmp 25) (.tmp 28) 29 9 (.string ⟨#[]⟩) 16 rfl Try.underlying29 info9 rfl (by decide) (by omega) (.slice Ao17 l0.length co17) l0 a2_2 [.string a2_2] (fun k_=>(P0_ k_∨w.heap.size≤k_)) (fun _=>False) rfl rfl ?aP (fun _ hk=>hk.elim) ?aF ?aO ?aB ?aS ?aL ?_;(case aP=>exact rfl);(case aB=>exact (bl HB.out));(case aF=>exact (fun k_ hk=>(.inr (Nat.le_trans (by first|exact HK.out.1|exact (show Kept w _ (fun k_=>P0_ k_) from kp HK.out).1) hk))));(case aO=>exact (rk HO0.out));(case aS=>exact (below_size (bl HB.out)));(case aL=>have:=LMc14.out;omega);intro v584 w18 ho hb hg hat;rw [← Ny583.out] at ho;have n_:=aj (Kd.V_afterv (ok:=(fun k_=>((P0_ k_∨P2_3_ k_∨P2_4_ k_)∨w.heap.size≤k_)∧k_≠gb580)) (Kd.V_mono (vfm HO2_3.out) (fun _ hk=>⟨⟨hk.1.1,hk.2⟩,hk.1.2⟩)) hg hat)<|aj (Kd.V_afterv (ok:=(fun k_=>((P0_ k_∨P2_3_ k_∨P2_4_ k_)∨w.heap.size≤k_)∧k_≠gb580)) (Kd.V_mono (vfm HO2_4.out) (fun _ hk=>⟨⟨hk.1.1,hk.2⟩,hk.1.2⟩)) hg hat)<|aj (blk_grown (g:=gb580) (o:=.cells #[.int .i64 a2_0,.int .i64 a2_1,.string a2_2,.slice A2_3 l2_3.length c2_3,.slice A2_4 l2_4.length c2_4] 27 (0,0)) (bk BK580.out) hg (Kd.R_ne HO0.out BK580.out (by decide)))<|aj (hb)<|aj (Kept.of_grown (S:=(fun k_=>P0_ k_)) hg (kp HK.out) (fun k_ e_=>(HO0.out.1 k_ e_)))<|Aside0.mk (ho);clear HO2_3 HO2_4 BK580 HB HK HO0;obtain ⟨HO2_3,HO2_4,BK580,HB,HK,HO585⟩:=n_;clear ho hb hg hat))
     go_ret
     exact ⟨_,cl,rk HO585.out,bl HB.out,kp HK.out⟩
    ·rw [if_neg c14] at H
     exact absurd H (by simp)
 ·rw [if_neg c4] at H
  have c4b0:(a2_0 == 3)=false:=beq_eq_false_iff_ne.mpr c4;have c4b1:(a2_0 != 3)=true:=bne_iff_ne.mpr c4;have H':=Aside0.mk H;clear H
  go_enter Try.func15,Try.ntmps15
  go_wp2_with (first|((with_reducible refine gate_dst (N:=5) rfl ?_);refine box_event ?hg (N:=5) ?hd (cs:=#[.int .i64 a2_0,.int .i64 a2_1,.string a2_2,.slice A2_3 l2_3.length c2_3,.slice A2_4 l2_4.length c2_4]) (t:=27) ?hr ?_;(case hd|hg=>rfl);(case hr=>first|(go_simp;done)|(go_simp;rfl));intro gb580 hg w19 hbox hb;have n_:=ai (rwm HO0 hb)<|ai (vbm HO2_3 hg hb)<|ai (vbm HO2_4 hg hb)<|aj (Kept.below (S:=(fun k_=>P0_ k_)) (kp HK.out) hb)<|ai (bq HB hb)<|aj (hbox)<|aj ((by rw [hg];exact (by first|exact HK.out.1|exact (show Kept w _ (fun k_=>P0_ k_) from kp HK.out).1):w.heap.size≤gb580))<|Aside0.mk ((by rw [hg];exact (below_size (bl HB.out)):w0.heap.size≤gb580));clear HO0 HO2_3 HO2_4 HK HB;obtain ⟨HO0,HO2_3,HO2_4,HK,HB,BK580,GW580,GE580⟩:=n_;clear hb hbox hg;obtain ⟨h20_0,h20_1,h20_2,h20_3,h20_4⟩:=kb5 BK580.out;obtain ⟨z20_0,z20_1,z20_2,z20_3,z20_4⟩:=kz5 BK580.out))
  go_loopg [0,7] k (fun kq v0 v7 w'=>∃ (x0_1:List ByteArray) (x7_1:Int),v7=.int .i64 x7_1∧Aside0 (spec_l4Free.l0 kq x0_1 l1 x7_1 a2_0 a2_1 a2_2 l2_3 l2_4=some r)∧Aside0 (kq≤k)∧Aside0 (Kd.R Kd.string 9 w' w0.heap.size (fun k_=>(P0_ k_∨w.heap.size≤k_)) v0 x0_1)∧Aside0 (Kd.V k27 27 w' w0.heap.size (fun k_=>((P0_ k_∨P2_3_ k_∨P2_4_ k_)∨w.heap.size≤k_)∧some k_≠(v0:Value).ownBlock∧k_≠gb580) (.slice A2_3 l2_3.length c2_3) l2_3)∧Aside0 (Kd.V k33 33 w' w0.heap.size (fun k_=>((P0_ k_∨P2_3_ k_∨P2_4_ k_)∨w.heap.size≤k_)∧some k_≠(v0:Value).ownBlock∧k_≠gb580) (.slice A2_4 l2_4.length c2_4) l2_4)∧Aside0 (w'.heap[gb580]?=some (.cells #[.int .i64 a2_0,.int .i64 a2_1,.string a2_2,(.slice A2_3 l2_3.length c2_3),(.slice A2_4 l2_4.length c2_4)] 27 (0,0)))∧Aside0 (Kept w w' (fun k_=>P0_ k_))∧Aside0 (Below w0.heap.size w0 w'))
  case atStart=>exact ⟨(l0),(0),(cl2),H',⟨Nat.le_refl _⟩,⟨rk HO0.out⟩,⟨Kd.V_mono (vfm HO2_3.out) (fun _ hk=>⟨hk.1.1,⟨hk.1.2,hk.2⟩⟩)⟩,⟨Kd.V_mono (vfm HO2_4.out) (fun _ hk=>⟨hk.1.1,⟨hk.1.2,hk.2⟩⟩)⟩,⟨bk BK580.out⟩,⟨kp HK.out⟩,⟨bl HB.out⟩⟩
  case round =>
   clear H';(try clear c1);(try clear c4);(try clear c4b0);(try clear c4b1);(try clear h20_0 h20_1 h20_2 h20_3 h20_4);(try clear z20_0 z20_1 z20_2 z20_3 z20_4);(try clear BK580);(try clear HK);(try clear HB);obtain ⟨x0_1,x7_1,rfl,HA,HK1,HO_0,HO_581003,HO_581004,BK580,HK,HB⟩:=hrel
   cases gk with
   | zero=>exact absurd HA.out (by simp [spec_l4Free.l0])
   | succ k1 =>
    have H:=HA.out;clear HA;simp only [spec_l4Free.l0] at H
    by_cases c21:x7_1 < (l2_3.length:Int)
    ·rw [if_pos c21] at H
     have c21b0:decide (x7_1 < (l2_3.length:Int))=true:=decide_eq_true c21;clear c21
     by_cases c22:0≤x7_1
     ·rw [if_pos c22] at H
      have c22b0:decide (0≤x7_1)=true:=decide_eq_true c22;clear c22;replace H:=bs H;obtain ⟨t587,A230,H⟩:=H;replace H:(spec_l4Free.l0 k1 t587 l1 (wrap64 (x7_1 + 1)) a2_0 a2_1 a2_2 l2_3 l2_4)=some r:=H;have A23:=Aside0.mk A230;clear A230;have H':=Aside0.mk H;clear H;obtain ⟨h24_0,h24_1,h24_2,h24_3,h24_4⟩:=kb5 BK580.out;have p586:0≤(x7_1:Int):=od;have q586:x7_1 < (l2_3.length:Int):=od;obtain ⟨ad586,A586_3,c586_3,A586_4,c586_4,e586,hx586_0,hx586_1,hx586_2,hx586_3,hx586_4,hl586_3,hi586_3,hl586_4,hi586_4⟩:=at_T27 (Kd.V_reads' HO_581003.out).2.2 x7_1 p586 q586;cases e586;obtain ⟨ce586,hce586,hMe586,hcc586⟩:=Kd.V_get HO_581003.out z27 x7_1 p586 (by first|exact q586|exact od|(have e_:=(Kd.V_reads' HO_581003.out).1;omega));obtain ⟨ua586_3,uc586_3,ua586_4,uc586_4,rfl,ul586_3,ge586_3,ul586_4,ge586_4⟩:=k27_openF hMe586;have hv586_3:=hcc586 3 _ rfl;rw [add_field _ _ 3 (by omega)] at hv586_3;replace hv586_3:=Option.some.inj (hv586_3.symm.trans hx586_3)
      injection hv586_3 with hva_ hvn_ hvc_
      rw [hva_] at ge586_3;rw [hvc_] at ul586_3;have HL586_3:=Aside0.mk (show Kd.V k27 27 _ w0.heap.size _ _ ((rd_T27 l2_3 x7_1).f3) from Kd.V_mk ul586_3 ge586_3);clear hva_ hvn_ hvc_ ge586_3 ul586_3;have hv586_4:=hcc586 4 _ rfl;rw [add_field _ _ 4 (by omega)] at hv586_4;replace hv586_4:=Option.some.inj (hv586_4.symm.trans hx586_4)
      injection hv586_4 with hva_ hvn_ hvc_
      rw [hva_] at ge586_4;rw [hvc_] at ul586_4;have HL586_4:=Aside0.mk (show Kd.V k33 33 _ w0.heap.size _ _ ((rd_T27 l2_3 x7_1).f4) from Kd.V_mk ul586_4 ge586_4);clear hva_ hvn_ hvc_ ge586_4 ul586_4;clear hcc586 hce586;have HR586_3:=Aside0.mk hi586_3;have HC586_3:=Aside0.mk hl586_3;clear hi586_3 hl586_3;have HR586_4:=Aside0.mk hi586_4;have HC586_4:=Aside0.mk hl586_4;clear hi586_4 hl586_4;replace p586:=eq_true p586;replace q586:=eq_true q586;obtain ⟨Ao25,co25,eo25⟩:=Kd.R_slice HO_0.out;subst eo25
      go_wp2_with (first|((with_reducible refine gate_callee (f:=15) rfl ?_);refine goesL_ (some 45) rfl rfl Try.func15 (by kernel_rfl) rfl #[.slice Ao25 x0_1.length co25,.slice A1 l1.length c1,.agg #[.int .i64 ((rd_T27 l2_3 x7_1).f0),.int .i64 ((rd_T27 l2_3 x7_1).f1),.string ((rd_T27 l2_3 x7_1).f2),.slice A586_3 ((rd_T27 l2_3 x7_1).f3).length c586_3,.slice A586_4 ((rd_T27 l2_3 x7_1).f4).length c586_4]] rfl gs ?_;(with_reducible refine (ih k1 (by have:=HK1.out;omega) (fun k_=>some k_=(.slice Ao25 x0_1.length co25:Value).ownBlock) (.slice Ao25 x0_1.length co25) x0_1 _ _ l1 ((rd_T27 l2_3 x7_1).f0) ((rd_T27 l2_3 x7_1).f1) ((rd_T27 l2_3 x7_1).f2) (fun k_=>(((P0_ k_∨P2_3_ k_∨P2_4_ k_)∨w.heap.size≤k_)∧(some k_≠(.slice Ao25 x0_1.length co25:Value).ownBlock∧k_≠gb580))) _ _ ((rd_T27 l2_3 x7_1).f3) (fun k_=>(((P0_ k_∨P2_3_ k_∨P2_4_ k_)∨w.heap.size≤k_)∧(some k_≠(.slice Ao25 x0_1.length co25:Value).ownBlock∧k_≠gb580))) _ _ ((rd_T27 l2_3 x7_1).f4) t587 w0 _ ?side1 ?side2 ?side3 ?side4 ?side5 ?side6 A23.out).mono ?_);(case side1=>exact bl HB.out);(case side2=>exact Kd.R_tight rfl HO_0.out);(case side3=>exact Kd.C_kept_call HR1.out (kp HK.out) (fun k_ hs_=>(fun e_=>(HO_0.out.1 k_ e_.symm)) hs_));(case side4=>exact HC1.out);(case side5=>exact Kd.V_mono (HL586_3.out) (fun k_ hk_=>⟨hk_,hk_.2.1⟩));(case side6=>exact Kd.V_mono (HL586_4.out) (fun k_ hk_=>⟨hk_,hk_.2.1⟩));rintro e w26 ⟨v588,rfl,ho0,hb,hkp⟩;refine ⟨_,rfl,?_⟩;have n_:=aj (Kd.V_mono (ok':=fun k_=>((P0_ k_∨P2_3_ k_∨P2_4_ k_)∨w.heap.size≤k_)∧k_≠gb580∧some k_≠(v588:Value).ownBlock) (Kd.V_keptB (HO_581003.out) hkp (fun k_ hk_ hs_=>(hk_.2.1) hs_)) (fun k_ hk_=>⟨hk_.1.1,hk_.1.2.2,fun e_=>Or.elim (ho0.1 k_ e_.symm) (fun hs_=>hk_.2.1 hs_) (fun hn_=>Nat.not_le.2 hk_.2.2 hn_)⟩))<|aj (Kd.V_mono (ok':=fun k_=>((P0_ k_∨P2_3_ k_∨P2_4_ k_)∨w.heap.size≤k_)∧k_≠gb580∧some k_≠(v588:Value).ownBlock) (Kd.V_keptB (HO_581004.out) hkp (fun k_ hk_ hs_=>(hk_.2.1) hs_)) (fun k_ hk_=>⟨hk_.1.1,hk_.1.2.2,fun e_=>Or.elim (ho0.1 k_ e_.symm) (fun hs_=>hk_.2.1 hs_) (fun hn_=>Nat.not_le.2 hk_.2.2 hn_)⟩))<|aj (blk_kept (bk BK580.out) hkp (fun hs_=>(fun e_=>(Kd.R_ne HO_0.out BK580.out (by decide)) e_) hs_))<|aj (Kd.R_mono (ok':=fun k_=>(P0_ k_∨w.heap.size≤k_)) ho0 (fun k_ hk_=>Or.elim hk_ (fun hs_=>(HO_0.out.1 k_ (hs_).symm)) (fun hn_=>(.inr (Nat.le_trans (by first|exact HK.out.1|exact (show Kept w _ (fun k_=>P0_ k_) from kp HK.out).1) hn_)))))<|aj (Kept.then_ (S:=(fun k_=>P0_ k_)) (kp HK.out) hkp (fun k_ hs_=>(fun e_=>(HO_0.out.1 k_ e_.symm)) hs_))<|Aside0.mk (hb);clear HO_581003 HO_581004 BK580 HK HB HO_0 HL586_3 HL586_4;obtain ⟨HO_581003,HO_581004,BK580,HO589,HK,HB⟩:=n_;(try clear hb);(try clear hkp);(try clear ho0)))
      go_roundg k1
      case measure=>have:=HK1.out;omega
      case rel=>exact ⟨(t587),(wrap64 (x7_1 + 1)),(cl2),H',⟨by have:=HK1.out;omega⟩,⟨rk HO589.out⟩,⟨Kd.V_mono (vfm HO_581003.out) (fun _ hk=>⟨hk.1,⟨hk.2.2,hk.2.1⟩⟩)⟩,⟨Kd.V_mono (vfm HO_581004.out) (fun _ hk=>⟨hk.1,⟨hk.2.2,hk.2.1⟩⟩)⟩,⟨bk BK580.out⟩,⟨kp HK.out⟩,⟨bl HB.out⟩⟩
     ·rw [if_neg c22] at H
      exact absurd H (by simp)
    ·rw [if_neg c21] at H
     have c21b0:decide (x7_1 < (l2_3.length:Int))=false:=decide_eq_false c21;clear c21;have H':=Aside0.mk H;clear H;obtain ⟨h27_0,h27_1,h27_2,h27_3,h27_4⟩:=kb5 BK580.out
     go_wp2
     go_loopg [0,8] k1 (fun kq v0 v8 w'=>∃ (x0_2:List ByteArray) (x8_2:Int),v8=.int .i64 x8_2∧Aside0 (spec_l4Free.l1 kq x0_2 l1 x8_2 a2_0 a2_1 a2_2 l2_3 l2_4=some r)∧Aside0 (kq≤k1)∧Aside0 (Kd.R Kd.string 9 w' w0.heap.size (fun k_=>(P0_ k_∨w.heap.size≤k_)) v0 x0_2)∧Aside0 (Kd.V k27 27 w' w0.heap.size (fun k_=>((P0_ k_∨P2_3_ k_∨P2_4_ k_)∨w.heap.size≤k_)∧some k_≠(v0:Value).ownBlock∧k_≠gb580) (.slice A2_3 l2_3.length c2_3) l2_3)∧Aside0 (Kd.V k33 33 w' w0.heap.size (fun k_=>((P0_ k_∨P2_3_ k_∨P2_4_ k_)∨w.heap.size≤k_)∧some k_≠(v0:Value).ownBlock∧k_≠gb580) (.slice A2_4 l2_4.length c2_4) l2_4)∧Aside0 (w'.heap[gb580]?=some (.cells #[.int .i64 a2_0,.int .i64 a2_1,.string a2_2,(.slice A2_3 l2_3.length c2_3),(.slice A2_4 l2_4.length c2_4)] 27 (0,0)))∧Aside0 (Kept w w' (fun k_=>P0_ k_))∧Aside0 (Below w0.heap.size w0 w'))
     case atStart=>exact ⟨(x0_1),(0),(cl2),H',⟨Nat.le_refl _⟩,⟨rk HO_0.out⟩,⟨vdm HO_581003.out⟩,⟨vdm HO_581004.out⟩,⟨bk BK580.out⟩,⟨kp HK.out⟩,⟨bl HB.out⟩⟩
     case round =>
      clear H';(try clear c1);(try clear c4);(try clear c4b0);(try clear c4b1);(try clear c21);(try clear c21b0);(try clear h20_0 h20_1 h20_2 h20_3 h20_4);(try clear h27_0 h27_1 h27_2 h27_3 h27_4);(try clear z20_0 z20_1 z20_2 z20_3 z20_4);(try clear p2);(try clear HO_0);(try clear HO_581003);(try clear HO_581004);(try clear BK580);(try clear HK);(try clear HB);obtain ⟨x0_2,x8_2,rfl,HA,HK2,HO_0,HO_581003,HO_581004,BK580,HK,HB⟩:=hrel
      cases gk with
      | zero=>exact absurd HA.out (by simp [spec_l4Free.l1])
      | succ k2 =>
       have H:=HA.out;clear HA;simp only [spec_l4Free.l1] at H
       by_cases c28:x8_2 < (l2_4.length:Int)
       ·rw [if_pos c28] at H
        have c28b0:decide (x8_2 < (l2_4.length:Int))=true:=decide_eq_true c28;clear c28;obtain ⟨y590,hy590⟩:∃ y_:List ByteArray,y_=(([]:List ByteArray)):=⟨_,rfl⟩;replace H:(if y590.length + l1.length < 8796093022208 then ((some (y590 ++ l1:List ByteArray)).bind fun y593=>(if 0≤x8_2 then ((spec_VarsOf.f k2 ((rd_T33 l2_4 x8_2).f0.f0) ((rd_T33 l2_4 x8_2).f0.f1) ((rd_T33 l2_4 x8_2).f0.f2) ((rd_T33 l2_4 x8_2).f0.f3) ((rd_T33 l2_4 x8_2).f0.f4)).bind fun t597=>(if y593.length + t597.length < 8796093022208 then ((spec_l4Free.f k2 x0_2 (y593 ++ t597) ((rd_T33 l2_4 x8_2).f1.f0) ((rd_T33 l2_4 x8_2).f1.f1) ((rd_T33 l2_4 x8_2).f1.f2) ((rd_T33 l2_4 x8_2).f1.f3) ((rd_T33 l2_4 x8_2).f1.f4)).bind fun t604=>(spec_l4Free.l1 k2 t604 l1 (wrap64 (x8_2 + 1)) a2_0 a2_1 a2_2 l2_3 l2_4)) else (none))) else (none))) else (none))=some r:=hw hy590 H
        have Ny590:=Aside0.mk hy590;clear hy590
        by_cases c29:y590.length + l1.length < 8796093022208
        ·rw [if_pos c29] at H
         have LMc29:=Aside0.mk c29;clear c29;obtain ⟨y593,hy593⟩:∃ y_:List ByteArray,y_=(y590 ++ l1):=⟨_,rfl⟩;replace H:(if 0≤x8_2 then ((spec_VarsOf.f k2 ((rd_T33 l2_4 x8_2).f0.f0) ((rd_T33 l2_4 x8_2).f0.f1) ((rd_T33 l2_4 x8_2).f0.f2) ((rd_T33 l2_4 x8_2).f0.f3) ((rd_T33 l2_4 x8_2).f0.f4)).bind fun t597=>(if y593.length + t597.length < 8796093022208 then ((spec_l4Free.f k2 x0_2 (y593 ++ t597) ((rd_T33 l2_4 x8_2).f1.f0) ((rd_T33 l2_4 x8_2).f1.f1) ((rd_T33 l2_4 x8_2).f1.f2) ((rd_T33 l2_4 x8_2).f1.f3) ((rd_T33 l2_4 x8_2).f1.f4)).bind fun t604=>(spec_l4Free.l1 k2 t604 l1 (wrap64 (x8_2 + 1)) a2_0 a2_1 a2_2 l2_3 l2_4)) else (none))) else (none))=some r:=hw hy593 H
         have Ny593:=Aside0.mk hy593;clear hy593
         by_cases c30:0≤x8_2
         ·rw [if_pos c30] at H
          have c30b0:decide (0≤x8_2)=true:=decide_eq_true c30;clear c30;replace H:=bs H;obtain ⟨t597,A310,H⟩:=H;replace H:(if y593.length + t597.length < 8796093022208 then ((spec_l4Free.f k2 x0_2 (y593 ++ t597) ((rd_T33 l2_4 x8_2).f1.f0) ((rd_T33 l2_4 x8_2).f1.f1) ((rd_T33 l2_4 x8_2).f1.f2) ((rd_T33 l2_4 x8_2).f1.f3) ((rd_T33 l2_4 x8_2).f1.f4)).bind fun t604=>(spec_l4Free.l1 k2 t604 l1 (wrap64 (x8_2 + 1)) a2_0 a2_1 a2_2 l2_3 l2_4)) else (none))=some r:=H;have A31:=Aside0.mk A310;clear A310
          by_cases c32:y593.length + t597.length < 8796093022208
          ·rw [if_pos c32] at H
           have LMc32:=Aside0.mk c32;clear c32;obtain ⟨y600,hy600⟩:∃ y_:List ByteArray,y_=(y593 ++ t597):=⟨_,rfl⟩;replace H:((spec_l4Free.f k2 x0_2 y600 ((rd_T33 l2_4 x8_2).f1.f0) ((rd_T33 l2_4 x8_2).f1.f1) ((rd_T33 l2_4 x8_2).f1.f2) ((rd_T33 l2_4 x8_2).f1.f3) ((rd_T33 l2_4 x8_2).f1.f4)).bind fun t604=>(spec_l4Free.l1 k2 t604 l1 (wrap64 (x8_2 + 1)) a2_0 a2_1 a2_2 l2_3 l2_4))=some r:=hw hy600 H
           have Ny600:=Aside0.mk hy600;clear hy600;replace H:=bs H;obtain ⟨t604,A330,H⟩:=H;replace H:(spec_l4Free.l1 k2 t604 l1 (wrap64 (x8_2 + 1)) a2_0 a2_1 a2_2 l2_3 l2_4)=some r:=H;have A33:=Aside0.mk A330;clear A330;have H':=Aside0.mk H;clear H;obtain ⟨h34_0,h34_1,h34_2,h34_3,h34_4⟩:=kb5 BK580.out
           try go_wp2
           have n_:=aj (Kd.R_drew HO_0.out)<|aj (Kd.V_drew HO_581003.out)<|aj (Kd.V_drew HO_581004.out)<|ai (dk BK580)<|aj (Kept.drew HK.out)<|dh HB;clear HO_0 HO_581003 HO_581004 BK580 HK HB;obtain ⟨HO_0,HO_581003,HO_581004,BK580,HK,HB⟩:=n_;have p596:0≤(x8_2:Int):=od;have q596:x8_2 < (l2_4.length:Int):=od;obtain ⟨ad596,A596_3,c596_3,A596_4,c596_4,A596_8,c596_8,A596_9,c596_9,e596,hx596_0,hx596_1,hx596_2,hx596_3,hx596_4,hx596_5,hx596_6,hx596_7,hx596_8,hx596_9,hl596_3,hi596_3,hl596_4,hi596_4,hl596_8,hi596_8,hl596_9,hi596_9⟩:=at_T33 (Kd.V_reads' HO_581004.out).2.2 x8_2 p596 q596;cases e596;obtain ⟨ce596,hce596,hMe596,hcc596⟩:=Kd.V_get HO_581004.out z33 x8_2 p596 (by first|exact q596|exact od|(have e_:=(Kd.V_reads' HO_581004.out).1;omega));obtain ⟨ua596_3,uc596_3,ua596_4,uc596_4,ua596_8,uc596_8,ua596_9,uc596_9,rfl,ul596_3,ge596_3,ul596_4,ge596_4,ul596_8,ge596_8,ul596_9,ge596_9⟩:=k33_openF hMe596;have hv596_3:=hcc596 3 _ rfl;rw [add_field _ _ 3 (by omega)] at hv596_3;replace hv596_3:=Option.some.inj (hv596_3.symm.trans hx596_3)
           injection hv596_3 with hva_ hvn_ hvc_
           rw [hva_] at ge596_3;rw [hvc_] at ul596_3;have HL596_3:=Aside0.mk (show Kd.V k27 27 _ w0.heap.size _ _ ((rd_T33 l2_4 x8_2).f0.f3) from Kd.V_mk ul596_3 ge596_3);clear hva_ hvn_ hvc_ ge596_3 ul596_3;have hv596_4:=hcc596 4 _ rfl;rw [add_field _ _ 4 (by omega)] at hv596_4;replace hv596_4:=Option.some.inj (hv596_4.symm.trans hx596_4)
           injection hv596_4 with hva_ hvn_ hvc_
           rw [hva_] at ge596_4;rw [hvc_] at ul596_4;have HL596_4:=Aside0.mk (show Kd.V k33 33 _ w0.heap.size _ _ ((rd_T33 l2_4 x8_2).f0.f4) from Kd.V_mk ul596_4 ge596_4);clear hva_ hvn_ hvc_ ge596_4 ul596_4;have hv596_8:=hcc596 8 _ rfl;rw [add_field _ _ 8 (by omega)] at hv596_8;replace hv596_8:=Option.some.inj (hv596_8.symm.trans hx596_8)
           injection hv596_8 with hva_ hvn_ hvc_
           rw [hva_] at ge596_8;rw [hvc_] at ul596_8;have HL596_8:=Aside0.mk (show Kd.V k27 27 _ w0.heap.size _ _ ((rd_T33 l2_4 x8_2).f1.f3) from Kd.V_mk ul596_8 ge596_8);clear hva_ hvn_ hvc_ ge596_8 ul596_8;have hv596_9:=hcc596 9 _ rfl;rw [add_field _ _ 9 (by omega)] at hv596_9;replace hv596_9:=Option.some.inj (hv596_9.symm.trans hx596_9)
           injection hv596_9 with hva_ hvn_ hvc_
           rw [hva_] at ge596_9;rw [hvc_] at ul596_9;have HL596_9:=Aside0.mk (show Kd.V k33 33 _ w0.heap.size _ _ ((rd_T33 l2_4 x8_2).f1.f4) from Kd.V_mk ul596_9 ge596_9);clear hva_ hvn_ hvc_ ge596_9 ul596_9;clear hcc596 hce596;have HR596_3:=Aside0.mk hi596_3;have HC596_3:=Aside0.mk hl596_3;clear hi596_3 hl596_3;have HR596_4:=Aside0.mk hi596_4;have HC596_4:=Aside0.mk hl596_4;clear hi596_4 hl596_4;have HR596_8:=Aside0.mk hi596_8;have HC596_8:=Aside0.mk hl596_8;clear hi596_8 hl596_8;have HR596_9:=Aside0.mk hi596_9;have HC596_9:=Aside0.mk hl596_9;clear hi596_9 hl596_9;replace p596:=eq_true p596;replace q596:=eq_true q596
           refine start_ (n:=12) (S:=fun w'=>(w'.cell? ⟨gb580,0,none⟩=some (.int .i64 a2_0)∧w'.cell? ⟨gb580,1,none⟩=some (.int .i64 a2_1)∧w'.cell? ⟨gb580,2,none⟩=some (.string a2_2)∧w'.cell? ⟨gb580,3,none⟩=some (.slice A2_3 l2_3.length c2_3)∧w'.cell? ⟨gb580,4,none⟩=some (.slice (some ad596) l2_4.length c2_4))∧w'.cell? (ad596.add ((x8_2).toNat * 10))=some (.int .i64 ((rd_T33 l2_4 x8_2).f0.f0))∧w'.cell? ⟨(ad596.add ((x8_2).toNat * 10)).block,(ad596.add ((x8_2).toNat * 10)).off + 1,none⟩=some (.int .i64 ((rd_T33 l2_4 x8_2).f0.f1))∧w'.cell? ⟨(ad596.add ((x8_2).toNat * 10)).block,(ad596.add ((x8_2).toNat * 10)).off + 2,none⟩=some (.string ((rd_T33 l2_4 x8_2).f0.f2))∧w'.cell? ⟨(ad596.add ((x8_2).toNat * 10)).block,(ad596.add ((x8_2).toNat * 10)).off + 3,none⟩=some (.slice A596_3 ((rd_T33 l2_4 x8_2).f0.f3).length c596_3)∧w'.cell? ⟨(ad596.add ((x8_2).toNat * 10)).block,(ad596.add ((x8_2).toNat * 10)).off + 4,none⟩=some (.slice A596_4 ((rd_T33 l2_4 x8_2).f0.f4).length c596_4)∧w'.cell? ⟨(ad596.add ((x8_2).toNat * 10)).block,(ad596.add ((x8_2).toNat * 10)).off + 5,none⟩=some (.int .i64 ((rd_T33 l2_4 x8_2).f1.f0))∧w'.cell? ⟨(ad596.add ((x8_2).toNat * 10)).block,(ad596.add ((x8_2).toNat * 10)).off + 6,none⟩=some (.int .i64 ((rd_T33 l2_4 x8_2).f1.f1))∧w'.cell? ⟨(ad596.add ((x8_2).toNat * 10)).block,(ad596.add ((x8_2).toNat * 10)).off + 7,none⟩=some (.string ((rd_T33 l2_4 x8_2).f1.f2))∧w'.cell? ⟨(ad596.add ((x8_2).toNat * 10)).block,(ad596.add ((x8_2).toNat * 10)).off + 8,none⟩=some (.slice A596_8 ((rd_T33 l2_4 x8_2).f1.f3).length c596_8)∧w'.cell? ⟨(ad596.add ((x8_2).toNat * 10)).block,(ad596.add ((x8_2).toNat * 10)).off + 9,none⟩=some (.slice A596_9 ((rd_T33 l2_4 x8_2).f1.f4).length c596_9)) (ds:=[]) #[false,false,false,false,false,false,false,false,false,false,false,false] (by kernel_rfl) rfl rfl ⟨kb5 BK580.out,hx596_0,hx596_1,hx596_2,hx596_3,hx596_4,hx596_5,hx596_6,hx596_7,hx596_8,hx596_9⟩ (fun hHeld=>?_);refine with_tabW spec_l4Free.tab12 spec_l4Free.bits12 (fun HT_ HW_=>?_)
           generalize wr.drew=w35 at HO_0 HO_581003 HO_581004 BK580 HK HB HL596_3 HL596_4 HL596_8 HL596_9 HR596_3 HR596_4 HR596_8 HR596_9 hx596_0 hx596_1 hx596_2 hx596_3 hx596_4 hx596_5 hx596_6 hx596_7 hx596_8 hx596_9 hHeld ⊢;refine pu 1 54 ?_;refine pu 3 56 ?_;refine pu 5 58 ?_;refine ta 4 57 hHeld ?_;refine pu 6 59 ?_;refine pu 7 60 ?_;refine ta 8 61 hHeld ?_
           refine one_ (i:=0) (N:=some 53) #[true,true,false,true,true,true,true,true,true,false,false,false] rfl rfl (one_of HT_.out (by kernel_rfl)) (by decide) (fun K hK=>?_)
           refine Kd.R_lit_step Kd.string _ 9 ?hg (N:=53) ?hd (xs:=([]:List ByteArray)) (inner:=[]) (ok:=fun _=>True) (okp:=fun _=>True) ?hr ?hp (fun _ hk=>hk) trivial (Below.refl _ _) (Nat.le_refl _) (by simp) ?_;(case hd|hg=>rfl);(case hr=>first|(go_simp;done)|(go_simp;rfl));(case hp=>exact (Reps.none _ _))
           intro v591 w36 ho37 hb hg_ hnew_;have HS5_:=(hb.cell (World.block_lt_of_cell? _ _ (hHeld.2.1))).trans (hHeld.2.1);have HS6_:=(hb.cell (World.block_lt_of_cell? _ _ (hHeld.2.2.1))).trans (hHeld.2.2.1);have HS7_:=(hb.cell (World.block_lt_of_cell? _ _ (hHeld.2.2.2.1))).trans (hHeld.2.2.2.1);have HS8_:=(hb.cell (World.block_lt_of_cell? _ _ (hHeld.2.2.2.2.1))).trans (hHeld.2.2.2.2.1);have HS9_:=(hb.cell (World.block_lt_of_cell? _ _ (hHeld.2.2.2.2.2.1))).trans (hHeld.2.2.2.2.2.1);have HS10_:=(hb.cell (World.block_lt_of_cell? _ _ (hHeld.2.2.2.2.2.2.1))).trans (hHeld.2.2.2.2.2.2.1);have HS11_:=(hb.cell (World.block_lt_of_cell? _ _ (hHeld.2.2.2.2.2.2.2.1))).trans (hHeld.2.2.2.2.2.2.2.1);have HS12_:=(hb.cell (World.block_lt_of_cell? _ _ (hHeld.2.2.2.2.2.2.2.2.1))).trans (hHeld.2.2.2.2.2.2.2.2.1);have HS13_:=(hb.cell (World.block_lt_of_cell? _ _ (hHeld.2.2.2.2.2.2.2.2.2.1))).trans (hHeld.2.2.2.2.2.2.2.2.2.1);have HS14_:=(hb.cell (World.block_lt_of_cell? _ _ (hHeld.2.2.2.2.2.2.2.2.2.2))).trans (hHeld.2.2.2.2.2.2.2.2.2.2);clear hg_ hnew_
           (first|rw [← Ny590.out] at ho37|(simp only [Int.reduceToNat] at ho37;rw [← Ny590.out] at ho37))
           have n0_:=Aside0.mk (Kd.R_elder' (rk HO_0.out) (Kd.R_base ho37) hb);have n1_:=Aside0.mk (Kd.V_elder' (vdm HO_581003.out) (Kd.R_base ho37) hb);have n2_:=Aside0.mk (Kd.V_elder' (vdm HO_581004.out) (Kd.R_base ho37) hb);have n3_:=Aside0.mk (Kd.V_elder' (vdm HL596_3.out) (Kd.R_base ho37) hb);have n4_:=Aside0.mk (Kd.V_elder' (vdm HL596_4.out) (Kd.R_base ho37) hb);have n5_:=Aside0.mk (Kd.V_elder' (vdm HL596_8.out) (Kd.R_base ho37) hb);have n6_:=Aside0.mk (Kd.V_elder' (vdm HL596_9.out) (Kd.R_base ho37) hb);have n7_:=Aside0.mk (Kd.R_lower (Kd.R_new' (Kd.R_newM (M:=fun k_=>(P0_ k_∨w.heap.size≤k_)) ho37 (by first|exact HK.out.1|exact (show Kept w _ (fun k_=>P0_ k_) from kp HK.out).1) (fun k_ h_=>.inr h_)) (Kd.R_lt (rk HO_0.out))) (below_size (bl HB.out)));have n8_:=Aside0.mk (blk_below (g:=gb580) (o:=.cells #[.int .i64 a2_0,.int .i64 a2_1,.string a2_2,.slice A2_3 l2_3.length c2_3,.slice (some ad596) l2_4.length c2_4] 27 (0,0)) (bk BK580.out) hb);have n9_:=Aside0.mk (Kd.C_below (by repeat (first|(with_reducible exact HR596_3.out)|(with_reducible refine Kd.C_alloc ?_ _)|(with_reducible refine Kd.C_drewN ?_ _)|(with_reducible refine Kd.C_drew ?_)|exact HR596_3.out)) hb);have n10_:=Aside0.mk (Kd.C_below (by repeat (first|(with_reducible exact HR596_4.out)|(with_reducible refine Kd.C_alloc ?_ _)|(with_reducible refine Kd.C_drewN ?_ _)|(with_reducible refine Kd.C_drew ?_)|exact HR596_4.out)) hb);have n11_:=Aside0.mk (Kd.C_below (by repeat (first|(with_reducible exact HR596_8.out)|(with_reducible refine Kd.C_alloc ?_ _)|(with_reducible refine Kd.C_drewN ?_ _)|(with_reducible refine Kd.C_drew ?_)|exact HR596_8.out)) hb);have n12_:=Aside0.mk (Kd.C_below (by repeat (first|(with_reducible exact HR596_9.out)|(with_reducible refine Kd.C_alloc ?_ _)|(with_reducible refine Kd.C_drewN ?_ _)|(with_reducible refine Kd.C_drew ?_)|exact HR596_9.out)) hb);have n13_:=Aside0.mk (Kept.below (S:=(fun k_=>P0_ k_)) (kp HK.out) hb);have n14_:=Aside0.mk (below_step (bl HB.out) hb)
           clear HO_0;clear HO_581003;clear HO_581004;clear HL596_3;clear HL596_4;clear HL596_8;clear HL596_9;clear BK580;clear HR596_3;clear HR596_4;clear HR596_8;clear HR596_9;clear HK;clear HB;have HO_0:=n0_;have HO_581003:=n1_;have HO_581004:=n2_;have HL596_3:=n3_;have HL596_4:=n4_;have HL596_8:=n5_;have HL596_9:=n6_;have HO592:=n7_;have BK580:=n8_;have HR596_3:=n9_;have HR596_4:=n10_;have HR596_8:=n11_;have HR596_9:=n12_;have HK:=n13_;have HB:=n14_;clear n0_ n1_ n2_ n3_ n4_ n5_ n6_ n7_ n8_ n9_ n10_ n11_ n12_ n13_ n14_;clear hb ho37
           refine hK.out _ _ ⟨kb5 BK580.out,HS5_,HS6_,HS7_,HS8_,HS9_,HS10_,HS11_,HS12_,HS13_,HS14_⟩ (fun hHeld=>?_)
           clear hK K
           refine norm_ (a':=?_) ?_ ?_
           rotate_left
           ·show Act.put _ (some 53) _=_
            simp only [Act.put,List.setIfInBounds_toArray,List.set_cons_zero,List.set_cons_succ,i64_w,i32_w]
            rfl
           refine one_ (i:=2) (N:=some 55) #[true,true,true,true,true,true,true,true,true,false,false,false] rfl rfl (one_of HT_.out (by kernel_rfl)) (by decide) (fun K hK=>?_)
           refine Kd.R_append_rows_step Kd.string (w0:=w0) w0.heap.size (by rfl) (.tmp 53) (.tmp 54) 29 9 (.string ⟨#[]⟩) 16 rfl Try.underlying29 info9 rfl (by decide) (by omega) v591 y590 l1 _ _ _ (fun k_=>(P0_ k_∨w.heap.size≤k_)∧some k_≠(u0:Value).ownBlock) (fun _=>False) rfl rfl ?aO ?aR (fun _ _ h=>h) (fun _ h=>h.elim) ?aF ?aB ?aS ?aL ?_
           (case aR=>exact Kd.C_kept_now HR1.out (kp HK.out))
           (case aB=>exact (bl HB.out))
           (case aF=>exact (fun k_ hk=>⟨(.inr (Nat.le_trans (by first|exact HK.out.1|exact (show Kept w _ (fun k_=>P0_ k_) from kp HK.out).1) hk)),Kd.fresh' (Kd.R_lt (rk HO_0.out)) k_ hk⟩))
           (case aO=>exact (Kd.R_mono (rfm HO592.out) (fun _ hk=>⟨hk.1.1,hk.2⟩)))
           (case aS=>exact (below_size (bl HB.out)))
           (case aL=>have:=LMc29.out;omega)
           intro v594 w38 ho hb hg hat;have HS5_:=cell_grown hg (hHeld.2.1) (by first|exact V_away (ok:=(fun k_=>((P0_ k_∨P2_3_ k_∨P2_4_ k_)∨w.heap.size≤k_)∧some k_≠(u0:Value).ownBlock∧k_≠gb580)) (vdm HO_581004.out) hg _ (of_eq_true p596) (of_eq_true q596) (by decide)|(rw [add_block];exact V_away (ok:=(fun k_=>((P0_ k_∨P2_3_ k_∨P2_4_ k_)∨w.heap.size≤k_)∧some k_≠(u0:Value).ownBlock∧k_≠gb580)) (vdm HO_581004.out) hg _ (of_eq_true p596) (of_eq_true q596) (by decide))|(show some (Addr.add _ _).block≠_;rw [add_block];exact V_away (ok:=(fun k_=>((P0_ k_∨P2_3_ k_∨P2_4_ k_)∨w.heap.size≤k_)∧some k_≠(u0:Value).ownBlock∧k_≠gb580)) (vdm HO_581004.out) hg _ (of_eq_true p596) (of_eq_true q596) (by decide)));have HS6_:=cell_grown hg (hHeld.2.2.1) (by first|exact V_away (ok:=(fun k_=>((P0_ k_∨P2_3_ k_∨P2_4_ k_)∨w.heap.size≤k_)∧some k_≠(u0:Value).ownBlock∧k_≠gb580)) (vdm HO_581004.out) hg _ (of_eq_true p596) (of_eq_true q596) (by decide)|(rw [add_block];exact V_away (ok:=(fun k_=>((P0_ k_∨P2_3_ k_∨P2_4_ k_)∨w.heap.size≤k_)∧some k_≠(u0:Value).ownBlock∧k_≠gb580)) (vdm HO_581004.out) hg _ (of_eq_true p596) (of_eq_true q596) (by decide))|(show some (Addr.add _ _).block≠_;rw [add_block];exact V_away (ok:=(fun k_=>((P0_ k_∨P2_3_ k_∨P2_4_ k_)∨w.heap.size≤k_)∧some k_≠(u0:Value).ownBlock∧k_≠gb580)) (vdm HO_581004.out) hg _ (of_eq_true p596) (of_eq_true q596) (by decide)));have HS7_:=cell_grown hg (hHeld.2.2.2.1) (by first|exact V_away (ok:=(fun k_=>((P0_ k_∨P2_3_ k_∨P2_4_ k_)∨w.heap.size≤k_)∧some k_≠(u0:Value).ownBlock∧k_≠gb580)) (vdm HO_581004.out) hg _ (of_eq_true p596) (of_eq_true q596) (by decide)|(rw [add_block];exact V_away (ok:=(fun k_=>((P0_ k_∨P2_3_ k_∨P2_4_ k_)∨w.heap.size≤k_)∧some k_≠(u0:Value).ownBlock∧k_≠gb580)) (vdm HO_581004.out) hg _ (of_eq_true p596) (of_eq_true q596) (by decide))|(show some (Addr.add _ _).block≠_;rw [add_block];exact V_away (ok:=(fun k_=>((P0_ k_∨P2_3_ k_∨P2_4_ k_)∨w.heap.size≤k_)∧some k_≠(u0:Value).ownBlock∧k_≠gb580)) (vdm HO_581004.out) hg _ (of_eq_true p596) (of_eq_true q596) (by decide)))
           have HS8_:=cell_grown hg (hHeld.2.2.2.2.1) (by first|exact V_away (ok:=(fun k_=>((P0_ k_∨P2_3_ k_∨P2_4_ k_)∨w.heap.size≤k_)∧some k_≠(u0:Value).ownBlock∧k_≠gb580)) (vdm HO_581004.out) hg _ (of_eq_true p596) (of_eq_true q596) (by decide)|(rw [add_block];exact V_away (ok:=(fun k_=>((P0_ k_∨P2_3_ k_∨P2_4_ k_)∨w.heap.size≤k_)∧some k_≠(u0:Value).ownBlock∧k_≠gb580)) (vdm HO_581004.out) hg _ (of_eq_true p596) (of_eq_true q596) (by decide))|(show some (Addr.add _ _).block≠_;rw [add_block];exact V_away (ok:=(fun k_=>((P0_ k_∨P2_3_ k_∨P2_4_ k_)∨w.heap.size≤k_)∧some k_≠(u0:Value).ownBlock∧k_≠gb580)) (vdm HO_581004.out) hg _ (of_eq_true p596) (of_eq_true q596) (by decide)));have HS9_:=cell_grown hg (hHeld.2.2.2.2.2.1) (by first|exact V_away (ok:=(fun k_=>((P0_ k_∨P2_3_ k_∨P2_4_ k_)∨w.heap.size≤k_)∧some k_≠(u0:Value).ownBlock∧k_≠gb580)) (vdm HO_581004.out) hg _ (of_eq_true p596) (of_eq_true q596) (by decide)|(rw [add_block];exact V_away (ok:=(fun k_=>((P0_ k_∨P2_3_ k_∨P2_4_ k_)∨w.heap.size≤k_)∧some k_≠(u0:Value).ownBlock∧k_≠gb580)) (vdm HO_581004.out) hg _ (of_eq_true p596) (of_eq_true q596) (by decide))|(show some (Addr.add _ _).block≠_;rw [add_block];exact V_away (ok:=(fun k_=>((P0_ k_∨P2_3_ k_∨P2_4_ k_)∨w.heap.size≤k_)∧some k_≠(u0:Value).ownBlock∧k_≠gb580)) (vdm HO_581004.out) hg _ (of_eq_true p596) (of_eq_true q596) (by decide)));have HS10_:=cell_grown hg (hHeld.2.2.2.2.2.2.1) (by first|exact V_away (ok:=(fun k_=>((P0_ k_∨P2_3_ k_∨P2_4_ k_)∨w.heap.size≤k_)∧some k_≠(u0:Value).ownBlock∧k_≠gb580)) (vdm HO_581004.out) hg _ (of_eq_true p596) (of_eq_true q596) (by decide)|(rw [add_block];exact V_away (ok:=(fun k_=>((P0_ k_∨P2_3_ k_∨P2_4_ k_)∨w.heap.size≤k_)∧some k_≠(u0:Value).ownBlock∧k_≠gb580)) (vdm HO_581004.out) hg _ (of_eq_true p596) (of_eq_true q596) (by decide))|(show some (Addr.add _ _).block≠_;rw [add_block];exact V_away (ok:=(fun k_=>((P0_ k_∨P2_3_ k_∨P2_4_ k_)∨w.heap.size≤k_)∧some k_≠(u0:Value).ownBlock∧k_≠gb580)) (vdm HO_581004.out) hg _ (of_eq_true p596) (of_eq_true q596) (by decide)))
           have HS11_:=cell_grown hg (hHeld.2.2.2.2.2.2.2.1) (by first|exact V_away (ok:=(fun k_=>((P0_ k_∨P2_3_ k_∨P2_4_ k_)∨w.heap.size≤k_)∧some k_≠(u0:Value).ownBlock∧k_≠gb580)) (vdm HO_581004.out) hg _ (of_eq_true p596) (of_eq_true q596) (by decide)|(rw [add_block];exact V_away (ok:=(fun k_=>((P0_ k_∨P2_3_ k_∨P2_4_ k_)∨w.heap.size≤k_)∧some k_≠(u0:Value).ownBlock∧k_≠gb580)) (vdm HO_581004.out) hg _ (of_eq_true p596) (of_eq_true q596) (by decide))|(show some (Addr.add _ _).block≠_;rw [add_block];exact V_away (ok:=(fun k_=>((P0_ k_∨P2_3_ k_∨P2_4_ k_)∨w.heap.size≤k_)∧some k_≠(u0:Value).ownBlock∧k_≠gb580)) (vdm HO_581004.out) hg _ (of_eq_true p596) (of_eq_true q596) (by decide)));have HS12_:=cell_grown hg (hHeld.2.2.2.2.2.2.2.2.1) (by first|exact V_away (ok:=(fun k_=>((P0_ k_∨P2_3_ k_∨P2_4_ k_)∨w.heap.size≤k_)∧some k_≠(u0:Value).ownBlock∧k_≠gb580)) (vdm HO_581004.out) hg _ (of_eq_true p596) (of_eq_true q596) (by decide)|(rw [add_block];exact V_away (ok:=(fun k_=>((P0_ k_∨P2_3_ k_∨P2_4_ k_)∨w.heap.size≤k_)∧some k_≠(u0:Value).ownBlock∧k_≠gb580)) (vdm HO_581004.out) hg _ (of_eq_true p596) (of_eq_true q596) (by decide))|(show some (Addr.add _ _).block≠_;rw [add_block];exact V_away (ok:=(fun k_=>((P0_ k_∨P2_3_ k_∨P2_4_ k_)∨w.heap.size≤k_)∧some k_≠(u0:Value).ownBlock∧k_≠gb580)) (vdm HO_581004.out) hg _ (of_eq_true p596) (of_eq_true q596) (by decide)));have HS13_:=cell_grown hg (hHeld.2.2.2.2.2.2.2.2.2.1) (by first|exact V_away (ok:=(fun k_=>((P0_ k_∨P2_3_ k_∨P2_4_ k_)∨w.heap.size≤k_)∧some k_≠(u0:Value).ownBlock∧k_≠gb580)) (vdm HO_581004.out) hg _ (of_eq_true p596) (of_eq_true q596) (by decide)|(rw [add_block];exact V_away (ok:=(fun k_=>((P0_ k_∨P2_3_ k_∨P2_4_ k_)∨w.heap.size≤k_)∧some k_≠(u0:Value).ownBlock∧k_≠gb580)) (vdm HO_581004.out) hg _ (of_eq_true p596) (of_eq_true q596) (by decide))|(show some (Addr.add _ _).block≠_;rw [add_block];exact V_away (ok:=(fun k_=>((P0_ k_∨P2_3_ k_∨P2_4_ k_)∨w.heap.size≤k_)∧some k_≠(u0:Value).ownBlock∧k_≠gb580)) (vdm HO_581004.out) hg _ (of_eq_true p596) (of_eq_true q596) (by decide)))
           have HS14_:=cell_grown hg (hHeld.2.2.2.2.2.2.2.2.2.2) (by first|exact V_away (ok:=(fun k_=>((P0_ k_∨P2_3_ k_∨P2_4_ k_)∨w.heap.size≤k_)∧some k_≠(u0:Value).ownBlock∧k_≠gb580)) (vdm HO_581004.out) hg _ (of_eq_true p596) (of_eq_true q596) (by decide)|(rw [add_block];exact V_away (ok:=(fun k_=>((P0_ k_∨P2_3_ k_∨P2_4_ k_)∨w.heap.size≤k_)∧some k_≠(u0:Value).ownBlock∧k_≠gb580)) (vdm HO_581004.out) hg _ (of_eq_true p596) (of_eq_true q596) (by decide))|(show some (Addr.add _ _).block≠_;rw [add_block];exact V_away (ok:=(fun k_=>((P0_ k_∨P2_3_ k_∨P2_4_ k_)∨w.heap.size≤k_)∧some k_≠(u0:Value).ownBlock∧k_≠gb580)) (vdm HO_581004.out) hg _ (of_eq_true p596) (of_eq_true q596) (by decide)));rw [← Ny593.out] at ho;have n0_:=Aside0.mk (Kd.R_after (ok:=(fun k_=>(P0_ k_∨w.heap.size≤k_))) (rk HO_0.out) hg hat);have n1_:=Aside0.mk (Kd.V_afterv (ok:=(fun k_=>((P0_ k_∨P2_3_ k_∨P2_4_ k_)∨w.heap.size≤k_)∧some k_≠(u0:Value).ownBlock∧k_≠gb580)) (vdm HO_581003.out) hg hat);have n2_:=Aside0.mk (Kd.V_afterv (ok:=(fun k_=>((P0_ k_∨P2_3_ k_∨P2_4_ k_)∨w.heap.size≤k_)∧some k_≠(u0:Value).ownBlock∧k_≠gb580)) (vdm HO_581004.out) hg hat);have n3_:=Aside0.mk (blk_grown (g:=gb580) (o:=.cells #[.int .i64 a2_0,.int .i64 a2_1,.string a2_2,.slice A2_3 l2_3.length c2_3,.slice (some ad596) l2_4.length c2_4] 27 (0,0)) (bk BK580.out) hg (Kd.R_ne HO592.out BK580.out (by decide)));have n4_:=Aside0.mk (Kd.V_afterv (ok:=(fun k_=>((P0_ k_∨P2_3_ k_∨P2_4_ k_)∨w.heap.size≤k_)∧some k_≠(u0:Value).ownBlock∧k_≠gb580)) (vdm HL596_3.out) hg hat);have n5_:=Aside0.mk (Kd.V_afterv (ok:=(fun k_=>((P0_ k_∨P2_3_ k_∨P2_4_ k_)∨w.heap.size≤k_)∧some k_≠(u0:Value).ownBlock∧k_≠gb580)) (vdm HL596_4.out) hg hat);have n6_:=Aside0.mk (Kd.V_afterv (ok:=(fun k_=>((P0_ k_∨P2_3_ k_∨P2_4_ k_)∨w.heap.size≤k_)∧some k_≠(u0:Value).ownBlock∧k_≠gb580)) (vdm HL596_8.out) hg hat);have n7_:=Aside0.mk (Kd.V_afterv (ok:=(fun k_=>((P0_ k_∨P2_3_ k_∨P2_4_ k_)∨w.heap.size≤k_)∧some k_≠(u0:Value).ownBlock∧k_≠gb580)) (vdm HL596_9.out) hg hat)
           have n8_:=Aside0.mk (hb);have n9_:=Aside0.mk (Kept.of_grown (S:=(fun k_=>P0_ k_)) hg (kp HK.out) (fun k_ e_=>(HO592.out.1 k_ e_).1.1));have n10_:=Aside0.mk (ho);clear HO_0;clear HO_581003;clear HO_581004;clear BK580;clear HL596_3;clear HL596_4;clear HL596_8;clear HL596_9;clear HB;clear HK;clear HO592;have HO_0:=n0_;have HO_581003:=n1_;have HO_581004:=n2_;have BK580:=n3_;have HL596_3:=n4_;have HL596_4:=n5_;have HL596_8:=n6_;have HL596_9:=n7_;have HB:=n8_;have HK:=n9_;have HO595:=n10_;clear n0_ n1_ n2_ n3_ n4_ n5_ n6_ n7_ n8_ n9_ n10_;clear ho hb hg hat
           refine hK.out _ _ ⟨kb5 BK580.out,HS5_,HS6_,HS7_,HS8_,HS9_,HS10_,HS11_,HS12_,HS13_,HS14_⟩ (fun hHeld=>?_)
           clear hK K
           refine norm_ (a':=?_) ?_ ?_
           rotate_left
           ·show Act.put _ (some 55) _=_
            simp only [Act.put,List.setIfInBounds_toArray,List.set_cons_zero,List.set_cons_succ,i64_w,i32_w]
            rfl
           refine one_ (i:=9) (N:=some 62) #[true,true,true,true,true,true,true,true,true,true,false,false] rfl rfl (one_of HT_.out (by kernel_rfl)) (by decide) (fun K hK=>?_)
           refine goes_ Try.func22 (by kernel_rfl) rfl #[.agg #[.int .i64 ((rd_T33 l2_4 x8_2).f0.f0),.int .i64 ((rd_T33 l2_4 x8_2).f0.f1),.string ((rd_T33 l2_4 x8_2).f0.f2),.slice A596_3 ((rd_T33 l2_4 x8_2).f0.f3).length c596_3,.slice A596_4 ((rd_T33 l2_4 x8_2).f0.f4).length c596_4]] (by rfl) rfl rfl gs ?_
           with_reducible refine (spec_VarsOf.calls k2 ((rd_T33 l2_4 x8_2).f0.f0) ((rd_T33 l2_4 x8_2).f0.f1) ((rd_T33 l2_4 x8_2).f0.f2) _ _ ((rd_T33 l2_4 x8_2).f0.f3) _ _ ((rd_T33 l2_4 x8_2).f0.f4) t597 _ ?side1 ?side2 ?side3 ?side4 A31.out).mono ?_
           (case side1=>repeat (first|exact ((Kd.V_reads' (vdm HL596_3.out)).2.2)|(with_reducible refine Kd.C_alloc ?_ _)|(with_reducible refine Kd.C_drewN ?_ _)|(with_reducible refine Kd.C_drew ?_)))
           (case side2=>exact HC596_3.out)
           (case side3=>repeat (first|exact ((Kd.V_reads' (vdm HL596_4.out)).2.2)|(with_reducible refine Kd.C_alloc ?_ _)|(with_reducible refine Kd.C_drewN ?_ _)|(with_reducible refine Kd.C_drew ?_)))
           (case side4=>exact HC596_4.out)
           rintro e w39 ⟨v598,rfl,ho0,hb⟩;have HS5_:=(hb.cell (World.block_lt_of_cell? _ _ (hHeld.2.1))).trans (hHeld.2.1);have HS6_:=(hb.cell (World.block_lt_of_cell? _ _ (hHeld.2.2.1))).trans (hHeld.2.2.1);have HS7_:=(hb.cell (World.block_lt_of_cell? _ _ (hHeld.2.2.2.1))).trans (hHeld.2.2.2.1);have HS8_:=(hb.cell (World.block_lt_of_cell? _ _ (hHeld.2.2.2.2.1))).trans (hHeld.2.2.2.2.1);have HS9_:=(hb.cell (World.block_lt_of_cell? _ _ (hHeld.2.2.2.2.2.1))).trans (hHeld.2.2.2.2.2.1);have HS10_:=(hb.cell (World.block_lt_of_cell? _ _ (hHeld.2.2.2.2.2.2.1))).trans (hHeld.2.2.2.2.2.2.1);have HS11_:=(hb.cell (World.block_lt_of_cell? _ _ (hHeld.2.2.2.2.2.2.2.1))).trans (hHeld.2.2.2.2.2.2.2.1);have HS12_:=(hb.cell (World.block_lt_of_cell? _ _ (hHeld.2.2.2.2.2.2.2.2.1))).trans (hHeld.2.2.2.2.2.2.2.2.1);have HS13_:=(hb.cell (World.block_lt_of_cell? _ _ (hHeld.2.2.2.2.2.2.2.2.2.1))).trans (hHeld.2.2.2.2.2.2.2.2.2.1);have HS14_:=(hb.cell (World.block_lt_of_cell? _ _ (hHeld.2.2.2.2.2.2.2.2.2.2))).trans (hHeld.2.2.2.2.2.2.2.2.2.2)
           refine ⟨_,rfl,?_⟩
           have n_:=aj (Kd.R_elder' (rk HO_0.out) (Kd.R_base ho0) hb)<|aj (Kd.V_elder' (vdm HO_581003.out) (Kd.R_base ho0) hb)<|aj (Kd.V_elder' (vdm HO_581004.out) (Kd.R_base ho0) hb)<|aj (Kd.V_elder' (vdm HL596_3.out) (Kd.R_base ho0) hb)<|aj (Kd.V_elder' (vdm HL596_4.out) (Kd.R_base ho0) hb)<|aj (Kd.V_elder' (vdm HL596_8.out) (Kd.R_base ho0) hb)<|aj (Kd.V_elder' (vdm HL596_9.out) (Kd.R_base ho0) hb)<|aj (Kd.R_elder' (rk HO595.out) (Kd.R_base ho0) hb)<|aj (Kd.R_lower (Kd.R_new' (Kd.R_new' (Kd.R_newM (M:=fun k_=>(P0_ k_∨w.heap.size≤k_)) ho0 (by first|exact HK.out.1|exact (show Kept w _ (fun k_=>P0_ k_) from kp HK.out).1) (fun k_ h_=>.inr h_)) (Kd.R_lt (rk HO_0.out))) (Kd.R_lt (rk HO595.out))) (below_size (bl HB.out)))<|ai (bw BK580 hb)<|aj (Kept.below (S:=(fun k_=>P0_ k_)) (kp HK.out) hb)<|bq HB hb;clear HO_0 HO_581003 HO_581004 HL596_3 HL596_4 HL596_8 HL596_9 HO595 BK580 HK HB;obtain ⟨HO_0,HO_581003,HO_581004,HL596_3,HL596_4,HL596_8,HL596_9,HO595,HO599,BK580,HK,HB⟩:=n_;(try clear hb);(try clear hk);(try clear ho0);obtain ⟨Ao41,co41,eo41⟩:=Kd.R_slice HO599.out
           (first|subst eo41|(obtain ⟨f4_,f5_⟩:=sj eo41;subst f4_;subst f5_))
           refine hK.out _ _ ⟨kb5 BK580.out,HS5_,HS6_,HS7_,HS8_,HS9_,HS10_,HS11_,HS12_,HS13_,HS14_⟩ (fun hHeld=>?_)
           clear hK K
           refine norm_ (a':=?_) ?_ ?_
           rotate_left
           ·show Act.put _ (some 62) _=_
            simp only [Act.put,List.setIfInBounds_toArray,List.set_cons_zero,List.set_cons_succ,i64_w,i32_w]
            rfl
           refine one_ (i:=10) (N:=some 63) #[true,true,true,true,true,true,true,true,true,true,true,false] rfl rfl (one_of HT_.out (by kernel_rfl)) (by decide) (fun K hK=>?_)
           refine Kd.R_append_rows_step Kd.string (w0:=w0) w0.heap.size (by rfl) (.tmp 55) (.tmp 62) 29 9 (.string ⟨#[]⟩) 16 rfl Try.underlying29 info9 rfl (by decide) (by omega) v594 y593 t597 _ _ _ (fun k_=>(P0_ k_∨w.heap.size≤k_)∧some k_≠(u0:Value).ownBlock∧some k_≠(.slice Ao41 t597.length co41:Value).ownBlock) (fun _=>False) rfl rfl ?aO ?aR (fun _ _ h=>h) (fun _ h=>h.elim) ?aF ?aB ?aS ?aL ?_
           (case aR=>repeat (first|exact (Kd.R_reads' HO599.out).2.2|(with_reducible refine Kd.C_alloc ?_ _)|(with_reducible refine Kd.C_drewN ?_ _)|(with_reducible refine Kd.C_drew ?_)))
           (case aB=>exact (bl HB.out))
           (case aF=>exact (fun k_ hk=>⟨(.inr (Nat.le_trans (by first|exact HK.out.1|exact (show Kept w _ (fun k_=>P0_ k_) from kp HK.out).1) hk)),Kd.fresh' (Kd.R_lt (rk HO_0.out)) k_ hk,Kd.fresh' (Kd.R_lt (rk HO599.out)) k_ hk⟩))
           (case aO=>exact (Kd.R_mono (rfm HO595.out) (fun _ hk=>⟨hk.1.1,⟨hk.1.2,hk.2⟩⟩)))
           (case aS=>exact (below_size (bl HB.out)))
           (case aL=>have:=LMc32.out;omega)
           intro v601 w40 ho hb hg hat;have HS5_:=cell_grown hg (hHeld.2.1) (by first|exact V_away (ok:=(fun k_=>((P0_ k_∨P2_3_ k_∨P2_4_ k_)∨w.heap.size≤k_)∧some k_≠(u0:Value).ownBlock∧some k_≠(.slice Ao41 t597.length co41:Value).ownBlock∧k_≠gb580)) (Kd.V_mono (vfm HO_581004.out) (fun _ hk=>⟨⟨hk.1.1.1,⟨hk.1.1.2.1,⟨hk.2,hk.1.1.2.2⟩⟩⟩,hk.1.2⟩)) hg _ (of_eq_true p596) (of_eq_true q596) (by decide)|(rw [add_block];exact V_away (ok:=(fun k_=>((P0_ k_∨P2_3_ k_∨P2_4_ k_)∨w.heap.size≤k_)∧some k_≠(u0:Value).ownBlock∧some k_≠(.slice Ao41 t597.length co41:Value).ownBlock∧k_≠gb580)) (Kd.V_mono (vfm HO_581004.out) (fun _ hk=>⟨⟨hk.1.1.1,⟨hk.1.1.2.1,⟨hk.2,hk.1.1.2.2⟩⟩⟩,hk.1.2⟩)) hg _ (of_eq_true p596) (of_eq_true q596) (by decide))|(show some (Addr.add _ _).block≠_;rw [add_block];exact V_away (ok:=(fun k_=>((P0_ k_∨P2_3_ k_∨P2_4_ k_)∨w.heap.size≤k_)∧some k_≠(u0:Value).ownBlock∧some k_≠(.slice Ao41 t597.length co41:Value).ownBlock∧k_≠gb580)) (Kd.V_mono (vfm HO_581004.out) (fun _ hk=>⟨⟨hk.1.1.1,⟨hk.1.1.2.1,⟨hk.2,hk.1.1.2.2⟩⟩⟩,hk.1.2⟩)) hg _ (of_eq_true p596) (of_eq_true q596) (by decide)));have HS6_:=cell_grown hg (hHeld.2.2.1) (by first|exact V_away (ok:=(fun k_=>((P0_ k_∨P2_3_ k_∨P2_4_ k_)∨w.heap.size≤k_)∧some k_≠(u0:Value).ownBlock∧some k_≠(.slice Ao41 t597.length co41:Value).ownBlock∧k_≠gb580)) (Kd.V_mono (vfm HO_581004.out) (fun _ hk=>⟨⟨hk.1.1.1,⟨hk.1.1.2.1,⟨hk.2,hk.1.1.2.2⟩⟩⟩,hk.1.2⟩)) hg _ (of_eq_true p596) (of_eq_true q596) (by decide)|(rw [add_block];exact V_away (ok:=(fun k_=>((P0_ k_∨P2_3_ k_∨P2_4_ k_)∨w.heap.size≤k_)∧some k_≠(u0:Value).ownBlock∧some k_≠(.slice Ao41 t597.length co41:Value).ownBlock∧k_≠gb580)) (Kd.V_mono (vfm HO_581004.out) (fun _ hk=>⟨⟨hk.1.1.1,⟨hk.1.1.2.1,⟨hk.2,hk.1.1.2.2⟩⟩⟩,hk.1.2⟩)) hg _ (of_eq_true p596) (of_eq_true q596) (by decide))|(show some (Addr.add _ _).block≠_;rw [add_block];exact V_away (ok:=(fun k_=>((P0_ k_∨P2_3_ k_∨P2_4_ k_)∨w.heap.size≤k_)∧some k_≠(u0:Value).ownBlock∧some k_≠(.slice Ao41 t597.length co41:Value).ownBlock∧k_≠gb580)) (Kd.V_mono (vfm HO_581004.out) (fun _ hk=>⟨⟨hk.1.1.1,⟨hk.1.1.2.1,⟨hk.2,hk.1.1.2.2⟩⟩⟩,hk.1.2⟩)) hg _ (of_eq_true p596) (of_eq_true q596) (by decide)));have HS7_:=cell_grown hg (hHeld.2.2.2.1) (by first|exact V_away (ok:=(fun k_=>((P0_ k_∨P2_3_ k_∨P2_4_ k_)∨w.heap.size≤k_)∧some k_≠(u0:Value).ownBlock∧some k_≠(.slice Ao41 t597.length co41:Value).ownBlock∧k_≠gb580)) (Kd.V_mono (vfm HO_581004.out) (fun _ hk=>⟨⟨hk.1.1.1,⟨hk.1.1.2.1,⟨hk.2,hk.1.1.2.2⟩⟩⟩,hk.1.2⟩)) hg _ (of_eq_true p596) (of_eq_true q596) (by decide)|(rw [add_block];exact V_away (ok:=(fun k_=>((P0_ k_∨P2_3_ k_∨P2_4_ k_)∨w.heap.size≤k_)∧some k_≠(u0:Value).ownBlock∧some k_≠(.slice Ao41 t597.length co41:Value).ownBlock∧k_≠gb580)) (Kd.V_mono (vfm HO_581004.out) (fun _ hk=>⟨⟨hk.1.1.1,⟨hk.1.1.2.1,⟨hk.2,hk.1.1.2.2⟩⟩⟩,hk.1.2⟩)) hg _ (of_eq_true p596) (of_eq_true q596) (by decide))|(show some (Addr.add _ _).block≠_;rw [add_block];exact V_away (ok:=(fun k_=>((P0_ k_∨P2_3_ k_∨P2_4_ k_)∨w.heap.size≤k_)∧some k_≠(u0:Value).ownBlock∧some k_≠(.slice Ao41 t597.length co41:Value).ownBlock∧k_≠gb580)) (Kd.V_mono (vfm HO_581004.out) (fun _ hk=>⟨⟨hk.1.1.1,⟨hk.1.1.2.1,⟨hk.2,hk.1.1.2.2⟩⟩⟩,hk.1.2⟩)) hg _ (of_eq_true p596) (of_eq_true q596) (by decide)))
           have HS8_:=cell_grown hg (hHeld.2.2.2.2.1) (by first|exact V_away (ok:=(fun k_=>((P0_ k_∨P2_3_ k_∨P2_4_ k_)∨w.heap.size≤k_)∧some k_≠(u0:Value).ownBlock∧some k_≠(.slice Ao41 t597.length co41:Value).ownBlock∧k_≠gb580)) (Kd.V_mono (vfm HO_581004.out) (fun _ hk=>⟨⟨hk.1.1.1,⟨hk.1.1.2.1,⟨hk.2,hk.1.1.2.2⟩⟩⟩,hk.1.2⟩)) hg _ (of_eq_true p596) (of_eq_true q596) (by decide)|(rw [add_block];exact V_away (ok:=(fun k_=>((P0_ k_∨P2_3_ k_∨P2_4_ k_)∨w.heap.size≤k_)∧some k_≠(u0:Value).ownBlock∧some k_≠(.slice Ao41 t597.length co41:Value).ownBlock∧k_≠gb580)) (Kd.V_mono (vfm HO_581004.out) (fun _ hk=>⟨⟨hk.1.1.1,⟨hk.1.1.2.1,⟨hk.2,hk.1.1.2.2⟩⟩⟩,hk.1.2⟩)) hg _ (of_eq_true p596) (of_eq_true q596) (by decide))|(show some (Addr.add _ _).block≠_;rw [add_block];exact V_away (ok:=(fun k_=>((P0_ k_∨P2_3_ k_∨P2_4_ k_)∨w.heap.size≤k_)∧some k_≠(u0:Value).ownBlock∧some k_≠(.slice Ao41 t597.length co41:Value).ownBlock∧k_≠gb580)) (Kd.V_mono (vfm HO_581004.out) (fun _ hk=>⟨⟨hk.1.1.1,⟨hk.1.1.2.1,⟨hk.2,hk.1.1.2.2⟩⟩⟩,hk.1.2⟩)) hg _ (of_eq_true p596) (of_eq_true q596) (by decide)));have HS9_:=cell_grown hg (hHeld.2.2.2.2.2.1) (by first|exact V_away (ok:=(fun k_=>((P0_ k_∨P2_3_ k_∨P2_4_ k_)∨w.heap.size≤k_)∧some k_≠(u0:Value).ownBlock∧some k_≠(.slice Ao41 t597.length co41:Value).ownBlock∧k_≠gb580)) (Kd.V_mono (vfm HO_581004.out) (fun _ hk=>⟨⟨hk.1.1.1,⟨hk.1.1.2.1,⟨hk.2,hk.1.1.2.2⟩⟩⟩,hk.1.2⟩)) hg _ (of_eq_true p596) (of_eq_true q596) (by decide)|(rw [add_block];exact V_away (ok:=(fun k_=>((P0_ k_∨P2_3_ k_∨P2_4_ k_)∨w.heap.size≤k_)∧some k_≠(u0:Value).ownBlock∧some k_≠(.slice Ao41 t597.length co41:Value).ownBlock∧k_≠gb580)) (Kd.V_mono (vfm HO_581004.out) (fun _ hk=>⟨⟨hk.1.1.1,⟨hk.1.1.2.1,⟨hk.2,hk.1.1.2.2⟩⟩⟩,hk.1.2⟩)) hg _ (of_eq_true p596) (of_eq_true q596) (by decide))|(show some (Addr.add _ _).block≠_;rw [add_block];exact V_away (ok:=(fun k_=>((P0_ k_∨P2_3_ k_∨P2_4_ k_)∨w.heap.size≤k_)∧some k_≠(u0:Value).ownBlock∧some k_≠(.slice Ao41 t597.length co41:Value).ownBlock∧k_≠gb580)) (Kd.V_mono (vfm HO_581004.out) (fun _ hk=>⟨⟨hk.1.1.1,⟨hk.1.1.2.1,⟨hk.2,hk.1.1.2.2⟩⟩⟩,hk.1.2⟩)) hg _ (of_eq_true p596) (of_eq_true q596) (by decide)));have HS10_:=cell_grown hg (hHeld.2.2.2.2.2.2.1) (by first|exact V_away (ok:=(fun k_=>((P0_ k_∨P2_3_ k_∨P2_4_ k_)∨w.heap.size≤k_)∧some k_≠(u0:Value).ownBlock∧some k_≠(.slice Ao41 t597.length co41:Value).ownBlock∧k_≠gb580)) (Kd.V_mono (vfm HO_581004.out) (fun _ hk=>⟨⟨hk.1.1.1,⟨hk.1.1.2.1,⟨hk.2,hk.1.1.2.2⟩⟩⟩,hk.1.2⟩)) hg _ (of_eq_true p596) (of_eq_true q596) (by decide)|(rw [add_block];exact V_away (ok:=(fun k_=>((P0_ k_∨P2_3_ k_∨P2_4_ k_)∨w.heap.size≤k_)∧some k_≠(u0:Value).ownBlock∧some k_≠(.slice Ao41 t597.length co41:Value).ownBlock∧k_≠gb580)) (Kd.V_mono (vfm HO_581004.out) (fun _ hk=>⟨⟨hk.1.1.1,⟨hk.1.1.2.1,⟨hk.2,hk.1.1.2.2⟩⟩⟩,hk.1.2⟩)) hg _ (of_eq_true p596) (of_eq_true q596) (by decide))|(show some (Addr.add _ _).block≠_;rw [add_block];exact V_away (ok:=(fun k_=>((P0_ k_∨P2_3_ k_∨P2_4_ k_)∨w.heap.size≤k_)∧some k_≠(u0:Value).ownBlock∧some k_≠(.slice Ao41 t597.length co41:Value).ownBlock∧k_≠gb580)) (Kd.V_mono (vfm HO_581004.out) (fun _ hk=>⟨⟨hk.1.1.1,⟨hk.1.1.2.1,⟨hk.2,hk.1.1.2.2⟩⟩⟩,hk.1.2⟩)) hg _ (of_eq_true p596) (of_eq_true q596) (by decide)))
           have HS11_:=cell_grown hg (hHeld.2.2.2.2.2.2.2.1) (by first|exact V_away (ok:=(fun k_=>((P0_ k_∨P2_3_ k_∨P2_4_ k_)∨w.heap.size≤k_)∧some k_≠(u0:Value).ownBlock∧some k_≠(.slice Ao41 t597.length co41:Value).ownBlock∧k_≠gb580)) (Kd.V_mono (vfm HO_581004.out) (fun _ hk=>⟨⟨hk.1.1.1,⟨hk.1.1.2.1,⟨hk.2,hk.1.1.2.2⟩⟩⟩,hk.1.2⟩)) hg _ (of_eq_true p596) (of_eq_true q596) (by decide)|(rw [add_block];exact V_away (ok:=(fun k_=>((P0_ k_∨P2_3_ k_∨P2_4_ k_)∨w.heap.size≤k_)∧some k_≠(u0:Value).ownBlock∧some k_≠(.slice Ao41 t597.length co41:Value).ownBlock∧k_≠gb580)) (Kd.V_mono (vfm HO_581004.out) (fun _ hk=>⟨⟨hk.1.1.1,⟨hk.1.1.2.1,⟨hk.2,hk.1.1.2.2⟩⟩⟩,hk.1.2⟩)) hg _ (of_eq_true p596) (of_eq_true q596) (by decide))|(show some (Addr.add _ _).block≠_;rw [add_block];exact V_away (ok:=(fun k_=>((P0_ k_∨P2_3_ k_∨P2_4_ k_)∨w.heap.size≤k_)∧some k_≠(u0:Value).ownBlock∧some k_≠(.slice Ao41 t597.length co41:Value).ownBlock∧k_≠gb580)) (Kd.V_mono (vfm HO_581004.out) (fun _ hk=>⟨⟨hk.1.1.1,⟨hk.1.1.2.1,⟨hk.2,hk.1.1.2.2⟩⟩⟩,hk.1.2⟩)) hg _ (of_eq_true p596) (of_eq_true q596) (by decide)));have HS12_:=cell_grown hg (hHeld.2.2.2.2.2.2.2.2.1) (by first|exact V_away (ok:=(fun k_=>((P0_ k_∨P2_3_ k_∨P2_4_ k_)∨w.heap.size≤k_)∧some k_≠(u0:Value).ownBlock∧some k_≠(.slice Ao41 t597.length co41:Value).ownBlock∧k_≠gb580)) (Kd.V_mono (vfm HO_581004.out) (fun _ hk=>⟨⟨hk.1.1.1,⟨hk.1.1.2.1,⟨hk.2,hk.1.1.2.2⟩⟩⟩,hk.1.2⟩)) hg _ (of_eq_true p596) (of_eq_true q596) (by decide)|(rw [add_block];exact V_away (ok:=(fun k_=>((P0_ k_∨P2_3_ k_∨P2_4_ k_)∨w.heap.size≤k_)∧some k_≠(u0:Value).ownBlock∧some k_≠(.slice Ao41 t597.length co41:Value).ownBlock∧k_≠gb580)) (Kd.V_mono (vfm HO_581004.out) (fun _ hk=>⟨⟨hk.1.1.1,⟨hk.1.1.2.1,⟨hk.2,hk.1.1.2.2⟩⟩⟩,hk.1.2⟩)) hg _ (of_eq_true p596) (of_eq_true q596) (by decide))|(show some (Addr.add _ _).block≠_;rw [add_block];exact V_away (ok:=(fun k_=>((P0_ k_∨P2_3_ k_∨P2_4_ k_)∨w.heap.size≤k_)∧some k_≠(u0:Value).ownBlock∧some k_≠(.slice Ao41 t597.length co41:Value).ownBlock∧k_≠gb580)) (Kd.V_mono (vfm HO_581004.out) (fun _ hk=>⟨⟨hk.1.1.1,⟨hk.1.1.2.1,⟨hk.2,hk.1.1.2.2⟩⟩⟩,hk.1.2⟩)) hg _ (of_eq_true p596) (of_eq_true q596) (by decide)));have HS13_:=cell_grown hg (hHeld.2.2.2.2.2.2.2.2.2.1) (by first|exact V_away (ok:=(fun k_=>((P0_ k_∨P2_3_ k_∨P2_4_ k_)∨w.heap.size≤k_)∧some k_≠(u0:Value).ownBlock∧some k_≠(.slice Ao41 t597.length co41:Value).ownBlock∧k_≠gb580)) (Kd.V_mono (vfm HO_581004.out) (fun _ hk=>⟨⟨hk.1.1.1,⟨hk.1.1.2.1,⟨hk.2,hk.1.1.2.2⟩⟩⟩,hk.1.2⟩)) hg _ (of_eq_true p596) (of_eq_true q596) (by decide)|(rw [add_block];exact V_away (ok:=(fun k_=>((P0_ k_∨P2_3_ k_∨P2_4_ k_)∨w.heap.size≤k_)∧some k_≠(u0:Value).ownBlock∧some k_≠(.slice Ao41 t597.length co41:Value).ownBlock∧k_≠gb580)) (Kd.V_mono (vfm HO_581004.out) (fun _ hk=>⟨⟨hk.1.1.1,⟨hk.1.1.2.1,⟨hk.2,hk.1.1.2.2⟩⟩⟩,hk.1.2⟩)) hg _ (of_eq_true p596) (of_eq_true q596) (by decide))|(show some (Addr.add _ _).block≠_;rw [add_block];exact V_away (ok:=(fun k_=>((P0_ k_∨P2_3_ k_∨P2_4_ k_)∨w.heap.size≤k_)∧some k_≠(u0:Value).ownBlock∧some k_≠(.slice Ao41 t597.length co41:Value).ownBlock∧k_≠gb580)) (Kd.V_mono (vfm HO_581004.out) (fun _ hk=>⟨⟨hk.1.1.1,⟨hk.1.1.2.1,⟨hk.2,hk.1.1.2.2⟩⟩⟩,hk.1.2⟩)) hg _ (of_eq_true p596) (of_eq_true q596) (by decide)))
           have HS14_:=cell_grown hg (hHeld.2.2.2.2.2.2.2.2.2.2) (by first|exact V_away (ok:=(fun k_=>((P0_ k_∨P2_3_ k_∨P2_4_ k_)∨w.heap.size≤k_)∧some k_≠(u0:Value).ownBlock∧some k_≠(.slice Ao41 t597.length co41:Value).ownBlock∧k_≠gb580)) (Kd.V_mono (vfm HO_581004.out) (fun _ hk=>⟨⟨hk.1.1.1,⟨hk.1.1.2.1,⟨hk.2,hk.1.1.2.2⟩⟩⟩,hk.1.2⟩)) hg _ (of_eq_true p596) (of_eq_true q596) (by decide)|(rw [add_block];exact V_away (ok:=(fun k_=>((P0_ k_∨P2_3_ k_∨P2_4_ k_)∨w.heap.size≤k_)∧some k_≠(u0:Value).ownBlock∧some k_≠(.slice Ao41 t597.length co41:Value).ownBlock∧k_≠gb580)) (Kd.V_mono (vfm HO_581004.out) (fun _ hk=>⟨⟨hk.1.1.1,⟨hk.1.1.2.1,⟨hk.2,hk.1.1.2.2⟩⟩⟩,hk.1.2⟩)) hg _ (of_eq_true p596) (of_eq_true q596) (by decide))|(show some (Addr.add _ _).block≠_;rw [add_block];exact V_away (ok:=(fun k_=>((P0_ k_∨P2_3_ k_∨P2_4_ k_)∨w.heap.size≤k_)∧some k_≠(u0:Value).ownBlock∧some k_≠(.slice Ao41 t597.length co41:Value).ownBlock∧k_≠gb580)) (Kd.V_mono (vfm HO_581004.out) (fun _ hk=>⟨⟨hk.1.1.1,⟨hk.1.1.2.1,⟨hk.2,hk.1.1.2.2⟩⟩⟩,hk.1.2⟩)) hg _ (of_eq_true p596) (of_eq_true q596) (by decide)));rw [← Ny600.out] at ho;have n0_:=Aside0.mk (Kd.R_after (ok:=(fun k_=>(P0_ k_∨w.heap.size≤k_)∧some k_≠(.slice Ao41 t597.length co41:Value).ownBlock)) (Kd.R_mono (rfm HO_0.out) (fun _ hk=>⟨⟨hk.1.1,hk.2⟩,hk.1.2⟩)) hg hat);have n1_:=Aside0.mk (Kd.V_afterv (ok:=(fun k_=>((P0_ k_∨P2_3_ k_∨P2_4_ k_)∨w.heap.size≤k_)∧some k_≠(u0:Value).ownBlock∧some k_≠(.slice Ao41 t597.length co41:Value).ownBlock∧k_≠gb580)) (Kd.V_mono (vfm HO_581003.out) (fun _ hk=>⟨⟨hk.1.1.1,⟨hk.1.1.2.1,⟨hk.2,hk.1.1.2.2⟩⟩⟩,hk.1.2⟩)) hg hat);have n2_:=Aside0.mk (Kd.V_afterv (ok:=(fun k_=>((P0_ k_∨P2_3_ k_∨P2_4_ k_)∨w.heap.size≤k_)∧some k_≠(u0:Value).ownBlock∧some k_≠(.slice Ao41 t597.length co41:Value).ownBlock∧k_≠gb580)) (Kd.V_mono (vfm HO_581004.out) (fun _ hk=>⟨⟨hk.1.1.1,⟨hk.1.1.2.1,⟨hk.2,hk.1.1.2.2⟩⟩⟩,hk.1.2⟩)) hg hat);have n3_:=Aside0.mk (blk_grown (g:=gb580) (o:=.cells #[.int .i64 a2_0,.int .i64 a2_1,.string a2_2,.slice A2_3 l2_3.length c2_3,.slice (some ad596) l2_4.length c2_4] 27 (0,0)) (bk BK580.out) hg (Kd.R_ne HO595.out BK580.out (by decide)));have n4_:=Aside0.mk (Kd.V_afterv (ok:=(fun k_=>((P0_ k_∨P2_3_ k_∨P2_4_ k_)∨w.heap.size≤k_)∧some k_≠(u0:Value).ownBlock∧some k_≠(.slice Ao41 t597.length co41:Value).ownBlock∧k_≠gb580)) (Kd.V_mono (vfm HL596_3.out) (fun _ hk=>⟨⟨hk.1.1.1,⟨hk.1.1.2.1,⟨hk.2,hk.1.1.2.2⟩⟩⟩,hk.1.2⟩)) hg hat)
           have n5_:=Aside0.mk (Kd.V_afterv (ok:=(fun k_=>((P0_ k_∨P2_3_ k_∨P2_4_ k_)∨w.heap.size≤k_)∧some k_≠(u0:Value).ownBlock∧some k_≠(.slice Ao41 t597.length co41:Value).ownBlock∧k_≠gb580)) (Kd.V_mono (vfm HL596_4.out) (fun _ hk=>⟨⟨hk.1.1.1,⟨hk.1.1.2.1,⟨hk.2,hk.1.1.2.2⟩⟩⟩,hk.1.2⟩)) hg hat);have n6_:=Aside0.mk (Kd.V_afterv (ok:=(fun k_=>((P0_ k_∨P2_3_ k_∨P2_4_ k_)∨w.heap.size≤k_)∧some k_≠(u0:Value).ownBlock∧some k_≠(.slice Ao41 t597.length co41:Value).ownBlock∧k_≠gb580)) (Kd.V_mono (vfm HL596_8.out) (fun _ hk=>⟨⟨hk.1.1.1,⟨hk.1.1.2.1,⟨hk.2,hk.1.1.2.2⟩⟩⟩,hk.1.2⟩)) hg hat);have n7_:=Aside0.mk (Kd.V_afterv (ok:=(fun k_=>((P0_ k_∨P2_3_ k_∨P2_4_ k_)∨w.heap.size≤k_)∧some k_≠(u0:Value).ownBlock∧some k_≠(.slice Ao41 t597.length co41:Value).ownBlock∧k_≠gb580)) (Kd.V_mono (vfm HL596_9.out) (fun _ hk=>⟨⟨hk.1.1.1,⟨hk.1.1.2.1,⟨hk.2,hk.1.1.2.2⟩⟩⟩,hk.1.2⟩)) hg hat);have n8_:=Aside0.mk (Kd.R_after (ok:=(fun k_=>(P0_ k_∨w.heap.size≤k_)∧some k_≠(u0:Value).ownBlock)) (Kd.R_mono (rfm HO599.out) (fun _ hk=>⟨⟨hk.1.1.1,hk.1.2⟩,hk.2⟩)) hg hat);have n9_:=Aside0.mk (hb);have n10_:=Aside0.mk (Kept.of_grown (S:=(fun k_=>P0_ k_)) hg (kp HK.out) (fun k_ e_=>(HO595.out.1 k_ e_).1.1));have n11_:=Aside0.mk (ho);clear HO_0;clear HO_581003;clear HO_581004;clear BK580;clear HL596_3;clear HL596_4;clear HL596_8;clear HL596_9;clear HO599;clear HB;clear HK;clear HO595;have HO_0:=n0_;have HO_581003:=n1_;have HO_581004:=n2_;have BK580:=n3_;have HL596_3:=n4_;have HL596_4:=n5_;have HL596_8:=n6_;have HL596_9:=n7_;have HO599:=n8_;have HB:=n9_;have HK:=n10_;have HO602:=n11_;clear n0_ n1_ n2_ n3_ n4_ n5_ n6_ n7_ n8_ n9_ n10_ n11_;clear ho hb hg hat
           refine hK.out _ _ ⟨kb5 BK580.out,HS5_,HS6_,HS7_,HS8_,HS9_,HS10_,HS11_,HS12_,HS13_,HS14_⟩ (fun hHeld=>?_)
           clear hK K
           refine norm_ (a':=?_) ?_ ?_
           rotate_left
           ·show Act.put _ (some 63) _=_
            simp only [Act.put,List.setIfInBounds_toArray,List.set_cons_zero,List.set_cons_succ,i64_w,i32_w]
            rfl
           refine pu 11 9 ?_
           refine done_ (done_of HT_.out (by kernel_rfl)) ?_
           obtain ⟨h42_0,h42_1,h42_2,h42_3,h42_4⟩:=kb5 BK580.out;have p603:0≤(x8_2:Int):=od;have q603:x8_2 < (l2_4.length:Int):=od;obtain ⟨ad603,A603_3,c603_3,A603_4,c603_4,A603_8,c603_8,A603_9,c603_9,e603,hx603_0,hx603_1,hx603_2,hx603_3,hx603_4,hx603_5,hx603_6,hx603_7,hx603_8,hx603_9,hl603_3,hi603_3,hl603_4,hi603_4,hl603_8,hi603_8,hl603_9,hi603_9⟩:=at_T33 (Kd.V_reads' HO_581004.out).2.2 x8_2 p603 q603;obtain rfl:ad596=ad603:=(by injection e603);obtain ⟨ce603,hce603,hMe603,hcc603⟩:=Kd.V_get HO_581004.out z33 x8_2 p603 (by first|exact q603|exact od|(have e_:=(Kd.V_reads' HO_581004.out).1;omega));obtain ⟨ua603_3,uc603_3,ua603_4,uc603_4,ua603_8,uc603_8,ua603_9,uc603_9,rfl,ul603_3,ge603_3,ul603_4,ge603_4,ul603_8,ge603_8,ul603_9,ge603_9⟩:=k33_openF hMe603;have hv603_3:=hcc603 3 _ rfl;rw [add_field _ _ 3 (by omega)] at hv603_3;replace hv603_3:=Option.some.inj (hv603_3.symm.trans hx603_3)
           injection hv603_3 with hva_ hvn_ hvc_
           rw [hva_] at ge603_3;rw [hvc_] at ul603_3;have HL603_3:=Aside0.mk (show Kd.V k27 27 _ w0.heap.size _ _ ((rd_T33 l2_4 x8_2).f0.f3) from Kd.V_mk ul603_3 ge603_3);clear hva_ hvn_ hvc_ ge603_3 ul603_3;have hv603_4:=hcc603 4 _ rfl;rw [add_field _ _ 4 (by omega)] at hv603_4;replace hv603_4:=Option.some.inj (hv603_4.symm.trans hx603_4)
           injection hv603_4 with hva_ hvn_ hvc_
           rw [hva_] at ge603_4;rw [hvc_] at ul603_4;have HL603_4:=Aside0.mk (show Kd.V k33 33 _ w0.heap.size _ _ ((rd_T33 l2_4 x8_2).f0.f4) from Kd.V_mk ul603_4 ge603_4);clear hva_ hvn_ hvc_ ge603_4 ul603_4;have hv603_8:=hcc603 8 _ rfl;rw [add_field _ _ 8 (by omega)] at hv603_8;replace hv603_8:=Option.some.inj (hv603_8.symm.trans hx603_8)
           injection hv603_8 with hva_ hvn_ hvc_
           rw [hva_] at ge603_8;rw [hvc_] at ul603_8;have HL603_8:=Aside0.mk (show Kd.V k27 27 _ w0.heap.size _ _ ((rd_T33 l2_4 x8_2).f1.f3) from Kd.V_mk ul603_8 ge603_8);clear hva_ hvn_ hvc_ ge603_8 ul603_8;have hv603_9:=hcc603 9 _ rfl;rw [add_field _ _ 9 (by omega)] at hv603_9;replace hv603_9:=Option.some.inj (hv603_9.symm.trans hx603_9)
           injection hv603_9 with hva_ hvn_ hvc_
           rw [hva_] at ge603_9;rw [hvc_] at ul603_9;have HL603_9:=Aside0.mk (show Kd.V k33 33 _ w0.heap.size _ _ ((rd_T33 l2_4 x8_2).f1.f4) from Kd.V_mk ul603_9 ge603_9);clear hva_ hvn_ hvc_ ge603_9 ul603_9;clear hcc603 hce603;have HR603_3:=Aside0.mk hi603_3;have HC603_3:=Aside0.mk hl603_3;clear hi603_3 hl603_3;have HR603_4:=Aside0.mk hi603_4;have HC603_4:=Aside0.mk hl603_4;clear hi603_4 hl603_4;have HR603_8:=Aside0.mk hi603_8;have HC603_8:=Aside0.mk hl603_8;clear hi603_8 hl603_8;have HR603_9:=Aside0.mk hi603_9;have HC603_9:=Aside0.mk hl603_9;clear hi603_9 hl603_9;replace p603:=eq_true p603;replace q603:=eq_true q603;obtain ⟨Ao43,co43,eo43⟩:=Kd.R_slice HO_0.out;subst eo43;obtain ⟨Ao44,co44,eo44⟩:=Kd.R_slice HO602.out;subst eo44;(try clear hHeld);(try clear HS10_);(try clear HS11_);(try clear HS12_);(try clear HS13_);(try clear HS14_);(try clear HS5_);(try clear HS6_);(try clear HS7_);(try clear HS8_);(try clear HS9_)
           try go_wp2_with (first|((with_reducible refine gate_callee (f:=15) rfl ?_);refine goesL_ (some 72) rfl rfl Try.func15 (by kernel_rfl) rfl #[.slice Ao43 x0_2.length co43,.slice Ao44 y600.length co44,.agg #[.int .i64 ((rd_T33 l2_4 x8_2).f1.f0),.int .i64 ((rd_T33 l2_4 x8_2).f1.f1),.string ((rd_T33 l2_4 x8_2).f1.f2),.slice A603_8 ((rd_T33 l2_4 x8_2).f1.f3).length c603_8,.slice A603_9 ((rd_T33 l2_4 x8_2).f1.f4).length c603_9]] rfl gs ?_;(with_reducible refine (ih k2 (by have:=HK1.out;have:=HK2.out;omega) (fun k_=>some k_=(.slice Ao43 x0_2.length co43:Value).ownBlock) (.slice Ao43 x0_2.length co43) x0_2 _ _ y600 ((rd_T33 l2_4 x8_2).f1.f0) ((rd_T33 l2_4 x8_2).f1.f1) ((rd_T33 l2_4 x8_2).f1.f2) (fun k_=>((((P0_ k_∨P2_3_ k_∨P2_4_ k_)∨w.heap.size≤k_)∧(some k_≠(.slice Ao43 x0_2.length co43:Value).ownBlock∧(some k_≠(.slice Ao41 t597.length co41:Value).ownBlock∧k_≠gb580)))∧some k_≠(.slice Ao44 y600.length co44:Value).ownBlock)) _ _ ((rd_T33 l2_4 x8_2).f1.f3) (fun k_=>((((P0_ k_∨P2_3_ k_∨P2_4_ k_)∨w.heap.size≤k_)∧(some k_≠(.slice Ao43 x0_2.length co43:Value).ownBlock∧(some k_≠(.slice Ao41 t597.length co41:Value).ownBlock∧k_≠gb580)))∧some k_≠(.slice Ao44 y600.length co44:Value).ownBlock)) _ _ ((rd_T33 l2_4 x8_2).f1.f4) t604 w0 _ ?side1 ?side2 ?side3 ?side4 ?side5 ?side6 A33.out).mono ?_);(case side1=>exact bl HB.out);(case side2=>exact Kd.R_tight rfl HO_0.out);(case side3=>exact Kd.C_kept_own (HO602.out) (fun k_ hk_ hs_=>(hk_.2.1) hs_));(case side4=>exact (Kd.R_reads' HO602.out).2.1);(case side5=>exact Kd.V_mono (HL603_8.out) (fun k_ hk_=>⟨hk_,hk_.1.2.1⟩));(case side6=>exact Kd.V_mono (HL603_9.out) (fun k_ hk_=>⟨hk_,hk_.1.2.1⟩));rintro e w45 ⟨v605,rfl,ho0,hb,hkp⟩;refine ⟨_,rfl,?_⟩;have n_:=aj (Kd.V_mono (ok':=fun k_=>((P0_ k_∨P2_3_ k_∨P2_4_ k_)∨w.heap.size≤k_)∧some k_≠(.slice Ao41 t597.length co41:Value).ownBlock∧some k_≠(.slice Ao44 y600.length co44:Value).ownBlock∧k_≠gb580∧some k_≠(v605:Value).ownBlock) (Kd.V_keptB (HO_581003.out) hkp (fun k_ hk_ hs_=>(hk_.1.2.1) hs_)) (fun k_ hk_=>⟨hk_.1.1.1,hk_.1.1.2.2.1,hk_.1.2,hk_.1.1.2.2.2,fun e_=>Or.elim (ho0.1 k_ e_.symm) (fun hs_=>hk_.2.1 hs_) (fun hn_=>Nat.not_le.2 hk_.2.2 hn_)⟩))<|aj (Kd.V_mono (ok':=fun k_=>((P0_ k_∨P2_3_ k_∨P2_4_ k_)∨w.heap.size≤k_)∧some k_≠(.slice Ao41 t597.length co41:Value).ownBlock∧some k_≠(.slice Ao44 y600.length co44:Value).ownBlock∧k_≠gb580∧some k_≠(v605:Value).ownBlock) (Kd.V_keptB (HO_581004.out) hkp (fun k_ hk_ hs_=>(hk_.1.2.1) hs_)) (fun k_ hk_=>⟨hk_.1.1.1,hk_.1.1.2.2.1,hk_.1.2,hk_.1.1.2.2.2,fun e_=>Or.elim (ho0.1 k_ e_.symm) (fun hs_=>hk_.2.1 hs_) (fun hn_=>Nat.not_le.2 hk_.2.2 hn_)⟩))<|aj (blk_kept (bk BK580.out) hkp (fun hs_=>(fun e_=>(Kd.R_ne HO_0.out BK580.out (by decide)) e_) hs_))<|aj (Kd.R_mono (ok':=fun k_=>(P0_ k_∨w.heap.size≤k_)∧some k_≠(.slice Ao44 y600.length co44:Value).ownBlock∧some k_≠(v605:Value).ownBlock) (Kd.R_keptB (HO599.out) hkp (fun k_ hk_ hs_=>(hk_.1.2) hs_)) (fun k_ hk_=>⟨hk_.1.1.1,hk_.1.2,fun e_=>Or.elim (ho0.1 k_ e_.symm) (fun hs_=>hk_.2.1 hs_) (fun hn_=>Nat.not_le.2 hk_.2.2 hn_)⟩))<|aj (Kd.R_mono (ok':=fun k_=>(P0_ k_∨w.heap.size≤k_)∧some k_≠(.slice Ao41 t597.length co41:Value).ownBlock∧some k_≠(v605:Value).ownBlock) (Kd.R_keptB (HO602.out) hkp (fun k_ hk_ hs_=>(hk_.2.1) hs_)) (fun k_ hk_=>⟨hk_.1.1,hk_.1.2.2,fun e_=>Or.elim (ho0.1 k_ e_.symm) (fun hs_=>hk_.2.1 hs_) (fun hn_=>Nat.not_le.2 hk_.2.2 hn_)⟩))<|aj (Kd.R_mono (ok':=fun k_=>(P0_ k_∨w.heap.size≤k_)∧some k_≠(.slice Ao41 t597.length co41:Value).ownBlock∧some k_≠(.slice Ao44 y600.length co44:Value).ownBlock) ho0 (fun k_ hk_=>⟨Or.elim hk_ (fun hs_=>(HO_0.out.1 k_ (hs_).symm).1.1) (fun hn_=>(.inr (Nat.le_trans (by first|exact HK.out.1|exact (show Kept w _ (fun k_=>P0_ k_) from kp HK.out).1) hn_))),Or.elim hk_ (fun hs_=>fun e_=>(((HO599.out).1 k_ e_.symm).1.2) hs_) (fun hn_=>(Kd.fresh' (Kd.R_lt (rk HO599.out)) k_ hn_)),Or.elim hk_ (fun hs_=>fun e_=>(((HO602.out).1 k_ e_.symm).2.1) hs_) (fun hn_=>(Kd.fresh' (Kd.R_lt (rk HO602.out)) k_ hn_))⟩))<|aj (Kept.then_ (S:=(fun k_=>P0_ k_)) (kp HK.out) hkp (fun k_ hs_=>(fun e_=>(HO_0.out.1 k_ e_.symm).1.1) hs_))<|Aside0.mk (hb);clear HO_581003 HO_581004 BK580 HO599 HO602 HK HB HO_0 HL596_3 HL596_4 HL596_8 HL596_9 HL603_3 HL603_4 HL603_8 HL603_9;obtain ⟨HO_581003,HO_581004,BK580,HO599,HO602,HO606,HK,HB⟩:=n_;(try clear hb);(try clear hkp);(try clear ho0)))
           go_roundg k2
           case measure=>have:=HK1.out;have:=HK2.out;omega
           case rel=>exact ⟨(t604),(wrap64 (x8_2 + 1)),(cl2),H',⟨by have:=HK1.out;have:=HK2.out;omega⟩,⟨Kd.R_mono (rfm HO606.out) (fun _ hk=>hk.1)⟩,⟨Kd.V_mono (vfm HO_581003.out) (fun _ hk=>⟨hk.1,⟨hk.2.2.2.2,hk.2.2.2.1⟩⟩)⟩,⟨Kd.V_mono (vfm HO_581004.out) (fun _ hk=>⟨hk.1,⟨hk.2.2.2.2,hk.2.2.2.1⟩⟩)⟩,⟨bk BK580.out⟩,⟨kp HK.out⟩,⟨bl HB.out⟩⟩
          ·rw [if_neg c32] at H
           exact absurd H (by simp)
         ·rw [if_neg c30] at H
          exact absurd H (by simp)
        ·rw [if_neg c29] at H
         exact absurd H (by simp)
       ·rw [if_neg c28] at H
        have c28b0:decide (x8_2 < (l2_4.length:Int))=false:=decide_eq_false c28;clear c28;obtain rfl:=Option.some.inj H;obtain ⟨h46_0,h46_1,h46_2,h46_3,h46_4⟩:=kb5 BK580.out
        go_wp2
        go_ret
        exact ⟨_,cl,rk HO_0.out,bl HB.out,kp HK.out⟩
def spec_FreeOf.f (k:Nat) (a0_0:Int) (a0_1:Int) (a0_2:ByteArray) (l0_3:List (S27)) (l0_4:List (S33)):Option (List ByteArray):=(spec_l4Free.f k (([]:List ByteArray)) (([]:List ByteArray)) a0_0 a0_1 a0_2 l0_3 l0_4).bind fun t614=>(some t614)
theorem spec_FreeOf.mono:∀ a0 a1 a2 a3 a4 k,LeO (spec_FreeOf.f k a0 a1 a2 a3 a4) (spec_FreeOf.f (k + 1) a0 a1 a2 a3 a4):=by
 intro a0 a1 a2 a3 a4 k
 unfold spec_FreeOf.f
 with_reducible repeat' first|apply spec_l4Free.mono|apply LeO.refl|apply LeO.none|apply LeO.ite|refine LeO.bind ?_ (fun _=>?_)
theorem spec_FreeOf.calls (k:Nat) (a0_0:Int) (a0_1:Int) (a0_2:ByteArray) (A0_3:Option Addr) (c0_3:Nat) (l0_3:List (S27)) (A0_4:Option Addr) (c0_4:Nat) (l0_4:List (S33)) (r:List ByteArray) (w:World) (hr0_3:Kd.C k27 w A0_3 l0_3.length l0_3) (hc0_3:l0_3.length≤c0_3) (hr0_4:Kd.C k33 w A0_4 l0_4.length l0_4) (hc0_4:l0_4.length≤c0_4) (h:spec_FreeOf.f k a0_0 a0_1 a0_2 l0_3 l0_4=some r) :
  Calls Try.prog 7 #[.agg #[.int .i64 a0_0,.int .i64 a0_1,.string a0_2,.slice A0_3 l0_3.length c0_3,.slice A0_4 l0_4.length c0_4]] w fun e w'=>∃ v0_:Value,e=.returned (v0_)∧Kd.R Kd.string 9 w' w.heap.size (fun _=>True) v0_ r∧Below w.heap.size w w':=by
 have hu27:=Try.underlying27;have HR0_3:=Aside0.mk hr0_3;have HC0_3:=Aside0.mk hc0_3;clear hr0_3 hc0_3;have HR0_4:=Aside0.mk hr0_4;have HC0_4:=Aside0.mk hc0_4;clear hr0_4 hc0_4;have HB:=Aside0.mk (Below.refl w.heap.size w);have H:((spec_l4Free.f k (([]:List ByteArray)) (([]:List ByteArray)) a0_0 a0_1 a0_2 l0_3 l0_4).bind fun t614=>(some t614))=some r:=h;clear h;obtain ⟨y608,hy608⟩:∃ y_:List ByteArray,y_=(([]:List ByteArray)):=⟨_,rfl⟩;replace H:((spec_l4Free.f k y608 (([]:List ByteArray)) a0_0 a0_1 a0_2 l0_3 l0_4).bind fun t614=>(some t614))=some r:=hw hy608 H
 have Ny608:=Aside0.mk hy608;clear hy608;obtain ⟨y611,hy611⟩:∃ y_:List ByteArray,y_=(([]:List ByteArray)):=⟨_,rfl⟩;replace H:((spec_l4Free.f k y608 y611 a0_0 a0_1 a0_2 l0_3 l0_4).bind fun t614=>(some t614))=some r:=hw hy611 H
 have Ny611:=Aside0.mk hy611;clear hy611;replace H:=bs H;obtain ⟨t614,A20,H⟩:=H;replace H:(some t614)=some r:=H;have A2:=Aside0.mk A20;clear A20;obtain rfl:=Option.some.inj H
 go_enter Try.func7,Try.ntmps7
 go_wp2_with (first|((with_reducible refine gate_dst (N:=1) rfl ?_);refine box_event ?hg (N:=1) ?hd (cs:=#[.int .i64 a0_0,.int .i64 a0_1,.string a0_2,.slice A0_3 l0_3.length c0_3,.slice A0_4 l0_4.length c0_4]) (t:=27) ?hr ?_;(case hd|hg=>rfl);(case hr=>first|(go_simp;done)|(go_simp;rfl));intro gb607 hg w3 hbox hb;have n_:=ai (bq HB hb)<|aj (hbox)<|ai (bz hg HB)<|bz hg HB;clear HB;obtain ⟨HB,BK607,GW607,GE607⟩:=n_;clear hb hbox hg)|((with_reducible refine gate_dst (N:=3) rfl ?_);refine Kd.R_lit Kd.string _ 9 ?hg (N:=3) ?hd (xs:=([]:List ByteArray)) (inner:=[]) (ok:=fun _=>True) (okp:=fun _=>True) ?hr ?hp (fun _ hk=>hk) trivial (Below.refl _ _) (Nat.le_refl _) (by simp) ?_;(case hd|hg=>rfl);(case hr=>first|(go_simp;done)|(go_simp;rfl));(case hp=>exact (Reps.none _ _));intro v609 w4 ho5 hb hg_ hnew_;clear hg_ hnew_;(first|rw [← Ny608.out] at ho5|(simp only [Int.reduceToNat] at ho5;rw [← Ny608.out] at ho5));have n_:=aj (Kd.R_lower ho5 (below_size (bl HB.out)))<|ai (bw BK607 hb)<|bq HB hb;clear BK607 HB;obtain ⟨HO610,BK607,HB⟩:=n_;clear hb ho5)|((with_reducible refine gate_dst (N:=4) rfl ?_);refine Kd.R_lit Kd.string _ 9 ?hg (N:=4) ?hd (xs:=([]:List ByteArray)) (inner:=[]) (ok:=fun _=>True) (okp:=fun _=>True) ?hr ?hp (fun _ hk=>hk) trivial (Below.refl _ _) (Nat.le_refl _) (by simp) ?_;(case hd|hg=>rfl);(case hr=>first|(go_simp;done)|(go_simp;rfl));(case hp=>exact (Reps.none _ _));intro v612 w6 ho7 hb hg_ hnew_;clear hg_ hnew_;(first|rw [← Ny611.out] at ho7|(simp only [Int.reduceToNat] at ho7;rw [← Ny611.out] at ho7));have n_:=aj (Kd.R_elder' (rk HO610.out) (Kd.R_base ho7) hb)<|aj (Kd.R_lower (Kd.R_new' ho7 (Kd.R_lt (rk HO610.out))) (below_size (bl HB.out)))<|ai (bw BK607 hb)<|bq HB hb;clear HO610 BK607 HB;obtain ⟨HO610,HO613,BK607,HB⟩:=n_;clear hb ho7;obtain ⟨h8_0,h8_1,h8_2,h8_3,h8_4⟩:=kb5 BK607.out;obtain ⟨z8_0,z8_1,z8_2,z8_3,z8_4⟩:=kz5 BK607.out;obtain ⟨Ao9,co9,eo9⟩:=Kd.R_slice HO610.out;subst eo9;obtain ⟨Ao10,co10,eo10⟩:=Kd.R_slice HO613.out;subst eo10)|((with_reducible refine gate_callee (f:=15) rfl ?_);refine goesL_ (some 6) rfl rfl Try.func15 (by kernel_rfl) rfl #[.slice Ao9 y608.length co9,.slice Ao10 y611.length co10,.agg #[.int .i64 a0_0,.int .i64 a0_1,.string a0_2,.slice A0_3 l0_3.length c0_3,.slice A0_4 l0_4.length c0_4]] rfl gs ?_;(with_reducible refine (spec_l4Free.calls k (fun k_=>some k_=(.slice Ao9 y608.length co9:Value).ownBlock) (.slice Ao9 y608.length co9) y608 _ _ y611 a0_0 a0_1 a0_2 (fun k_=>k_ < w.heap.size) _ _ l0_3 (fun k_=>k_ < w.heap.size) _ _ l0_4 t614 w _ ?side1 ?side2 ?side3 ?side4 ?side5 ?side6 A2.out).mono ?_);(case side1=>exact bl HB.out);(case side2=>exact Kd.R_tight rfl HO610.out);(case side3=>exact Kd.C_kept_own (HO613.out) (fun k_ hk_ hs_=>(hk_.2) hs_));(case side4=>exact (Kd.R_reads' HO613.out).2.1);(case side5=>exact Kd.V_mono (Kd.V_mk HC0_3.out (Kd.F_below (Kd.C_F k27_heap HR0_3.out) (bl HB.out))) (fun k_ hk_=>⟨hk_,fun e_=>Nat.not_le.2 hk_ (Kd.R_base HO610.out k_ e_.symm)⟩));(case side6=>exact Kd.V_mono (Kd.V_mk HC0_4.out (Kd.F_below (Kd.C_F k33_heap HR0_4.out) (bl HB.out))) (fun k_ hk_=>⟨hk_,fun e_=>Nat.not_le.2 hk_ (Kd.R_base HO610.out k_ e_.symm)⟩));rintro e w11 ⟨v615,rfl,ho0,hb,hkp⟩;refine ⟨_,rfl,?_⟩;have n_:=aj (blk_kept (bk BK607.out) hkp (fun hs_=>(fun e_=>(Kd.R_ne HO610.out BK607.out (by decide)) e_) hs_))<|aj (Kd.R_mono (ok':=fun k_=>some k_≠(v615:Value).ownBlock) (Kd.R_keptB (HO613.out) hkp (fun k_ hk_ hs_=>(hk_.2) hs_)) (fun k_ hk_=>fun e_=>Or.elim (ho0.1 k_ e_.symm) (fun hs_=>hk_.2.1 hs_) (fun hn_=>Nat.not_le.2 hk_.2.2 hn_)))<|aj (Kd.R_mono (ok':=fun k_=>some k_≠(.slice Ao10 y611.length co10:Value).ownBlock) ho0 (fun k_ hk_=>Or.elim hk_ (fun hs_=>fun e_=>(((HO613.out).1 k_ e_.symm).2) hs_) (fun hn_=>(Kd.fresh' (Kd.R_lt (rk HO613.out)) k_ hn_))))<|Aside0.mk (hb);clear BK607 HO613 HB HO610;obtain ⟨BK607,HO613,HO616,HB⟩:=n_;(try clear hb);(try clear hkp);(try clear ho0)))
 go_ret
 exact ⟨_,cl,Kd.R_mono (rfm HO616.out) (fun _ hk=>trivial),bl HB.out⟩
def laws_has.l0:Nat→List ByteArray→ByteArray→Int→Option (Bool)
 | 0,_,_,_=>none
 | k + 1,x0,x1,x5=>if x5 < (x0.length:Int) then (if 0≤x5 then (if (rdOf ByteArray.empty x0 x5).toList=x1.toList then (some true) else (laws_has.l0 k x0 x1 (wrap64 (x5 + 1)))) else (none)) else (some false)
def laws_has.f (k:Nat) (l0:List ByteArray) (a1:ByteArray):Option (Bool):=laws_has.l0 k l0 a1 0
theorem laws_has.mono_l:∀ k,(∀ y0 y1 y2,LeO (laws_has.l0 k y0 y1 y2) (laws_has.l0 (k + 1) y0 y1 y2))
 | 0=>fun _ _ _ r h=>by simp [laws_has.l0] at h
 | k + 1=>by
  have ih0:=laws_has.mono_l k
  ·intro y0 y1 y2
   unfold laws_has.l0
   with_reducible repeat' first|apply ih0|apply LeO.refl|apply LeO.none|apply LeO.ite|refine LeO.bind ?_ (fun _=>?_)
theorem laws_has.mono:∀ a0 a1 k,LeO (laws_has.f k a0 a1) (laws_has.f (k + 1) a0 a1):=by
 intro a0 a1 k;have ih0:=laws_has.mono_l k
 unfold laws_has.f
 with_reducible repeat' first|apply ih0|apply LeO.refl|apply LeO.none|apply LeO.ite|refine LeO.bind ?_ (fun _=>?_)
theorem laws_has.calls (k:Nat) (A0:Option Addr) (c0:Nat) (l0:List ByteArray) (a1:ByteArray) (r:Bool) (w:World) (hr0:Kd.C Kd.string w A0 l0.length l0) (hc0:l0.length≤c0) (h:laws_has.f k l0 a1=some r) :
  Calls Try.prog 8 #[.slice A0 l0.length c0,.string a1] w fun e w'=>e=.returned (.bool r)∧Drawn0 w w':=by
 have HR0:=Aside0.mk hr0;have HC0:=Aside0.mk hc0;clear hr0 hc0;have H:(laws_has.l0 k l0 a1 0)=some r:=h;clear h;have H':=Aside0.mk H;clear H
 go_enter Try.func8,Try.ntmps8
 go_wp2
 go_loopg [5] k (fun kq v5 w'=>∃ (x5_1:Int),v5=.int .i64 x5_1∧Aside0 (laws_has.l0 kq l0 a1 x5_1=some r)∧Aside0 (kq≤k)∧Drawn0 w w')
 case atStart=>exact ⟨(0),(cl2),H',⟨Nat.le_refl _⟩,d0⟩
 case round =>
  clear H';obtain ⟨x5_1,rfl,HA,HK1,⟨m1,rfl⟩⟩:=hrel
  cases gk with
  | zero=>exact absurd HA.out (by simp [laws_has.l0])
  | succ k1 =>
   have H:=HA.out;clear HA;simp only [laws_has.l0] at H
   by_cases c3:x5_1 < (l0.length:Int)
   ·rw [if_pos c3] at H
    have c3b0:decide (x5_1 < (l0.length:Int))=true:=decide_eq_true c3;clear c3
    by_cases c4:0≤x5_1
    ·rw [if_pos c4] at H
     have c4b0:decide (0≤x5_1)=true:=decide_eq_true c4;clear c4
     by_cases c5:(rdOf ByteArray.empty l0 x5_1).toList=a1.toList
     ·rw [if_pos c5] at H
      have c5b0:((rdOf ByteArray.empty l0 x5_1).toList == a1.toList)=true:=beq_iff_eq.mpr c5;have c5b1:((rdOf ByteArray.empty l0 x5_1).toList != a1.toList)=false:=bne_eq_false_iff_eq.mpr c5;clear c5;obtain rfl:=Option.some.inj H;have p617:0≤(x5_1:Int):=od;have q617:x5_1 < (l0.length:Int):=od;obtain ⟨ad617,e617,hx617_0⟩:=Kd.at_string HR0.out x5_1 p617 q617;cases e617;replace p617:=eq_true p617;replace q617:=eq_true q617
      go_wp2
      go_ret
      exact ⟨cl2,d0⟩
     ·rw [if_neg c5] at H
      have c5b0:((rdOf ByteArray.empty l0 x5_1).toList == a1.toList)=false:=beq_eq_false_iff_ne.mpr c5;have c5b1:((rdOf ByteArray.empty l0 x5_1).toList != a1.toList)=true:=bne_iff_ne.mpr c5;have H':=Aside0.mk H;clear H;have p617:0≤(x5_1:Int):=od;have q617:x5_1 < (l0.length:Int):=od;obtain ⟨ad617,e617,hx617_0⟩:=Kd.at_string HR0.out x5_1 p617 q617;cases e617;replace p617:=eq_true p617;replace q617:=eq_true q617
      go_wp2
      go_roundg k1
      case measure=>have:=HK1.out;omega
      case rel=>exact ⟨(wrap64 (x5_1 + 1)),(cl2),H',⟨by have:=HK1.out;omega⟩,d0⟩
    ·rw [if_neg c4] at H
     exact absurd H (by simp)
   ·rw [if_neg c3] at H
    have c3b0:decide (x5_1 < (l0.length:Int))=false:=decide_eq_false c3;clear c3;obtain rfl:=Option.some.inj H
    go_wp2
    go_ret
    exact ⟨cl2,d0⟩
def impl_inRange.f (a0:Int) (a1:Int) (a2:Int):Option (Bool):=if a0 ≥ a1 then (some (decide (a0≤a2))) else (some false)
theorem impl_inRange.calls (a0:Int) (a1:Int) (a2:Int) (r:Bool) (w:World) (h:impl_inRange.f a0 a1 a2=some r) :
  Calls Try.prog 32 #[.int .i64 a0,.int .i64 a1,.int .i64 a2] w fun e w'=>e=.returned (.bool r)∧Drawn0 w w':=by
 have H:(if a0 ≥ a1 then (some (decide (a0≤a2))) else (some false))=some r:=h;clear h
 by_cases c4:a0 ≥ a1
 ·rw [if_pos c4] at H
  have c4b0:decide (a1≤a0)=true:=decide_eq_true c4;clear c4;obtain rfl:=Option.some.inj H
  go_enter Try.func32,Try.ntmps32
  go_wp2
  go_ret
  exact ⟨cl2,d0⟩
 ·rw [if_neg c4] at H
  have c4b0:decide (a1≤a0)=false:=decide_eq_false c4;clear c4;obtain rfl:=Option.some.inj H
  go_enter Try.func32,Try.ntmps32
  go_wp2
  go_ret
  exact ⟨cl2,d0⟩
def impl_isSmall.f (a0:Int):Option (Bool):=if a0 ≥ 97 then (some (decide (a0≤122))) else (some false)
theorem impl_isSmall.calls (a0:Int) (r:Bool) (w:World) (h:impl_isSmall.f a0=some r) :
  Calls Try.prog 46 #[.int .u8 a0] w fun e w'=>e=.returned (.bool r)∧Drawn0 w w':=by
 have H:(if a0 ≥ 97 then (some (decide (a0≤122))) else (some false))=some r:=h;clear h
 by_cases c2:a0 ≥ 97
 ·rw [if_pos c2] at H
  have c2b0:decide (97≤a0)=true:=decide_eq_true c2;clear c2;obtain rfl:=Option.some.inj H
  go_enter Try.func46,Try.ntmps46
  go_wp2
  go_ret
  exact ⟨cl2,d0⟩
 ·rw [if_neg c2] at H
  have c2b0:decide (97≤a0)=false:=decide_eq_false c2;clear c2;obtain rfl:=Option.some.inj H
  go_enter Try.func46,Try.ntmps46
  go_wp2
  go_ret
  exact ⟨cl2,d0⟩
def impl_isFigure.f (a0:Int):Option (Bool):=if a0 ≥ 48 then (some (decide (a0≤57))) else (some false)
theorem impl_isFigure.calls (a0:Int) (r:Bool) (w:World) (h:impl_isFigure.f a0=some r) :
  Calls Try.prog 47 #[.int .u8 a0] w fun e w'=>e=.returned (.bool r)∧Drawn0 w w':=by
 have H:(if a0 ≥ 48 then (some (decide (a0≤57))) else (some false))=some r:=h;clear h
 by_cases c2:a0 ≥ 48
 ·rw [if_pos c2] at H
  have c2b0:decide (48≤a0)=true:=decide_eq_true c2;clear c2;obtain rfl:=Option.some.inj H
  go_enter Try.func47,Try.ntmps47
  go_wp2
  go_ret
  exact ⟨cl2,d0⟩
 ·rw [if_neg c2] at H
  have c2b0:decide (48≤a0)=false:=decide_eq_false c2;clear c2;obtain rfl:=Option.some.inj H
  go_enter Try.func47,Try.ntmps47
  go_wp2
  go_ret
  exact ⟨cl2,d0⟩
def impl_AtomOk.l0:Nat→ByteArray→Int→Option (Bool)
 | 0,_,_=>none
 | k + 1,x0,x3=>if x3 < (x0.size:Int) then (if 0≤x3 then ((impl_isSmall.f (bt x0 x3)).bind fun t619=>(if t619=true then (impl_AtomOk.l0 k x0 (wrap64 (x3 + 1))) else (if x3=0 then (some false) else ((impl_isFigure.f (bt x0 x3)).bind fun t620=>(if t620=true then (impl_AtomOk.l0 k x0 (wrap64 (x3 + 1))) else (if (bt x0 x3)=95 then (impl_AtomOk.l0 k x0 (wrap64 (x3 + 1))) else (some false))))))) else (none)) else ((impl_inRange.f (x0.size:Int) 1 20).bind fun t618=>(some t618))
def impl_AtomOk.f (k:Nat) (a0:ByteArray):Option (Bool):=impl_AtomOk.l0 k a0 0
theorem impl_AtomOk.mono_l:∀ k,(∀ y0 y1,LeO (impl_AtomOk.l0 k y0 y1) (impl_AtomOk.l0 (k + 1) y0 y1))
 | 0=>fun _ _ r h=>by simp [impl_AtomOk.l0] at h
 | k + 1=>by
  have ih0:=impl_AtomOk.mono_l k
  ·intro y0 y1
   unfold impl_AtomOk.l0
   with_reducible repeat' first|apply ih0|apply LeO.refl|apply LeO.none|apply LeO.ite|refine LeO.bind ?_ (fun _=>?_)
theorem impl_AtomOk.mono:∀ a0 k,LeO (impl_AtomOk.f k a0) (impl_AtomOk.f (k + 1) a0):=by
 intro a0 k;have ih0:=impl_AtomOk.mono_l k
 unfold impl_AtomOk.f
 with_reducible repeat' first|apply ih0|apply LeO.refl|apply LeO.none|apply LeO.ite|refine LeO.bind ?_ (fun _=>?_)
theorem impl_AtomOk.calls (k:Nat) (a0:ByteArray) (r:Bool) (w:World) (h:impl_AtomOk.f k a0=some r) :
  Calls Try.prog 39 #[.string a0] w fun e w'=>e=.returned (.bool r)∧Drawn0 w w':=by
 have H:(impl_AtomOk.l0 k a0 0)=some r:=h;clear h;have H':=Aside0.mk H;clear H
 go_enter Try.func39,Try.ntmps39
 go_wp2
 go_loopg [3] k (fun kq v3 w'=>∃ (x3_1:Int),v3=.int .i64 x3_1∧Aside0 (impl_AtomOk.l0 kq a0 x3_1=some r)∧Aside0 (kq≤k)∧Drawn0 w w')
 case atStart=>exact ⟨(0),(cl2),H',⟨Nat.le_refl _⟩,d0⟩
 case round =>
  clear H';obtain ⟨x3_1,rfl,HA,HK1,⟨m1,rfl⟩⟩:=hrel
  cases gk with
  | zero=>exact absurd HA.out (by simp [impl_AtomOk.l0])
  | succ k1 =>
   have H:=HA.out;clear HA;simp only [impl_AtomOk.l0] at H
   by_cases c2:x3_1 < (a0.size:Int)
   ·rw [if_pos c2] at H
    have c2b0:decide (x3_1 < (a0.size:Int))=true:=decide_eq_true c2;clear c2
    by_cases c3:0≤x3_1
    ·rw [if_pos c3] at H
     have c3b0:decide (0≤x3_1)=true:=decide_eq_true c3;clear c3;replace H:=bs H;obtain ⟨t619,A50,H⟩:=H;replace H:(if t619=true then (impl_AtomOk.l0 k1 a0 (wrap64 (x3_1 + 1))) else (if x3_1=0 then (some false) else ((impl_isFigure.f (bt a0 x3_1)).bind fun t620=>(if t620=true then (impl_AtomOk.l0 k1 a0 (wrap64 (x3_1 + 1))) else (if (bt a0 x3_1)=95 then (impl_AtomOk.l0 k1 a0 (wrap64 (x3_1 + 1))) else (some false))))))=some r:=H;have A5:=Aside0.mk A50;clear A50
     by_cases c6:t619=true
     ·subst c6
      replace H:(impl_AtomOk.l0 k1 a0 (wrap64 (x3_1 + 1)))=some r:=pt H;have H':=Aside0.mk H;clear H;have p4:0≤(x3_1:Int):=od;have q4:x3_1 < (a0.size:Int):=od;have hx4:=bt_at a0 x3_1;replace p4:=eq_true p4;replace q4:=eq_true q4
      go_wp2_with (first|((with_reducible refine gate_callee (f:=46) rfl ?_);refine goesL_ (some 13) rfl rfl Try.func46 (by kernel_rfl) rfl #[.int .u8 (bt a0 x3_1)] rfl gs ?_;(with_reducible refine (impl_isSmall.calls (bt a0 x3_1) true _ A5.out).mono ?_);rintro e w' ⟨rfl,⟨nd,rfl⟩⟩;refine ⟨_,rfl,?_⟩))
      go_roundg k1
      case measure=>have:=HK1.out;omega
      case rel=>exact ⟨(wrap64 (x3_1 + 1)),(cl2),H',⟨by have:=HK1.out;omega⟩,d0⟩
     ·replace c6:=Bool.eq_false_iff.mpr c6
      subst c6;replace H:(if x3_1=0 then (some false) else ((impl_isFigure.f (bt a0 x3_1)).bind fun t620=>(if t620=true then (impl_AtomOk.l0 k1 a0 (wrap64 (x3_1 + 1))) else (if (bt a0 x3_1)=95 then (impl_AtomOk.l0 k1 a0 (wrap64 (x3_1 + 1))) else (some false)))))=some r:=nt H
      by_cases c7:x3_1=0
      ·rw [if_pos c7] at H
       have c7b0:(x3_1 == 0)=true:=beq_iff_eq.mpr c7;have c7b1:(x3_1 != 0)=false:=bne_eq_false_iff_eq.mpr c7;clear c7;obtain rfl:=Option.some.inj H;have p4:0≤(x3_1:Int):=od;have q4:x3_1 < (a0.size:Int):=od;have hx4:=bt_at a0 x3_1;replace p4:=eq_true p4;replace q4:=eq_true q4
       go_wp2_with (first|((with_reducible refine gate_callee (f:=46) rfl ?_);refine goesL_ (some 13) rfl rfl Try.func46 (by kernel_rfl) rfl #[.int .u8 (bt a0 x3_1)] rfl gs ?_;(with_reducible refine (impl_isSmall.calls (bt a0 x3_1) false _ A5.out).mono ?_);rintro e w' ⟨rfl,⟨nd,rfl⟩⟩;refine ⟨_,rfl,?_⟩))
       go_ret
       exact ⟨cl2,d0⟩
      ·rw [if_neg c7] at H
       have c7b0:(x3_1 == 0)=false:=beq_eq_false_iff_ne.mpr c7;have c7b1:(x3_1 != 0)=true:=bne_iff_ne.mpr c7;replace H:=bs H;obtain ⟨t620,A90,H⟩:=H;replace H:(if t620=true then (impl_AtomOk.l0 k1 a0 (wrap64 (x3_1 + 1))) else (if (bt a0 x3_1)=95 then (impl_AtomOk.l0 k1 a0 (wrap64 (x3_1 + 1))) else (some false)))=some r:=H;have A9:=Aside0.mk A90;clear A90
       by_cases c10:t620=true
       ·subst c10
        replace H:(impl_AtomOk.l0 k1 a0 (wrap64 (x3_1 + 1)))=some r:=pt H;have H':=Aside0.mk H;clear H;have p4:0≤(x3_1:Int):=od;have q4:x3_1 < (a0.size:Int):=od;have hx4:=bt_at a0 x3_1;replace p4:=eq_true p4;replace q4:=eq_true q4
        go_wp2_with (first|((with_reducible refine gate_callee (f:=46) rfl ?_);refine goesL_ (some 13) rfl rfl Try.func46 (by kernel_rfl) rfl #[.int .u8 (bt a0 x3_1)] rfl gs ?_;(with_reducible refine (impl_isSmall.calls (bt a0 x3_1) false _ A5.out).mono ?_);rintro e w' ⟨rfl,⟨nd,rfl⟩⟩;refine ⟨_,rfl,?_⟩;have p8:0≤(x3_1:Int):=od;have q8:x3_1 < (a0.size:Int):=od;have hx8:=bt_at a0 x3_1;replace p8:=eq_true p8;replace q8:=eq_true q8)|(go_at_call 47;(with_reducible refine (impl_isFigure.calls (bt a0 x3_1) true _ A9.out).mono ?_);rintro e w' ⟨rfl,⟨nd,rfl⟩⟩))
        go_roundg k1
        case measure=>have:=HK1.out;omega
        case rel=>exact ⟨(wrap64 (x3_1 + 1)),(cl2),H',⟨by have:=HK1.out;omega⟩,d0⟩
       ·replace c10:=Bool.eq_false_iff.mpr c10
        subst c10;replace H:(if (bt a0 x3_1)=95 then (impl_AtomOk.l0 k1 a0 (wrap64 (x3_1 + 1))) else (some false))=some r:=nt H
        by_cases c12:(bt a0 x3_1)=95
        ·rw [if_pos c12] at H
         have c12b0:((bt a0 x3_1) == 95)=true:=beq_iff_eq.mpr c12;have c12b1:((bt a0 x3_1) != 95)=false:=bne_eq_false_iff_eq.mpr c12;clear c12;have H':=Aside0.mk H;clear H;have p4:0≤(x3_1:Int):=od;have q4:x3_1 < (a0.size:Int):=od;have hx4:=bt_at a0 x3_1;replace p4:=eq_true p4;replace q4:=eq_true q4
         go_wp2_with (first|((with_reducible refine gate_callee (f:=46) rfl ?_);refine goesL_ (some 13) rfl rfl Try.func46 (by kernel_rfl) rfl #[.int .u8 (bt a0 x3_1)] rfl gs ?_;(with_reducible refine (impl_isSmall.calls (bt a0 x3_1) false _ A5.out).mono ?_);rintro e w' ⟨rfl,⟨nd,rfl⟩⟩;refine ⟨_,rfl,?_⟩;have p8:0≤(x3_1:Int):=od;have q8:x3_1 < (a0.size:Int):=od;have hx8:=bt_at a0 x3_1;replace p8:=eq_true p8;replace q8:=eq_true q8)|(go_at_call 47;(with_reducible refine (impl_isFigure.calls (bt a0 x3_1) false _ A9.out).mono ?_);rintro e w' ⟨rfl,⟨nd,rfl⟩⟩;have p11:0≤(x3_1:Int):=od;have q11:x3_1 < (a0.size:Int):=od;have hx11:=bt_at a0 x3_1;replace p11:=eq_true p11;replace q11:=eq_true q11))
         go_roundg k1
         case measure=>have:=HK1.out;omega
         case rel=>exact ⟨(wrap64 (x3_1 + 1)),(cl2),H',⟨by have:=HK1.out;omega⟩,d0⟩
        ·rw [if_neg c12] at H
         have c12b0:((bt a0 x3_1) == 95)=false:=beq_eq_false_iff_ne.mpr c12;have c12b1:((bt a0 x3_1) != 95)=true:=bne_iff_ne.mpr c12;obtain rfl:=Option.some.inj H;have p4:0≤(x3_1:Int):=od;have q4:x3_1 < (a0.size:Int):=od;have hx4:=bt_at a0 x3_1;replace p4:=eq_true p4;replace q4:=eq_true q4
         go_wp2_with (first|((with_reducible refine gate_callee (f:=46) rfl ?_);refine goesL_ (some 13) rfl rfl Try.func46 (by kernel_rfl) rfl #[.int .u8 (bt a0 x3_1)] rfl gs ?_;(with_reducible refine (impl_isSmall.calls (bt a0 x3_1) false _ A5.out).mono ?_);rintro e w' ⟨rfl,⟨nd,rfl⟩⟩;refine ⟨_,rfl,?_⟩;have p8:0≤(x3_1:Int):=od;have q8:x3_1 < (a0.size:Int):=od;have hx8:=bt_at a0 x3_1;replace p8:=eq_true p8;replace q8:=eq_true q8)|(go_at_call 47;(with_reducible refine (impl_isFigure.calls (bt a0 x3_1) false _ A9.out).mono ?_);rintro e w' ⟨rfl,⟨nd,rfl⟩⟩;have p11:0≤(x3_1:Int):=od;have q11:x3_1 < (a0.size:Int):=od;have hx11:=bt_at a0 x3_1;replace p11:=eq_true p11;replace q11:=eq_true q11))
         go_ret
         exact ⟨cl2,d0⟩
    ·rw [if_neg c3] at H
     exact absurd H (by simp)
   ·rw [if_neg c2] at H
    have c2b0:decide (x3_1 < (a0.size:Int))=false:=decide_eq_false c2;clear c2;replace H:=bs H;obtain ⟨t618,A130,H⟩:=H;replace H:(some t618)=some r:=H;have A13:=Aside0.mk A130;clear A130;obtain rfl:=Option.some.inj H
    go_wp2_with (first|((with_reducible refine gate_callee (f:=32) rfl ?_);refine goesL_ (some 34) rfl rfl Try.func32 (by kernel_rfl) rfl #[.int .i64 (a0.size:Int),.int .i64 1,.int .i64 20] rfl gs ?_;(with_reducible refine (impl_inRange.calls (a0.size:Int) 1 20 t618 _ A13.out).mono ?_);rintro e w' ⟨rfl,⟨nd,rfl⟩⟩;refine ⟨_,rfl,?_⟩))
    go_ret
    exact ⟨cl2,d0⟩
def impl_xAtomOk.f (k:Nat) (a0:ByteArray):Option (Bool):=(impl_AtomOk.f k a0).bind fun t621=>(if t621=true then (if a0.toList=([99,97,115,101]:List UInt8) then (some false) else (if a0.toList=([111,102]:List UInt8) then (some false) else (some (a0.toList != ([101,110,100]:List UInt8))))) else (some false))
theorem impl_xAtomOk.mono:∀ a0 k,LeO (impl_xAtomOk.f k a0) (impl_xAtomOk.f (k + 1) a0):=by
 intro a0 k
 unfold impl_xAtomOk.f
 with_reducible repeat' first|apply impl_AtomOk.mono|apply LeO.refl|apply LeO.none|apply LeO.ite|refine LeO.bind ?_ (fun _=>?_)
theorem impl_xAtomOk.calls (k:Nat) (a0:ByteArray) (r:Bool) (w:World) (h:impl_xAtomOk.f k a0=some r) :
  Calls Try.prog 33 #[.string a0] w fun e w'=>e=.returned (.bool r)∧Drawn0 w w':=by
 have H:((impl_AtomOk.f k a0).bind fun t621=>(if t621=true then (if a0.toList=([99,97,115,101]:List UInt8) then (some false) else (if a0.toList=([111,102]:List UInt8) then (some false) else (some (a0.toList != ([101,110,100]:List UInt8))))) else (some false)))=some r:=h;clear h;replace H:=bs H;obtain ⟨t621,A20,H⟩:=H;replace H:(if t621=true then (if a0.toList=([99,97,115,101]:List UInt8) then (some false) else (if a0.toList=([111,102]:List UInt8) then (some false) else (some (a0.toList != ([101,110,100]:List UInt8))))) else (some false))=some r:=H;have A2:=Aside0.mk A20;clear A20
 by_cases c3:t621=true
 ·subst c3
  replace H:(if a0.toList=([99,97,115,101]:List UInt8) then (some false) else (if a0.toList=([111,102]:List UInt8) then (some false) else (some (a0.toList != ([101,110,100]:List UInt8)))))=some r:=pt H
  by_cases c4:a0.toList=([99,97,115,101]:List UInt8)
  ·rw [if_pos c4] at H
   have c4b0:(a0.toList == ([99,97,115,101]:List UInt8))=true:=beq_iff_eq.mpr c4;have c4b1:(a0.toList != ([99,97,115,101]:List UInt8))=false:=bne_eq_false_iff_eq.mpr c4;clear c4;obtain rfl:=Option.some.inj H
   go_enter Try.func33,Try.ntmps33
   go_wp2_with (first|((with_reducible refine gate_callee (f:=39) rfl ?_);refine goesL_ (some 4) rfl rfl Try.func39 (by kernel_rfl) rfl #[.string a0] rfl gs ?_;(with_reducible refine (impl_AtomOk.calls k a0 true _ A2.out).mono ?_);rintro e w' ⟨rfl,⟨nd,rfl⟩⟩;refine ⟨_,rfl,?_⟩))
   go_ret
   exact ⟨cl2,d0⟩
  ·rw [if_neg c4] at H
   have c4b0:(a0.toList == ([99,97,115,101]:List UInt8))=false:=beq_eq_false_iff_ne.mpr c4;have c4b1:(a0.toList != ([99,97,115,101]:List UInt8))=true:=bne_iff_ne.mpr c4
   by_cases c5:a0.toList=([111,102]:List UInt8)
   ·rw [if_pos c5] at H
    have c5b0:(a0.toList == ([111,102]:List UInt8))=true:=beq_iff_eq.mpr c5;have c5b1:(a0.toList != ([111,102]:List UInt8))=false:=bne_eq_false_iff_eq.mpr c5;clear c5;obtain rfl:=Option.some.inj H
    go_enter Try.func33,Try.ntmps33
    go_wp2_with (first|((with_reducible refine gate_callee (f:=39) rfl ?_);refine goesL_ (some 4) rfl rfl Try.func39 (by kernel_rfl) rfl #[.string a0] rfl gs ?_;(with_reducible refine (impl_AtomOk.calls k a0 true _ A2.out).mono ?_);rintro e w' ⟨rfl,⟨nd,rfl⟩⟩;refine ⟨_,rfl,?_⟩))
    go_ret
    exact ⟨cl2,d0⟩
   ·rw [if_neg c5] at H
    have c5b0:(a0.toList == ([111,102]:List UInt8))=false:=beq_eq_false_iff_ne.mpr c5;have c5b1:(a0.toList != ([111,102]:List UInt8))=true:=bne_iff_ne.mpr c5;obtain rfl:=Option.some.inj H
    go_enter Try.func33,Try.ntmps33
    go_wp2_with (first|((with_reducible refine gate_callee (f:=39) rfl ?_);refine goesL_ (some 4) rfl rfl Try.func39 (by kernel_rfl) rfl #[.string a0] rfl gs ?_;(with_reducible refine (impl_AtomOk.calls k a0 true _ A2.out).mono ?_);rintro e w' ⟨rfl,⟨nd,rfl⟩⟩;refine ⟨_,rfl,?_⟩))
    go_ret
    exact ⟨cl2,d0⟩
 ·replace c3:=Bool.eq_false_iff.mpr c3
  subst c3;replace H:(some false)=some r:=nt H;obtain rfl:=Option.some.inj H
  go_enter Try.func33,Try.ntmps33
  go_wp2_with (first|((with_reducible refine gate_callee (f:=39) rfl ?_);refine goesL_ (some 4) rfl rfl Try.func39 (by kernel_rfl) rfl #[.string a0] rfl gs ?_;(with_reducible refine (impl_AtomOk.calls k a0 false _ A2.out).mono ?_);rintro e w' ⟨rfl,⟨nd,rfl⟩⟩;refine ⟨_,rfl,?_⟩))
  go_ret
  exact ⟨cl2,d0⟩
def impl_isLarge.f (a0:Int):Option (Bool):=if a0 ≥ 65 then (if a0≤90 then (some true) else (some (a0 == 95))) else (some (a0 == 95))
theorem impl_isLarge.calls (a0:Int) (r:Bool) (w:World) (h:impl_isLarge.f a0=some r) :
  Calls Try.prog 41 #[.int .u8 a0] w fun e w'=>e=.returned (.bool r)∧Drawn0 w w':=by
 have H:(if a0 ≥ 65 then (if a0≤90 then (some true) else (some (a0 == 95))) else (some (a0 == 95)))=some r:=h;clear h
 by_cases c2:a0 ≥ 65
 ·rw [if_pos c2] at H
  have c2b0:decide (65≤a0)=true:=decide_eq_true c2;clear c2
  by_cases c3:a0≤90
  ·rw [if_pos c3] at H
   have c3b0:decide (a0≤90)=true:=decide_eq_true c3;clear c3;obtain rfl:=Option.some.inj H
   go_enter Try.func41,Try.ntmps41
   go_wp2
   go_ret
   exact ⟨cl2,d0⟩
  ·rw [if_neg c3] at H
   have c3b0:decide (a0≤90)=false:=decide_eq_false c3;clear c3;obtain rfl:=Option.some.inj H
   go_enter Try.func41,Try.ntmps41
   go_wp2
   go_ret
   exact ⟨cl2,d0⟩
 ·rw [if_neg c2] at H
  have c2b0:decide (65≤a0)=false:=decide_eq_false c2;clear c2;obtain rfl:=Option.some.inj H
  go_enter Try.func41,Try.ntmps41
  go_wp2
  go_ret
  exact ⟨cl2,d0⟩
def impl_isWordByte.f (a0:Int):Option (Bool):=(impl_isSmall.f a0).bind fun t622=>(if t622=true then (some true) else ((impl_isLarge.f a0).bind fun t623=>(if t623=true then (some true) else ((impl_isFigure.f a0).bind fun t624=>(some t624)))))
theorem impl_isWordByte.calls (a0:Int) (r:Bool) (w:World) (h:impl_isWordByte.f a0=some r) :
  Calls Try.prog 40 #[.int .u8 a0] w fun e w'=>e=.returned (.bool r)∧Drawn0 w w':=by
 have H:((impl_isSmall.f a0).bind fun t622=>(if t622=true then (some true) else ((impl_isLarge.f a0).bind fun t623=>(if t623=true then (some true) else ((impl_isFigure.f a0).bind fun t624=>(some t624))))))=some r:=h;clear h;replace H:=bs H;obtain ⟨t622,A20,H⟩:=H;replace H:(if t622=true then (some true) else ((impl_isLarge.f a0).bind fun t623=>(if t623=true then (some true) else ((impl_isFigure.f a0).bind fun t624=>(some t624)))))=some r:=H;have A2:=Aside0.mk A20;clear A20
 by_cases c3:t622=true
 ·subst c3
  replace H:(some true)=some r:=pt H;obtain rfl:=Option.some.inj H
  go_enter Try.func40,Try.ntmps40
  go_wp2_with (first|((with_reducible refine gate_callee (f:=46) rfl ?_);refine goesL_ (some 4) rfl rfl Try.func46 (by kernel_rfl) rfl #[.int .u8 a0] rfl gs ?_;(with_reducible refine (impl_isSmall.calls a0 true _ A2.out).mono ?_);rintro e w' ⟨rfl,⟨nd,rfl⟩⟩;refine ⟨_,rfl,?_⟩))
  go_ret
  exact ⟨cl2,d0⟩
 ·replace c3:=Bool.eq_false_iff.mpr c3
  subst c3;replace H:((impl_isLarge.f a0).bind fun t623=>(if t623=true then (some true) else ((impl_isFigure.f a0).bind fun t624=>(some t624))))=some r:=nt H;replace H:=bs H;obtain ⟨t623,A40,H⟩:=H;replace H:(if t623=true then (some true) else ((impl_isFigure.f a0).bind fun t624=>(some t624)))=some r:=H;have A4:=Aside0.mk A40;clear A40
  by_cases c5:t623=true
  ·subst c5
   replace H:(some true)=some r:=pt H;obtain rfl:=Option.some.inj H
   go_enter Try.func40,Try.ntmps40
   go_wp2_with (first|((with_reducible refine gate_callee (f:=46) rfl ?_);refine goesL_ (some 4) rfl rfl Try.func46 (by kernel_rfl) rfl #[.int .u8 a0] rfl gs ?_;(with_reducible refine (impl_isSmall.calls a0 false _ A2.out).mono ?_);rintro e w' ⟨rfl,⟨nd,rfl⟩⟩;refine ⟨_,rfl,?_⟩)|(go_at_call 41;(with_reducible refine (impl_isLarge.calls a0 true _ A4.out).mono ?_);rintro e w' ⟨rfl,⟨nd,rfl⟩⟩))
   go_ret
   exact ⟨cl2,d0⟩
  ·replace c5:=Bool.eq_false_iff.mpr c5
   subst c5;replace H:((impl_isFigure.f a0).bind fun t624=>(some t624))=some r:=nt H;replace H:=bs H;obtain ⟨t624,A60,H⟩:=H;replace H:(some t624)=some r:=H;have A6:=Aside0.mk A60;clear A60;obtain rfl:=Option.some.inj H
   go_enter Try.func40,Try.ntmps40
   go_wp2_with (first|((with_reducible refine gate_callee (f:=46) rfl ?_);refine goesL_ (some 4) rfl rfl Try.func46 (by kernel_rfl) rfl #[.int .u8 a0] rfl gs ?_;(with_reducible refine (impl_isSmall.calls a0 false _ A2.out).mono ?_);rintro e w' ⟨rfl,⟨nd,rfl⟩⟩;refine ⟨_,rfl,?_⟩)|(go_at_call 41;(with_reducible refine (impl_isLarge.calls a0 false _ A4.out).mono ?_);rintro e w' ⟨rfl,⟨nd,rfl⟩⟩)|(go_at_call 47;(with_reducible refine (impl_isFigure.calls a0 t624 _ A6.out).mono ?_);rintro e w' ⟨rfl,⟨nd,rfl⟩⟩))
   go_ret
   exact ⟨cl2,d0⟩
def impl_varOk.l0:Nat→ByteArray→Int→Option (Bool)
 | 0,_,_=>none
 | k + 1,x0,x3=>if x3 < (x0.size:Int) then (if 0≤x3 then ((impl_isWordByte.f (bt x0 x3)).bind fun t625=>(if t625=true then (impl_varOk.l0 k x0 (wrap64 (x3 + 1))) else (some false))) else (none)) else ((impl_inRange.f (x0.size:Int) 1 20).bind fun t626=>(if t626=true then (if 0 < (x0.size:Int) then ((impl_isLarge.f (bt x0 0)).bind fun t627=>(some t627)) else (none)) else (some false)))
def impl_varOk.f (k:Nat) (a0:ByteArray):Option (Bool):=impl_varOk.l0 k a0 0
theorem impl_varOk.mono_l:∀ k,(∀ y0 y1,LeO (impl_varOk.l0 k y0 y1) (impl_varOk.l0 (k + 1) y0 y1))
 | 0=>fun _ _ r h=>by simp [impl_varOk.l0] at h
 | k + 1=>by
  have ih0:=impl_varOk.mono_l k
  ·intro y0 y1
   unfold impl_varOk.l0
   with_reducible repeat' first|apply ih0|apply LeO.refl|apply LeO.none|apply LeO.ite|refine LeO.bind ?_ (fun _=>?_)
theorem impl_varOk.mono:∀ a0 k,LeO (impl_varOk.f k a0) (impl_varOk.f (k + 1) a0):=by
 intro a0 k;have ih0:=impl_varOk.mono_l k
 unfold impl_varOk.f
 with_reducible repeat' first|apply ih0|apply LeO.refl|apply LeO.none|apply LeO.ite|refine LeO.bind ?_ (fun _=>?_)
theorem impl_varOk.calls (k:Nat) (a0:ByteArray) (r:Bool) (w:World) (h:impl_varOk.f k a0=some r) :
  Calls Try.prog 34 #[.string a0] w fun e w'=>e=.returned (.bool r)∧Drawn0 w w':=by
 have H:(impl_varOk.l0 k a0 0)=some r:=h;clear h;have H':=Aside0.mk H;clear H
 go_enter Try.func34,Try.ntmps34
 go_wp2
 go_loopg [3] k (fun kq v3 w'=>∃ (x3_1:Int),v3=.int .i64 x3_1∧Aside0 (impl_varOk.l0 kq a0 x3_1=some r)∧Aside0 (kq≤k)∧Drawn0 w w')
 case atStart=>exact ⟨(0),(cl2),H',⟨Nat.le_refl _⟩,d0⟩
 case round =>
  clear H';obtain ⟨x3_1,rfl,HA,HK1,⟨m1,rfl⟩⟩:=hrel
  cases gk with
  | zero=>exact absurd HA.out (by simp [impl_varOk.l0])
  | succ k1 =>
   have H:=HA.out;clear HA;simp only [impl_varOk.l0] at H
   by_cases c2:x3_1 < (a0.size:Int)
   ·rw [if_pos c2] at H
    have c2b0:decide (x3_1 < (a0.size:Int))=true:=decide_eq_true c2;clear c2
    by_cases c3:0≤x3_1
    ·rw [if_pos c3] at H
     have c3b0:decide (0≤x3_1)=true:=decide_eq_true c3;clear c3;replace H:=bs H;obtain ⟨t625,A50,H⟩:=H;replace H:(if t625=true then (impl_varOk.l0 k1 a0 (wrap64 (x3_1 + 1))) else (some false))=some r:=H;have A5:=Aside0.mk A50;clear A50
     by_cases c6:t625=true
     ·subst c6
      replace H:(impl_varOk.l0 k1 a0 (wrap64 (x3_1 + 1)))=some r:=pt H;have H':=Aside0.mk H;clear H;have p4:0≤(x3_1:Int):=od;have q4:x3_1 < (a0.size:Int):=od;have hx4:=bt_at a0 x3_1;replace p4:=eq_true p4;replace q4:=eq_true q4
      go_wp2_with (first|((with_reducible refine gate_callee (f:=40) rfl ?_);refine goesL_ (some 13) rfl rfl Try.func40 (by kernel_rfl) rfl #[.int .u8 (bt a0 x3_1)] rfl gs ?_;(with_reducible refine (impl_isWordByte.calls (bt a0 x3_1) true _ A5.out).mono ?_);rintro e w' ⟨rfl,⟨nd,rfl⟩⟩;refine ⟨_,rfl,?_⟩))
      go_roundg k1
      case measure=>have:=HK1.out;omega
      case rel=>exact ⟨(wrap64 (x3_1 + 1)),(cl2),H',⟨by have:=HK1.out;omega⟩,d0⟩
     ·replace c6:=Bool.eq_false_iff.mpr c6
      subst c6;replace H:(some false)=some r:=nt H;obtain rfl:=Option.some.inj H;have p4:0≤(x3_1:Int):=od;have q4:x3_1 < (a0.size:Int):=od;have hx4:=bt_at a0 x3_1;replace p4:=eq_true p4;replace q4:=eq_true q4
      go_wp2_with (first|((with_reducible refine gate_callee (f:=40) rfl ?_);refine goesL_ (some 13) rfl rfl Try.func40 (by kernel_rfl) rfl #[.int .u8 (bt a0 x3_1)] rfl gs ?_;(with_reducible refine (impl_isWordByte.calls (bt a0 x3_1) false _ A5.out).mono ?_);rintro e w' ⟨rfl,⟨nd,rfl⟩⟩;refine ⟨_,rfl,?_⟩))
      go_ret
      exact ⟨cl2,d0⟩
    ·rw [if_neg c3] at H
     exact absurd H (by simp)
   ·rw [if_neg c2] at H
    have c2b0:decide (x3_1 < (a0.size:Int))=false:=decide_eq_false c2;clear c2;replace H:=bs H;obtain ⟨t626,A70,H⟩:=H;replace H:(if t626=true then (if 0 < (a0.size:Int) then ((impl_isLarge.f (bt a0 0)).bind fun t627=>(some t627)) else (none)) else (some false))=some r:=H;have A7:=Aside0.mk A70;clear A70
    by_cases c8:t626=true
    ·subst c8
     replace H:(if 0 < (a0.size:Int) then ((impl_isLarge.f (bt a0 0)).bind fun t627=>(some t627)) else (none))=some r:=pt H
     by_cases c9:0 < (a0.size:Int)
     ·rw [if_pos c9] at H
      have c9b0:decide (0 < (a0.size:Int))=true:=decide_eq_true c9;have c9b1:decide (0 < a0.size)=true:=decide_eq_true (by omega);clear c9;replace H:=bs H;obtain ⟨t627,A110,H⟩:=H;replace H:(some t627)=some r:=H;have A11:=Aside0.mk A110;clear A110;obtain rfl:=Option.some.inj H
      go_wp2_with (first|((with_reducible refine gate_callee (f:=32) rfl ?_);refine goesL_ (some 17) rfl rfl Try.func32 (by kernel_rfl) rfl #[.int .i64 (a0.size:Int),.int .i64 1,.int .i64 20] rfl gs ?_;(with_reducible refine (impl_inRange.calls (a0.size:Int) 1 20 true _ A7.out).mono ?_);rintro e w' ⟨rfl,⟨nd,rfl⟩⟩;refine ⟨_,rfl,?_⟩;have p10:0≤(0:Int):=(by omega);have q10:0 < a0.size:=(by have:(0:Int) < (a0.size:Int):=od;omega);have hx10:∀ h:0 < a0.size,((a0[0]'h).toNat:Int)=bt a0 0:=bt_at a0 0;clear p10;have qi10:(0 < (a0.size:Int))=True:=eq_true (od);replace q10:=eq_true q10)|(go_at_call 41;(with_reducible refine (impl_isLarge.calls (bt a0 0) t627 _ A11.out).mono ?_);rintro e w' ⟨rfl,⟨nd,rfl⟩⟩))
      go_ret
      exact ⟨cl2,d0⟩
     ·rw [if_neg c9] at H
      exact absurd H (by simp)
    ·replace c8:=Bool.eq_false_iff.mpr c8
     subst c8;replace H:(some false)=some r:=nt H;obtain rfl:=Option.some.inj H
     go_wp2_with (first|((with_reducible refine gate_callee (f:=32) rfl ?_);refine goesL_ (some 17) rfl rfl Try.func32 (by kernel_rfl) rfl #[.int .i64 (a0.size:Int),.int .i64 1,.int .i64 20] rfl gs ?_;(with_reducible refine (impl_inRange.calls (a0.size:Int) 1 20 false _ A7.out).mono ?_);rintro e w' ⟨rfl,⟨nd,rfl⟩⟩;refine ⟨_,rfl,?_⟩))
     go_ret
     exact ⟨cl2,d0⟩
def impl_isOp.f (a0:ByteArray):Option (Bool):=if a0.toList=([43]:List UInt8) then (some true) else (if a0.toList=([45]:List UInt8) then (some true) else (if a0.toList=([42]:List UInt8) then (some true) else (if a0.toList=([61,61]:List UInt8) then (some true) else (if a0.toList=([60]:List UInt8) then (some true) else (some false)))))
theorem impl_isOp.calls (a0:ByteArray) (r:Bool) (w:World) (h:impl_isOp.f a0=some r) :
  Calls Try.prog 35 #[.string a0] w fun e w'=>e=.returned (.bool r)∧Drawn0 w w':=by
 have H:(if a0.toList=([43]:List UInt8) then (some true) else (if a0.toList=([45]:List UInt8) then (some true) else (if a0.toList=([42]:List UInt8) then (some true) else (if a0.toList=([61,61]:List UInt8) then (some true) else (if a0.toList=([60]:List UInt8) then (some true) else (some false))))))=some r:=h;clear h
 by_cases c2:a0.toList=([43]:List UInt8)
 ·rw [if_pos c2] at H
  have c2b0:(a0.toList == ([43]:List UInt8))=true:=beq_iff_eq.mpr c2;have c2b1:(a0.toList != ([43]:List UInt8))=false:=bne_eq_false_iff_eq.mpr c2;clear c2;obtain rfl:=Option.some.inj H
  go_enter Try.func35,Try.ntmps35
  go_wp2
  go_ret
  exact ⟨cl2,d0⟩
 ·rw [if_neg c2] at H
  have c2b0:(a0.toList == ([43]:List UInt8))=false:=beq_eq_false_iff_ne.mpr c2;have c2b1:(a0.toList != ([43]:List UInt8))=true:=bne_iff_ne.mpr c2
  by_cases c3:a0.toList=([45]:List UInt8)
  ·rw [if_pos c3] at H
   have c3b0:(a0.toList == ([45]:List UInt8))=true:=beq_iff_eq.mpr c3;have c3b1:(a0.toList != ([45]:List UInt8))=false:=bne_eq_false_iff_eq.mpr c3;clear c3;obtain rfl:=Option.some.inj H
   go_enter Try.func35,Try.ntmps35
   go_wp2
   go_ret
   exact ⟨cl2,d0⟩
  ·rw [if_neg c3] at H
   have c3b0:(a0.toList == ([45]:List UInt8))=false:=beq_eq_false_iff_ne.mpr c3;have c3b1:(a0.toList != ([45]:List UInt8))=true:=bne_iff_ne.mpr c3
   by_cases c4:a0.toList=([42]:List UInt8)
   ·rw [if_pos c4] at H
    have c4b0:(a0.toList == ([42]:List UInt8))=true:=beq_iff_eq.mpr c4;have c4b1:(a0.toList != ([42]:List UInt8))=false:=bne_eq_false_iff_eq.mpr c4;clear c4;obtain rfl:=Option.some.inj H
    go_enter Try.func35,Try.ntmps35
    go_wp2
    go_ret
    exact ⟨cl2,d0⟩
   ·rw [if_neg c4] at H
    have c4b0:(a0.toList == ([42]:List UInt8))=false:=beq_eq_false_iff_ne.mpr c4;have c4b1:(a0.toList != ([42]:List UInt8))=true:=bne_iff_ne.mpr c4
    by_cases c5:a0.toList=([61,61]:List UInt8)
    ·rw [if_pos c5] at H
     have c5b0:(a0.toList == ([61,61]:List UInt8))=true:=beq_iff_eq.mpr c5;have c5b1:(a0.toList != ([61,61]:List UInt8))=false:=bne_eq_false_iff_eq.mpr c5;clear c5;obtain rfl:=Option.some.inj H
     go_enter Try.func35,Try.ntmps35
     go_wp2
     go_ret
     exact ⟨cl2,d0⟩
    ·rw [if_neg c5] at H
     have c5b0:(a0.toList == ([61,61]:List UInt8))=false:=beq_eq_false_iff_ne.mpr c5;have c5b1:(a0.toList != ([61,61]:List UInt8))=true:=bne_iff_ne.mpr c5
     by_cases c6:a0.toList=([60]:List UInt8)
     ·rw [if_pos c6] at H
      have c6b0:(a0.toList == ([60]:List UInt8))=true:=beq_iff_eq.mpr c6;have c6b1:(a0.toList != ([60]:List UInt8))=false:=bne_eq_false_iff_eq.mpr c6;clear c6;obtain rfl:=Option.some.inj H
      go_enter Try.func35,Try.ntmps35
      go_wp2
      go_ret
      exact ⟨cl2,d0⟩
     ·rw [if_neg c6] at H
      have c6b0:(a0.toList == ([60]:List UInt8))=false:=beq_eq_false_iff_ne.mpr c6;have c6b1:(a0.toList != ([60]:List UInt8))=true:=bne_iff_ne.mpr c6;obtain rfl:=Option.some.inj H
      go_enter Try.func35,Try.ntmps35
      go_wp2
      go_ret
      exact ⟨cl2,d0⟩
def impl_shapeOk.j0:Nat→Int→ByteArray→Int→Int→Bool→Option (Bool)
 | 0,_,_,_,_,_=>none
 | k + 1,x1,x2,x3,x9,x46=>if x46=true then (if x1=0 then (if x2.toList=([]:List UInt8) then (some (decide (x3≤20))) else (some false)) else (some false)) else (if x9=6 then (if x1=0 then (if x2.toList=([]:List UInt8) then ((impl_inRange.f x3 2 6).bind fun t631=>(some t631)) else (some false)) else (some false)) else (if x9=7 then (if x1=0 then ((impl_isOp.f x2).bind fun t632=>(if t632=true then (some (x3 == 2)) else (some false))) else (some false)) else (if x9=8 then (if x1=0 then ((impl_xAtomOk.f k x2).bind fun t633=>(if t633=true then (some (decide (x3≤4))) else (some false))) else (some false)) else (if x9=9 then (if x1=0 then (if x2.toList=([]:List UInt8) then (some (x3 == 1)) else (some false)) else (some false)) else (some false)))))
def impl_shapeOk.f (k:Nat) (a0:Int) (a1:Int) (a2:ByteArray) (a3:Int):Option (Bool):=if a0=1 then ((impl_inRange.f a1 0 1000000000000).bind fun t628=>(if t628=true then (if a2.toList=([]:List UInt8) then (some (a3 == 0)) else (some false)) else (some false))) else (if a0=2 then (if a1=0 then ((impl_xAtomOk.f k a2).bind fun t629=>(if t629=true then (some (a3 == 0)) else (some false))) else (some false)) else (if a0=3 then (if a1=0 then ((impl_varOk.f k a2).bind fun t630=>(if t630=true then (some (a3 == 0)) else (some false))) else (some false)) else (if a0=4 then (impl_shapeOk.j0 k a1 a2 a3 a0 (a0 == 4)) else (impl_shapeOk.j0 k a1 a2 a3 a0 (a0 == 5)))))
theorem impl_shapeOk.mono_l:∀ k,(∀ y0 y1 y2 y3 y4,LeO (impl_shapeOk.j0 k y0 y1 y2 y3 y4) (impl_shapeOk.j0 (k + 1) y0 y1 y2 y3 y4))
 | 0=>fun _ _ _ _ _ r h=>by simp [impl_shapeOk.j0] at h
 | k + 1=>by
  have ih0:=impl_shapeOk.mono_l k
  ·intro y0 y1 y2 y3 y4
   unfold impl_shapeOk.j0
   with_reducible repeat' first|apply ih0|apply impl_varOk.mono|apply impl_xAtomOk.mono|apply LeO.refl|apply LeO.none|apply LeO.ite|refine LeO.bind ?_ (fun _=>?_)
theorem impl_shapeOk.mono:∀ a0 a1 a2 a3 k,LeO (impl_shapeOk.f k a0 a1 a2 a3) (impl_shapeOk.f (k + 1) a0 a1 a2 a3):=by
 intro a0 a1 a2 a3 k;have ih0:=impl_shapeOk.mono_l k
 unfold impl_shapeOk.f
 with_reducible repeat' first|apply ih0|apply impl_varOk.mono|apply impl_xAtomOk.mono|apply LeO.refl|apply LeO.none|apply LeO.ite|refine LeO.bind ?_ (fun _=>?_)
theorem impl_shapeOk.calls (k:Nat) (a0:Int) (a1:Int) (a2:ByteArray) (a3:Int) (r:Bool) (w:World) (h:impl_shapeOk.f k a0 a1 a2 a3=some r) :
  Calls Try.prog 23 #[.int .i64 a0,.int .i64 a1,.string a2,.int .i64 a3] w fun e w'=>e=.returned (.bool r)∧Drawn0 w w':=by
 have H:(if a0=1 then ((impl_inRange.f a1 0 1000000000000).bind fun t628=>(if t628=true then (if a2.toList=([]:List UInt8) then (some (a3 == 0)) else (some false)) else (some false))) else (if a0=2 then (if a1=0 then ((impl_xAtomOk.f k a2).bind fun t629=>(if t629=true then (some (a3 == 0)) else (some false))) else (some false)) else (if a0=3 then (if a1=0 then ((impl_varOk.f k a2).bind fun t630=>(if t630=true then (some (a3 == 0)) else (some false))) else (some false)) else (if a0=4 then (impl_shapeOk.j0 k a1 a2 a3 a0 (a0 == 4)) else (impl_shapeOk.j0 k a1 a2 a3 a0 (a0 == 5))))))=some r:=h;clear h
 by_cases c5:a0=1
 ·rw [if_pos c5] at H
  have c5b0:(a0 == 1)=true:=beq_iff_eq.mpr c5;have c5b1:(a0 != 1)=false:=bne_eq_false_iff_eq.mpr c5;clear c5;replace H:=bs H;obtain ⟨t628,A60,H⟩:=H;replace H:(if t628=true then (if a2.toList=([]:List UInt8) then (some (a3 == 0)) else (some false)) else (some false))=some r:=H;have A6:=Aside0.mk A60;clear A60
  by_cases c7:t628=true
  ·subst c7
   replace H:(if a2.toList=([]:List UInt8) then (some (a3 == 0)) else (some false))=some r:=pt H
   by_cases c8:a2.toList=([]:List UInt8)
   ·rw [if_pos c8] at H
    have c8b0:(a2.toList == ([]:List UInt8))=true:=beq_iff_eq.mpr c8;have c8b1:(a2.toList != ([]:List UInt8))=false:=bne_eq_false_iff_eq.mpr c8;clear c8;obtain rfl:=Option.some.inj H
    go_enter Try.func23,Try.ntmps23
    go_wp2_with (first|((with_reducible refine gate_callee (f:=32) rfl ?_);refine goesL_ (some 13) rfl rfl Try.func32 (by kernel_rfl) rfl #[.int .i64 a1,.int .i64 0,.int .i64 1000000000000] rfl gs ?_;(with_reducible refine (impl_inRange.calls a1 0 1000000000000 true _ A6.out).mono ?_);rintro e w' ⟨rfl,⟨nd,rfl⟩⟩;refine ⟨_,rfl,?_⟩))
    go_ret
    exact ⟨cl2,d0⟩
   ·rw [if_neg c8] at H
    have c8b0:(a2.toList == ([]:List UInt8))=false:=beq_eq_false_iff_ne.mpr c8;have c8b1:(a2.toList != ([]:List UInt8))=true:=bne_iff_ne.mpr c8;obtain rfl:=Option.some.inj H
    go_enter Try.func23,Try.ntmps23
    go_wp2_with (first|((with_reducible refine gate_callee (f:=32) rfl ?_);refine goesL_ (some 13) rfl rfl Try.func32 (by kernel_rfl) rfl #[.int .i64 a1,.int .i64 0,.int .i64 1000000000000] rfl gs ?_;(with_reducible refine (impl_inRange.calls a1 0 1000000000000 true _ A6.out).mono ?_);rintro e w' ⟨rfl,⟨nd,rfl⟩⟩;refine ⟨_,rfl,?_⟩))
    go_ret
    exact ⟨cl2,d0⟩
  ·replace c7:=Bool.eq_false_iff.mpr c7
   subst c7;replace H:(some false)=some r:=nt H;obtain rfl:=Option.some.inj H
   go_enter Try.func23,Try.ntmps23
   go_wp2_with (first|((with_reducible refine gate_callee (f:=32) rfl ?_);refine goesL_ (some 13) rfl rfl Try.func32 (by kernel_rfl) rfl #[.int .i64 a1,.int .i64 0,.int .i64 1000000000000] rfl gs ?_;(with_reducible refine (impl_inRange.calls a1 0 1000000000000 false _ A6.out).mono ?_);rintro e w' ⟨rfl,⟨nd,rfl⟩⟩;refine ⟨_,rfl,?_⟩))
   go_ret
   exact ⟨cl2,d0⟩
 ·rw [if_neg c5] at H
  have c5b0:(a0 == 1)=false:=beq_eq_false_iff_ne.mpr c5;have c5b1:(a0 != 1)=true:=bne_iff_ne.mpr c5
  by_cases c9:a0=2
  ·rw [if_pos c9] at H
   have c9b0:(a0 == 2)=true:=beq_iff_eq.mpr c9;have c9b1:(a0 != 2)=false:=bne_eq_false_iff_eq.mpr c9;clear c9
   by_cases c10:a1=0
   ·rw [if_pos c10] at H
    have c10b0:(a1 == 0)=true:=beq_iff_eq.mpr c10;have c10b1:(a1 != 0)=false:=bne_eq_false_iff_eq.mpr c10;clear c10;replace H:=bs H;obtain ⟨t629,A110,H⟩:=H;replace H:(if t629=true then (some (a3 == 0)) else (some false))=some r:=H;have A11:=Aside0.mk A110;clear A110
    by_cases c12:t629=true
    ·subst c12
     replace H:(some (a3 == 0))=some r:=pt H;obtain rfl:=Option.some.inj H
     go_enter Try.func23,Try.ntmps23
     go_wp2_with (first|(go_at_call 33;(with_reducible refine (impl_xAtomOk.calls k a2 true _ A11.out).mono ?_);rintro e w' ⟨rfl,⟨nd,rfl⟩⟩))
     go_ret
     exact ⟨cl2,d0⟩
    ·replace c12:=Bool.eq_false_iff.mpr c12
     subst c12;replace H:(some false)=some r:=nt H;obtain rfl:=Option.some.inj H
     go_enter Try.func23,Try.ntmps23
     go_wp2_with (first|(go_at_call 33;(with_reducible refine (impl_xAtomOk.calls k a2 false _ A11.out).mono ?_);rintro e w' ⟨rfl,⟨nd,rfl⟩⟩))
     go_ret
     exact ⟨cl2,d0⟩
   ·rw [if_neg c10] at H
    have c10b0:(a1 == 0)=false:=beq_eq_false_iff_ne.mpr c10;have c10b1:(a1 != 0)=true:=bne_iff_ne.mpr c10;obtain rfl:=Option.some.inj H
    go_enter Try.func23,Try.ntmps23
    go_wp2
    go_ret
    exact ⟨cl2,d0⟩
  ·rw [if_neg c9] at H
   have c9b0:(a0 == 2)=false:=beq_eq_false_iff_ne.mpr c9;have c9b1:(a0 != 2)=true:=bne_iff_ne.mpr c9
   by_cases c13:a0=3
   ·rw [if_pos c13] at H
    have c13b0:(a0 == 3)=true:=beq_iff_eq.mpr c13;have c13b1:(a0 != 3)=false:=bne_eq_false_iff_eq.mpr c13;clear c13
    by_cases c14:a1=0
    ·rw [if_pos c14] at H
     have c14b0:(a1 == 0)=true:=beq_iff_eq.mpr c14;have c14b1:(a1 != 0)=false:=bne_eq_false_iff_eq.mpr c14;clear c14;replace H:=bs H;obtain ⟨t630,A150,H⟩:=H;replace H:(if t630=true then (some (a3 == 0)) else (some false))=some r:=H;have A15:=Aside0.mk A150;clear A150
     by_cases c16:t630=true
     ·subst c16
      replace H:(some (a3 == 0))=some r:=pt H;obtain rfl:=Option.some.inj H
      go_enter Try.func23,Try.ntmps23
      go_wp2_with (first|(go_at_call 34;(with_reducible refine (impl_varOk.calls k a2 true _ A15.out).mono ?_);rintro e w' ⟨rfl,⟨nd,rfl⟩⟩))
      go_ret
      exact ⟨cl2,d0⟩
     ·replace c16:=Bool.eq_false_iff.mpr c16
      subst c16;replace H:(some false)=some r:=nt H;obtain rfl:=Option.some.inj H
      go_enter Try.func23,Try.ntmps23
      go_wp2_with (first|(go_at_call 34;(with_reducible refine (impl_varOk.calls k a2 false _ A15.out).mono ?_);rintro e w' ⟨rfl,⟨nd,rfl⟩⟩))
      go_ret
      exact ⟨cl2,d0⟩
    ·rw [if_neg c14] at H
     have c14b0:(a1 == 0)=false:=beq_eq_false_iff_ne.mpr c14;have c14b1:(a1 != 0)=true:=bne_iff_ne.mpr c14;obtain rfl:=Option.some.inj H
     go_enter Try.func23,Try.ntmps23
     go_wp2
     go_ret
     exact ⟨cl2,d0⟩
   ·rw [if_neg c13] at H
    have c13b0:(a0 == 3)=false:=beq_eq_false_iff_ne.mpr c13;have c13b1:(a0 != 3)=true:=bne_iff_ne.mpr c13;have HC17:=Aside0.mk H;clear H
    go_enter Try.func23,Try.ntmps23
    go_upto_if 46 with (fail)
    go_cut [46] (fun v46 wc=>∃ (kq:Nat) (x46_16:Bool),v46=.bool x46_16∧Aside0 (impl_shapeOk.j0 kq a1 a2 a3 a0 x46_16=some r)∧Aside0 (kq≤k)∧Drawn0 w wc)
    case first =>
     have H:=HC17.out;clear HC17
     by_cases c18:a0=4
     ·rw [if_pos c18] at H
      have c18b0:(a0 == 4)=true:=beq_iff_eq.mpr c18;have c18b1:(a0 != 4)=false:=bne_eq_false_iff_eq.mpr c18;clear c18
      (first|rw [c18b0]|(simp only [i64_w,i32_w];rw [c18b0])|(simp only [c18b2,Bool.not_true,Bool.not_false])|skip)
      have H':=Aside0.mk H;clear H
      go_wp2
      go_meet
      case rel=>exact ⟨_,((a0 == 4)),(cl2),H',⟨by first|omega|exact Nat.le_refl _⟩,d0⟩
     ·rw [if_neg c18] at H
      have c18b0:(a0 == 4)=false:=beq_eq_false_iff_ne.mpr c18;have c18b1:(a0 != 4)=true:=bne_iff_ne.mpr c18
      (first|rw [c18b0]|(simp only [i64_w,i32_w];rw [c18b0])|(simp only [c18b2,Bool.not_true,Bool.not_false])|skip)
      have H':=Aside0.mk H;clear H
      go_wp2
      go_meet
      case rel=>exact ⟨_,((a0 == 5)),(cl2),H',⟨by first|omega|exact Nat.le_refl _⟩,d0⟩
    case rest =>
     clear HC17;(try clear c5);(try clear c5b0);(try clear c5b1);(try clear c9);(try clear c9b0);(try clear c9b1);(try clear c13);(try clear c13b0);(try clear c13b1);obtain ⟨kq,x46_16,rfl,HA,HJ16,⟨mc16,rfl⟩⟩:=hcut
     cases kq with
     | zero=>exact absurd HA.out (by simp [impl_shapeOk.j0])
     | succ kj16 =>
      have H:=HA.out;clear HA;simp only [impl_shapeOk.j0] at H
      by_cases c19:x46_16=true
      ·subst c19
       replace H:(if a1=0 then (if a2.toList=([]:List UInt8) then (some (decide (a3≤20))) else (some false)) else (some false))=some r:=pt H
       by_cases c20:a1=0
       ·rw [if_pos c20] at H
        have c20b0:(a1 == 0)=true:=beq_iff_eq.mpr c20;have c20b1:(a1 != 0)=false:=bne_eq_false_iff_eq.mpr c20;clear c20
        by_cases c21:a2.toList=([]:List UInt8)
        ·rw [if_pos c21] at H
         have c21b0:(a2.toList == ([]:List UInt8))=true:=beq_iff_eq.mpr c21;have c21b1:(a2.toList != ([]:List UInt8))=false:=bne_eq_false_iff_eq.mpr c21;clear c21;obtain rfl:=Option.some.inj H
         go_wp2
         go_ret
         exact ⟨cl2,d0⟩
        ·rw [if_neg c21] at H
         have c21b0:(a2.toList == ([]:List UInt8))=false:=beq_eq_false_iff_ne.mpr c21;have c21b1:(a2.toList != ([]:List UInt8))=true:=bne_iff_ne.mpr c21;obtain rfl:=Option.some.inj H
         go_wp2
         go_ret
         exact ⟨cl2,d0⟩
       ·rw [if_neg c20] at H
        have c20b0:(a1 == 0)=false:=beq_eq_false_iff_ne.mpr c20;have c20b1:(a1 != 0)=true:=bne_iff_ne.mpr c20;obtain rfl:=Option.some.inj H
        go_wp2
        go_ret
        exact ⟨cl2,d0⟩
      ·replace c19:=Bool.eq_false_iff.mpr c19
       subst c19;replace H:(if a0=6 then (if a1=0 then (if a2.toList=([]:List UInt8) then ((impl_inRange.f a3 2 6).bind fun t631=>(some t631)) else (some false)) else (some false)) else (if a0=7 then (if a1=0 then ((impl_isOp.f a2).bind fun t632=>(if t632=true then (some (a3 == 2)) else (some false))) else (some false)) else (if a0=8 then (if a1=0 then ((impl_xAtomOk.f kj16 a2).bind fun t633=>(if t633=true then (some (decide (a3≤4))) else (some false))) else (some false)) else (if a0=9 then (if a1=0 then (if a2.toList=([]:List UInt8) then (some (a3 == 1)) else (some false)) else (some false)) else (some false)))))=some r:=nt H
       by_cases c22:a0=6
       ·rw [if_pos c22] at H
        have c22b0:(a0 == 6)=true:=beq_iff_eq.mpr c22;have c22b1:(a0 != 6)=false:=bne_eq_false_iff_eq.mpr c22;clear c22
        by_cases c23:a1=0
        ·rw [if_pos c23] at H
         have c23b0:(a1 == 0)=true:=beq_iff_eq.mpr c23;have c23b1:(a1 != 0)=false:=bne_eq_false_iff_eq.mpr c23;clear c23
         by_cases c24:a2.toList=([]:List UInt8)
         ·rw [if_pos c24] at H
          have c24b0:(a2.toList == ([]:List UInt8))=true:=beq_iff_eq.mpr c24;have c24b1:(a2.toList != ([]:List UInt8))=false:=bne_eq_false_iff_eq.mpr c24;clear c24;replace H:=bs H;obtain ⟨t631,A250,H⟩:=H;replace H:(some t631)=some r:=H;have A25:=Aside0.mk A250;clear A250;obtain rfl:=Option.some.inj H
          go_wp2_with (first|(go_at_call 32;(with_reducible refine (impl_inRange.calls a3 2 6 t631 _ A25.out).mono ?_);rintro e w' ⟨rfl,⟨nd,rfl⟩⟩))
          go_ret
          exact ⟨cl2,d0⟩
         ·rw [if_neg c24] at H
          have c24b0:(a2.toList == ([]:List UInt8))=false:=beq_eq_false_iff_ne.mpr c24;have c24b1:(a2.toList != ([]:List UInt8))=true:=bne_iff_ne.mpr c24;obtain rfl:=Option.some.inj H
          go_wp2
          go_ret
          exact ⟨cl2,d0⟩
        ·rw [if_neg c23] at H
         have c23b0:(a1 == 0)=false:=beq_eq_false_iff_ne.mpr c23;have c23b1:(a1 != 0)=true:=bne_iff_ne.mpr c23;obtain rfl:=Option.some.inj H
         go_wp2
         go_ret
         exact ⟨cl2,d0⟩
       ·rw [if_neg c22] at H
        have c22b0:(a0 == 6)=false:=beq_eq_false_iff_ne.mpr c22;have c22b1:(a0 != 6)=true:=bne_iff_ne.mpr c22
        by_cases c26:a0=7
        ·rw [if_pos c26] at H
         have c26b0:(a0 == 7)=true:=beq_iff_eq.mpr c26;have c26b1:(a0 != 7)=false:=bne_eq_false_iff_eq.mpr c26;clear c26
         by_cases c27:a1=0
         ·rw [if_pos c27] at H
          have c27b0:(a1 == 0)=true:=beq_iff_eq.mpr c27;have c27b1:(a1 != 0)=false:=bne_eq_false_iff_eq.mpr c27;clear c27;replace H:=bs H;obtain ⟨t632,A280,H⟩:=H;replace H:(if t632=true then (some (a3 == 2)) else (some false))=some r:=H;have A28:=Aside0.mk A280;clear A280
          by_cases c29:t632=true
          ·subst c29
           replace H:(some (a3 == 2))=some r:=pt H;obtain rfl:=Option.some.inj H
           go_wp2_with (first|(go_at_call 35;(with_reducible refine (impl_isOp.calls a2 true _ A28.out).mono ?_);rintro e w' ⟨rfl,⟨nd,rfl⟩⟩))
           go_ret
           exact ⟨cl2,d0⟩
          ·replace c29:=Bool.eq_false_iff.mpr c29
           subst c29;replace H:(some false)=some r:=nt H;obtain rfl:=Option.some.inj H
           go_wp2_with (first|(go_at_call 35;(with_reducible refine (impl_isOp.calls a2 false _ A28.out).mono ?_);rintro e w' ⟨rfl,⟨nd,rfl⟩⟩))
           go_ret
           exact ⟨cl2,d0⟩
         ·rw [if_neg c27] at H
          have c27b0:(a1 == 0)=false:=beq_eq_false_iff_ne.mpr c27;have c27b1:(a1 != 0)=true:=bne_iff_ne.mpr c27;obtain rfl:=Option.some.inj H
          go_wp2
          go_ret
          exact ⟨cl2,d0⟩
        ·rw [if_neg c26] at H
         have c26b0:(a0 == 7)=false:=beq_eq_false_iff_ne.mpr c26;have c26b1:(a0 != 7)=true:=bne_iff_ne.mpr c26
         by_cases c30:a0=8
         ·rw [if_pos c30] at H
          have c30b0:(a0 == 8)=true:=beq_iff_eq.mpr c30;have c30b1:(a0 != 8)=false:=bne_eq_false_iff_eq.mpr c30;clear c30
          by_cases c31:a1=0
          ·rw [if_pos c31] at H
           have c31b0:(a1 == 0)=true:=beq_iff_eq.mpr c31;have c31b1:(a1 != 0)=false:=bne_eq_false_iff_eq.mpr c31;clear c31;replace H:=bs H;obtain ⟨t633,A320,H⟩:=H;replace H:(if t633=true then (some (decide (a3≤4))) else (some false))=some r:=H;have A32:=Aside0.mk A320;clear A320
           by_cases c33:t633=true
           ·subst c33
            replace H:(some (decide (a3≤4)))=some r:=pt H;obtain rfl:=Option.some.inj H
            go_wp2_with (first|(go_at_call 33;(with_reducible refine (impl_xAtomOk.calls kj16 a2 true _ A32.out).mono ?_);rintro e w' ⟨rfl,⟨nd,rfl⟩⟩))
            go_ret
            exact ⟨cl2,d0⟩
           ·replace c33:=Bool.eq_false_iff.mpr c33
            subst c33;replace H:(some false)=some r:=nt H;obtain rfl:=Option.some.inj H
            go_wp2_with (first|(go_at_call 33;(with_reducible refine (impl_xAtomOk.calls kj16 a2 false _ A32.out).mono ?_);rintro e w' ⟨rfl,⟨nd,rfl⟩⟩))
            go_ret
            exact ⟨cl2,d0⟩
          ·rw [if_neg c31] at H
           have c31b0:(a1 == 0)=false:=beq_eq_false_iff_ne.mpr c31;have c31b1:(a1 != 0)=true:=bne_iff_ne.mpr c31;obtain rfl:=Option.some.inj H
           go_wp2
           go_ret
           exact ⟨cl2,d0⟩
         ·rw [if_neg c30] at H
          have c30b0:(a0 == 8)=false:=beq_eq_false_iff_ne.mpr c30;have c30b1:(a0 != 8)=true:=bne_iff_ne.mpr c30
          by_cases c34:a0=9
          ·rw [if_pos c34] at H
           have c34b0:(a0 == 9)=true:=beq_iff_eq.mpr c34;have c34b1:(a0 != 9)=false:=bne_eq_false_iff_eq.mpr c34;clear c34
           by_cases c35:a1=0
           ·rw [if_pos c35] at H
            have c35b0:(a1 == 0)=true:=beq_iff_eq.mpr c35;have c35b1:(a1 != 0)=false:=bne_eq_false_iff_eq.mpr c35;clear c35
            by_cases c36:a2.toList=([]:List UInt8)
            ·rw [if_pos c36] at H
             have c36b0:(a2.toList == ([]:List UInt8))=true:=beq_iff_eq.mpr c36;have c36b1:(a2.toList != ([]:List UInt8))=false:=bne_eq_false_iff_eq.mpr c36;clear c36;obtain rfl:=Option.some.inj H
             go_wp2
             go_ret
             exact ⟨cl2,d0⟩
            ·rw [if_neg c36] at H
             have c36b0:(a2.toList == ([]:List UInt8))=false:=beq_eq_false_iff_ne.mpr c36;have c36b1:(a2.toList != ([]:List UInt8))=true:=bne_iff_ne.mpr c36;obtain rfl:=Option.some.inj H
             go_wp2
             go_ret
             exact ⟨cl2,d0⟩
           ·rw [if_neg c35] at H
            have c35b0:(a1 == 0)=false:=beq_eq_false_iff_ne.mpr c35;have c35b1:(a1 != 0)=true:=bne_iff_ne.mpr c35;obtain rfl:=Option.some.inj H
            go_wp2
            go_ret
            exact ⟨cl2,d0⟩
          ·rw [if_neg c34] at H
           have c34b0:(a0 == 9)=false:=beq_eq_false_iff_ne.mpr c34;have c34b1:(a0 != 9)=true:=bne_iff_ne.mpr c34;obtain rfl:=Option.some.inj H
           go_wp2
           go_ret
           exact ⟨cl2,d0⟩
end Go.Proofs.Ytgcmmdfgfiflcaa.QFnFree
