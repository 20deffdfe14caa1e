-- Written by a program of this workplace (print2.py) for this claim, over the print's words.
import Derived.Test.YtaobcdpadpkngaaQFnPatternsx0
import Derived.Test.YtaobcdpadpkngaaQFnPatternsx9
import Derived.Test.YtaobcdpadpkngaaQFnPatternsx12
import Derived.Test.YtaobcdpadpkngaaQFnPatternsx16
namespace Go.Proofs.Ytaobcdpadpkngaa.QFnPatterns
open Go.RowKit Go.Proofs.YtaobcdpadpkngaaW.PrintWords Go.Proofs.YtaobcdpadpkngaaW.PrintLast Go.Proofs.YtaobcdpadpkngaaW.PrintMore
attribute [local go_sem] max2_int min2_int max_two min_two max_three min_three max_four min_four   -- for this text's walks alone
set_option linter.unusedVariables false
set_option linter.unusedSimpArgs false

/-! ### impl_PatOk: function 6 -/
def impl_PatOk.f (k:Nat) (a0_0:Int) (a0_1:Int) (a0_2:ByteArray) (l0_3:List (S27)) (l0_4:List (S52)):Option (Bool):=(impl_judge_pat.f k 0 ([]:List ByteArray) a0_0 a0_1 a0_2 l0_3 l0_4 1).bind fun bt766=>(some bt766.1)
theorem impl_PatOk.mono:∀ a0 a1 a2 a3 a4 k,LeO (impl_PatOk.f k a0 a1 a2 a3 a4) (impl_PatOk.f (k + 1) a0 a1 a2 a3 a4):=by
 intro a0 a1 a2 a3 a4 k
 unfold impl_PatOk.f
 with_reducible repeat' first|apply impl_judge_pat.mono|apply LeO.refl|apply LeO.none|apply LeO.ite|refine LeO.bind ?_ (fun _=>?_)
set_option maxHeartbeats 8000000 in
set_option maxRecDepth 100000 in
theorem impl_PatOk.calls (k:Nat) (a0_0:Int) (a0_1:Int) (a0_2:ByteArray) (A0_3:Option Addr) (c0_3:Nat) (l0_3:List (S27)) (A0_4:Option Addr) (c0_4:Nat) (l0_4:List (S52)) (r:Bool) (w:World) (hr0_3:Kd.C k27 w A0_3 l0_3.length l0_3) (hc0_3:l0_3.length≤c0_3) (hr0_4:Kd.C k52 w A0_4 l0_4.length l0_4) (hc0_4:l0_4.length≤c0_4) (h:impl_PatOk.f k a0_0 a0_1 a0_2 l0_3 l0_4 = some r) :
  Calls Try.prog 6 #[.agg #[.int .i64 a0_0,.int .i64 a0_1,.string a0_2,.slice A0_3 l0_3.length c0_3,.slice A0_4 l0_4.length c0_4]] w fun e w'=>e = .returned (.bool r)∧Below w.heap.size w w':=by
 have hu27:=Try.underlying27;have hu37:=Try.underlying37;have HR0_3:=Aside0.mk hr0_3;have HC0_3:=Aside0.mk hc0_3;clear hr0_3 hc0_3;have HR0_4:=Aside0.mk hr0_4;have HC0_4:=Aside0.mk hc0_4;clear hr0_4 hc0_4;have HB:=Aside0.mk (Below.refl w.heap.size w);have H:((impl_judge_pat.f k 0 ([]:List ByteArray) a0_0 a0_1 a0_2 l0_3 l0_4 1).bind fun bt766=>(some bt766.1)) = some r:=h;clear h;replace H:=Option.bind_eq_some_iff.mp H;obtain ⟨⟨t766,t767,t770⟩,A20,H⟩:=H;replace H:(some t766) = some r:=H;have A2:=Aside0.mk A20;clear A20;obtain rfl:=Option.some.inj H
 go_enter Try.func6,Try.ntmps6
 go_wp2_with (first|((with_reducible refine gate_dst (N:=1) rfl ?_);refine box_event ?hg (N:=1) ?hd (cs:=#[.int .i64 a0_0,.int .i64 a0_1,.string a0_2,.slice A0_3 l0_3.length c0_3,.slice A0_4 l0_4.length c0_4]) (t:=27) ?hr ?_;(case hd=>rfl);(case hg=>rfl);(case hr=>first|(go_simp;done)|(go_simp;rfl));intro gb764 hg w3 hbox hb;have n_:=ai (bq HB hb) <| aj (hbox) <| ai (bz hg HB) <| bz hg HB;clear HB;obtain ⟨HB,BK764,GW764,GE764⟩:=n_;clear hb hbox hg)|((with_reducible refine gate_dst (N:=3) rfl ?_);refine box_event ?hg (N:=3) ?hd (cs:=#[.int .i64 0,.slice none 0 0]) (t:=37) ?hr ?_;(case hd=>rfl);(case hg=>rfl);(case hr=>first|(go_simp;done)|(go_simp;rfl));intro gb765 hg w4 hbox hb;have n_:=ai (bw BK764 hb) <| ai (bq HB hb) <| aj (hbox) <| ai (bz hg HB) <| ai (bz hg HB) <| ai (nl hg BK764) <| ng hg BK764;clear BK764 HB;obtain ⟨BK764,HB,BK765,GW765,GE765,NB764_765,NB765_764⟩:=n_;clear hb hbox hg;have:=NB764_765.out;have:=NB765_764.out;obtain ⟨h6_0,h6_1,h6_2,h6_3,h6_4⟩:=kb5 BK764.out;obtain ⟨z6_0,z6_1,z6_2,z6_3,z6_4⟩:=kz5 BK764.out)|((with_reducible refine gate_callee (f:=13) rfl ?_);refine goesL_ (some 5) rfl rfl Try.func13 (by kernel_rfl) rfl #[.pointer (some ⟨gb765,0,none⟩),.agg #[.int .i64 a0_0,.int .i64 a0_1,.string a0_2,.slice A0_3 l0_3.length c0_3,.slice A0_4 l0_4.length c0_4],.int .i64 1] rfl gs ?_;(with_reducible refine (impl_judge_pat.calls k gb765 0 (fun k_=>some k_ = (.slice none 0 0:Value).ownBlock) (.slice none 0 0) ([]:List ByteArray) a0_0 a0_1 a0_2 (fun k_=>k_ < w.heap.size) _ _ l0_3 _ _ l0_4 1 t766 t767 t770 w _ ?side1 ?side2 ?side3 ?side4 ?side5 ?side6 A2.out).mono ?_);(case side1=>exact IsS37.of_blk (bk BK765.out) GE765.out);(case side2=>exact bl HB.out);(case side3=>exact Kd.R_nil _ _ _ _ _);(case side4=>exact Kd.V_mono (Kd.V_mk HC0_3.out (Kd.F_below (Kd.C_F k27_heap HR0_3.out) (bl HB.out))) (fun k_ hk_=>⟨hk_,(by simp [Value.ownBlock]),fun e_=>Nat.not_le.2 hk_ (by rw [e_];exact GW765.out)⟩));(case side5=>exact Kd.C_kept_came k52_heap HR0_4.out (bl HB.out) (fun k_ hs_=>Or.elim hs_ (fun hs_=>(fun e_=>by simp [Value.ownBlock] at e_) hs_) (fun e_=>(by rw [e_];exact GE765.out))));(case side6=>exact HC0_4.out);rintro e w7 ⟨v768,rfl,ho0,hi,hb,hkp⟩;refine ⟨_,rfl,?_⟩;have n_:=aj (blk_kept (bk BK764.out) hkp (fun hs_=>Or.elim hs_ (fun hs_=>(fun e_=>by simp [Value.ownBlock] at e_) hs_) (fun e_=>NB764_765.out e_))) <| aj (hi) <| aj (Kd.R_mono (ok':=fun k_=>True) ho0 (fun k_ hk_=>trivial)) <| Aside0.mk (hb);clear BK764 HB BK765;obtain ⟨BK764,HI765,HO769,HB⟩:=n_;(try clear hb);(try clear hkp);(try clear ho0)))
 go_ret
 exact ⟨cl,b37 HB.out⟩

/-! ### impl_VarsOf: function 7 -/
mutual
def impl_VarsOf.j0:Nat → Bool → Int → Int → ByteArray → List (S27) → List (S52) → Option (List ByteArray)
 | 0,_,_,_,_,_,_=>none
 | k + 1,x13,x772000,x772001,x772002,x772003,x772004=>if x13 = true then (some (([x772002]:List ByteArray))) else (if x772000 = 3 then (some ([]:List ByteArray)) else (impl_VarsOf.l0 k ([]:List ByteArray) x772003 (x772003.length:Int) 0))
def impl_VarsOf.l0:Nat → List ByteArray → List (S27) → Int → Int → Option (List ByteArray)
 | 0,_,_,_,_=>none
 | k + 1,x3,x21,x22,x23=>if x23 < x22 then (if 0≤x23 then (if x23 < (x21.length:Int) then ((impl_VarsOf.f k ((rd_T27 x21 x23).f0) ((rd_T27 x21 x23).f1) ((rd_T27 x21 x23).f2) ((rd_T27 x21 x23).f3) ((rd_T27 x21 x23).f4)).bind fun t777=>(if x3.length + t777.length < 8796093022208 then (impl_VarsOf.l0 k (x3 ++ t777) x21 x22 (wrap64 (x23 + 1))) else (none))) else (none)) else (none)) else (some x3)
def impl_VarsOf.f:Nat → Int → Int → ByteArray → List (S27) → List (S52) → Option (List ByteArray)
 | 0,_,_,_,_,_=>none
 | k + 1,a0_0,a0_1,a0_2,l0_3,l0_4=>if a0_0 = 3 then (impl_VarsOf.j0 k (a0_2.toList != ([95]:List UInt8)) a0_0 a0_1 a0_2 l0_3 l0_4) else (impl_VarsOf.j0 k false a0_0 a0_1 a0_2 l0_3 l0_4)
end
theorem impl_VarsOf.mono_l:∀ k,(∀ y0 y1 y2 y3 y4,LeO (impl_VarsOf.f k y0 y1 y2 y3 y4) (impl_VarsOf.f (k + 1) y0 y1 y2 y3 y4))∧(∀ y0 y1 y2 y3 y4 y5,LeO (impl_VarsOf.j0 k y0 y1 y2 y3 y4 y5) (impl_VarsOf.j0 (k + 1) y0 y1 y2 y3 y4 y5))∧(∀ y0 y1 y2 y3,LeO (impl_VarsOf.l0 k y0 y1 y2 y3) (impl_VarsOf.l0 (k + 1) y0 y1 y2 y3))
 | 0=>⟨fun _ _ _ _ _ r h=>by simp [impl_VarsOf.f] at h,fun _ _ _ _ _ _ r h=>by simp [impl_VarsOf.j0] at h,fun _ _ _ _ r h=>by simp [impl_VarsOf.l0] at h⟩
 | k + 1=>by
  obtain ⟨ih0,ih1,ih2⟩:=impl_VarsOf.mono_l k
  refine ⟨?_,?_,?_⟩
  ·intro y0 y1 y2 y3 y4
   unfold impl_VarsOf.f
   with_reducible repeat' first|apply ih0|apply ih1|apply ih2|apply LeO.refl|apply LeO.none|apply LeO.ite|refine LeO.bind ?_ (fun _=>?_)
  ·intro y0 y1 y2 y3 y4 y5
   unfold impl_VarsOf.j0
   with_reducible repeat' first|apply ih0|apply ih1|apply ih2|apply LeO.refl|apply LeO.none|apply LeO.ite|refine LeO.bind ?_ (fun _=>?_)
  ·intro y0 y1 y2 y3
   unfold impl_VarsOf.l0
   with_reducible repeat' first|apply ih0|apply ih1|apply ih2|apply LeO.refl|apply LeO.none|apply LeO.ite|refine LeO.bind ?_ (fun _=>?_)
theorem impl_VarsOf.mono:∀ a0 a1 a2 a3 a4 k,LeO (impl_VarsOf.f k a0 a1 a2 a3 a4) (impl_VarsOf.f (k + 1) a0 a1 a2 a3 a4):=by
 intro a0 a1 a2 a3 a4 k;obtain ⟨ih0,ih1,ih2⟩:=impl_VarsOf.mono_l k
 exact ih0 a0 a1 a2 a3 a4
set_option maxHeartbeats 8000000 in
set_option maxRecDepth 100000 in
theorem impl_VarsOf.calls (k:Nat):∀ (a0_0:Int) (a0_1:Int) (a0_2:ByteArray) (A0_3:Option Addr) (c0_3:Nat) (l0_3:List (S27)) (A0_4:Option Addr) (c0_4:Nat) (l0_4:List (S52)) (r:List ByteArray) (w:World) (hr0_3:Kd.C k27 w A0_3 l0_3.length l0_3) (hc0_3:l0_3.length≤c0_3) (hr0_4:Kd.C k52 w A0_4 l0_4.length l0_4) (hc0_4:l0_4.length≤c0_4) (h:impl_VarsOf.f k a0_0 a0_1 a0_2 l0_3 l0_4 = some r),
  Calls Try.prog 7 #[.agg #[.int .i64 a0_0,.int .i64 a0_1,.string a0_2,.slice A0_3 l0_3.length c0_3,.slice A0_4 l0_4.length c0_4]] w fun e w'=>∃ v0_:Value,e = .returned (v0_)∧Kd.R Kd.string 9 w' w.heap.size (fun _=>True) v0_ r∧Below w.heap.size w w':=by
 induction k using Nat.strongRecOn with
 | _ k ih =>
 intro a0_0 a0_1 a0_2 A0_3 c0_3 l0_3 A0_4 c0_4 l0_4 r w hr0_3 hc0_3 hr0_4 hc0_4 h
 cases k with
 | zero=>exact absurd h (by simp [impl_VarsOf.f])
 | succ k =>
 simp only [impl_VarsOf.f] at h;have hu27:=Try.underlying27;have HR0_3:=Aside0.mk hr0_3;have HC0_3:=Aside0.mk hc0_3;clear hr0_3 hc0_3;have HR0_4:=Aside0.mk hr0_4;have HC0_4:=Aside0.mk hc0_4;clear hr0_4 hc0_4;have HB:=Aside0.mk (Below.refl w.heap.size w);have H:(if a0_0 = 3 then (impl_VarsOf.j0 k (a0_2.toList != ([95]:List UInt8)) a0_0 a0_1 a0_2 l0_3 l0_4) else (impl_VarsOf.j0 k false a0_0 a0_1 a0_2 l0_3 l0_4)) = some r:=h;clear h;have HC2:=Aside0.mk H;clear H
 go_enter Try.func7,Try.ntmps7
 go_upto_region 1 with (first|((with_reducible refine gate_dst (N:=1) rfl ?_);refine box_event ?hg (N:=1) ?hd (cs:=#[.int .i64 a0_0,.int .i64 a0_1,.string a0_2,.slice A0_3 l0_3.length c0_3,.slice A0_4 l0_4.length c0_4]) (t:=27) ?hr ?_;(case hd=>rfl);(case hg=>rfl);(case hr=>first|(go_simp;done)|(go_simp;rfl));intro gb771 hg w3 hbox hb;have n_:=ai (bq HB hb) <| aj (hbox) <| ai (bz hg HB) <| bz hg HB;clear HB;obtain ⟨HB,BK771,GW771,GE771⟩:=n_;clear hb hbox hg))
 (try simp only [Act.put,List.setIfInBounds_toArray,List.set_cons_zero,List.set_cons_succ])
 go_cut [13] (fun v13 wc=>∃ (kq:Nat) (x13_1:Bool),v13 = .bool x13_1∧Aside0 (impl_VarsOf.j0 kq x13_1 a0_0 a0_1 a0_2 l0_3 l0_4 = some r)∧Aside0 (kq≤k)∧Aside0 (wc.heap[gb771]? = some (.cells #[.int .i64 a0_0,.int .i64 a0_1,.string a0_2,(.slice A0_3 l0_3.length c0_3),(.slice A0_4 l0_4.length c0_4)] 27 (0,0)))∧Aside0 (Below w.heap.size w wc))
 case first =>
  have H:=HC2.out;clear HC2
  by_cases c4:a0_0 = 3
  ·rw [if_pos c4] at H
   have c4b0:(a0_0 == 3) = true:=beq_iff_eq.mpr c4;have c4b1:(a0_0 != 3) = false:=bne_eq_false_iff_eq.mpr c4;clear c4
   (first|rw [c4b0]|(simp only [i64_w,i32_w];rw [c4b0])|(simp only [c4b2,Bool.not_true,Bool.not_false])|skip)
   have H':=Aside0.mk H;clear H;obtain ⟨h5_0,h5_1,h5_2,h5_3,h5_4⟩:=kb5 BK771.out
   go_wp2
   go_meet
   case rel=>exact ⟨_,((a0_2.toList != ([95]:List UInt8))),(cl2),H',⟨by first|omega|exact Nat.le_refl _⟩,⟨bk BK771.out⟩,⟨bl HB.out⟩⟩
  ·rw [if_neg c4] at H
   have c4b0:(a0_0 == 3) = false:=beq_eq_false_iff_ne.mpr c4;have c4b1:(a0_0 != 3) = true:=bne_iff_ne.mpr c4
   (first|rw [c4b0]|(simp only [i64_w,i32_w];rw [c4b0])|(simp only [c4b2,Bool.not_true,Bool.not_false])|skip)
   have H':=Aside0.mk H;clear H;obtain ⟨h6_0,h6_1,h6_2,h6_3,h6_4⟩:=kb5 BK771.out
   go_wp2
   go_meet
   case rel=>exact ⟨_,(false),(cl2),H',⟨by first|omega|exact Nat.le_refl _⟩,⟨bk BK771.out⟩,⟨bl HB.out⟩⟩
 case rest =>
  clear HC2;(try clear BK771);(try clear HB);obtain ⟨kq,x13_1,rfl,HA,HJ1,BK771,HB⟩:=hcut
  cases kq with
  | zero=>exact absurd HA.out (by simp [impl_VarsOf.j0])
  | succ kj1 =>
   have H:=HA.out;clear HA;simp only [impl_VarsOf.j0] at H
   by_cases c7:x13_1 = true
   ·subst c7
    have H1:(some (([a0_2]:List ByteArray))) = some r:=by rw [if_pos rfl] at H;exact H
    clear H;have H:=H1;clear H1;obtain ⟨y772,hy772⟩:∃ y_:List ByteArray,y_ = (([a0_2]:List ByteArray)):=⟨_,rfl⟩;replace H:(some y772) = some r:=hw hy772 H
    have Ny772:=Aside0.mk hy772;clear hy772;obtain rfl:=Option.some.inj H;obtain ⟨h8_0,h8_1,h8_2,h8_3,h8_4⟩:=kb5 BK771.out
    go_wp2_with (first|((with_reducible refine gate_dst (N:=16) rfl ?_);refine Kd.R_lit Kd.string _ 9 ?hg (N:=16) ?hd (xs:=([a0_2]:List ByteArray)) (inner:=[.string a0_2]) (ok:=fun _=>True) (okp:=fun _=>True) ?hr ?hp (fun _ hk=>hk) trivial (Below.refl _ _) (Nat.le_refl _) (by simp) ?_;(case hd=>rfl);(case hg=>rfl);(case hr=>first|(go_simp;done)|(go_simp;rfl));(case hp=>exact (Reps.one (show Kd.M Kd.string _ _ _ a0_2 [.string a0_2] from rfl) (Reps.none _ _)));intro v773 w9 ho10 hb hg_ hnew_;clear hg_ hnew_;(first|rw [← Ny772.out] at ho10|(simp only [Int.reduceToNat] at ho10;rw [← Ny772.out] at ho10));have n_:=aj (Kd.R_lower ho10 (below_size (bl HB.out))) <| ai (bw BK771 hb) <| bq HB hb;clear BK771 HB;obtain ⟨HO774,BK771,HB⟩:=n_;clear hb ho10))
    go_ret
    exact ⟨_,cl,rk HO774.out,bl HB.out⟩
   ·replace c7:=Bool.eq_false_iff.mpr c7
    subst c7;have H1:(if a0_0 = 3 then (some ([]:List ByteArray)) else (impl_VarsOf.l0 kj1 ([]:List ByteArray) l0_3 (l0_3.length:Int) 0)) = some r:=nt H
    clear H;have H:=H1;clear H1
    by_cases c11:a0_0 = 3
    ·rw [if_pos c11] at H
     have c11b0:(a0_0 == 3) = true:=beq_iff_eq.mpr c11;have c11b1:(a0_0 != 3) = false:=bne_eq_false_iff_eq.mpr c11;clear c11;obtain rfl:=Option.some.inj H;obtain ⟨h12_0,h12_1,h12_2,h12_3,h12_4⟩:=kb5 BK771.out
     go_wp2
     go_ret
     exact ⟨_,cl,by first|exact Kd.R_nil _ _ _ _ _|exact Kd.N_nil _ _ _ _ _|exact Kd.V_nil _ _ _ _ _|exact Kd.Q_nil _ _ _ _ _|exact Kd.S_nil _ _ _ _ _,bl HB.out⟩
    ·rw [if_neg c11] at H
     have c11b0:(a0_0 == 3) = false:=beq_eq_false_iff_ne.mpr c11;have c11b1:(a0_0 != 3) = true:=bne_iff_ne.mpr c11;have H':=Aside0.mk H;clear H;obtain ⟨h13_0,h13_1,h13_2,h13_3,h13_4⟩:=kb5 BK771.out
     go_wp2
     go_loopg [3,23] kj1 (fun kq v3 v23 w'=>∃ (x3_2:List ByteArray) (x23_2:Int),v23 = .int .i64 x23_2∧Aside0 (impl_VarsOf.l0 kq x3_2 l0_3 (l0_3.length:Int) x23_2 = some r)∧Aside0 (kq≤kj1)∧Aside0 (Kd.R Kd.string 9 w' w.heap.size (fun _=>True) v3 x3_2)∧Aside0 (w'.heap[gb771]? = some (.cells #[.int .i64 a0_0,.int .i64 a0_1,.string a0_2,(.slice A0_3 l0_3.length c0_3),(.slice A0_4 l0_4.length c0_4)] 27 (0,0)))∧Aside0 (Below w.heap.size w w'))
     case atStart=>exact ⟨(([]:List ByteArray)),(0),(cl2),H',⟨Nat.le_refl _⟩,⟨by first|exact Kd.R_nil _ _ _ _ _|exact Kd.N_nil _ _ _ _ _|exact Kd.V_nil _ _ _ _ _|exact Kd.Q_nil _ _ _ _ _|exact Kd.S_nil _ _ _ _ _⟩,⟨bk BK771.out⟩,⟨bl HB.out⟩⟩
     case round =>
      clear H';(try clear c7);(try clear c11);(try clear c11b0);(try clear c11b1);(try clear h13_0 h13_1 h13_2 h13_3 h13_4);(try clear p2);(try clear BK771);(try clear HB);obtain ⟨x3_2,x23_2,rfl,HA,HK2,HO_3,BK771,HB⟩:=hrel
      cases gk with
      | zero=>exact absurd HA.out (by simp [impl_VarsOf.l0])
      | succ k2 =>
       have H:=HA.out;clear HA;simp only [impl_VarsOf.l0] at H
       by_cases c14:x23_2 < (l0_3.length:Int)
       ·rw [if_pos c14] at H
        have c14b0:decide (x23_2 < (l0_3.length:Int)) = true:=decide_eq_true c14;clear c14
        by_cases c15:0≤x23_2
        ·rw [if_pos c15] at H
         have c15b0:decide (0≤x23_2) = true:=decide_eq_true c15;clear c15
         by_cases c16:x23_2 < (l0_3.length:Int)
         ·rw [if_pos c16] at H
          have c16b0:decide (x23_2 < (l0_3.length:Int)) = true:=decide_eq_true c16;clear c16;replace H:=Option.bind_eq_some_iff.mp H;obtain ⟨t777,A170,H⟩:=H;replace H:(if x3_2.length + t777.length < 8796093022208 then (impl_VarsOf.l0 k2 (x3_2 ++ t777) l0_3 (l0_3.length:Int) (wrap64 (x23_2 + 1))) else (none)) = some r:=H;have A17:=Aside0.mk A170;clear A170
          by_cases c18:x3_2.length + t777.length < 8796093022208
          ·rw [if_pos c18] at H
           have LMc18:=Aside0.mk c18;clear c18;obtain ⟨y780,hy780⟩:∃ y_:List ByteArray,y_ = (x3_2 ++ t777):=⟨_,rfl⟩;replace H:(impl_VarsOf.l0 k2 y780 l0_3 (l0_3.length:Int) (wrap64 (x23_2 + 1))) = some r:=hw hy780 H
           have Ny780:=Aside0.mk hy780;clear hy780;have H':=Aside0.mk H;clear H;have p775:0≤(x23_2:Int):=od;have q775:x23_2 < (l0_3.length:Int):=od;obtain ⟨ad775,A775_3,c775_3,A775_4,c775_4,e775,hx775_0,hx775_1,hx775_2,hx775_3,hx775_4,hl775_3,hi775_3,hl775_4,hi775_4⟩:=at_T27 HR0_3.out x23_2 p775 q775;cases e775;replace hx775_0:=cb HB hx775_0;replace hx775_1:=cb HB hx775_1;replace hx775_2:=cb HB hx775_2;replace hx775_3:=cb HB hx775_3;replace hx775_4:=cb HB hx775_4;have HR775_3:=Aside0.mk hi775_3;have HC775_3:=Aside0.mk hl775_3;clear hi775_3 hl775_3;have HR775_4:=Aside0.mk hi775_4;have HC775_4:=Aside0.mk hl775_4;clear hi775_4 hl775_4;replace p775:=eq_true p775;replace q775:=eq_true q775
           go_wp2_with (first|((with_reducible refine gate_dst (N:=5) rfl ?_);refine box_event ?hg (N:=5) ?hd (cs:=#[.int .i64 0,.int .i64 0,.string (⟨#[]⟩:ByteArray),.slice none 0 0,.slice none 0 0]) (t:=27) ?hr ?_;(case hd=>rfl);(case hg=>rfl);(case hr=>first|(go_simp;done)|(go_simp;rfl));intro gb776 hg w19 hbox hb;have n_:=ai (rwm HO_3 hb) <| ai (bw BK771 hb) <| ai (bq HB hb) <| aj (hbox) <| ai (bz hg HB) <| ai (bz hg HB) <| ai (nl hg BK771) <| ng hg BK771;clear HO_3 BK771 HB;obtain ⟨HO_3,BK771,HB,BK776,GW776,GE776,NB771_776,NB776_771⟩:=n_;clear hb hbox hg;have:=NB776_771.out;have:=NB771_776.out;obtain ⟨h21_0,h21_1,h21_2,h21_3,h21_4⟩:=kb5 BK776.out;obtain ⟨z21_0,z21_1,z21_2,z21_3,z21_4⟩:=kz5 BK776.out)|((with_reducible refine gate_callee (f:=7) rfl ?_);refine goesL_ (some 29) rfl rfl Try.func7 (by kernel_rfl) rfl #[.agg #[.int .i64 ((rd_T27 l0_3 x23_2).f0),.int .i64 ((rd_T27 l0_3 x23_2).f1),.string ((rd_T27 l0_3 x23_2).f2),.slice A775_3 ((rd_T27 l0_3 x23_2).f3).length c775_3,.slice A775_4 ((rd_T27 l0_3 x23_2).f4).length c775_4]] rfl gs ?_;(with_reducible refine (ih k2 (by have:=HJ1.out;have:=HK2.out;omega) ((rd_T27 l0_3 x23_2).f0) ((rd_T27 l0_3 x23_2).f1) ((rd_T27 l0_3 x23_2).f2) _ _ ((rd_T27 l0_3 x23_2).f3) _ _ ((rd_T27 l0_3 x23_2).f4) t777 _ ?side1 ?side2 ?side3 ?side4 A17.out).mono ?_);(case side1=>exact Kd.C_below HR775_3.out (bl HB.out));(case side2=>exact HC775_3.out);(case side3=>exact Kd.C_below HR775_4.out (bl HB.out));(case side4=>exact HC775_4.out);rintro e w22 ⟨v778,rfl,ho0,hb⟩;refine ⟨_,rfl,?_⟩;have n_:=aj (Kd.R_elder' (by (with_reducible repeat (first|apply Kd.R_alloc|apply Kd.R_drewN|apply Kd.R_drew));exact (Kd.R_mono (rfm (Kd.R_types HO_3.out BK776.out (by decide))) (fun _ h_=>h_.1))) (Kd.R_base ho0) hb) <| aj (Kd.R_lower (Kd.R_new' ho0 (Kd.R_lt (by (with_reducible repeat (first|apply Kd.R_alloc|apply Kd.R_drewN|apply Kd.R_drew));exact (Kd.R_mono (rfm (Kd.R_types HO_3.out BK776.out (by decide))) (fun _ h_=>h_.1))))) (below_size (bl HB.out))) <| ai (bwm BK771 hb) <| aj (blk_below (g:=gb776) (o:=.cells #[.int .i64 ((rd_T27 l0_3 x23_2).f0),.int .i64 ((rd_T27 l0_3 x23_2).f1),.string ((rd_T27 l0_3 x23_2).f2),.slice A775_3 ((rd_T27 l0_3 x23_2).f3).length c775_3,.slice A775_4 ((rd_T27 l0_3 x23_2).f4).length c775_4] 27 (0,0)) (bmp BK776.out) hb) <| bq HB hb;clear HO_3 BK771 BK776 HB;obtain ⟨HO_3,HO779,BK771,BK776,HB⟩:=n_;(try clear hb);(try clear ho0);obtain ⟨Ao24,co24,eo24⟩:=Kd.R_slice HO779.out;subst eo24)|((with_reducible refine gate_builtin (b:=.append) (xs:=#[.tmp 27,.tmp 29]) rfl ?_);at_builtin;refine Kd.R_append_rows Kd.string (w0:=w) w.heap.size rfl (.tmp 27) (.tmp 29) 30 9 (.string ⟨#[]⟩) 16 rfl Try.underlying30 info9 rfl (by decide) (by omega) u3 x3_2 t777 _ _ _ (fun k_=>some k_≠(.slice Ao24 t777.length co24:Value).ownBlock) (fun _=>False) rfl rfl ?aO ?aR (fun _ _ h=>h) (fun _ h=>h.elim) ?aF ?aB ?aS ?aL ?_;(case aR=>repeat (first|exact (Kd.R_reads' HO779.out).2.2|(with_reducible refine Kd.C_alloc ?_ _)|(with_reducible refine Kd.C_drewN ?_ _)|(with_reducible refine Kd.C_drew ?_)));(case aB=>exact (bl HB.out));(case aF=>exact (fun k_ hk=>Kd.fresh' (Kd.R_lt (rk HO779.out)) k_ hk));(case aO=>exact (by (with_reducible repeat (first|apply Kd.R_alloc|apply Kd.R_drewN|apply Kd.R_drew));exact Kd.R_mono HO_3.out (fun _ hk=>hk.2)));(case aS=>exact (below_size (bl HB.out)));(case aL=>have:=LMc18.out;omega);intro v781 w23 ho hb hg hat;rw [← Ny780.out] at ho;have n_:=aj (blk_grown (g:=gb771) (o:=.cells #[.int .i64 a0_0,.int .i64 a0_1,.string a0_2,.slice (some ad775) l0_3.length c0_3,.slice A0_4 l0_4.length c0_4] 27 (0,0)) (bk BK771.out) hg (Kd.R_ne HO_3.out BK771.out (by decide))) <| aj (blk_grown (g:=gb776) (o:=.cells #[.int .i64 ((rd_T27 l0_3 x23_2).f0),.int .i64 ((rd_T27 l0_3 x23_2).f1),.string ((rd_T27 l0_3 x23_2).f2),.slice A775_3 ((rd_T27 l0_3 x23_2).f3).length c775_3,.slice A775_4 ((rd_T27 l0_3 x23_2).f4).length c775_4] 27 (0,0)) (bk BK776.out) hg (Kd.R_ne HO_3.out BK776.out (by decide))) <| aj (Kd.R_after (ok:=(fun _=>True)) (rk HO779.out) hg hat) <| aj (hb) <| Aside0.mk (ho);clear BK771 BK776 HO779 HB HO_3;obtain ⟨BK771,BK776,HO779,HB,HO782⟩:=n_;clear ho hb hg hat))
           go_roundg k2
           case measure=>have:=HJ1.out;have:=HK2.out;omega
           case rel=>exact ⟨(y780),(wrap64 (x23_2 + 1)),(cl2),H',⟨by have:=HJ1.out;have:=HK2.out;omega⟩,⟨by (with_reducible repeat (first|apply Kd.R_alloc|apply Kd.R_drewN|apply Kd.R_drew));exact Kd.R_mono HO782.out (fun _ hk=>trivial)⟩,⟨bk BK771.out⟩,⟨bl HB.out⟩⟩
          ·rw [if_neg c18] at H
           exact absurd H (by simp)
         ·rw [if_neg c16] at H
          exact absurd H (by simp)
        ·rw [if_neg c15] at H
         exact absurd H (by simp)
       ·rw [if_neg c14] at H
        have c14b0:decide (x23_2 < (l0_3.length:Int)) = false:=decide_eq_false c14;clear c14;obtain rfl:=Option.some.inj H
        go_wp2
        go_ret
        exact ⟨_,cl,rk HO_3.out,bl HB.out⟩

/-! ### spec_PatOk: function 8 -/
def spec_PatOk.f (k:Nat) (a0_0:Int) (a0_1:Int) (a0_2:ByteArray) (l0_3:List (S27)) (l0_4:List (S52)):Option (Bool):=(spec_l4Look.f k a0_0 a0_1 a0_2 l0_3 l0_4 true 10 300).bind fun t784=>(if t784 ≥ 0 then ((spec_VarsOf.f k a0_0 a0_1 a0_2 l0_3 l0_4).bind fun t785=>((spec_l4Once.f k t785).bind fun t788=>(some t788))) else (some false))
theorem spec_PatOk.mono:∀ a0 a1 a2 a3 a4 k,LeO (spec_PatOk.f k a0 a1 a2 a3 a4) (spec_PatOk.f (k + 1) a0 a1 a2 a3 a4):=by
 intro a0 a1 a2 a3 a4 k
 unfold spec_PatOk.f
 with_reducible repeat' first|apply spec_VarsOf.mono|apply spec_l4Look.mono|apply spec_l4Once.mono|apply LeO.refl|apply LeO.none|apply LeO.ite|refine LeO.bind ?_ (fun _=>?_)
set_option maxHeartbeats 8000000 in
set_option maxRecDepth 100000 in
theorem spec_PatOk.calls (k:Nat) (a0_0:Int) (a0_1:Int) (a0_2:ByteArray) (A0_3:Option Addr) (c0_3:Nat) (l0_3:List (S27)) (A0_4:Option Addr) (c0_4:Nat) (l0_4:List (S52)) (r:Bool) (w:World) (hr0_3:Kd.C k27 w A0_3 l0_3.length l0_3) (hc0_3:l0_3.length≤c0_3) (hr0_4:Kd.C k52 w A0_4 l0_4.length l0_4) (hc0_4:l0_4.length≤c0_4) (h:spec_PatOk.f k a0_0 a0_1 a0_2 l0_3 l0_4 = some r) :
  Calls Try.prog 8 #[.agg #[.int .i64 a0_0,.int .i64 a0_1,.string a0_2,.slice A0_3 l0_3.length c0_3,.slice A0_4 l0_4.length c0_4]] w fun e w'=>e = .returned (.bool r)∧Below w.heap.size w w':=by
 have hu27:=Try.underlying27;have HR0_3:=Aside0.mk hr0_3;have HC0_3:=Aside0.mk hc0_3;clear hr0_3 hc0_3;have HR0_4:=Aside0.mk hr0_4;have HC0_4:=Aside0.mk hc0_4;clear hr0_4 hc0_4;have HB:=Aside0.mk (Below.refl w.heap.size w);have H:((spec_l4Look.f k a0_0 a0_1 a0_2 l0_3 l0_4 true 10 300).bind fun t784=>(if t784 ≥ 0 then ((spec_VarsOf.f k a0_0 a0_1 a0_2 l0_3 l0_4).bind fun t785=>((spec_l4Once.f k t785).bind fun t788=>(some t788))) else (some false))) = some r:=h;clear h;replace H:=Option.bind_eq_some_iff.mp H;obtain ⟨t784,A20,H⟩:=H;replace H:(if t784 ≥ 0 then ((spec_VarsOf.f k a0_0 a0_1 a0_2 l0_3 l0_4).bind fun t785=>((spec_l4Once.f k t785).bind fun t788=>(some t788))) else (some false)) = some r:=H;have A2:=Aside0.mk A20;clear A20
 by_cases c3:t784 ≥ 0
 ·rw [if_pos c3] at H
  have c3b0:decide (0≤t784) = true:=decide_eq_true c3;clear c3;replace H:=Option.bind_eq_some_iff.mp H;obtain ⟨t785,A40,H⟩:=H;replace H:((spec_l4Once.f k t785).bind fun t788=>(some t788)) = some r:=H;have A4:=Aside0.mk A40;clear A40;replace H:=Option.bind_eq_some_iff.mp H;obtain ⟨t788,A50,H⟩:=H;replace H:(some t788) = some r:=H;have A5:=Aside0.mk A50;clear A50;obtain rfl:=Option.some.inj H
  go_enter Try.func8,Try.ntmps8
  go_wp2_with (first|((with_reducible refine gate_dst (N:=1) rfl ?_);refine box_event ?hg (N:=1) ?hd (cs:=#[.int .i64 a0_0,.int .i64 a0_1,.string a0_2,.slice A0_3 l0_3.length c0_3,.slice A0_4 l0_4.length c0_4]) (t:=27) ?hr ?_;(case hd=>rfl);(case hg=>rfl);(case hr=>first|(go_simp;done)|(go_simp;rfl));intro gb783 hg w6 hbox hb;have n_:=ai (bq HB hb) <| aj (hbox) <| ai (bz hg HB) <| bz hg HB;clear HB;obtain ⟨HB,BK783,GW783,GE783⟩:=n_;clear hb hbox hg;obtain ⟨h7_0,h7_1,h7_2,h7_3,h7_4⟩:=kb5 BK783.out;obtain ⟨z7_0,z7_1,z7_2,z7_3,z7_4⟩:=kz5 BK783.out)|((with_reducible refine gate_callee (f:=14) rfl ?_);refine goesL_ (some 4) rfl rfl Try.func14 (by kernel_rfl) rfl #[.agg #[.int .i64 a0_0,.int .i64 a0_1,.string a0_2,.slice A0_3 l0_3.length c0_3,.slice A0_4 l0_4.length c0_4],.bool true,.int .i64 10,.int .i64 300] rfl gs ?_;(with_reducible refine (spec_l4Look.calls k a0_0 a0_1 a0_2 _ _ l0_3 _ _ l0_4 true 10 300 t784 _ ?side1 ?side2 ?side3 ?side4 A2.out).mono ?_);(case side1=>exact ck (Kd.C_below HR0_3.out HB.out));(case side2=>exact HC0_3.out);(case side3=>exact ck (Kd.C_below HR0_4.out HB.out));(case side4=>exact HC0_4.out);rintro e w8 ⟨rfl,hb⟩;refine ⟨_,rfl,?_⟩;have n_:=ai (bw BK783 hb) <| bq HB hb;clear BK783 HB;obtain ⟨BK783,HB⟩:=n_;(try clear hb);obtain ⟨h9_0,h9_1,h9_2,h9_3,h9_4⟩:=kb5 BK783.out;obtain ⟨z9_0,z9_1,z9_2,z9_3,z9_4⟩:=kz5 BK783.out)|(go_at_call 9;(with_reducible refine (spec_VarsOf.calls k a0_0 a0_1 a0_2 _ _ l0_3 _ _ l0_4 t785 _ ?side1 ?side2 ?side3 ?side4 A4.out).mono ?_);(case side1=>exact ck (Kd.C_below HR0_3.out HB.out));(case side2=>exact HC0_3.out);(case side3=>exact ck (Kd.C_below HR0_4.out HB.out));(case side4=>exact HC0_4.out);rintro e w10 ⟨v786,rfl,ho0,hb⟩;have n_:=aj (Kd.R_lower ho0 (below_size (bl HB.out))) <| ai (bw BK783 hb) <| bq HB hb;clear BK783 HB;obtain ⟨HO787,BK783,HB⟩:=n_;(try clear hb);(try clear hb2);(try clear hk);(try clear hi);(try clear ho0);obtain ⟨Ao11,co11,eo11⟩:=Kd.R_slice HO787.out;subst eo11)|(go_at_call 15;(with_reducible refine (spec_l4Once.calls k _ _ t785 t788 _ ?side1 ?side2 A5.out).mono ?_);(case side1=>repeat (first|exact (Kd.R_reads' HO787.out).2.2|(with_reducible refine Kd.C_alloc ?_ _)|(with_reducible refine Kd.C_drewN ?_ _)|(with_reducible refine Kd.C_drew ?_)));(case side2=>exact (Kd.R_reads' HO787.out).2.1);rintro e w' ⟨rfl,⟨nd,rfl⟩⟩))
  go_ret
  exact ⟨cl,bl HB.out⟩
 ·rw [if_neg c3] at H
  have c3b0:decide (0≤t784) = false:=decide_eq_false c3;clear c3;obtain rfl:=Option.some.inj H
  go_enter Try.func8,Try.ntmps8
  go_wp2_with (first|((with_reducible refine gate_dst (N:=1) rfl ?_);refine box_event ?hg (N:=1) ?hd (cs:=#[.int .i64 a0_0,.int .i64 a0_1,.string a0_2,.slice A0_3 l0_3.length c0_3,.slice A0_4 l0_4.length c0_4]) (t:=27) ?hr ?_;(case hd=>rfl);(case hg=>rfl);(case hr=>first|(go_simp;done)|(go_simp;rfl));intro gb783 hg w12 hbox hb;have n_:=ai (bq HB hb) <| aj (hbox) <| ai (bz hg HB) <| bz hg HB;clear HB;obtain ⟨HB,BK783,GW783,GE783⟩:=n_;clear hb hbox hg;obtain ⟨h13_0,h13_1,h13_2,h13_3,h13_4⟩:=kb5 BK783.out;obtain ⟨z13_0,z13_1,z13_2,z13_3,z13_4⟩:=kz5 BK783.out)|((with_reducible refine gate_callee (f:=14) rfl ?_);refine goesL_ (some 4) rfl rfl Try.func14 (by kernel_rfl) rfl #[.agg #[.int .i64 a0_0,.int .i64 a0_1,.string a0_2,.slice A0_3 l0_3.length c0_3,.slice A0_4 l0_4.length c0_4],.bool true,.int .i64 10,.int .i64 300] rfl gs ?_;(with_reducible refine (spec_l4Look.calls k a0_0 a0_1 a0_2 _ _ l0_3 _ _ l0_4 true 10 300 t784 _ ?side1 ?side2 ?side3 ?side4 A2.out).mono ?_);(case side1=>exact ck (Kd.C_below HR0_3.out HB.out));(case side2=>exact HC0_3.out);(case side3=>exact ck (Kd.C_below HR0_4.out HB.out));(case side4=>exact HC0_4.out);rintro e w14 ⟨rfl,hb⟩;refine ⟨_,rfl,?_⟩;have n_:=ai (bw BK783 hb) <| bq HB hb;clear BK783 HB;obtain ⟨BK783,HB⟩:=n_;(try clear hb);(try clear hi)))
  go_ret
  exact ⟨cl,bl HB.out⟩

/-! ### laws_has: function 10 -/
def laws_has.l0:Nat → List ByteArray → ByteArray → Int → Option (Bool)
 | 0,_,_,_=>none
 | k + 1,x0,x1,x5=>if x5 < (x0.length:Int) then (if 0≤x5 then (if (rdOf ByteArray.empty x0 x5).toList = x1.toList then (some true) else (laws_has.l0 k x0 x1 (wrap64 (x5 + 1)))) else (none)) else (some false)
def laws_has.f (k:Nat) (l0:List ByteArray) (a1:ByteArray):Option (Bool):=laws_has.l0 k l0 a1 0
theorem laws_has.mono_l:∀ k,(∀ y0 y1 y2,LeO (laws_has.l0 k y0 y1 y2) (laws_has.l0 (k + 1) y0 y1 y2))
 | 0=>fun _ _ _ r h=>by simp [laws_has.l0] at h
 | k + 1=>by
  have ih0:=laws_has.mono_l k
  ·intro y0 y1 y2
   unfold laws_has.l0
   with_reducible repeat' first|apply ih0|apply LeO.refl|apply LeO.none|apply LeO.ite|refine LeO.bind ?_ (fun _=>?_)
theorem laws_has.mono:∀ a0 a1 k,LeO (laws_has.f k a0 a1) (laws_has.f (k + 1) a0 a1):=by
 intro a0 a1 k;have ih0:=laws_has.mono_l k
 unfold laws_has.f
 with_reducible repeat' first|apply ih0|apply LeO.refl|apply LeO.none|apply LeO.ite|refine LeO.bind ?_ (fun _=>?_)
set_option maxHeartbeats 8000000 in
set_option maxRecDepth 100000 in
theorem laws_has.calls (k:Nat) (A0:Option Addr) (c0:Nat) (l0:List ByteArray) (a1:ByteArray) (r:Bool) (w:World) (hr0:Kd.C Kd.string w A0 l0.length l0) (hc0:l0.length≤c0) (h:laws_has.f k l0 a1 = some r) :
  Calls Try.prog 10 #[.slice A0 l0.length c0,.string a1] w fun e w'=>e = .returned (.bool r)∧Drawn0 w w':=by
 have HR0:=Aside0.mk hr0;have HC0:=Aside0.mk hc0;clear hr0 hc0;have H:(laws_has.l0 k l0 a1 0) = some r:=h;clear h;have H':=Aside0.mk H;clear H
 go_enter Try.func10,Try.ntmps10
 go_wp2
 go_loopg [5] k (fun kq v5 w'=>∃ (x5_1:Int),v5 = .int .i64 x5_1∧Aside0 (laws_has.l0 kq l0 a1 x5_1 = some r)∧Aside0 (kq≤k)∧Drawn0 w w')
 case atStart=>exact ⟨(0),(cl2),H',⟨Nat.le_refl _⟩,d0⟩
 case round =>
  clear H';obtain ⟨x5_1,rfl,HA,HK1,⟨m1,rfl⟩⟩:=hrel
  cases gk with
  | zero=>exact absurd HA.out (by simp [laws_has.l0])
  | succ k1 =>
   have H:=HA.out;clear HA;simp only [laws_has.l0] at H
   by_cases c3:x5_1 < (l0.length:Int)
   ·rw [if_pos c3] at H
    have c3b0:decide (x5_1 < (l0.length:Int)) = true:=decide_eq_true c3;clear c3
    by_cases c4:0≤x5_1
    ·rw [if_pos c4] at H
     have c4b0:decide (0≤x5_1) = true:=decide_eq_true c4;clear c4
     by_cases c5:(rdOf ByteArray.empty l0 x5_1).toList = a1.toList
     ·rw [if_pos c5] at H
      have c5b0:((rdOf ByteArray.empty l0 x5_1).toList == a1.toList) = true:=beq_iff_eq.mpr c5;have c5b1:((rdOf ByteArray.empty l0 x5_1).toList != a1.toList) = false:=bne_eq_false_iff_eq.mpr c5;clear c5;obtain rfl:=Option.some.inj H;have p789:0≤(x5_1:Int):=od;have q789:x5_1 < (l0.length:Int):=od;obtain ⟨ad789,e789,hx789_0⟩:=Kd.at_string HR0.out x5_1 p789 q789;cases e789;replace p789:=eq_true p789;replace q789:=eq_true q789
      go_wp2
      go_ret
      exact ⟨cl2,d0⟩
     ·rw [if_neg c5] at H
      have c5b0:((rdOf ByteArray.empty l0 x5_1).toList == a1.toList) = false:=beq_eq_false_iff_ne.mpr c5;have c5b1:((rdOf ByteArray.empty l0 x5_1).toList != a1.toList) = true:=bne_iff_ne.mpr c5;have H':=Aside0.mk H;clear H;have p789:0≤(x5_1:Int):=od;have q789:x5_1 < (l0.length:Int):=od;obtain ⟨ad789,e789,hx789_0⟩:=Kd.at_string HR0.out x5_1 p789 q789;cases e789;replace p789:=eq_true p789;replace q789:=eq_true q789
      go_wp2
      go_roundg k1
      case measure=>have:=HK1.out;omega
      case rel=>exact ⟨(wrap64 (x5_1 + 1)),(cl2),H',⟨by have:=HK1.out;omega⟩,d0⟩
    ·rw [if_neg c4] at H
     exact absurd H (by simp)
   ·rw [if_neg c3] at H
    have c3b0:decide (x5_1 < (l0.length:Int)) = false:=decide_eq_false c3;clear c3;obtain rfl:=Option.some.inj H
    go_wp2
    go_ret
    exact ⟨cl2,d0⟩

end Go.Proofs.Ytaobcdpadpkngaa.QFnPatterns
