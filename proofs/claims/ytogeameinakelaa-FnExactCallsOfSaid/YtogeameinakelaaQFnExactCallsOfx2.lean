-- Written by a program of this workplace (print2.py) for this claim, over the print's words.
import Derived.Test.YtogeameinakelaaQFnExactCallsOfx0
namespace Go.Proofs.Ytogeameinakelaa.QFnExactCallsOf
open Go.RowKit Go.Proofs.YtogeameinakelaaW.PrintWords Go.Proofs.YtogeameinakelaaW.PrintLast Go.Proofs.YtogeameinakelaaW.PrintMore
attribute [local go_sem] max2_int min2_int max_two min_two max_three min_three max_four min_four   -- for this text's walks alone
set_option linter.unusedVariables false
set_option linter.unusedSimpArgs false

/-! ### spec_CallsOf: function 5 -/
mutual
def spec_CallsOf.j0:Nat → List ByteArray → Int → Int → ByteArray → List (S32) → List (S42) → Option (List ByteArray)
 | 0,_,_,_,_,_,_=>none
 | k + 1,x3,x112000,x112001,x112002,x112003,x112004=>spec_CallsOf.l0 k x3 0 x112000 x112001 x112002 x112003 x112004
def spec_CallsOf.l0:Nat → List ByteArray → Int → Int → Int → ByteArray → List (S32) → List (S42) → Option (List ByteArray)
 | 0,_,_,_,_,_,_,_=>none
 | k + 1,x3,x4,x112000,x112001,x112002,x112003,x112004=>if x4 < (x112003.length:Int) then (if 0≤x4 then ((spec_CallsOf.f k ((rd_T32 x112003 x4).f0) ((rd_T32 x112003 x4).f1) ((rd_T32 x112003 x4).f2) ((rd_T32 x112003 x4).f3) ((rd_T32 x112003 x4).f4)).bind fun t119=>(if x3.length + t119.length < 8796093022208 then (spec_CallsOf.l0 k (x3 ++ t119) (wrap64 (x4 + 1)) x112000 x112001 x112002 x112003 x112004) else (none))) else (none)) else (spec_CallsOf.l1 k x3 0 x112000 x112001 x112002 x112003 x112004)
def spec_CallsOf.l1:Nat → List ByteArray → Int → Int → Int → ByteArray → List (S32) → List (S42) → Option (List ByteArray)
 | 0,_,_,_,_,_,_,_=>none
 | k + 1,x3,x5,x112000,x112001,x112002,x112003,x112004=>if x5 < (x112004.length:Int) then (if 0≤x5 then ((spec_CallsOf.f k ((rd_T42 x112004 x5).f1.f0) ((rd_T42 x112004 x5).f1.f1) ((rd_T42 x112004 x5).f1.f2) ((rd_T42 x112004 x5).f1.f3) ((rd_T42 x112004 x5).f1.f4)).bind fun t126=>(if x3.length + t126.length < 8796093022208 then (spec_CallsOf.l1 k (x3 ++ t126) (wrap64 (x5 + 1)) x112000 x112001 x112002 x112003 x112004) else (none))) else (none)) else (some x3)
def spec_CallsOf.f:Nat → Int → Int → ByteArray → List (S32) → List (S42) → Option (List ByteArray)
 | 0,_,_,_,_,_=>none
 | k + 1,a0_0,a0_1,a0_2,l0_3,l0_4=>(some (([]:List ByteArray):List ByteArray)).bind fun y112=>(if a0_0 = 8 then (if y112.length < 8796093022208 then (spec_CallsOf.j0 k (y112 ++ [a0_2]) a0_0 a0_1 a0_2 l0_3 l0_4) else (none)) else (spec_CallsOf.j0 k y112 a0_0 a0_1 a0_2 l0_3 l0_4))
end
theorem spec_CallsOf.mono_l:∀ k,(∀ y0 y1 y2 y3 y4,LeO (spec_CallsOf.f k y0 y1 y2 y3 y4) (spec_CallsOf.f (k + 1) y0 y1 y2 y3 y4))∧(∀ y0 y1 y2 y3 y4 y5,LeO (spec_CallsOf.j0 k y0 y1 y2 y3 y4 y5) (spec_CallsOf.j0 (k + 1) y0 y1 y2 y3 y4 y5))∧(∀ y0 y1 y2 y3 y4 y5 y6,LeO (spec_CallsOf.l0 k y0 y1 y2 y3 y4 y5 y6) (spec_CallsOf.l0 (k + 1) y0 y1 y2 y3 y4 y5 y6))∧(∀ y0 y1 y2 y3 y4 y5 y6,LeO (spec_CallsOf.l1 k y0 y1 y2 y3 y4 y5 y6) (spec_CallsOf.l1 (k + 1) y0 y1 y2 y3 y4 y5 y6))
 | 0=>⟨fun _ _ _ _ _ r h=>by simp [spec_CallsOf.f] at h,fun _ _ _ _ _ _ r h=>by simp [spec_CallsOf.j0] at h,fun _ _ _ _ _ _ _ r h=>by simp [spec_CallsOf.l0] at h,fun _ _ _ _ _ _ _ r h=>by simp [spec_CallsOf.l1] at h⟩
 | k + 1=>by
  obtain ⟨ih0,ih1,ih2,ih3⟩:=spec_CallsOf.mono_l k
  refine ⟨?_,?_,?_,?_⟩
  ·intro y0 y1 y2 y3 y4
   unfold spec_CallsOf.f
   with_reducible repeat' first|apply ih0|apply ih1|apply ih2|apply ih3|apply LeO.refl|apply LeO.none|apply LeO.ite|refine LeO.bind ?_ (fun _=>?_)
  ·intro y0 y1 y2 y3 y4 y5
   unfold spec_CallsOf.j0
   with_reducible repeat' first|apply ih0|apply ih1|apply ih2|apply ih3|apply LeO.refl|apply LeO.none|apply LeO.ite|refine LeO.bind ?_ (fun _=>?_)
  ·intro y0 y1 y2 y3 y4 y5 y6
   unfold spec_CallsOf.l0
   with_reducible repeat' first|apply ih0|apply ih1|apply ih2|apply ih3|apply LeO.refl|apply LeO.none|apply LeO.ite|refine LeO.bind ?_ (fun _=>?_)
  ·intro y0 y1 y2 y3 y4 y5 y6
   unfold spec_CallsOf.l1
   with_reducible repeat' first|apply ih0|apply ih1|apply ih2|apply ih3|apply LeO.refl|apply LeO.none|apply LeO.ite|refine LeO.bind ?_ (fun _=>?_)
theorem spec_CallsOf.mono:∀ a0 a1 a2 a3 a4 k,LeO (spec_CallsOf.f k a0 a1 a2 a3 a4) (spec_CallsOf.f (k + 1) a0 a1 a2 a3 a4):=by
 intro a0 a1 a2 a3 a4 k;obtain ⟨ih0,ih1,ih2,ih3⟩:=spec_CallsOf.mono_l k
 exact ih0 a0 a1 a2 a3 a4
set_option maxHeartbeats 8000000 in
set_option maxRecDepth 100000 in
theorem spec_CallsOf.calls (k:Nat):∀ (a0_0:Int) (a0_1:Int) (a0_2:ByteArray) (A0_3:Option Addr) (c0_3:Nat) (l0_3:List (S32)) (A0_4:Option Addr) (c0_4:Nat) (l0_4:List (S42)) (r:List ByteArray) (w:World) (hr0_3:Kd.C k32 w A0_3 l0_3.length l0_3) (hc0_3:l0_3.length≤c0_3) (hr0_4:Kd.C k42 w A0_4 l0_4.length l0_4) (hc0_4:l0_4.length≤c0_4) (h:spec_CallsOf.f k a0_0 a0_1 a0_2 l0_3 l0_4 = some r),
  Calls Try.prog 5 #[.agg #[.int .i64 a0_0,.int .i64 a0_1,.string a0_2,.slice A0_3 l0_3.length c0_3,.slice A0_4 l0_4.length c0_4]] w fun e w'=>∃ v0_:Value,e = .returned (v0_)∧Kd.R Kd.string 9 w' w.heap.size (fun _=>True) v0_ r∧Below w.heap.size w w':=by
 induction k using Nat.strongRecOn with
 | _ k ih =>
 intro a0_0 a0_1 a0_2 A0_3 c0_3 l0_3 A0_4 c0_4 l0_4 r w hr0_3 hc0_3 hr0_4 hc0_4 h
 cases k with
 | zero=>exact absurd h (by simp [spec_CallsOf.f])
 | succ k =>
 simp only [spec_CallsOf.f] at h;have hu32:=Try.underlying32;have HR0_3:=Aside0.mk hr0_3;have HC0_3:=Aside0.mk hc0_3;clear hr0_3 hc0_3;have HR0_4:=Aside0.mk hr0_4;have HC0_4:=Aside0.mk hc0_4;clear hr0_4 hc0_4;have HB:=Aside0.mk (Below.refl w.heap.size w);have H:((some (([]:List ByteArray):List ByteArray)).bind fun y112=>(if a0_0 = 8 then (if y112.length < 8796093022208 then (spec_CallsOf.j0 k (y112 ++ [a0_2]) a0_0 a0_1 a0_2 l0_3 l0_4) else (none)) else (spec_CallsOf.j0 k y112 a0_0 a0_1 a0_2 l0_3 l0_4))) = some r:=h;clear h;obtain ⟨y112,hy112⟩:∃ y_:List ByteArray,y_ = (([]:List ByteArray)):=⟨_,rfl⟩;replace H:(if a0_0 = 8 then (if y112.length < 8796093022208 then (spec_CallsOf.j0 k (y112 ++ [a0_2]) a0_0 a0_1 a0_2 l0_3 l0_4) else (none)) else (spec_CallsOf.j0 k y112 a0_0 a0_1 a0_2 l0_3 l0_4)) = some r:=by first|(rw [hy112];with_reducible exact H)|(have H2_:=(Option.bind_some _ _).symm.trans H;rw [hy112];with_reducible exact H2_)|(have H2_:=(Option.bind_some _ _).symm.trans H;with_reducible exact H2_)|with_reducible exact H|(rw [hy112];exact H)|exact H
 have Ny112:=Aside0.mk hy112;clear hy112;have HC2:=Aside0.mk H;clear H
 go_enter Try.func5,Try.ntmps5
 go_upto_if 9 with (first|((with_reducible refine gate_dst (N:=1) rfl ?_);refine box_event ?hg (N:=1) ?hd (cs:=#[.int .i64 a0_0,.int .i64 a0_1,.string a0_2,.slice A0_3 l0_3.length c0_3,.slice A0_4 l0_4.length c0_4]) (t:=32) ?hr ?_;(case hd=>rfl);(case hg=>rfl);(case hr=>first|(go_simp;done)|(go_simp;rfl));intro gb111 hg w3 hbox hb;have n_:=ai (bq HB hb) <| ai (Aside0.mk (hbox)) <| ai (bz hg HB) <| bz hg HB;clear HB;obtain ⟨HB,BK111,GW111,GE111⟩:=n_;clear hb hbox hg)|((with_reducible refine gate_dst (N:=6) rfl ?_);refine Kd.R_lit Kd.string _ 9 ?hg (N:=6) ?hd (xs:=([]:List ByteArray)) (inner:=[]) (ok:=fun _=>True) (okp:=fun _=>True) ?hr ?hp (fun _ hk=>hk) trivial (Below.refl _ _) (Nat.le_refl _) (by simp) ?_;(case hd=>rfl);(case hg=>rfl);(case hr=>first|(go_simp;done)|(go_simp;rfl));(case hp=>exact (Reps.none _ _));intro v113 w4 ho5 hb hg_ hnew_;clear hg_ hnew_;(first|rw [← Ny112.out] at ho5|(simp only [Int.reduceToNat] at ho5;rw [← Ny112.out] at ho5));have n_:=ai (Aside0.mk (Kd.R_lower ho5 (below_size (bl HB.out)))) <| ai (bw BK111 hb) <| bq HB hb;clear BK111 HB;obtain ⟨HO114,BK111,HB⟩:=n_;clear hb ho5;obtain ⟨h6_0,h6_1,h6_2,h6_3,h6_4⟩:=kb5 BK111.out;obtain ⟨z6_0,z6_1,z6_2,z6_3,z6_4⟩:=kz5 BK111.out))
 (try simp only [Act.put,List.setIfInBounds_toArray,List.set_cons_zero,List.set_cons_succ])
 go_cut [3] (fun v3 wc=>∃ (kq:Nat) (x3_1:List ByteArray),Aside0 (spec_CallsOf.j0 kq x3_1 a0_0 a0_1 a0_2 l0_3 l0_4 = some r)∧Aside0 (kq≤k)∧Aside0 (Kd.R Kd.string 9 wc w.heap.size (fun _=>True) v3 x3_1)∧Aside0 (wc.heap[gb111]? = some (.cells #[.int .i64 a0_0,.int .i64 a0_1,.string a0_2,(.slice A0_3 l0_3.length c0_3),(.slice A0_4 l0_4.length c0_4)] 32 (0,0)))∧Aside0 (Below w.heap.size w wc))
 case first =>
  have H:=HC2.out;clear HC2
  by_cases c7:a0_0 = 8
  ·rw [if_pos c7] at H
   have c7b0:(a0_0 == 8) = true:=beq_iff_eq.mpr c7;have c7b1:(a0_0 != 8) = false:=bne_eq_false_iff_eq.mpr c7;clear c7
   (first|rw [c7b0]|(simp only [i64_w,i32_w];rw [c7b0])|(simp only [c7b2,Bool.not_true,Bool.not_false])|skip)
   by_cases c8:y112.length < 8796093022208
   ·rw [if_pos c8] at H
    have LMc8:=Aside0.mk c8;clear c8;obtain ⟨y115,hy115⟩:∃ y_:List ByteArray,y_ = (y112 ++ [a0_2]):=⟨_,rfl⟩;replace H:(spec_CallsOf.j0 k y115 a0_0 a0_1 a0_2 l0_3 l0_4) = some r:=by first|(rw [hy115];with_reducible exact H)|(have H2_:=(Option.bind_some _ _).symm.trans H;rw [hy115];with_reducible exact H2_)|(have H2_:=(Option.bind_some _ _).symm.trans H;with_reducible exact H2_)|with_reducible exact H|(rw [hy115];exact H)|exact H
    have Ny115:=Aside0.mk hy115;clear hy115;have H':=Aside0.mk H;clear H;obtain ⟨h9_0,h9_1,h9_2,h9_3,h9_4⟩:=kb5 BK111.out
    go_wp2_with (first|((with_reducible refine gate_builtin (b:=.append) (xs:=#[.tmp 10,.tmp 13]) rfl ?_);at_builtin;refine Kd.R_append Kd.string (w0:=w) w.heap.size rfl (.tmp 10) (.tmp 13) 27 9 (.string ⟨#[]⟩) 16 rfl Try.underlying27 info9 rfl (by decide) (by omega) v113 y112 a0_2 [.string a0_2] (fun _=>True) (fun _=>False) rfl rfl ?aP (fun _ hk=>hk.elim) ?aF ?aO ?aB ?aS ?aL ?_;(case aP=>exact rfl);(case aB=>exact (bl HB.out));(case aF=>exact (fun _ _=>trivial));(case aO=>exact (rk HO114.out));(case aS=>exact (below_size (bl HB.out)));(case aL=>have:=LMc8.out;omega);intro v116 w10 ho hb hg hat;rw [← Ny115.out] at ho;have n_:=ai (Aside0.mk (blk_grown (g:=gb111) (o:=.cells #[.int .i64 a0_0,.int .i64 a0_1,.string a0_2,.slice A0_3 l0_3.length c0_3,.slice A0_4 l0_4.length c0_4] 32 (0,0)) (bk BK111.out) hg (Kd.R_ne HO114.out BK111.out (by decide)))) <| ai (Aside0.mk (hb)) <| Aside0.mk (ho);clear BK111 HB HO114;obtain ⟨BK111,HB,HO117⟩:=n_;clear ho hb hg hat))
    go_meet
    case rel=>exact ⟨_,(y115),H',⟨by first|omega|exact Nat.le_refl _⟩,⟨rk HO117.out⟩,⟨bk BK111.out⟩,⟨bl HB.out⟩⟩
   ·rw [if_neg c8] at H
    exact absurd H (by simp)
  ·rw [if_neg c7] at H
   have c7b0:(a0_0 == 8) = false:=beq_eq_false_iff_ne.mpr c7;have c7b1:(a0_0 != 8) = true:=bne_iff_ne.mpr c7
   (first|rw [c7b0]|(simp only [i64_w,i32_w];rw [c7b0])|(simp only [c7b2,Bool.not_true,Bool.not_false])|skip)
   have H':=Aside0.mk H;clear H
   go_wp2
   go_meet
   case rel=>exact ⟨_,(y112),H',⟨by first|omega|exact Nat.le_refl _⟩,⟨rk HO114.out⟩,⟨bk BK111.out⟩,⟨bl HB.out⟩⟩
 case rest =>
  clear HC2;(try clear h6_0 h6_1 h6_2 h6_3 h6_4);(try clear z6_0 z6_1 z6_2 z6_3 z6_4);(try clear BK111);(try clear HB);obtain ⟨kq,x3_1,HA,HJ1,HO_3,BK111,HB⟩:=hcut
  cases kq with
  | zero=>exact absurd HA.out (by simp [spec_CallsOf.j0])
  | succ kj1 =>
   have H:=HA.out;clear HA;simp only [spec_CallsOf.j0] at H;have H':=Aside0.mk H;clear H
   go_wp2
   go_loopg [3,4] kj1 (fun kq v3 v4 w'=>∃ (x3_2:List ByteArray) (x4_2:Int),v4 = .int .i64 x4_2∧Aside0 (spec_CallsOf.l0 kq x3_2 x4_2 a0_0 a0_1 a0_2 l0_3 l0_4 = some r)∧Aside0 (kq≤kj1)∧Aside0 (Kd.R Kd.string 9 w' w.heap.size (fun _=>True) v3 x3_2)∧Aside0 (w'.heap[gb111]? = some (.cells #[.int .i64 a0_0,.int .i64 a0_1,.string a0_2,(.slice A0_3 l0_3.length c0_3),(.slice A0_4 l0_4.length c0_4)] 32 (0,0)))∧Aside0 (Below w.heap.size w w'))
   case atStart=>exact ⟨(x3_1),(0),(cl2),H',⟨Nat.le_refl _⟩,⟨rk HO_3.out⟩,⟨bk BK111.out⟩,⟨bl HB.out⟩⟩
   case round =>
    clear H';(try clear h6_0 h6_1 h6_2 h6_3 h6_4);(try clear z6_0 z6_1 z6_2 z6_3 z6_4);(try clear p2);(try clear HO_3);(try clear BK111);(try clear HB);obtain ⟨x3_2,x4_2,rfl,HA,HK2,HO_3,BK111,HB⟩:=hrel
    cases gk with
    | zero=>exact absurd HA.out (by simp [spec_CallsOf.l0])
    | succ k2 =>
     have H:=HA.out;clear HA;simp only [spec_CallsOf.l0] at H
     by_cases c11:x4_2 < (l0_3.length:Int)
     ·rw [if_pos c11] at H
      have c11b0:decide (x4_2 < (l0_3.length:Int)) = true:=decide_eq_true c11;clear c11
      by_cases c12:0≤x4_2
      ·rw [if_pos c12] at H
       have c12b0:decide (0≤x4_2) = true:=decide_eq_true c12;clear c12;replace H:=Option.bind_eq_some_iff.mp H;obtain ⟨t119,A130,H⟩:=H;replace H:(if x3_2.length + t119.length < 8796093022208 then (spec_CallsOf.l0 k2 (x3_2 ++ t119) (wrap64 (x4_2 + 1)) a0_0 a0_1 a0_2 l0_3 l0_4) else (none)) = some r:=H;have A13:=Aside0.mk A130;clear A130
       by_cases c14:x3_2.length + t119.length < 8796093022208
       ·rw [if_pos c14] at H
        have LMc14:=Aside0.mk c14;clear c14;obtain ⟨y122,hy122⟩:∃ y_:List ByteArray,y_ = (x3_2 ++ t119):=⟨_,rfl⟩;replace H:(spec_CallsOf.l0 k2 y122 (wrap64 (x4_2 + 1)) a0_0 a0_1 a0_2 l0_3 l0_4) = some r:=by first|(rw [hy122];with_reducible exact H)|(have H2_:=(Option.bind_some _ _).symm.trans H;rw [hy122];with_reducible exact H2_)|(have H2_:=(Option.bind_some _ _).symm.trans H;with_reducible exact H2_)|with_reducible exact H|(rw [hy122];exact H)|exact H
        have Ny122:=Aside0.mk hy122;clear hy122;have H':=Aside0.mk H;clear H;obtain ⟨h15_0,h15_1,h15_2,h15_3,h15_4⟩:=kb5 BK111.out;have p118:0≤(x4_2:Int):=od;have q118:x4_2 < (l0_3.length:Int):=od;obtain ⟨ad118,A118_3,c118_3,A118_4,c118_4,e118,hx118_0,hx118_1,hx118_2,hx118_3,hx118_4,hl118_3,hi118_3,hl118_4,hi118_4⟩:=at_T32 HR0_3.out x4_2 p118 q118;cases e118;replace hx118_0:=cb HB hx118_0;replace hx118_1:=cb HB hx118_1;replace hx118_2:=cb HB hx118_2;replace hx118_3:=cb HB hx118_3;replace hx118_4:=cb HB hx118_4;have HR118_3:=Aside0.mk hi118_3;have HC118_3:=Aside0.mk hl118_3;clear hi118_3 hl118_3;have HR118_4:=Aside0.mk hi118_4;have HC118_4:=Aside0.mk hl118_4;clear hi118_4 hl118_4;replace p118:=eq_true p118;replace q118:=eq_true q118
        go_wp2_with (first|((with_reducible refine gate_callee (f:=5) rfl ?_);refine goesL_ (some 28) rfl rfl Try.func5 (by kernel_rfl) rfl #[.agg #[.int .i64 ((rd_T32 l0_3 x4_2).f0),.int .i64 ((rd_T32 l0_3 x4_2).f1),.string ((rd_T32 l0_3 x4_2).f2),.slice A118_3 ((rd_T32 l0_3 x4_2).f3).length c118_3,.slice A118_4 ((rd_T32 l0_3 x4_2).f4).length c118_4]] rfl gs ?_;(with_reducible refine (ih k2 (by have:=HJ1.out;have:=HK2.out;omega) ((rd_T32 l0_3 x4_2).f0) ((rd_T32 l0_3 x4_2).f1) ((rd_T32 l0_3 x4_2).f2) _ _ ((rd_T32 l0_3 x4_2).f3) _ _ ((rd_T32 l0_3 x4_2).f4) t119 _ ?side1 ?side2 ?side3 ?side4 A13.out).mono ?_);(case side1=>exact ck (Kd.C_below HR118_3.out HB.out));(case side2=>exact HC118_3.out);(case side3=>exact ck (Kd.C_below HR118_4.out HB.out));(case side4=>exact HC118_4.out);rintro e w16 ⟨v120,rfl,ho0,hb⟩;refine ⟨_,rfl,?_⟩;have n_:=ai (Aside0.mk (Kd.R_elder' (rk HO_3.out) (Kd.R_base ho0) hb)) <| ai (Aside0.mk (Kd.R_lower (Kd.R_new' ho0 (Kd.R_lt (rk HO_3.out))) (below_size (bl HB.out)))) <| ai (bw BK111 hb) <| bq HB hb;clear HO_3 BK111 HB;obtain ⟨HO_3,HO121,BK111,HB⟩:=n_;(try clear hb);(try clear hk);(try clear ho0);obtain ⟨Ao18,co18,eo18⟩:=Kd.R_slice HO121.out;subst eo18)|((with_reducible refine gate_builtin (b:=.append) (xs:=#[.tmp 22,.tmp 28]) rfl ?_);at_builtin;refine Kd.R_append_rows Kd.string (w0:=w) w.heap.size rfl (.tmp 22) (.tmp 28) 27 9 (.string ⟨#[]⟩) 16 rfl Try.underlying27 info9 rfl (by decide) (by omega) u3 x3_2 t119 _ _ _ (fun k_=>some k_≠(.slice Ao18 t119.length co18:Value).ownBlock) (fun _=>False) rfl rfl ?aO ?aR (fun _ _ h=>h) (fun _ h=>h.elim) ?aF ?aB ?aS ?aL ?_;(case aR=>repeat (first|exact (Kd.R_reads' HO121.out).2.2|(with_reducible refine Kd.C_alloc ?_ _)|(with_reducible refine Kd.C_drewN ?_ _)|(with_reducible refine Kd.C_drew ?_)));(case aB=>exact (bl HB.out));(case aF=>exact (fun k_ hk=>Kd.fresh' (Kd.R_lt (rk HO121.out)) k_ hk));(case aO=>exact (by (with_reducible repeat (first|apply Kd.R_alloc|apply Kd.R_drewN|apply Kd.R_drew));exact Kd.R_mono HO_3.out (fun _ hk=>hk.2)));(case aS=>exact (below_size (bl HB.out)));(case aL=>have:=LMc14.out;omega);intro v123 w17 ho hb hg hat;rw [← Ny122.out] at ho;have n_:=ai (Aside0.mk (blk_grown (g:=gb111) (o:=.cells #[.int .i64 a0_0,.int .i64 a0_1,.string a0_2,.slice (some ad118) l0_3.length c0_3,.slice A0_4 l0_4.length c0_4] 32 (0,0)) (bk BK111.out) hg (Kd.R_ne HO_3.out BK111.out (by decide)))) <| ai (Aside0.mk (Kd.R_after (ok:=(fun _=>True)) (rk HO121.out) hg hat)) <| ai (Aside0.mk (hb)) <| Aside0.mk (ho);clear BK111 HO121 HB HO_3;obtain ⟨BK111,HO121,HB,HO124⟩:=n_;clear ho hb hg hat))
        go_roundg k2
        case measure=>have:=HJ1.out;have:=HK2.out;omega
        case rel=>exact ⟨(y122),(wrap64 (x4_2 + 1)),(cl2),H',⟨by have:=HJ1.out;have:=HK2.out;omega⟩,⟨by (with_reducible repeat (first|apply Kd.R_alloc|apply Kd.R_drewN|apply Kd.R_drew));exact Kd.R_mono HO124.out (fun _ hk=>trivial)⟩,⟨bk BK111.out⟩,⟨bl HB.out⟩⟩
       ·rw [if_neg c14] at H
        exact absurd H (by simp)
      ·rw [if_neg c12] at H
       exact absurd H (by simp)
     ·rw [if_neg c11] at H
      have c11b0:decide (x4_2 < (l0_3.length:Int)) = false:=decide_eq_false c11;clear c11;have H':=Aside0.mk H;clear H;obtain ⟨h19_0,h19_1,h19_2,h19_3,h19_4⟩:=kb5 BK111.out
      go_wp2
      go_loopg [3,5] k2 (fun kq v3 v5 w'=>∃ (x3_3:List ByteArray) (x5_3:Int),v5 = .int .i64 x5_3∧Aside0 (spec_CallsOf.l1 kq x3_3 x5_3 a0_0 a0_1 a0_2 l0_3 l0_4 = some r)∧Aside0 (kq≤k2)∧Aside0 (Kd.R Kd.string 9 w' w.heap.size (fun _=>True) v3 x3_3)∧Aside0 (w'.heap[gb111]? = some (.cells #[.int .i64 a0_0,.int .i64 a0_1,.string a0_2,(.slice A0_3 l0_3.length c0_3),(.slice A0_4 l0_4.length c0_4)] 32 (0,0)))∧Aside0 (Below w.heap.size w w'))
      case atStart=>exact ⟨(x3_2),(0),(cl2),H',⟨Nat.le_refl _⟩,⟨rk HO_3.out⟩,⟨bk BK111.out⟩,⟨bl HB.out⟩⟩
      case round =>
       clear H';(try clear c11);(try clear c11b0);(try clear h19_0 h19_1 h19_2 h19_3 h19_4);(try clear h6_0 h6_1 h6_2 h6_3 h6_4);(try clear z6_0 z6_1 z6_2 z6_3 z6_4);(try clear p2);(try clear HO_3);(try clear BK111);(try clear HB);obtain ⟨x3_3,x5_3,rfl,HA,HK3,HO_3,BK111,HB⟩:=hrel
       cases gk with
       | zero=>exact absurd HA.out (by simp [spec_CallsOf.l1])
       | succ k3 =>
        have H:=HA.out;clear HA;simp only [spec_CallsOf.l1] at H
        by_cases c20:x5_3 < (l0_4.length:Int)
        ·rw [if_pos c20] at H
         have c20b0:decide (x5_3 < (l0_4.length:Int)) = true:=decide_eq_true c20;clear c20
         by_cases c21:0≤x5_3
         ·rw [if_pos c21] at H
          have c21b0:decide (0≤x5_3) = true:=decide_eq_true c21;clear c21;replace H:=Option.bind_eq_some_iff.mp H;obtain ⟨t126,A220,H⟩:=H;replace H:(if x3_3.length + t126.length < 8796093022208 then (spec_CallsOf.l1 k3 (x3_3 ++ t126) (wrap64 (x5_3 + 1)) a0_0 a0_1 a0_2 l0_3 l0_4) else (none)) = some r:=H;have A22:=Aside0.mk A220;clear A220
          by_cases c23:x3_3.length + t126.length < 8796093022208
          ·rw [if_pos c23] at H
           have LMc23:=Aside0.mk c23;clear c23;obtain ⟨y129,hy129⟩:∃ y_:List ByteArray,y_ = (x3_3 ++ t126):=⟨_,rfl⟩;replace H:(spec_CallsOf.l1 k3 y129 (wrap64 (x5_3 + 1)) a0_0 a0_1 a0_2 l0_3 l0_4) = some r:=by first|(rw [hy129];with_reducible exact H)|(have H2_:=(Option.bind_some _ _).symm.trans H;rw [hy129];with_reducible exact H2_)|(have H2_:=(Option.bind_some _ _).symm.trans H;with_reducible exact H2_)|with_reducible exact H|(rw [hy129];exact H)|exact H
           have Ny129:=Aside0.mk hy129;clear hy129;have H':=Aside0.mk H;clear H;obtain ⟨h24_0,h24_1,h24_2,h24_3,h24_4⟩:=kb5 BK111.out;have p125:0≤(x5_3:Int):=od;have q125:x5_3 < (l0_4.length:Int):=od;obtain ⟨ad125,A125_3,c125_3,A125_4,c125_4,A125_8,c125_8,A125_9,c125_9,e125,hx125_0,hx125_1,hx125_2,hx125_3,hx125_4,hx125_5,hx125_6,hx125_7,hx125_8,hx125_9,hl125_3,hi125_3,hl125_4,hi125_4,hl125_8,hi125_8,hl125_9,hi125_9⟩:=at_T42 HR0_4.out x5_3 p125 q125;cases e125;replace hx125_0:=cb HB hx125_0;replace hx125_1:=cb HB hx125_1;replace hx125_2:=cb HB hx125_2;replace hx125_3:=cb HB hx125_3;replace hx125_4:=cb HB hx125_4;replace hx125_5:=cb HB hx125_5;replace hx125_6:=cb HB hx125_6;replace hx125_7:=cb HB hx125_7;replace hx125_8:=cb HB hx125_8;replace hx125_9:=cb HB hx125_9;have HR125_3:=Aside0.mk hi125_3;have HC125_3:=Aside0.mk hl125_3;clear hi125_3 hl125_3;have HR125_4:=Aside0.mk hi125_4;have HC125_4:=Aside0.mk hl125_4;clear hi125_4 hl125_4;have HR125_8:=Aside0.mk hi125_8;have HC125_8:=Aside0.mk hl125_8;clear hi125_8 hl125_8;have HR125_9:=Aside0.mk hi125_9;have HC125_9:=Aside0.mk hl125_9;clear hi125_9 hl125_9;replace p125:=eq_true p125;replace q125:=eq_true q125
           go_wp2_with (first|((with_reducible refine gate_callee (f:=5) rfl ?_);refine goesL_ (some 44) rfl rfl Try.func5 (by kernel_rfl) rfl #[.agg #[.int .i64 ((rd_T42 l0_4 x5_3).f1.f0),.int .i64 ((rd_T42 l0_4 x5_3).f1.f1),.string ((rd_T42 l0_4 x5_3).f1.f2),.slice A125_8 ((rd_T42 l0_4 x5_3).f1.f3).length c125_8,.slice A125_9 ((rd_T42 l0_4 x5_3).f1.f4).length c125_9]] rfl gs ?_;(with_reducible refine (ih k3 (by have:=HJ1.out;have:=HK2.out;have:=HK3.out;omega) ((rd_T42 l0_4 x5_3).f1.f0) ((rd_T42 l0_4 x5_3).f1.f1) ((rd_T42 l0_4 x5_3).f1.f2) _ _ ((rd_T42 l0_4 x5_3).f1.f3) _ _ ((rd_T42 l0_4 x5_3).f1.f4) t126 _ ?side1 ?side2 ?side3 ?side4 A22.out).mono ?_);(case side1=>exact ck (Kd.C_below HR125_8.out HB.out));(case side2=>exact HC125_8.out);(case side3=>exact ck (Kd.C_below HR125_9.out HB.out));(case side4=>exact HC125_9.out);rintro e w25 ⟨v127,rfl,ho0,hb⟩;refine ⟨_,rfl,?_⟩;have n_:=ai (Aside0.mk (Kd.R_elder' (rk HO_3.out) (Kd.R_base ho0) hb)) <| ai (Aside0.mk (Kd.R_lower (Kd.R_new' ho0 (Kd.R_lt (rk HO_3.out))) (below_size (bl HB.out)))) <| ai (bw BK111 hb) <| bq HB hb;clear HO_3 BK111 HB;obtain ⟨HO_3,HO128,BK111,HB⟩:=n_;(try clear hb);(try clear hk);(try clear ho0);obtain ⟨Ao27,co27,eo27⟩:=Kd.R_slice HO128.out;subst eo27)|((with_reducible refine gate_builtin (b:=.append) (xs:=#[.tmp 37,.tmp 44]) rfl ?_);at_builtin;refine Kd.R_append_rows Kd.string (w0:=w) w.heap.size rfl (.tmp 37) (.tmp 44) 27 9 (.string ⟨#[]⟩) 16 rfl Try.underlying27 info9 rfl (by decide) (by omega) u3 x3_3 t126 _ _ _ (fun k_=>some k_≠(.slice Ao27 t126.length co27:Value).ownBlock) (fun _=>False) rfl rfl ?aO ?aR (fun _ _ h=>h) (fun _ h=>h.elim) ?aF ?aB ?aS ?aL ?_;(case aR=>repeat (first|exact (Kd.R_reads' HO128.out).2.2|(with_reducible refine Kd.C_alloc ?_ _)|(with_reducible refine Kd.C_drewN ?_ _)|(with_reducible refine Kd.C_drew ?_)));(case aB=>exact (bl HB.out));(case aF=>exact (fun k_ hk=>Kd.fresh' (Kd.R_lt (rk HO128.out)) k_ hk));(case aO=>exact (by (with_reducible repeat (first|apply Kd.R_alloc|apply Kd.R_drewN|apply Kd.R_drew));exact Kd.R_mono HO_3.out (fun _ hk=>hk.2)));(case aS=>exact (below_size (bl HB.out)));(case aL=>have:=LMc23.out;omega);intro v130 w26 ho hb hg hat;rw [← Ny129.out] at ho;have n_:=ai (Aside0.mk (blk_grown (g:=gb111) (o:=.cells #[.int .i64 a0_0,.int .i64 a0_1,.string a0_2,.slice A0_3 l0_3.length c0_3,.slice (some ad125) l0_4.length c0_4] 32 (0,0)) (bk BK111.out) hg (Kd.R_ne HO_3.out BK111.out (by decide)))) <| ai (Aside0.mk (Kd.R_after (ok:=(fun _=>True)) (rk HO128.out) hg hat)) <| ai (Aside0.mk (hb)) <| Aside0.mk (ho);clear BK111 HO128 HB HO_3;obtain ⟨BK111,HO128,HB,HO131⟩:=n_;clear ho hb hg hat))
           go_roundg k3
           case measure=>have:=HJ1.out;have:=HK2.out;have:=HK3.out;omega
           case rel=>exact ⟨(y129),(wrap64 (x5_3 + 1)),(cl2),H',⟨by have:=HJ1.out;have:=HK2.out;have:=HK3.out;omega⟩,⟨by (with_reducible repeat (first|apply Kd.R_alloc|apply Kd.R_drewN|apply Kd.R_drew));exact Kd.R_mono HO131.out (fun _ hk=>trivial)⟩,⟨bk BK111.out⟩,⟨bl HB.out⟩⟩
          ·rw [if_neg c23] at H
           exact absurd H (by simp)
         ·rw [if_neg c21] at H
          exact absurd H (by simp)
        ·rw [if_neg c20] at H
         have c20b0:decide (x5_3 < (l0_4.length:Int)) = false:=decide_eq_false c20;clear c20;obtain rfl:=Option.some.inj H;obtain ⟨h28_0,h28_1,h28_2,h28_3,h28_4⟩:=kb5 BK111.out
         go_wp2
         go_ret
         exact ⟨_,cl,rk HO_3.out,bl HB.out⟩

end Go.Proofs.Ytogeameinakelaa.QFnExactCallsOf
