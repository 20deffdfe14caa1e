-- Written by a program of this workplace (print2.py) for this claim, over the print's words.
import Derived.Test.YtefkjmkmojmllaaQFnExactGetTermx0
import Derived.Test.YtefkjmkmojmllaaQFnExactGetTermx9
namespace Go.Proofs.Ytefkjmkmojmllaa.QFnExactGetTerm
open Go.RowKit Go.Proofs.YtefkjmkmojmllaaW.PrintWords Go.Proofs.YtefkjmkmojmllaaW.PrintLast Go.Proofs.YtefkjmkmojmllaaW.PrintMore
attribute [local go_sem] max2_int min2_int max_two min_two max_three min_three max_four min_four   -- for this text's walks alone
set_option linter.unusedVariables false
set_option linter.unusedSimpArgs false

/-! ### laws_heldTermS: function 20 -/
mutual
def laws_heldTermS.l0:Nat → List (S25) → Int → Int → Option (Int)
 | 0,_,_,_=>none
 | k + 1,x0,x1,x5=>if x5 < (x0.length:Int) then (if 0≤x5 then (if ((rd_T25 x0 x5).f0) = x1 then (if ((rd_T25 x0 x5).f1) = (wrap64 (x1 + 1)) then ((laws_markText.f k (wrap64 ((wrap64 (x1 + 1)) + 1))).bind fun t293=>(if ((rd_T25 x0 x5).f2).toList = t293.toList then ((laws_heldTermS.f k ((rd_T25 x0 x5).f3) (wrap64 ((wrap64 ((wrap64 (x1 + 1)) + 1)) + 1))).bind fun t295=>(if t295 < 0 then (some (-1)) else (laws_heldTermS.l0 k x0 t295 (wrap64 (x5 + 1))))) else (some (-1)))) else (some (-1))) else (some (-1))) else (none)) else (some x1)
def laws_heldTermS.f:Nat → List (S25) → Int → Option (Int)
 | 0,_,_=>none
 | k + 1,l0,a1=>laws_heldTermS.l0 k l0 a1 0
end
theorem laws_heldTermS.mono_l:∀ k,(∀ y0 y1,LeO (laws_heldTermS.f k y0 y1) (laws_heldTermS.f (k + 1) y0 y1))∧(∀ y0 y1 y2,LeO (laws_heldTermS.l0 k y0 y1 y2) (laws_heldTermS.l0 (k + 1) y0 y1 y2))
 | 0=>⟨fun _ _ r h=>by simp [laws_heldTermS.f] at h,fun _ _ _ r h=>by simp [laws_heldTermS.l0] at h⟩
 | k + 1=>by
  obtain ⟨ih0,ih1⟩:=laws_heldTermS.mono_l k
  refine ⟨?_,?_⟩
  ·intro y0 y1
   unfold laws_heldTermS.f
   with_reducible repeat' first|apply ih0|apply ih1|apply laws_markText.mono|apply LeO.refl|apply LeO.none|apply LeO.ite|refine LeO.bind ?_ (fun _=>?_)
  ·intro y0 y1 y2
   unfold laws_heldTermS.l0
   with_reducible repeat' first|apply ih0|apply ih1|apply laws_markText.mono|apply LeO.refl|apply LeO.none|apply LeO.ite|refine LeO.bind ?_ (fun _=>?_)
theorem laws_heldTermS.mono:∀ a0 a1 k,LeO (laws_heldTermS.f k a0 a1) (laws_heldTermS.f (k + 1) a0 a1):=by
 intro a0 a1 k;obtain ⟨ih0,ih1⟩:=laws_heldTermS.mono_l k
 exact ih0 a0 a1
def laws_heldTermS.T10:Bool × List (List Nat × List Nat):=(true,[([],[]),([],[]),([0,1],[0,1]),([2],[2]),([3],[3]),([],[]),([5],[5]),([4,6],[4,6])])
def laws_heldTermS.B10:List Nat:=[0,0,3,7,15,0,32,127]
theorem laws_heldTermS.tab10:rtab .any (opsOf Try.f20 10) = laws_heldTermS.T10:=by kernel_rfl
theorem laws_heldTermS.bits10:waitsOk laws_heldTermS.T10.2 laws_heldTermS.B10 = true:=by kernel_rfl
set_option maxHeartbeats 8000000 in
set_option maxRecDepth 100000 in
theorem laws_heldTermS.calls (k:Nat):∀ (A0:Option Addr) (c0:Nat) (l0:List (S25)) (a1:Int) (r:Int) (w:World) (hr0:Kd.C k25 w A0 l0.length l0) (hc0:l0.length≤c0) (h:laws_heldTermS.f k l0 a1 = some r),
  Calls Try.prog 20 #[.slice A0 l0.length c0,.int .i64 a1] w fun e w'=>e = .returned (.int .i64 r)∧Below w.heap.size w w':=by
 induction k using Nat.strongRecOn with
 | _ k ih =>
 intro A0 c0 l0 a1 r w hr0 hc0 h
 cases k with
 | zero=>exact absurd h (by simp [laws_heldTermS.f])
 | succ k =>
 simp only [laws_heldTermS.f] at h;have HR0:=Aside0.mk hr0;have HC0:=Aside0.mk hc0;clear hr0 hc0;have HB:=Aside0.mk (Below.refl w.heap.size w);have H:(laws_heldTermS.l0 k l0 a1 0) = some r:=h;clear h;have H':=Aside0.mk H;clear H
 go_enter Try.func20,Try.ntmps20
 go_wp2
 go_loopg [1,5] k (fun kq v1 v5 w'=>∃ (x1_1:Int) (x5_1:Int),v1 = .int .i64 x1_1∧v5 = .int .i64 x5_1∧Aside0 (laws_heldTermS.l0 kq l0 x1_1 x5_1 = some r)∧Aside0 (kq≤k)∧Aside0 (Below w.heap.size w w'))
 case atStart=>exact ⟨(a1),(0),(cl2),(cl2),H',⟨Nat.le_refl _⟩,⟨bl HB.out⟩⟩
 case round =>
  clear H';(try clear HB);obtain ⟨x1_1,x5_1,rfl,rfl,HA,HK1,HB⟩:=hrel
  cases gk with
  | zero=>exact absurd HA.out (by simp [laws_heldTermS.l0])
  | succ k1 =>
   have H:=HA.out;clear HA;simp only [laws_heldTermS.l0] at H
   by_cases c3:x5_1 < (l0.length:Int)
   ·rw [if_pos c3] at H
    have c3b0:decide (x5_1 < (l0.length:Int)) = true:=decide_eq_true c3;clear c3
    by_cases c4:0≤x5_1
    ·rw [if_pos c4] at H
     have c4b0:decide (0≤x5_1) = true:=decide_eq_true c4;clear c4
     by_cases c5:((rd_T25 l0 x5_1).f0) = x1_1
     ·rw [if_pos c5] at H
      have c5b0:(((rd_T25 l0 x5_1).f0) == x1_1) = true:=beq_iff_eq.mpr c5;have c5b1:(((rd_T25 l0 x5_1).f0) != x1_1) = false:=bne_eq_false_iff_eq.mpr c5;clear c5
      by_cases c6:((rd_T25 l0 x5_1).f1) = (wrap64 (x1_1 + 1))
      ·rw [if_pos c6] at H
       have c6b0:(((rd_T25 l0 x5_1).f1) == (wrap64 (x1_1 + 1))) = true:=beq_iff_eq.mpr c6;have c6b1:(((rd_T25 l0 x5_1).f1) != (wrap64 (x1_1 + 1))) = false:=bne_eq_false_iff_eq.mpr c6;clear c6;replace H:=Option.bind_eq_some_iff.mp H;obtain ⟨t293,A70,H⟩:=H;replace H:(if ((rd_T25 l0 x5_1).f2).toList = t293.toList then ((laws_heldTermS.f k1 ((rd_T25 l0 x5_1).f3) (wrap64 ((wrap64 ((wrap64 (x1_1 + 1)) + 1)) + 1))).bind fun t295=>(if t295 < 0 then (some (-1)) else (laws_heldTermS.l0 k1 l0 t295 (wrap64 (x5_1 + 1))))) else (some (-1))) = some r:=H;have A7:=Aside0.mk A70;clear A70;have p290:0≤(x5_1:Int):=od;have q290:x5_1 < (l0.length:Int):=od;obtain ⟨ad290,A290_3,c290_3,e290,hx290_0,hx290_1,hx290_2,hx290_3,hl290_3,hi290_3⟩:=at_T25 HR0.out x5_1 p290 q290;cases e290;replace hx290_0:=cb HB hx290_0;replace hx290_1:=cb HB hx290_1;replace hx290_2:=cb HB hx290_2;replace hx290_3:=cb HB hx290_3;have HR290_3:=Aside0.mk hi290_3;have HC290_3:=Aside0.mk hl290_3;clear hi290_3 hl290_3;replace p290:=eq_true p290;replace q290:=eq_true q290;have p291:0≤(x5_1:Int):=od;have q291:x5_1 < (l0.length:Int):=od;obtain ⟨ad291,A291_3,c291_3,e291,hx291_0,hx291_1,hx291_2,hx291_3,hl291_3,hi291_3⟩:=at_T25 HR0.out x5_1 p291 q291;obtain rfl:ad290 = ad291:=(by injection e291);replace hx291_0:=cb HB hx291_0;replace hx291_1:=cb HB hx291_1;replace hx291_2:=cb HB hx291_2;replace hx291_3:=cb HB hx291_3;have HR291_3:=Aside0.mk hi291_3;have HC291_3:=Aside0.mk hl291_3;clear hi291_3 hl291_3;replace p291:=eq_true p291;replace q291:=eq_true q291;have ea_:=Option.some.inj (hx290_3.symm.trans hx291_3)
       injection ea_ with ea_ en_ ec_
       subst ea_;subst ec_;clear en_
       try go_wp2
       have n_:=dh HB;clear HB;have HB:=n_;clear n_;have p292:0≤(x5_1:Int):=od;have q292:x5_1 < (l0.length:Int):=od;obtain ⟨ad292,A292_3,c292_3,e292,hx292_0,hx292_1,hx292_2,hx292_3,hl292_3,hi292_3⟩:=at_T25 HR0.out x5_1 p292 q292;have hw292_3:=hx292_3;have hw292_2:=hx292_2;have hw292_1:=hx292_1;have hw292_0:=hx292_0;obtain rfl:ad290 = ad292:=(by injection e292);replace hx292_0:=cb HB hx292_0;replace hx292_1:=cb HB hx292_1;replace hx292_2:=cb HB hx292_2;replace hx292_3:=cb HB hx292_3;have HR292_3:=Aside0.mk hi292_3;have HC292_3:=Aside0.mk hl292_3;clear hi292_3 hl292_3;replace p292:=eq_true p292;replace q292:=eq_true q292
       refine start_ (n:=8) (S:=fun w'=>w'.cell? (ad290.add ((x5_1).toNat * 4)) = some (.int .i64 ((rd_T25 l0 x5_1).f0))∧w'.cell? ⟨(ad290.add ((x5_1).toNat * 4)).block,(ad290.add ((x5_1).toNat * 4)).off + 1,none⟩ = some (.int .i64 ((rd_T25 l0 x5_1).f1))∧w'.cell? ⟨(ad290.add ((x5_1).toNat * 4)).block,(ad290.add ((x5_1).toNat * 4)).off + 2,none⟩ = some (.string ((rd_T25 l0 x5_1).f2))∧w'.cell? ⟨(ad290.add ((x5_1).toNat * 4)).block,(ad290.add ((x5_1).toNat * 4)).off + 3,none⟩ = some (.slice A292_3 ((rd_T25 l0 x5_1).f3).length c292_3)) (ds:=[]) #[false,false,false,false,false,false,false,false] (by kernel_rfl) rfl rfl ⟨(cb HB hw292_0 :),(cb HB hw292_1 :),(cb HB hw292_2 :),(cb HB hw292_3 :)⟩ (fun hHeld=>?_);refine with_tabW laws_heldTermS.tab10 laws_heldTermS.bits10 (fun HT_ HW_=>?_)
       generalize wr.drew = w11 at HB HR292_3 hx292_0 hx292_1 hx292_2 hx292_3 hHeld ⊢;refine pu 0 30 ?_;refine pu 1 31 ?_;refine pu 2 32 ?_;refine pu 3 33 ?_;refine pu 5 35 ?_;refine ta 4 34 hHeld ?_
       refine one_ (i:=6) (N:=some 36) #[true,true,true,true,true,true,true,false] rfl rfl (one_of HT_.out (by kernel_rfl)) (by decide) (fun K hK=>?_)
       refine goes_ Try.func31 (by kernel_rfl) rfl #[.int .i64 (wrap64 ((wrap64 (x1_1 + 1)) + 1))] (by rfl) rfl rfl gs ?_
       with_reducible refine (laws_markText.calls k1 (wrap64 ((wrap64 (x1_1 + 1)) + 1)) t293 _ A7.out).mono ?_
       rintro e w12 ⟨rfl,hb⟩
       refine ⟨_,rfl,?_⟩
       have n_:=bq HB hb;clear HB;have HB:=n_;clear n_;(try clear hb)
       refine hK.out _ _ ⟨(cb HB hw292_0 :),(cb HB hw292_1 :),(cb HB hw292_2 :),(cb HB hw292_3 :)⟩ (fun hHeld=>?_)
       clear hK K
       refine norm_ (a':=?_) ?_ ?_
       rotate_left
       ·show Act.put _ (some 36) _ = _
        simp only [Act.put,List.setIfInBounds_toArray,List.set_cons_zero,List.set_cons_succ,i64_w,i32_w]
        rfl
       refine pu 7 37 ?_
       refine done_ (done_of HT_.out (by kernel_rfl)) ?_
       by_cases c8:((rd_T25 l0 x5_1).f2).toList = t293.toList
       ·rw [if_pos c8] at H
        have c8b0:(((rd_T25 l0 x5_1).f2).toList == t293.toList) = true:=beq_iff_eq.mpr c8;have c8b1:(((rd_T25 l0 x5_1).f2).toList != t293.toList) = false:=bne_eq_false_iff_eq.mpr c8;clear c8;replace H:=Option.bind_eq_some_iff.mp H;obtain ⟨t295,A90,H⟩:=H;replace H:(if t295 < 0 then (some (-1)) else (laws_heldTermS.l0 k1 l0 t295 (wrap64 (x5_1 + 1)))) = some r:=H;have A9:=Aside0.mk A90;clear A90;(try simp only [c8b0,c8b1,Bool.not_true,Bool.not_false])
        by_cases c10:t295 < 0
        ·rw [if_pos c10] at H
         have c10b0:decide (t295 < 0) = true:=decide_eq_true c10;clear c10;obtain rfl:=Option.some.inj H;(try simp only [c10b0,Bool.not_true,Bool.not_false]);have p294:0≤(x5_1:Int):=od;have q294:x5_1 < (l0.length:Int):=od;obtain ⟨ad294,A294_3,c294_3,e294,hx294_0,hx294_1,hx294_2,hx294_3,hl294_3,hi294_3⟩:=at_T25 HR0.out x5_1 p294 q294;obtain rfl:ad290 = ad294:=(by injection e294);replace hx294_0:=cb HB hx294_0;replace hx294_1:=cb HB hx294_1;replace hx294_2:=cb HB hx294_2;replace hx294_3:=cb HB hx294_3;have HR294_3:=Aside0.mk hi294_3;have HC294_3:=Aside0.mk hl294_3;clear hi294_3 hl294_3;replace p294:=eq_true p294;replace q294:=eq_true q294;(try clear hHeld)
         try go_wp2_with (first|((with_reducible refine gate_callee (f:=20) rfl ?_);refine goesL_ (some 46) rfl rfl Try.func20 (by kernel_rfl) rfl #[.slice A294_3 ((rd_T25 l0 x5_1).f3).length c294_3,.int .i64 (wrap64 ((wrap64 ((wrap64 (x1_1 + 1)) + 1)) + 1))] rfl gs ?_;(with_reducible refine (ih k1 (by have:=HK1.out;omega) _ _ ((rd_T25 l0 x5_1).f3) (wrap64 ((wrap64 ((wrap64 (x1_1 + 1)) + 1)) + 1)) t295 _ ?side1 ?side2 A9.out).mono ?_);(case side1=>exact ck (Kd.C_below HR294_3.out HB.out));(case side2=>exact HC294_3.out);rintro e w13 ⟨rfl,hb⟩;refine ⟨_,rfl,?_⟩;have n_:=bq HB hb;clear HB;have HB:=n_;clear n_;(try clear hb);(try clear hi)))
         go_ret
         exact ⟨cl,bl HB.out⟩
        ·rw [if_neg c10] at H
         have c10b0:decide (t295 < 0) = false:=decide_eq_false c10;clear c10;have H':=Aside0.mk H;clear H;(try simp only [c10b0,Bool.not_true,Bool.not_false]);have p294:0≤(x5_1:Int):=od;have q294:x5_1 < (l0.length:Int):=od;obtain ⟨ad294,A294_3,c294_3,e294,hx294_0,hx294_1,hx294_2,hx294_3,hl294_3,hi294_3⟩:=at_T25 HR0.out x5_1 p294 q294;obtain rfl:ad290 = ad294:=(by injection e294);replace hx294_0:=cb HB hx294_0;replace hx294_1:=cb HB hx294_1;replace hx294_2:=cb HB hx294_2;replace hx294_3:=cb HB hx294_3;have HR294_3:=Aside0.mk hi294_3;have HC294_3:=Aside0.mk hl294_3;clear hi294_3 hl294_3;replace p294:=eq_true p294;replace q294:=eq_true q294;(try clear hHeld)
         try go_wp2_with (first|((with_reducible refine gate_callee (f:=20) rfl ?_);refine goesL_ (some 46) rfl rfl Try.func20 (by kernel_rfl) rfl #[.slice A294_3 ((rd_T25 l0 x5_1).f3).length c294_3,.int .i64 (wrap64 ((wrap64 ((wrap64 (x1_1 + 1)) + 1)) + 1))] rfl gs ?_;(with_reducible refine (ih k1 (by have:=HK1.out;omega) _ _ ((rd_T25 l0 x5_1).f3) (wrap64 ((wrap64 ((wrap64 (x1_1 + 1)) + 1)) + 1)) t295 _ ?side1 ?side2 A9.out).mono ?_);(case side1=>exact ck (Kd.C_below HR294_3.out HB.out));(case side2=>exact HC294_3.out);rintro e w16 ⟨rfl,hb⟩;refine ⟨_,rfl,?_⟩;have n_:=bq HB hb;clear HB;have HB:=n_;clear n_;(try clear hb);(try clear hi)))
         go_roundg k1
         case measure=>have:=HK1.out;omega
         case rel=>exact ⟨(t295),(wrap64 (x5_1 + 1)),(cl2),(cl2),H',⟨by have:=HK1.out;omega⟩,⟨bl HB.out⟩⟩
       ·rw [if_neg c8] at H
        have c8b0:(((rd_T25 l0 x5_1).f2).toList == t293.toList) = false:=beq_eq_false_iff_ne.mpr c8;have c8b1:(((rd_T25 l0 x5_1).f2).toList != t293.toList) = true:=bne_iff_ne.mpr c8;obtain rfl:=Option.some.inj H;(try simp only [c8b0,c8b1,Bool.not_true,Bool.not_false])
        try go_wp2
        go_ret
        exact ⟨cl,bl HB.out⟩
      ·rw [if_neg c6] at H
       have c6b0:(((rd_T25 l0 x5_1).f1) == (wrap64 (x1_1 + 1))) = false:=beq_eq_false_iff_ne.mpr c6;have c6b1:(((rd_T25 l0 x5_1).f1) != (wrap64 (x1_1 + 1))) = true:=bne_iff_ne.mpr c6;obtain rfl:=Option.some.inj H;have p290:0≤(x5_1:Int):=od;have q290:x5_1 < (l0.length:Int):=od;obtain ⟨ad290,A290_3,c290_3,e290,hx290_0,hx290_1,hx290_2,hx290_3,hl290_3,hi290_3⟩:=at_T25 HR0.out x5_1 p290 q290;cases e290;replace hx290_0:=cb HB hx290_0;replace hx290_1:=cb HB hx290_1;replace hx290_2:=cb HB hx290_2;replace hx290_3:=cb HB hx290_3;have HR290_3:=Aside0.mk hi290_3;have HC290_3:=Aside0.mk hl290_3;clear hi290_3 hl290_3;replace p290:=eq_true p290;replace q290:=eq_true q290;have p291:0≤(x5_1:Int):=od;have q291:x5_1 < (l0.length:Int):=od;obtain ⟨ad291,A291_3,c291_3,e291,hx291_0,hx291_1,hx291_2,hx291_3,hl291_3,hi291_3⟩:=at_T25 HR0.out x5_1 p291 q291;obtain rfl:ad290 = ad291:=(by injection e291);replace hx291_0:=cb HB hx291_0;replace hx291_1:=cb HB hx291_1;replace hx291_2:=cb HB hx291_2;replace hx291_3:=cb HB hx291_3;have HR291_3:=Aside0.mk hi291_3;have HC291_3:=Aside0.mk hl291_3;clear hi291_3 hl291_3;replace p291:=eq_true p291;replace q291:=eq_true q291;have ea_:=Option.some.inj (hx290_3.symm.trans hx291_3)
       injection ea_ with ea_ en_ ec_
       subst ea_;subst ec_;clear en_
       go_wp2
       go_ret
       exact ⟨cl,bl HB.out⟩
     ·rw [if_neg c5] at H
      have c5b0:(((rd_T25 l0 x5_1).f0) == x1_1) = false:=beq_eq_false_iff_ne.mpr c5;have c5b1:(((rd_T25 l0 x5_1).f0) != x1_1) = true:=bne_iff_ne.mpr c5;obtain rfl:=Option.some.inj H;have p290:0≤(x5_1:Int):=od;have q290:x5_1 < (l0.length:Int):=od;obtain ⟨ad290,A290_3,c290_3,e290,hx290_0,hx290_1,hx290_2,hx290_3,hl290_3,hi290_3⟩:=at_T25 HR0.out x5_1 p290 q290;cases e290;replace hx290_0:=cb HB hx290_0;replace hx290_1:=cb HB hx290_1;replace hx290_2:=cb HB hx290_2;replace hx290_3:=cb HB hx290_3;have HR290_3:=Aside0.mk hi290_3;have HC290_3:=Aside0.mk hl290_3;clear hi290_3 hl290_3;replace p290:=eq_true p290;replace q290:=eq_true q290
      go_wp2
      go_ret
      exact ⟨cl,bl HB.out⟩
    ·rw [if_neg c4] at H
     exact absurd H (by simp)
   ·rw [if_neg c3] at H
    have c3b0:decide (x5_1 < (l0.length:Int)) = false:=decide_eq_false c3;clear c3;obtain rfl:=Option.some.inj H
    go_wp2
    go_ret
    exact ⟨cl,bl HB.out⟩

/-! ### laws_heldTerm: function 11 -/
def laws_heldTerm.f (k:Nat) (a0_0:Int) (a0_1:Int) (a0_2:ByteArray) (l0_3:List (S25)) (a1:Int):Option (Int):=(laws_heldTermS.f k l0_3 a1).bind fun t297=>(if t297 < 0 then (some (-1)) else (some t297))
theorem laws_heldTerm.mono:∀ a0 a1 a2 a3 a4 k,LeO (laws_heldTerm.f k a0 a1 a2 a3 a4) (laws_heldTerm.f (k + 1) a0 a1 a2 a3 a4):=by
 intro a0 a1 a2 a3 a4 k
 unfold laws_heldTerm.f
 with_reducible repeat' first|apply laws_heldTermS.mono|apply LeO.refl|apply LeO.none|apply LeO.ite|refine LeO.bind ?_ (fun _=>?_)
set_option maxHeartbeats 8000000 in
set_option maxRecDepth 100000 in
theorem laws_heldTerm.calls (k:Nat) (a0_0:Int) (a0_1:Int) (a0_2:ByteArray) (A0_3:Option Addr) (c0_3:Nat) (l0_3:List (S25)) (a1:Int) (r:Int) (w:World) (hr0_3:Kd.C k25 w A0_3 l0_3.length l0_3) (hc0_3:l0_3.length≤c0_3) (h:laws_heldTerm.f k a0_0 a0_1 a0_2 l0_3 a1 = some r) :
  Calls Try.prog 11 #[.agg #[.int .i64 a0_0,.int .i64 a0_1,.string a0_2,.slice A0_3 l0_3.length c0_3],.int .i64 a1] w fun e w'=>e = .returned (.int .i64 r)∧Below w.heap.size w w':=by
 have hu25:=Try.underlying25;have HR0_3:=Aside0.mk hr0_3;have HC0_3:=Aside0.mk hc0_3;clear hr0_3 hc0_3;have HB:=Aside0.mk (Below.refl w.heap.size w);have H:((laws_heldTermS.f k l0_3 a1).bind fun t297=>(if t297 < 0 then (some (-1)) else (some t297))) = some r:=h;clear h;replace H:=Option.bind_eq_some_iff.mp H;obtain ⟨t297,A30,H⟩:=H;replace H:(if t297 < 0 then (some (-1)) else (some t297)) = some r:=H;have A3:=Aside0.mk A30;clear A30
 by_cases c4:t297 < 0
 ·rw [if_pos c4] at H
  have c4b0:decide (t297 < 0) = true:=decide_eq_true c4;clear c4;obtain rfl:=Option.some.inj H
  go_enter Try.func11,Try.ntmps11
  go_wp2_with (first|((with_reducible refine gate_dst (N:=2) rfl ?_);refine box_event ?hg (N:=2) ?hd (cs:=#[.int .i64 a0_0,.int .i64 a0_1,.string a0_2,.slice A0_3 l0_3.length c0_3]) (t:=25) ?hr ?_;(case hd=>rfl);(case hg=>rfl);(case hr=>first|(go_simp;done)|(go_simp;rfl));intro gb296 hg w5 hbox hb;have n_:=ai (bq HB hb) <| ai (Aside0.mk (hbox)) <| ai (bz hg HB) <| bz hg HB;clear HB;obtain ⟨HB,BK296,GW296,GE296⟩:=n_;clear hb hbox hg;obtain ⟨h6_0,h6_1,h6_2,h6_3⟩:=kb4 BK296.out;obtain ⟨z6_0,z6_1,z6_2,z6_3⟩:=kz4 BK296.out)|((with_reducible refine gate_callee (f:=20) rfl ?_);refine goesL_ (some 8) rfl rfl Try.func20 (by kernel_rfl) rfl #[.slice A0_3 l0_3.length c0_3,.int .i64 a1] rfl gs ?_;(with_reducible refine (laws_heldTermS.calls k _ _ l0_3 a1 t297 _ ?side1 ?side2 A3.out).mono ?_);(case side1=>exact ck (Kd.C_below HR0_3.out HB.out));(case side2=>exact HC0_3.out);rintro e w7 ⟨rfl,hb⟩;refine ⟨_,rfl,?_⟩;have n_:=ai (bw BK296 hb) <| bq HB hb;clear BK296 HB;obtain ⟨BK296,HB⟩:=n_;(try clear hb);(try clear hi)))
  go_ret
  exact ⟨cl,bl HB.out⟩
 ·rw [if_neg c4] at H
  have c4b0:decide (t297 < 0) = false:=decide_eq_false c4;clear c4;obtain rfl:=Option.some.inj H
  go_enter Try.func11,Try.ntmps11
  go_wp2_with (first|((with_reducible refine gate_dst (N:=2) rfl ?_);refine box_event ?hg (N:=2) ?hd (cs:=#[.int .i64 a0_0,.int .i64 a0_1,.string a0_2,.slice A0_3 l0_3.length c0_3]) (t:=25) ?hr ?_;(case hd=>rfl);(case hg=>rfl);(case hr=>first|(go_simp;done)|(go_simp;rfl));intro gb296 hg w8 hbox hb;have n_:=ai (bq HB hb) <| ai (Aside0.mk (hbox)) <| ai (bz hg HB) <| bz hg HB;clear HB;obtain ⟨HB,BK296,GW296,GE296⟩:=n_;clear hb hbox hg;obtain ⟨h9_0,h9_1,h9_2,h9_3⟩:=kb4 BK296.out;obtain ⟨z9_0,z9_1,z9_2,z9_3⟩:=kz4 BK296.out)|((with_reducible refine gate_callee (f:=20) rfl ?_);refine goesL_ (some 8) rfl rfl Try.func20 (by kernel_rfl) rfl #[.slice A0_3 l0_3.length c0_3,.int .i64 a1] rfl gs ?_;(with_reducible refine (laws_heldTermS.calls k _ _ l0_3 a1 t297 _ ?side1 ?side2 A3.out).mono ?_);(case side1=>exact ck (Kd.C_below HR0_3.out HB.out));(case side2=>exact HC0_3.out);rintro e w10 ⟨rfl,hb⟩;refine ⟨_,rfl,?_⟩;have n_:=ai (bw BK296 hb) <| bq HB hb;clear BK296 HB;obtain ⟨BK296,HB⟩:=n_;(try clear hb);(try clear hi)))
  go_ret
  exact ⟨cl,bl HB.out⟩

end Go.Proofs.Ytefkjmkmojmllaa.QFnExactGetTerm
