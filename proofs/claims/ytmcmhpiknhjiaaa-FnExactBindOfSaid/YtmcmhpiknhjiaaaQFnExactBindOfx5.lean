-- Written by a program of this workplace (print2.py) for this claim, over the print's words.
import Derived.Test.YtmcmhpiknhjiaaaQFnExactBindOfx0
import Derived.Test.YtmcmhpiknhjiaaaQFnExactBindOfx4
namespace Go.Proofs.Ytmcmhpiknhjiaaa.QFnExactBindOf
open Go.RowKit Go.Proofs.YtmcmhpiknhjiaaaW.PrintWords Go.Proofs.YtmcmhpiknhjiaaaW.PrintLast Go.Proofs.YtmcmhpiknhjiaaaW.PrintMore
attribute [local go_sem] max2_int min2_int max_two min_two max_three min_three max_four min_four   -- for this text's walks alone
set_option linter.unusedVariables false
set_option linter.unusedSimpArgs false

/-! ### laws_heldTermS: function 21 -/
mutual
def laws_heldTermS.l0:Nat → List (S26) → Int → Int → Option (Int)
 | 0,_,_,_=>none
 | k + 1,x0,x1,x5=>if x5 < (x0.length:Int) then (if 0≤x5 then (if ((rd_T26 x0 x5).f0) = x1 then (if ((rd_T26 x0 x5).f1) = (wrap64 (x1 + 1)) then ((laws_markText.f k (wrap64 ((wrap64 (x1 + 1)) + 1))).bind fun t215=>(if ((rd_T26 x0 x5).f2).toList = t215.toList then ((laws_heldTermS.f k ((rd_T26 x0 x5).f3) (wrap64 ((wrap64 ((wrap64 (x1 + 1)) + 1)) + 1))).bind fun t217=>(if t217 < 0 then (some (-1)) else (laws_heldTermS.l0 k x0 t217 (wrap64 (x5 + 1))))) else (some (-1)))) else (some (-1))) else (some (-1))) else (none)) else (some x1)
def laws_heldTermS.f:Nat → List (S26) → Int → Option (Int)
 | 0,_,_=>none
 | k + 1,l0,a1=>laws_heldTermS.l0 k l0 a1 0
end
theorem laws_heldTermS.mono_l:∀ k,(∀ y0 y1,LeO (laws_heldTermS.f k y0 y1) (laws_heldTermS.f (k + 1) y0 y1))∧(∀ y0 y1 y2,LeO (laws_heldTermS.l0 k y0 y1 y2) (laws_heldTermS.l0 (k + 1) y0 y1 y2))
 | 0=>⟨fun _ _ r h=>by simp [laws_heldTermS.f] at h,fun _ _ _ r h=>by simp [laws_heldTermS.l0] at h⟩
 | k + 1=>by
  obtain ⟨ih0,ih1⟩:=laws_heldTermS.mono_l k
  refine ⟨?_,?_⟩
  ·intro y0 y1
   unfold laws_heldTermS.f
   with_reducible repeat' first|apply ih0|apply ih1|apply laws_markText.mono|apply LeO.refl|apply LeO.none|apply LeO.ite|refine LeO.bind ?_ (fun _=>?_)
  ·intro y0 y1 y2
   unfold laws_heldTermS.l0
   with_reducible repeat' first|apply ih0|apply ih1|apply laws_markText.mono|apply LeO.refl|apply LeO.none|apply LeO.ite|refine LeO.bind ?_ (fun _=>?_)
theorem laws_heldTermS.mono:∀ a0 a1 k,LeO (laws_heldTermS.f k a0 a1) (laws_heldTermS.f (k + 1) a0 a1):=by
 intro a0 a1 k;obtain ⟨ih0,ih1⟩:=laws_heldTermS.mono_l k
 exact ih0 a0 a1
def laws_heldTermS.T10:Bool × List (List Nat × List Nat):=(true,[([],[]),([],[]),([0,1],[0,1]),([2],[2]),([3],[3]),([],[]),([5],[5]),([4,6],[4,6])])
def laws_heldTermS.B10:List Nat:=[0,0,3,7,15,0,32,127]
theorem laws_heldTermS.tab10:rtab .any (opsOf Try.f21 10) = laws_heldTermS.T10:=by kernel_rfl
theorem laws_heldTermS.bits10:waitsOk laws_heldTermS.T10.2 laws_heldTermS.B10 = true:=by kernel_rfl
set_option maxHeartbeats 8000000 in
set_option maxRecDepth 100000 in
theorem laws_heldTermS.calls (k:Nat):∀ (A0:Option Addr) (c0:Nat) (l0:List (S26)) (a1:Int) (r:Int) (w:World) (hr0:Kd.C k26 w A0 l0.length l0) (hc0:l0.length≤c0) (h:laws_heldTermS.f k l0 a1 = some r),
  Calls Try.prog 21 #[.slice A0 l0.length c0,.int .i64 a1] w fun e w'=>e = .returned (.int .i64 r)∧Below w.heap.size w w':=by
 induction k using Nat.strongRecOn with
 | _ k ih =>
 intro A0 c0 l0 a1 r w hr0 hc0 h
 cases k with
 | zero=>exact absurd h (by simp [laws_heldTermS.f])
 | succ k =>
 simp only [laws_heldTermS.f] at h;have HR0:=Aside0.mk hr0;have HC0:=Aside0.mk hc0;clear hr0 hc0;have HB:=Aside0.mk (Below.refl w.heap.size w);have H:(laws_heldTermS.l0 k l0 a1 0) = some r:=h;clear h;have H':=Aside0.mk H;clear H
 go_enter Try.func21,Try.ntmps21
 go_wp2
 go_loopg [1,5] k (fun kq v1 v5 w'=>∃ (x1_1:Int) (x5_1:Int),v1 = .int .i64 x1_1∧v5 = .int .i64 x5_1∧Aside0 (laws_heldTermS.l0 kq l0 x1_1 x5_1 = some r)∧Aside0 (kq≤k)∧Aside0 (Below w.heap.size w w'))
 case atStart=>exact ⟨(a1),(0),(cl2),(cl2),H',⟨Nat.le_refl _⟩,⟨bl HB.out⟩⟩
 case round =>
  clear H';(try clear HB);obtain ⟨x1_1,x5_1,rfl,rfl,HA,HK1,HB⟩:=hrel
  cases gk with
  | zero=>exact absurd HA.out (by simp [laws_heldTermS.l0])
  | succ k1 =>
   have H:=HA.out;clear HA;simp only [laws_heldTermS.l0] at H
   by_cases c3:x5_1 < (l0.length:Int)
   ·rw [if_pos c3] at H
    have c3b0:decide (x5_1 < (l0.length:Int)) = true:=decide_eq_true c3;clear c3
    by_cases c4:0≤x5_1
    ·rw [if_pos c4] at H
     have c4b0:decide (0≤x5_1) = true:=decide_eq_true c4;clear c4
     by_cases c5:((rd_T26 l0 x5_1).f0) = x1_1
     ·rw [if_pos c5] at H
      have c5b0:(((rd_T26 l0 x5_1).f0) == x1_1) = true:=beq_iff_eq.mpr c5;have c5b1:(((rd_T26 l0 x5_1).f0) != x1_1) = false:=bne_eq_false_iff_eq.mpr c5;clear c5
      by_cases c6:((rd_T26 l0 x5_1).f1) = (wrap64 (x1_1 + 1))
      ·rw [if_pos c6] at H
       have c6b0:(((rd_T26 l0 x5_1).f1) == (wrap64 (x1_1 + 1))) = true:=beq_iff_eq.mpr c6;have c6b1:(((rd_T26 l0 x5_1).f1) != (wrap64 (x1_1 + 1))) = false:=bne_eq_false_iff_eq.mpr c6;clear c6;replace H:=Option.bind_eq_some_iff.mp H;obtain ⟨t215,A70,H⟩:=H;replace H:(if ((rd_T26 l0 x5_1).f2).toList = t215.toList then ((laws_heldTermS.f k1 ((rd_T26 l0 x5_1).f3) (wrap64 ((wrap64 ((wrap64 (x1_1 + 1)) + 1)) + 1))).bind fun t217=>(if t217 < 0 then (some (-1)) else (laws_heldTermS.l0 k1 l0 t217 (wrap64 (x5_1 + 1))))) else (some (-1))) = some r:=H;have A7:=Aside0.mk A70;clear A70;have p212:0≤(x5_1:Int):=od;have q212:x5_1 < (l0.length:Int):=od;obtain ⟨ad212,A212_3,c212_3,e212,hx212_0,hx212_1,hx212_2,hx212_3,hl212_3,hi212_3⟩:=at_T26 HR0.out x5_1 p212 q212;cases e212;replace hx212_0:=cb HB hx212_0;replace hx212_1:=cb HB hx212_1;replace hx212_2:=cb HB hx212_2;replace hx212_3:=cb HB hx212_3;have HR212_3:=Aside0.mk hi212_3;have HC212_3:=Aside0.mk hl212_3;clear hi212_3 hl212_3;replace p212:=eq_true p212;replace q212:=eq_true q212;have p213:0≤(x5_1:Int):=od;have q213:x5_1 < (l0.length:Int):=od;obtain ⟨ad213,A213_3,c213_3,e213,hx213_0,hx213_1,hx213_2,hx213_3,hl213_3,hi213_3⟩:=at_T26 HR0.out x5_1 p213 q213;obtain rfl:ad212 = ad213:=(by injection e213);replace hx213_0:=cb HB hx213_0;replace hx213_1:=cb HB hx213_1;replace hx213_2:=cb HB hx213_2;replace hx213_3:=cb HB hx213_3;have HR213_3:=Aside0.mk hi213_3;have HC213_3:=Aside0.mk hl213_3;clear hi213_3 hl213_3;replace p213:=eq_true p213;replace q213:=eq_true q213;have ea_:=Option.some.inj (hx212_3.symm.trans hx213_3)
       injection ea_ with ea_ en_ ec_
       subst ea_;subst ec_;clear en_
       try go_wp2
       have n_:=dh HB;clear HB;have HB:=n_;clear n_;have p214:0≤(x5_1:Int):=od;have q214:x5_1 < (l0.length:Int):=od;obtain ⟨ad214,A214_3,c214_3,e214,hx214_0,hx214_1,hx214_2,hx214_3,hl214_3,hi214_3⟩:=at_T26 HR0.out x5_1 p214 q214;have hw214_3:=hx214_3;have hw214_2:=hx214_2;have hw214_1:=hx214_1;have hw214_0:=hx214_0;obtain rfl:ad212 = ad214:=(by injection e214);replace hx214_0:=cb HB hx214_0;replace hx214_1:=cb HB hx214_1;replace hx214_2:=cb HB hx214_2;replace hx214_3:=cb HB hx214_3;have HR214_3:=Aside0.mk hi214_3;have HC214_3:=Aside0.mk hl214_3;clear hi214_3 hl214_3;replace p214:=eq_true p214;replace q214:=eq_true q214
       refine start_ (n:=8) (S:=fun w'=>w'.cell? (ad212.add ((x5_1).toNat * 4)) = some (.int .i64 ((rd_T26 l0 x5_1).f0))∧w'.cell? ⟨(ad212.add ((x5_1).toNat * 4)).block,(ad212.add ((x5_1).toNat * 4)).off + 1,none⟩ = some (.int .i64 ((rd_T26 l0 x5_1).f1))∧w'.cell? ⟨(ad212.add ((x5_1).toNat * 4)).block,(ad212.add ((x5_1).toNat * 4)).off + 2,none⟩ = some (.string ((rd_T26 l0 x5_1).f2))∧w'.cell? ⟨(ad212.add ((x5_1).toNat * 4)).block,(ad212.add ((x5_1).toNat * 4)).off + 3,none⟩ = some (.slice A214_3 ((rd_T26 l0 x5_1).f3).length c214_3)) (ds:=[]) #[false,false,false,false,false,false,false,false] (by kernel_rfl) rfl rfl ⟨(cb HB hw214_0 :),(cb HB hw214_1 :),(cb HB hw214_2 :),(cb HB hw214_3 :)⟩ (fun hHeld=>?_);refine with_tabW laws_heldTermS.tab10 laws_heldTermS.bits10 (fun HT_ HW_=>?_)
       generalize wr.drew = w11 at HB HR214_3 hx214_0 hx214_1 hx214_2 hx214_3 hHeld ⊢;refine pu 0 30 ?_;refine pu 1 31 ?_;refine pu 2 32 ?_;refine pu 3 33 ?_;refine pu 5 35 ?_;refine ta 4 34 hHeld ?_
       refine one_ (i:=6) (N:=some 36) #[true,true,true,true,true,true,true,false] rfl rfl (one_of HT_.out (by kernel_rfl)) (by decide) (fun K hK=>?_)
       refine goes_ Try.func19 (by kernel_rfl) rfl #[.int .i64 (wrap64 ((wrap64 (x1_1 + 1)) + 1))] (by rfl) rfl rfl gs ?_
       with_reducible refine (laws_markText.calls k1 (wrap64 ((wrap64 (x1_1 + 1)) + 1)) t215 _ A7.out).mono ?_
       rintro e w12 ⟨rfl,hb⟩
       refine ⟨_,rfl,?_⟩
       have n_:=bq HB hb;clear HB;have HB:=n_;clear n_;(try clear hb)
       refine hK.out _ _ ⟨(cb HB hw214_0 :),(cb HB hw214_1 :),(cb HB hw214_2 :),(cb HB hw214_3 :)⟩ (fun hHeld=>?_)
       clear hK K
       refine norm_ (a':=?_) ?_ ?_
       rotate_left
       ·show Act.put _ (some 36) _ = _
        simp only [Act.put,List.setIfInBounds_toArray,List.set_cons_zero,List.set_cons_succ,i64_w,i32_w]
        rfl
       refine pu 7 37 ?_
       refine done_ (done_of HT_.out (by kernel_rfl)) ?_
       by_cases c8:((rd_T26 l0 x5_1).f2).toList = t215.toList
       ·rw [if_pos c8] at H
        have c8b0:(((rd_T26 l0 x5_1).f2).toList == t215.toList) = true:=beq_iff_eq.mpr c8;have c8b1:(((rd_T26 l0 x5_1).f2).toList != t215.toList) = false:=bne_eq_false_iff_eq.mpr c8;clear c8;replace H:=Option.bind_eq_some_iff.mp H;obtain ⟨t217,A90,H⟩:=H;replace H:(if t217 < 0 then (some (-1)) else (laws_heldTermS.l0 k1 l0 t217 (wrap64 (x5_1 + 1)))) = some r:=H;have A9:=Aside0.mk A90;clear A90;(try simp only [c8b0,c8b1,Bool.not_true,Bool.not_false])
        by_cases c10:t217 < 0
        ·rw [if_pos c10] at H
         have c10b0:decide (t217 < 0) = true:=decide_eq_true c10;clear c10;obtain rfl:=Option.some.inj H;(try simp only [c10b0,Bool.not_true,Bool.not_false]);have p216:0≤(x5_1:Int):=od;have q216:x5_1 < (l0.length:Int):=od;obtain ⟨ad216,A216_3,c216_3,e216,hx216_0,hx216_1,hx216_2,hx216_3,hl216_3,hi216_3⟩:=at_T26 HR0.out x5_1 p216 q216;obtain rfl:ad212 = ad216:=(by injection e216);replace hx216_0:=cb HB hx216_0;replace hx216_1:=cb HB hx216_1;replace hx216_2:=cb HB hx216_2;replace hx216_3:=cb HB hx216_3;have HR216_3:=Aside0.mk hi216_3;have HC216_3:=Aside0.mk hl216_3;clear hi216_3 hl216_3;replace p216:=eq_true p216;replace q216:=eq_true q216;(try clear hHeld)
         try go_wp2_with (first|((with_reducible refine gate_callee (f:=21) rfl ?_);refine goesL_ (some 46) rfl rfl Try.func21 (by kernel_rfl) rfl #[.slice A216_3 ((rd_T26 l0 x5_1).f3).length c216_3,.int .i64 (wrap64 ((wrap64 ((wrap64 (x1_1 + 1)) + 1)) + 1))] rfl gs ?_;(with_reducible refine (ih k1 (by have:=HK1.out;omega) _ _ ((rd_T26 l0 x5_1).f3) (wrap64 ((wrap64 ((wrap64 (x1_1 + 1)) + 1)) + 1)) t217 _ ?side1 ?side2 A9.out).mono ?_);(case side1=>exact ck (Kd.C_below HR216_3.out HB.out));(case side2=>exact HC216_3.out);rintro e w13 ⟨rfl,hb⟩;refine ⟨_,rfl,?_⟩;have n_:=bq HB hb;clear HB;have HB:=n_;clear n_;(try clear hb);(try clear hi)))
         go_ret
         exact ⟨cl,bl HB.out⟩
        ·rw [if_neg c10] at H
         have c10b0:decide (t217 < 0) = false:=decide_eq_false c10;clear c10;have H':=Aside0.mk H;clear H;(try simp only [c10b0,Bool.not_true,Bool.not_false]);have p216:0≤(x5_1:Int):=od;have q216:x5_1 < (l0.length:Int):=od;obtain ⟨ad216,A216_3,c216_3,e216,hx216_0,hx216_1,hx216_2,hx216_3,hl216_3,hi216_3⟩:=at_T26 HR0.out x5_1 p216 q216;obtain rfl:ad212 = ad216:=(by injection e216);replace hx216_0:=cb HB hx216_0;replace hx216_1:=cb HB hx216_1;replace hx216_2:=cb HB hx216_2;replace hx216_3:=cb HB hx216_3;have HR216_3:=Aside0.mk hi216_3;have HC216_3:=Aside0.mk hl216_3;clear hi216_3 hl216_3;replace p216:=eq_true p216;replace q216:=eq_true q216;(try clear hHeld)
         try go_wp2_with (first|((with_reducible refine gate_callee (f:=21) rfl ?_);refine goesL_ (some 46) rfl rfl Try.func21 (by kernel_rfl) rfl #[.slice A216_3 ((rd_T26 l0 x5_1).f3).length c216_3,.int .i64 (wrap64 ((wrap64 ((wrap64 (x1_1 + 1)) + 1)) + 1))] rfl gs ?_;(with_reducible refine (ih k1 (by have:=HK1.out;omega) _ _ ((rd_T26 l0 x5_1).f3) (wrap64 ((wrap64 ((wrap64 (x1_1 + 1)) + 1)) + 1)) t217 _ ?side1 ?side2 A9.out).mono ?_);(case side1=>exact ck (Kd.C_below HR216_3.out HB.out));(case side2=>exact HC216_3.out);rintro e w16 ⟨rfl,hb⟩;refine ⟨_,rfl,?_⟩;have n_:=bq HB hb;clear HB;have HB:=n_;clear n_;(try clear hb);(try clear hi)))
         go_roundg k1
         case measure=>have:=HK1.out;omega
         case rel=>exact ⟨(t217),(wrap64 (x5_1 + 1)),(cl2),(cl2),H',⟨by have:=HK1.out;omega⟩,⟨bl HB.out⟩⟩
       ·rw [if_neg c8] at H
        have c8b0:(((rd_T26 l0 x5_1).f2).toList == t215.toList) = false:=beq_eq_false_iff_ne.mpr c8;have c8b1:(((rd_T26 l0 x5_1).f2).toList != t215.toList) = true:=bne_iff_ne.mpr c8;obtain rfl:=Option.some.inj H;(try simp only [c8b0,c8b1,Bool.not_true,Bool.not_false])
        try go_wp2
        go_ret
        exact ⟨cl,bl HB.out⟩
      ·rw [if_neg c6] at H
       have c6b0:(((rd_T26 l0 x5_1).f1) == (wrap64 (x1_1 + 1))) = false:=beq_eq_false_iff_ne.mpr c6;have c6b1:(((rd_T26 l0 x5_1).f1) != (wrap64 (x1_1 + 1))) = true:=bne_iff_ne.mpr c6;obtain rfl:=Option.some.inj H;have p212:0≤(x5_1:Int):=od;have q212:x5_1 < (l0.length:Int):=od;obtain ⟨ad212,A212_3,c212_3,e212,hx212_0,hx212_1,hx212_2,hx212_3,hl212_3,hi212_3⟩:=at_T26 HR0.out x5_1 p212 q212;cases e212;replace hx212_0:=cb HB hx212_0;replace hx212_1:=cb HB hx212_1;replace hx212_2:=cb HB hx212_2;replace hx212_3:=cb HB hx212_3;have HR212_3:=Aside0.mk hi212_3;have HC212_3:=Aside0.mk hl212_3;clear hi212_3 hl212_3;replace p212:=eq_true p212;replace q212:=eq_true q212;have p213:0≤(x5_1:Int):=od;have q213:x5_1 < (l0.length:Int):=od;obtain ⟨ad213,A213_3,c213_3,e213,hx213_0,hx213_1,hx213_2,hx213_3,hl213_3,hi213_3⟩:=at_T26 HR0.out x5_1 p213 q213;obtain rfl:ad212 = ad213:=(by injection e213);replace hx213_0:=cb HB hx213_0;replace hx213_1:=cb HB hx213_1;replace hx213_2:=cb HB hx213_2;replace hx213_3:=cb HB hx213_3;have HR213_3:=Aside0.mk hi213_3;have HC213_3:=Aside0.mk hl213_3;clear hi213_3 hl213_3;replace p213:=eq_true p213;replace q213:=eq_true q213;have ea_:=Option.some.inj (hx212_3.symm.trans hx213_3)
       injection ea_ with ea_ en_ ec_
       subst ea_;subst ec_;clear en_
       go_wp2
       go_ret
       exact ⟨cl,bl HB.out⟩
     ·rw [if_neg c5] at H
      have c5b0:(((rd_T26 l0 x5_1).f0) == x1_1) = false:=beq_eq_false_iff_ne.mpr c5;have c5b1:(((rd_T26 l0 x5_1).f0) != x1_1) = true:=bne_iff_ne.mpr c5;obtain rfl:=Option.some.inj H;have p212:0≤(x5_1:Int):=od;have q212:x5_1 < (l0.length:Int):=od;obtain ⟨ad212,A212_3,c212_3,e212,hx212_0,hx212_1,hx212_2,hx212_3,hl212_3,hi212_3⟩:=at_T26 HR0.out x5_1 p212 q212;cases e212;replace hx212_0:=cb HB hx212_0;replace hx212_1:=cb HB hx212_1;replace hx212_2:=cb HB hx212_2;replace hx212_3:=cb HB hx212_3;have HR212_3:=Aside0.mk hi212_3;have HC212_3:=Aside0.mk hl212_3;clear hi212_3 hl212_3;replace p212:=eq_true p212;replace q212:=eq_true q212
      go_wp2
      go_ret
      exact ⟨cl,bl HB.out⟩
    ·rw [if_neg c4] at H
     exact absurd H (by simp)
   ·rw [if_neg c3] at H
    have c3b0:decide (x5_1 < (l0.length:Int)) = false:=decide_eq_false c3;clear c3;obtain rfl:=Option.some.inj H
    go_wp2
    go_ret
    exact ⟨cl,bl HB.out⟩

/-! ### laws_heldTerm: function 12 -/
def laws_heldTerm.f (k:Nat) (a0_0:Int) (a0_1:Int) (a0_2:ByteArray) (l0_3:List (S26)) (a1:Int):Option (Int):=(laws_heldTermS.f k l0_3 a1).bind fun t219=>(if t219 < 0 then (some (-1)) else (some t219))
theorem laws_heldTerm.mono:∀ a0 a1 a2 a3 a4 k,LeO (laws_heldTerm.f k a0 a1 a2 a3 a4) (laws_heldTerm.f (k + 1) a0 a1 a2 a3 a4):=by
 intro a0 a1 a2 a3 a4 k
 unfold laws_heldTerm.f
 with_reducible repeat' first|apply laws_heldTermS.mono|apply LeO.refl|apply LeO.none|apply LeO.ite|refine LeO.bind ?_ (fun _=>?_)
set_option maxHeartbeats 8000000 in
set_option maxRecDepth 100000 in
theorem laws_heldTerm.calls (k:Nat) (a0_0:Int) (a0_1:Int) (a0_2:ByteArray) (A0_3:Option Addr) (c0_3:Nat) (l0_3:List (S26)) (a1:Int) (r:Int) (w:World) (hr0_3:Kd.C k26 w A0_3 l0_3.length l0_3) (hc0_3:l0_3.length≤c0_3) (h:laws_heldTerm.f k a0_0 a0_1 a0_2 l0_3 a1 = some r) :
  Calls Try.prog 12 #[.agg #[.int .i64 a0_0,.int .i64 a0_1,.string a0_2,.slice A0_3 l0_3.length c0_3],.int .i64 a1] w fun e w'=>e = .returned (.int .i64 r)∧Below w.heap.size w w':=by
 have hu26:=Try.underlying26;have HR0_3:=Aside0.mk hr0_3;have HC0_3:=Aside0.mk hc0_3;clear hr0_3 hc0_3;have HB:=Aside0.mk (Below.refl w.heap.size w);have H:((laws_heldTermS.f k l0_3 a1).bind fun t219=>(if t219 < 0 then (some (-1)) else (some t219))) = some r:=h;clear h;replace H:=Option.bind_eq_some_iff.mp H;obtain ⟨t219,A30,H⟩:=H;replace H:(if t219 < 0 then (some (-1)) else (some t219)) = some r:=H;have A3:=Aside0.mk A30;clear A30
 by_cases c4:t219 < 0
 ·rw [if_pos c4] at H
  have c4b0:decide (t219 < 0) = true:=decide_eq_true c4;clear c4;obtain rfl:=Option.some.inj H
  go_enter Try.func12,Try.ntmps12
  go_wp2_with (first|((with_reducible refine gate_dst (N:=2) rfl ?_);refine box_event ?hg (N:=2) ?hd (cs:=#[.int .i64 a0_0,.int .i64 a0_1,.string a0_2,.slice A0_3 l0_3.length c0_3]) (t:=26) ?hr ?_;(case hd=>rfl);(case hg=>rfl);(case hr=>first|(go_simp;done)|(go_simp;rfl));intro gb218 hg w5 hbox hb;have n_:=ai (bq HB hb) <| ai (Aside0.mk (hbox)) <| ai (bz hg HB) <| bz hg HB;clear HB;obtain ⟨HB,BK218,GW218,GE218⟩:=n_;clear hb hbox hg;obtain ⟨h6_0,h6_1,h6_2,h6_3⟩:=kb4 BK218.out;obtain ⟨z6_0,z6_1,z6_2,z6_3⟩:=kz4 BK218.out)|((with_reducible refine gate_callee (f:=21) rfl ?_);refine goesL_ (some 8) rfl rfl Try.func21 (by kernel_rfl) rfl #[.slice A0_3 l0_3.length c0_3,.int .i64 a1] rfl gs ?_;(with_reducible refine (laws_heldTermS.calls k _ _ l0_3 a1 t219 _ ?side1 ?side2 A3.out).mono ?_);(case side1=>exact ck (Kd.C_below HR0_3.out HB.out));(case side2=>exact HC0_3.out);rintro e w7 ⟨rfl,hb⟩;refine ⟨_,rfl,?_⟩;have n_:=ai (bw BK218 hb) <| bq HB hb;clear BK218 HB;obtain ⟨BK218,HB⟩:=n_;(try clear hb);(try clear hi)))
  go_ret
  exact ⟨cl,bl HB.out⟩
 ·rw [if_neg c4] at H
  have c4b0:decide (t219 < 0) = false:=decide_eq_false c4;clear c4;obtain rfl:=Option.some.inj H
  go_enter Try.func12,Try.ntmps12
  go_wp2_with (first|((with_reducible refine gate_dst (N:=2) rfl ?_);refine box_event ?hg (N:=2) ?hd (cs:=#[.int .i64 a0_0,.int .i64 a0_1,.string a0_2,.slice A0_3 l0_3.length c0_3]) (t:=26) ?hr ?_;(case hd=>rfl);(case hg=>rfl);(case hr=>first|(go_simp;done)|(go_simp;rfl));intro gb218 hg w8 hbox hb;have n_:=ai (bq HB hb) <| ai (Aside0.mk (hbox)) <| ai (bz hg HB) <| bz hg HB;clear HB;obtain ⟨HB,BK218,GW218,GE218⟩:=n_;clear hb hbox hg;obtain ⟨h9_0,h9_1,h9_2,h9_3⟩:=kb4 BK218.out;obtain ⟨z9_0,z9_1,z9_2,z9_3⟩:=kz4 BK218.out)|((with_reducible refine gate_callee (f:=21) rfl ?_);refine goesL_ (some 8) rfl rfl Try.func21 (by kernel_rfl) rfl #[.slice A0_3 l0_3.length c0_3,.int .i64 a1] rfl gs ?_;(with_reducible refine (laws_heldTermS.calls k _ _ l0_3 a1 t219 _ ?side1 ?side2 A3.out).mono ?_);(case side1=>exact ck (Kd.C_below HR0_3.out HB.out));(case side2=>exact HC0_3.out);rintro e w10 ⟨rfl,hb⟩;refine ⟨_,rfl,?_⟩;have n_:=ai (bw BK218 hb) <| bq HB hb;clear BK218 HB;obtain ⟨BK218,HB⟩:=n_;(try clear hb);(try clear hi)))
  go_ret
  exact ⟨cl,bl HB.out⟩

end Go.Proofs.Ytmcmhpiknhjiaaa.QFnExactBindOf
