-- Written by a program of this workplace (print2.py) for this claim, over the print's words.
import Derived.Test.YtghhbdmjafedbaaQFnExactCodeOkx0
import Derived.Test.YtghhbdmjafedbaaQFnExactCodeOkx18
namespace Go.Proofs.Ytghhbdmjafedbaa.QFnExactCodeOk
open Go.RowKit Go.Proofs.YtghhbdmjafedbaaW.PrintWords Go.Proofs.YtghhbdmjafedbaaW.PrintLast Go.Proofs.YtghhbdmjafedbaaW.PrintMore
attribute [local go_sem] max2_int min2_int max_two min_two max_three min_three max_four min_four   -- for this text's walks alone
set_option linter.unusedVariables false
set_option linter.unusedSimpArgs false

/-! ### laws_eqFnS: function 16 -/
def laws_eqFnS.l0:Nat → List (S44) → List (S44) → Int → Option (Bool)
 | 0,_,_,_=>none
 | k + 1,x0,x1,x5=>if x5 < (x0.length:Int) then (if 0≤x5 then (if x5 < (x1.length:Int) then ((laws_eqFn.f k ((rd_T44 x0 x5).f0) ((rd_T44 x0 x5).f1) ((rd_T44 x0 x5).f2) ((rd_T44 x0 x5).f3) ((rd_T44 x1 x5).f0) ((rd_T44 x1 x5).f1) ((rd_T44 x1 x5).f2) ((rd_T44 x1 x5).f3)).bind fun t397=>(if t397 = true then (laws_eqFnS.l0 k x0 x1 (wrap64 (x5 + 1))) else (some false))) else (none)) else (none)) else (some true)
def laws_eqFnS.f (k:Nat) (l0:List (S44)) (l1:List (S44)):Option (Bool):=if (l0.length:Int) = (l1.length:Int) then (laws_eqFnS.l0 k l0 l1 0) else (some false)
theorem laws_eqFnS.mono_l:∀ k,(∀ y0 y1 y2,LeO (laws_eqFnS.l0 k y0 y1 y2) (laws_eqFnS.l0 (k + 1) y0 y1 y2))
 | 0=>fun _ _ _ r h=>by simp [laws_eqFnS.l0] at h
 | k + 1=>by
  have ih0:=laws_eqFnS.mono_l k
  ·intro y0 y1 y2
   unfold laws_eqFnS.l0
   with_reducible repeat' first|apply ih0|apply laws_eqFn.mono|apply LeO.refl|apply LeO.none|apply LeO.ite|refine LeO.bind ?_ (fun _=>?_)
theorem laws_eqFnS.mono:∀ a0 a1 k,LeO (laws_eqFnS.f k a0 a1) (laws_eqFnS.f (k + 1) a0 a1):=by
 intro a0 a1 k;have ih0:=laws_eqFnS.mono_l k
 unfold laws_eqFnS.f
 with_reducible repeat' first|apply ih0|apply laws_eqFn.mono|apply LeO.refl|apply LeO.none|apply LeO.ite|refine LeO.bind ?_ (fun _=>?_)
def laws_eqFnS.T6:Bool × List (List Nat × List Nat):=(true,[([],[]),([],[]),([0,1],[0,1]),([2],[2]),([],[]),([],[]),([4,5],[4,5]),([6],[6]),([3,7],[3,7]),([8],[8])])
def laws_eqFnS.B6:List Nat:=[0,0,3,7,0,0,48,112,255,511]
theorem laws_eqFnS.tab6:rtab .any (opsOf Try.f16 6) = laws_eqFnS.T6:=by kernel_rfl
theorem laws_eqFnS.bits6:waitsOk laws_eqFnS.T6.2 laws_eqFnS.B6 = true:=by kernel_rfl
set_option maxHeartbeats 8000000 in
set_option maxRecDepth 100000 in
theorem laws_eqFnS.calls (k:Nat) (A0:Option Addr) (c0:Nat) (l0:List (S44)) (A1:Option Addr) (c1:Nat) (l1:List (S44)) (r:Bool) (w:World) (hr0:Kd.C k44 w A0 l0.length l0) (hc0:l0.length≤c0) (hr1:Kd.C k44 w A1 l1.length l1) (hc1:l1.length≤c1) (h:laws_eqFnS.f k l0 l1 = some r) :
  Calls Try.prog 16 #[.slice A0 l0.length c0,.slice A1 l1.length c1] w fun e w'=>e = .returned (.bool r)∧Below w.heap.size w w':=by
 have hu44:=Try.underlying44;have HR0:=Aside0.mk hr0;have HC0:=Aside0.mk hc0;clear hr0 hc0;have HR1:=Aside0.mk hr1;have HC1:=Aside0.mk hc1;clear hr1 hc1;have HB:=Aside0.mk (Below.refl w.heap.size w);have H:(if (l0.length:Int) = (l1.length:Int) then (laws_eqFnS.l0 k l0 l1 0) else (some false)) = some r:=h;clear h
 by_cases c3:(l0.length:Int) = (l1.length:Int)
 ·rw [if_pos c3] at H
  have c3b0:((l0.length:Int) == (l1.length:Int)) = true:=beq_iff_eq.mpr c3;have c3b1:((l0.length:Int) != (l1.length:Int)) = false:=bne_eq_false_iff_eq.mpr c3;have c3b2:(l0.length == l1.length) = true:=by first|simpa using c3|(simp at c3 ⊢;omega)
  clear c3;have H':=Aside0.mk H;clear H
  go_enter Try.func16,Try.ntmps16
  go_wp2
  go_loopg [5] k (fun kq v5 w'=>∃ (x5_1:Int),v5 = .int .i64 x5_1∧Aside0 (laws_eqFnS.l0 kq l0 l1 x5_1 = some r)∧Aside0 (kq≤k)∧Aside0 (Below w.heap.size w w'))
  case atStart=>exact ⟨(0),(cl2),H',⟨Nat.le_refl _⟩,⟨bl HB.out⟩⟩
  case round =>
   clear H';(try clear c1);(try clear p2);(try clear c3);(try clear c3b0);(try clear c3b1);(try clear c3b2);(try clear HB);obtain ⟨x5_1,rfl,HA,HK1,HB⟩:=hrel
   cases gk with
   | zero=>exact absurd HA.out (by simp [laws_eqFnS.l0])
   | succ k1 =>
    have H:=HA.out;clear HA;simp only [laws_eqFnS.l0] at H
    by_cases c4:x5_1 < (l0.length:Int)
    ·rw [if_pos c4] at H
     have c4b0:decide (x5_1 < (l0.length:Int)) = true:=decide_eq_true c4;clear c4
     by_cases c5:0≤x5_1
     ·rw [if_pos c5] at H
      have c5b0:decide (0≤x5_1) = true:=decide_eq_true c5;clear c5
      by_cases c6:x5_1 < (l1.length:Int)
      ·rw [if_pos c6] at H
       have c6b0:decide (x5_1 < (l1.length:Int)) = true:=decide_eq_true c6;clear c6;replace H:=Option.bind_eq_some_iff.mp H;obtain ⟨t397,A70,H⟩:=H;replace H:(if t397 = true then (laws_eqFnS.l0 k1 l0 l1 (wrap64 (x5_1 + 1))) else (some false)) = some r:=H;have A7:=Aside0.mk A70;clear A70
       try go_wp2
       have n_:=dh HB;clear HB;have HB:=n_;clear n_;have p395:0≤(x5_1:Int):=od;have q395:x5_1 < (l0.length:Int):=od;obtain ⟨ad395,A395_3,c395_3,e395,hx395_0,hx395_1,hx395_2,hx395_3,hl395_3,hi395_3⟩:=at_T44 HR0.out x5_1 p395 q395;have hw395_3:=hx395_3;have hw395_2:=hx395_2;have hw395_1:=hx395_1;have hw395_0:=hx395_0;cases e395;replace hx395_0:=cb HB hx395_0;replace hx395_1:=cb HB hx395_1;replace hx395_2:=cb HB hx395_2;replace hx395_3:=cb HB hx395_3;have HR395_3:=Aside0.mk hi395_3;have HC395_3:=Aside0.mk hl395_3;clear hi395_3 hl395_3;replace p395:=eq_true p395;replace q395:=eq_true q395;have p396:0≤(x5_1:Int):=od;have q396:x5_1 < (l1.length:Int):=od;obtain ⟨ad396,A396_3,c396_3,e396,hx396_0,hx396_1,hx396_2,hx396_3,hl396_3,hi396_3⟩:=at_T44 HR1.out x5_1 p396 q396;have hw396_3:=hx396_3;have hw396_2:=hx396_2;have hw396_1:=hx396_1;have hw396_0:=hx396_0;cases e396;replace hx396_0:=cb HB hx396_0;replace hx396_1:=cb HB hx396_1;replace hx396_2:=cb HB hx396_2;replace hx396_3:=cb HB hx396_3;have HR396_3:=Aside0.mk hi396_3;have HC396_3:=Aside0.mk hl396_3;clear hi396_3 hl396_3;replace p396:=eq_true p396;replace q396:=eq_true q396
       refine start_ (n:=10) (S:=fun w'=>w'.cell? (ad395.add ((x5_1).toNat * 4)) = some (.string ((rd_T44 l0 x5_1).f0))∧w'.cell? ⟨(ad395.add ((x5_1).toNat * 4)).block,(ad395.add ((x5_1).toNat * 4)).off + 1,none⟩ = some (.int .i64 ((rd_T44 l0 x5_1).f1))∧w'.cell? ⟨(ad395.add ((x5_1).toNat * 4)).block,(ad395.add ((x5_1).toNat * 4)).off + 2,none⟩ = some (.int .i64 ((rd_T44 l0 x5_1).f2))∧w'.cell? ⟨(ad395.add ((x5_1).toNat * 4)).block,(ad395.add ((x5_1).toNat * 4)).off + 3,none⟩ = some (.slice A395_3 ((rd_T44 l0 x5_1).f3).length c395_3)∧w'.cell? (ad396.add ((x5_1).toNat * 4)) = some (.string ((rd_T44 l1 x5_1).f0))∧w'.cell? ⟨(ad396.add ((x5_1).toNat * 4)).block,(ad396.add ((x5_1).toNat * 4)).off + 1,none⟩ = some (.int .i64 ((rd_T44 l1 x5_1).f1))∧w'.cell? ⟨(ad396.add ((x5_1).toNat * 4)).block,(ad396.add ((x5_1).toNat * 4)).off + 2,none⟩ = some (.int .i64 ((rd_T44 l1 x5_1).f2))∧w'.cell? ⟨(ad396.add ((x5_1).toNat * 4)).block,(ad396.add ((x5_1).toNat * 4)).off + 3,none⟩ = some (.slice A396_3 ((rd_T44 l1 x5_1).f3).length c396_3)) (ds:=[]) #[false,false,false,false,false,false,false,false,false,false] (by kernel_rfl) rfl rfl ⟨(cb HB hw395_0 :),(cb HB hw395_1 :),(cb HB hw395_2 :),(cb HB hw395_3 :),(cb HB hw396_0 :),(cb HB hw396_1 :),(cb HB hw396_2 :),(cb HB hw396_3 :)⟩ (fun hHeld=>?_);refine with_tabW laws_eqFnS.tab6 laws_eqFnS.bits6 (fun HT_ HW_=>?_)
       generalize wr.drew = w9 at HB HR395_3 HR396_3 hx395_0 hx395_1 hx395_2 hx395_3 hx396_0 hx396_1 hx396_2 hx396_3 hHeld ⊢;refine pu 0 17 ?_;refine pu 1 18 ?_;refine pu 2 19 ?_;refine pu 4 21 ?_;refine pu 5 22 ?_;refine pu 6 23 ?_;refine ta 3 20 hHeld ?_;refine ta 7 24 hHeld ?_
       refine one_ (i:=8) (N:=some 25) #[true,true,true,true,true,true,true,true,true,false] rfl rfl (one_of HT_.out (by kernel_rfl)) (by decide) (fun K hK=>?_)
       refine goes_ Try.func33 (by kernel_rfl) rfl #[.agg #[.string ((rd_T44 l0 x5_1).f0),.int .i64 ((rd_T44 l0 x5_1).f1),.int .i64 ((rd_T44 l0 x5_1).f2),.slice A395_3 ((rd_T44 l0 x5_1).f3).length c395_3],.agg #[.string ((rd_T44 l1 x5_1).f0),.int .i64 ((rd_T44 l1 x5_1).f1),.int .i64 ((rd_T44 l1 x5_1).f2),.slice A396_3 ((rd_T44 l1 x5_1).f3).length c396_3]] (by rfl) rfl rfl gs ?_
       with_reducible refine (laws_eqFn.calls k1 ((rd_T44 l0 x5_1).f0) ((rd_T44 l0 x5_1).f1) ((rd_T44 l0 x5_1).f2) _ _ ((rd_T44 l0 x5_1).f3) ((rd_T44 l1 x5_1).f0) ((rd_T44 l1 x5_1).f1) ((rd_T44 l1 x5_1).f2) _ _ ((rd_T44 l1 x5_1).f3) t397 _ ?side1 ?side2 ?side3 ?side4 A7.out).mono ?_
       (case side1=>exact ck (Kd.C_below HR395_3.out HB.out))
       (case side2=>exact HC395_3.out)
       (case side3=>exact ck (Kd.C_below HR396_3.out HB.out))
       (case side4=>exact HC396_3.out)
       rintro e w10 ⟨rfl,hb⟩
       refine ⟨_,rfl,?_⟩
       have n_:=bq HB hb;clear HB;have HB:=n_;clear n_;(try clear hb);(try clear hb2);(try clear hk);(try clear hi)
       refine hK.out _ _ ⟨(cb HB hw395_0 :),(cb HB hw395_1 :),(cb HB hw395_2 :),(cb HB hw395_3 :),(cb HB hw396_0 :),(cb HB hw396_1 :),(cb HB hw396_2 :),(cb HB hw396_3 :)⟩ (fun hHeld=>?_)
       clear hK K
       refine norm_ (a':=?_) ?_ ?_
       rotate_left
       ·show Act.put _ (some 25) _ = _
        simp only [Act.put,List.setIfInBounds_toArray,List.set_cons_zero,List.set_cons_succ,i64_w,i32_w]
        rfl
       refine pu 9 26 ?_
       refine done_ (done_of HT_.out (by kernel_rfl)) ?_
       by_cases c8:t397 = true
       ·subst c8
        have H1:(laws_eqFnS.l0 k1 l0 l1 (wrap64 (x5_1 + 1))) = some r:=by rw [if_pos rfl] at H;exact H
        clear H;have H:=H1;clear H1;have H':=Aside0.mk H;clear H
        try go_wp2
        go_roundg k1
        case measure=>have:=HK1.out;omega
        case rel=>exact ⟨(wrap64 (x5_1 + 1)),(cl2),H',⟨by have:=HK1.out;omega⟩,⟨bl HB.out⟩⟩
       ·replace c8:=Bool.eq_false_iff.mpr c8
        subst c8;have H1:(some false) = some r:=by rw [if_neg (show ¬ (false = true) by decide)] at H;exact H
        clear H;have H:=H1;clear H1;obtain rfl:=Option.some.inj H
        try go_wp2
        go_ret
        exact ⟨cl,bl HB.out⟩
      ·rw [if_neg c6] at H
       exact absurd H (by simp)
     ·rw [if_neg c5] at H
      exact absurd H (by simp)
    ·rw [if_neg c4] at H
     have c4b0:decide (x5_1 < (l0.length:Int)) = false:=decide_eq_false c4;clear c4;obtain rfl:=Option.some.inj H
     go_wp2
     go_ret
     exact ⟨cl,bl HB.out⟩
 ·rw [if_neg c3] at H
  have c3b0:((l0.length:Int) == (l1.length:Int)) = false:=beq_eq_false_iff_ne.mpr c3;have c3b1:((l0.length:Int) != (l1.length:Int)) = true:=bne_iff_ne.mpr c3;have c3b2:(l0.length == l1.length) = false:=by first|simpa using c3|(simp at c3 ⊢;omega)
  obtain rfl:=Option.some.inj H
  go_enter Try.func16,Try.ntmps16
  go_wp2
  go_ret
  exact ⟨cl,bl HB.out⟩

end Go.Proofs.Ytghhbdmjafedbaa.QFnExactCodeOk
