-- Written by a program of this workplace (print2.py) for this claim, over the print's words.
import Derived.Test.YtiooogcjoobjnaaQFnExactOperatex0
namespace Go.Proofs.Ytiooogcjoobjnaa.QFnExactOperate
open Go.RowKit Go.Proofs.YtiooogcjoobjnaaW.PrintWords Go.Proofs.YtiooogcjoobjnaaW.PrintLast Go.Proofs.YtiooogcjoobjnaaW.PrintMore
attribute [local go_sem] binOp_string_gtr max2_int min2_int max_two min_two max_three min_three max_four min_four   -- for this text's walks alone
set_option linter.unusedVariables false
set_option linter.unusedSimpArgs false

/-! ### spec_SameTerm: function 24 -/
mutual
def spec_SameTerm.j0:Nat → Bool → Int → Int → ByteArray → List (S28) → Int → Int → ByteArray → List (S28) → Option (Bool)
 | 0,_,_,_,_,_,_,_,_,_=>none
 | k + 1,x33,x120000,x120001,x120002,x120003,x121000,x121001,x121002,x121003=>if x33 = true then (some false) else (spec_SameTerm.l0 k 0 x120000 x120001 x120002 x120003 x121000 x121001 x121002 x121003)
def spec_SameTerm.l0:Nat → Int → Int → Int → ByteArray → List (S28) → Int → Int → ByteArray → List (S28) → Option (Bool)
 | 0,_,_,_,_,_,_,_,_,_=>none
 | k + 1,x5,x120000,x120001,x120002,x120003,x121000,x121001,x121002,x121003=>if x5 < (x120003.length:Int) then (if 0≤x5 then (if x5 < (x121003.length:Int) then ((spec_SameTerm.f k ((rd_T28 x120003 x5).f0) ((rd_T28 x120003 x5).f1) ((rd_T28 x120003 x5).f2) ((rd_T28 x120003 x5).f3) ((rd_T28 x121003 x5).f0) ((rd_T28 x121003 x5).f1) ((rd_T28 x121003 x5).f2) ((rd_T28 x121003 x5).f3)).bind fun t123=>(if t123 = true then (spec_SameTerm.l0 k (wrap64 (x5 + 1)) x120000 x120001 x120002 x120003 x121000 x121001 x121002 x121003) else (some false))) else (none)) else (none)) else (some true)
def spec_SameTerm.f:Nat → Int → Int → ByteArray → List (S28) → Int → Int → ByteArray → List (S28) → Option (Bool)
 | 0,_,_,_,_,_,_,_,_=>none
 | k + 1,a0_0,a0_1,a0_2,l0_3,a1_0,a1_1,a1_2,l1_3=>if a0_0 = a1_0 then (if a0_1 = a1_1 then (if a0_2.toList = a1_2.toList then (spec_SameTerm.j0 k ((l0_3.length:Int) != (l1_3.length:Int)) a0_0 a0_1 a0_2 l0_3 a1_0 a1_1 a1_2 l1_3) else (spec_SameTerm.j0 k true a0_0 a0_1 a0_2 l0_3 a1_0 a1_1 a1_2 l1_3)) else (spec_SameTerm.j0 k true a0_0 a0_1 a0_2 l0_3 a1_0 a1_1 a1_2 l1_3)) else (spec_SameTerm.j0 k true a0_0 a0_1 a0_2 l0_3 a1_0 a1_1 a1_2 l1_3)
end
theorem spec_SameTerm.mono_l:∀ k,(∀ y0 y1 y2 y3 y4 y5 y6 y7,LeO (spec_SameTerm.f k y0 y1 y2 y3 y4 y5 y6 y7) (spec_SameTerm.f (k + 1) y0 y1 y2 y3 y4 y5 y6 y7))∧(∀ y0 y1 y2 y3 y4 y5 y6 y7 y8,LeO (spec_SameTerm.j0 k y0 y1 y2 y3 y4 y5 y6 y7 y8) (spec_SameTerm.j0 (k + 1) y0 y1 y2 y3 y4 y5 y6 y7 y8))∧(∀ y0 y1 y2 y3 y4 y5 y6 y7 y8,LeO (spec_SameTerm.l0 k y0 y1 y2 y3 y4 y5 y6 y7 y8) (spec_SameTerm.l0 (k + 1) y0 y1 y2 y3 y4 y5 y6 y7 y8))
 | 0=>⟨fun _ _ _ _ _ _ _ _ r h=>by simp [spec_SameTerm.f] at h,fun _ _ _ _ _ _ _ _ _ r h=>by simp [spec_SameTerm.j0] at h,fun _ _ _ _ _ _ _ _ _ r h=>by simp [spec_SameTerm.l0] at h⟩
 | k + 1=>by
  obtain ⟨ih0,ih1,ih2⟩:=spec_SameTerm.mono_l k
  refine ⟨?_,?_,?_⟩
  ·intro y0 y1 y2 y3 y4 y5 y6 y7
   unfold spec_SameTerm.f
   with_reducible repeat' first|apply ih0|apply ih1|apply ih2|apply LeO.refl|apply LeO.none|apply LeO.ite|refine LeO.bind ?_ (fun _=>?_)
  ·intro y0 y1 y2 y3 y4 y5 y6 y7 y8
   unfold spec_SameTerm.j0
   with_reducible repeat' first|apply ih0|apply ih1|apply ih2|apply LeO.refl|apply LeO.none|apply LeO.ite|refine LeO.bind ?_ (fun _=>?_)
  ·intro y0 y1 y2 y3 y4 y5 y6 y7 y8
   unfold spec_SameTerm.l0
   with_reducible repeat' first|apply ih0|apply ih1|apply ih2|apply LeO.refl|apply LeO.none|apply LeO.ite|refine LeO.bind ?_ (fun _=>?_)
theorem spec_SameTerm.mono:∀ a0 a1 a2 a3 a4 a5 a6 a7 k,LeO (spec_SameTerm.f k a0 a1 a2 a3 a4 a5 a6 a7) (spec_SameTerm.f (k + 1) a0 a1 a2 a3 a4 a5 a6 a7):=by
 intro a0 a1 a2 a3 a4 a5 a6 a7 k;obtain ⟨ih0,ih1,ih2⟩:=spec_SameTerm.mono_l k
 exact ih0 a0 a1 a2 a3 a4 a5 a6 a7
def spec_SameTerm.T6:Bool × List (List Nat × List Nat):=(true,[([],[]),([0],[0]),([],[]),([1,2],[1,2]),([3],[3]),([],[]),([5],[5]),([],[]),([6,7],[6,7]),([8],[8]),([4,9],[4,9]),([10],[10])])
def spec_SameTerm.B6:List Nat:=[0,1,0,7,15,0,32,0,224,480,1023,2047]
theorem spec_SameTerm.tab6:rtab .any (opsOf Try.f24 6) = spec_SameTerm.T6:=by kernel_rfl
theorem spec_SameTerm.bits6:waitsOk spec_SameTerm.T6.2 spec_SameTerm.B6 = true:=by kernel_rfl
set_option maxHeartbeats 8000000 in
set_option maxRecDepth 100000 in
theorem spec_SameTerm.calls (k:Nat):∀ (a0_0:Int) (a0_1:Int) (a0_2:ByteArray) (A0_3:Option Addr) (c0_3:Nat) (l0_3:List (S28)) (a1_0:Int) (a1_1:Int) (a1_2:ByteArray) (A1_3:Option Addr) (c1_3:Nat) (l1_3:List (S28)) (r:Bool) (w:World) (hr0_3:Kd.C k28 w A0_3 l0_3.length l0_3) (hc0_3:l0_3.length≤c0_3) (hr1_3:Kd.C k28 w A1_3 l1_3.length l1_3) (hc1_3:l1_3.length≤c1_3) (h:spec_SameTerm.f k a0_0 a0_1 a0_2 l0_3 a1_0 a1_1 a1_2 l1_3 = some r),
  Calls Try.prog 24 #[.agg #[.int .i64 a0_0,.int .i64 a0_1,.string a0_2,.slice A0_3 l0_3.length c0_3],.agg #[.int .i64 a1_0,.int .i64 a1_1,.string a1_2,.slice A1_3 l1_3.length c1_3]] w fun e w'=>e = .returned (.bool r)∧Below w.heap.size w w':=by
 induction k using Nat.strongRecOn with
 | _ k ih =>
 intro a0_0 a0_1 a0_2 A0_3 c0_3 l0_3 a1_0 a1_1 a1_2 A1_3 c1_3 l1_3 r w hr0_3 hc0_3 hr1_3 hc1_3 h
 cases k with
 | zero=>exact absurd h (by simp [spec_SameTerm.f])
 | succ k =>
 simp only [spec_SameTerm.f] at h;have hu28:=Try.underlying28;have HR0_3:=Aside0.mk hr0_3;have HC0_3:=Aside0.mk hc0_3;clear hr0_3 hc0_3;have HR1_3:=Aside0.mk hr1_3;have HC1_3:=Aside0.mk hc1_3;clear hr1_3 hc1_3;have HB:=Aside0.mk (Below.refl w.heap.size w);have H:(if a0_0 = a1_0 then (if a0_1 = a1_1 then (if a0_2.toList = a1_2.toList then (spec_SameTerm.j0 k ((l0_3.length:Int) != (l1_3.length:Int)) a0_0 a0_1 a0_2 l0_3 a1_0 a1_1 a1_2 l1_3) else (spec_SameTerm.j0 k true a0_0 a0_1 a0_2 l0_3 a1_0 a1_1 a1_2 l1_3)) else (spec_SameTerm.j0 k true a0_0 a0_1 a0_2 l0_3 a1_0 a1_1 a1_2 l1_3)) else (spec_SameTerm.j0 k true a0_0 a0_1 a0_2 l0_3 a1_0 a1_1 a1_2 l1_3)) = some r:=h;clear h;have HC3:=Aside0.mk H;clear H
 go_enter Try.func24,Try.ntmps24
 go_upto_region 1 with (first|((with_reducible refine gate_dst (N:=2) rfl ?_);(try (refine gate_guard (by rfl) ?_;dsimp only));refine box_event ?hg (N:=2) ?hd (cs:=#[.int .i64 a0_0,.int .i64 a0_1,.string a0_2,.slice A0_3 l0_3.length c0_3]) (t:=28) ?hr ?_;(case hd=>rfl);(case hg=>rfl);(case hr=>first|(go_simp;done)|(go_simp;rfl));intro gb119 hg w4 hbox hb;have n_:=ai (bq HB hb) <| ai (Aside0.mk (hbox)) <| ai (bz hg HB) <| bz hg HB;clear HB;obtain ⟨HB,BK119,GW119,GE119⟩:=n_;clear hb hbox hg)|((with_reducible refine gate_dst (N:=3) rfl ?_);(try (refine gate_guard (by rfl) ?_;dsimp only));refine box_event ?hg (N:=3) ?hd (cs:=#[.int .i64 a1_0,.int .i64 a1_1,.string a1_2,.slice A1_3 l1_3.length c1_3]) (t:=28) ?hr ?_;(case hd=>rfl);(case hg=>rfl);(case hr=>first|(go_simp;done)|(go_simp;rfl));intro gb120 hg w5 hbox hb;have n_:=ai (bw BK119 hb) <| ai (bq HB hb) <| ai (Aside0.mk (hbox)) <| ai (bz hg HB) <| ai (bz hg HB) <| ai (nl hg BK119) <| ng hg BK119;clear BK119 HB;obtain ⟨BK119,HB,BK120,GW120,GE120,NB119_120,NB120_119⟩:=n_;clear hb hbox hg))
 (try simp only [Act.put,List.setIfInBounds_toArray,List.set_cons_zero,List.set_cons_succ])
 go_cut [33] (fun v33 wc=>∃ (kq:Nat) (x33_2:Bool),v33 = .bool x33_2∧Aside0 (spec_SameTerm.j0 kq x33_2 a0_0 a0_1 a0_2 l0_3 a1_0 a1_1 a1_2 l1_3 = some r)∧Aside0 (kq≤k)∧Aside0 (wc.heap[gb119]? = some (.cells #[.int .i64 a0_0,.int .i64 a0_1,.string a0_2,(.slice A0_3 l0_3.length c0_3)] 28 (0,0)))∧Aside0 (wc.heap[gb120]? = some (.cells #[.int .i64 a1_0,.int .i64 a1_1,.string a1_2,(.slice A1_3 l1_3.length c1_3)] 28 (0,0)))∧Aside0 (Below w.heap.size w wc))
 case first =>
  have H:=HC3.out;clear HC3
  by_cases c6:a0_0 = a1_0
  ·rw [if_pos c6] at H
   have c6b0:(a0_0 == a1_0) = true:=beq_iff_eq.mpr c6;have c6b1:(a0_0 != a1_0) = false:=bne_eq_false_iff_eq.mpr c6;clear c6
   (first|rw [c6b0]|(simp only [i64_w,i32_w];rw [c6b0])|(simp only [c6b2,Bool.not_true,Bool.not_false])|skip)
   by_cases c7:a0_1 = a1_1
   ·rw [if_pos c7] at H
    have c7b0:(a0_1 == a1_1) = true:=beq_iff_eq.mpr c7;have c7b1:(a0_1 != a1_1) = false:=bne_eq_false_iff_eq.mpr c7;clear c7
    by_cases c8:a0_2.toList = a1_2.toList
    ·rw [if_pos c8] at H
     have c8b0:(a0_2.toList == a1_2.toList) = true:=beq_iff_eq.mpr c8;have c8b1:(a0_2.toList != a1_2.toList) = false:=bne_eq_false_iff_eq.mpr c8;clear c8;have H':=Aside0.mk H;clear H;have:=NB119_120.out;have:=NB120_119.out;obtain ⟨h10_0,h10_1,h10_2,h10_3⟩:=kb4 BK119.out;obtain ⟨h11_0,h11_1,h11_2,h11_3⟩:=kb4 BK120.out
     go_wp2
     go_meet
     case rel=>exact ⟨_,(((l0_3.length:Int) != (l1_3.length:Int))),(cl2),H',⟨by first|omega|exact Nat.le_refl _⟩,⟨bk BK119.out⟩,⟨bk BK120.out⟩,⟨bl HB.out⟩⟩
    ·rw [if_neg c8] at H
     have c8b0:(a0_2.toList == a1_2.toList) = false:=beq_eq_false_iff_ne.mpr c8;have c8b1:(a0_2.toList != a1_2.toList) = true:=bne_iff_ne.mpr c8;have H':=Aside0.mk H;clear H;have:=NB119_120.out;have:=NB120_119.out;obtain ⟨h13_0,h13_1,h13_2,h13_3⟩:=kb4 BK119.out;obtain ⟨h14_0,h14_1,h14_2,h14_3⟩:=kb4 BK120.out
     go_wp2
     go_meet
     case rel=>exact ⟨_,(true),(cl2),H',⟨by first|omega|exact Nat.le_refl _⟩,⟨bk BK119.out⟩,⟨bk BK120.out⟩,⟨bl HB.out⟩⟩
   ·rw [if_neg c7] at H
    have c7b0:(a0_1 == a1_1) = false:=beq_eq_false_iff_ne.mpr c7;have c7b1:(a0_1 != a1_1) = true:=bne_iff_ne.mpr c7;have H':=Aside0.mk H;clear H;have:=NB119_120.out;have:=NB120_119.out;obtain ⟨h16_0,h16_1,h16_2,h16_3⟩:=kb4 BK119.out;obtain ⟨h17_0,h17_1,h17_2,h17_3⟩:=kb4 BK120.out
    go_wp2
    go_meet
    case rel=>exact ⟨_,(true),(cl2),H',⟨by first|omega|exact Nat.le_refl _⟩,⟨bk BK119.out⟩,⟨bk BK120.out⟩,⟨bl HB.out⟩⟩
  ·rw [if_neg c6] at H
   have c6b0:(a0_0 == a1_0) = false:=beq_eq_false_iff_ne.mpr c6;have c6b1:(a0_0 != a1_0) = true:=bne_iff_ne.mpr c6
   (first|rw [c6b0]|(simp only [i64_w,i32_w];rw [c6b0])|(simp only [c6b2,Bool.not_true,Bool.not_false])|skip)
   have H':=Aside0.mk H;clear H;have:=NB119_120.out;have:=NB120_119.out;obtain ⟨h19_0,h19_1,h19_2,h19_3⟩:=kb4 BK119.out;obtain ⟨h20_0,h20_1,h20_2,h20_3⟩:=kb4 BK120.out
   go_wp2
   go_meet
   case rel=>exact ⟨_,(true),(cl2),H',⟨by first|omega|exact Nat.le_refl _⟩,⟨bk BK119.out⟩,⟨bk BK120.out⟩,⟨bl HB.out⟩⟩
 case rest =>
  clear HC3;(try clear BK119);(try clear BK120);(try clear HB);obtain ⟨kq,x33_2,rfl,HA,HJ2,BK119,BK120,HB⟩:=hcut
  cases kq with
  | zero=>exact absurd HA.out (by simp [spec_SameTerm.j0])
  | succ kj2 =>
   have H:=HA.out;clear HA;simp only [spec_SameTerm.j0] at H
   by_cases c21:x33_2 = true
   ·subst c21
    have H1:(some false) = some r:=by rw [if_pos rfl] at H;exact H
    clear H;have H:=H1;clear H1;obtain rfl:=Option.some.inj H
    go_wp2
    go_ret
    exact ⟨cl,bl HB.out⟩
   ·replace c21:=Bool.eq_false_iff.mpr c21
    subst c21;have H1:(spec_SameTerm.l0 kj2 0 a0_0 a0_1 a0_2 l0_3 a1_0 a1_1 a1_2 l1_3) = some r:=by rw [if_neg (show ¬ (false = true) by decide)] at H;exact H
    clear H;have H:=H1;clear H1;have H':=Aside0.mk H;clear H
    go_wp2
    go_loopg [5] kj2 (fun kq v5 w'=>∃ (x5_2:Int),v5 = .int .i64 x5_2∧Aside0 (spec_SameTerm.l0 kq x5_2 a0_0 a0_1 a0_2 l0_3 a1_0 a1_1 a1_2 l1_3 = some r)∧Aside0 (kq≤kj2)∧Aside0 (w'.heap[gb119]? = some (.cells #[.int .i64 a0_0,.int .i64 a0_1,.string a0_2,(.slice A0_3 l0_3.length c0_3)] 28 (0,0)))∧Aside0 (w'.heap[gb120]? = some (.cells #[.int .i64 a1_0,.int .i64 a1_1,.string a1_2,(.slice A1_3 l1_3.length c1_3)] 28 (0,0)))∧Aside0 (Below w.heap.size w w'))
    case atStart=>exact ⟨(0),(cl2),H',⟨Nat.le_refl _⟩,⟨bk BK119.out⟩,⟨bk BK120.out⟩,⟨bl HB.out⟩⟩
    case round =>
     clear H';(try clear c21);(try clear p2);(try clear BK119);(try clear BK120);(try clear HB);obtain ⟨x5_2,rfl,HA,HK2,BK119,BK120,HB⟩:=hrel
     cases gk with
     | zero=>exact absurd HA.out (by simp [spec_SameTerm.l0])
     | succ k2 =>
      have H:=HA.out;clear HA;simp only [spec_SameTerm.l0] at H
      by_cases c22:x5_2 < (l0_3.length:Int)
      ·rw [if_pos c22] at H
       have c22b0:decide (x5_2 < (l0_3.length:Int)) = true:=decide_eq_true c22;clear c22
       by_cases c23:0≤x5_2
       ·rw [if_pos c23] at H
        have c23b0:decide (0≤x5_2) = true:=decide_eq_true c23;clear c23
        by_cases c24:x5_2 < (l1_3.length:Int)
        ·rw [if_pos c24] at H
         have c24b0:decide (x5_2 < (l1_3.length:Int)) = true:=decide_eq_true c24;clear c24;replace H:=Option.bind_eq_some_iff.mp H;obtain ⟨t123,A250,H⟩:=H;replace H:(if t123 = true then (spec_SameTerm.l0 k2 (wrap64 (x5_2 + 1)) a0_0 a0_1 a0_2 l0_3 a1_0 a1_1 a1_2 l1_3) else (some false)) = some r:=H;have A25:=Aside0.mk A250;clear A250;have:=NB119_120.out;have:=NB120_119.out;obtain ⟨h28_0,h28_1,h28_2,h28_3⟩:=kb4 BK119.out
         try go_wp2
         have n_:=ai (dk BK119) <| ai (dk BK120) <| dh HB;clear BK119 BK120 HB;obtain ⟨BK119,BK120,HB⟩:=n_;have p121:0≤(x5_2:Int):=od;have q121:x5_2 < (l0_3.length:Int):=od;obtain ⟨ad121,A121_3,c121_3,e121,hx121_0,hx121_1,hx121_2,hx121_3,hl121_3,hi121_3⟩:=at_T28 HR0_3.out x5_2 p121 q121;have hw121_3:=hx121_3;have hw121_2:=hx121_2;have hw121_1:=hx121_1;have hw121_0:=hx121_0;cases e121;replace hx121_0:=cb HB hx121_0;replace hx121_1:=cb HB hx121_1;replace hx121_2:=cb HB hx121_2;replace hx121_3:=cb HB hx121_3;have HR121_3:=Aside0.mk hi121_3;have HC121_3:=Aside0.mk hl121_3;clear hi121_3 hl121_3;replace p121:=eq_true p121;replace q121:=eq_true q121;have p122:0≤(x5_2:Int):=od;have q122:x5_2 < (l1_3.length:Int):=od;obtain ⟨ad122,A122_3,c122_3,e122,hx122_0,hx122_1,hx122_2,hx122_3,hl122_3,hi122_3⟩:=at_T28 HR1_3.out x5_2 p122 q122;have hw122_3:=hx122_3;have hw122_2:=hx122_2;have hw122_1:=hx122_1;have hw122_0:=hx122_0;cases e122;replace hx122_0:=cb HB hx122_0;replace hx122_1:=cb HB hx122_1;replace hx122_2:=cb HB hx122_2;replace hx122_3:=cb HB hx122_3;have HR122_3:=Aside0.mk hi122_3;have HC122_3:=Aside0.mk hl122_3;clear hi122_3 hl122_3;replace p122:=eq_true p122;replace q122:=eq_true q122
         refine start_ (n:=12) (S:=fun w'=>(w'.cell? ⟨gb119,0,none⟩ = some (.int .i64 a0_0)∧w'.cell? ⟨gb119,1,none⟩ = some (.int .i64 a0_1)∧w'.cell? ⟨gb119,2,none⟩ = some (.string a0_2)∧w'.cell? ⟨gb119,3,none⟩ = some (.slice (some ad121) l0_3.length c0_3))∧(w'.cell? ⟨gb120,0,none⟩ = some (.int .i64 a1_0)∧w'.cell? ⟨gb120,1,none⟩ = some (.int .i64 a1_1)∧w'.cell? ⟨gb120,2,none⟩ = some (.string a1_2)∧w'.cell? ⟨gb120,3,none⟩ = some (.slice (some ad122) l1_3.length c1_3))∧w'.cell? (ad121.add ((x5_2).toNat * 4)) = some (.int .i64 ((rd_T28 l0_3 x5_2).f0))∧w'.cell? ⟨(ad121.add ((x5_2).toNat * 4)).block,(ad121.add ((x5_2).toNat * 4)).off + 1,none⟩ = some (.int .i64 ((rd_T28 l0_3 x5_2).f1))∧w'.cell? ⟨(ad121.add ((x5_2).toNat * 4)).block,(ad121.add ((x5_2).toNat * 4)).off + 2,none⟩ = some (.string ((rd_T28 l0_3 x5_2).f2))∧w'.cell? ⟨(ad121.add ((x5_2).toNat * 4)).block,(ad121.add ((x5_2).toNat * 4)).off + 3,none⟩ = some (.slice A121_3 ((rd_T28 l0_3 x5_2).f3).length c121_3)∧w'.cell? (ad122.add ((x5_2).toNat * 4)) = some (.int .i64 ((rd_T28 l1_3 x5_2).f0))∧w'.cell? ⟨(ad122.add ((x5_2).toNat * 4)).block,(ad122.add ((x5_2).toNat * 4)).off + 1,none⟩ = some (.int .i64 ((rd_T28 l1_3 x5_2).f1))∧w'.cell? ⟨(ad122.add ((x5_2).toNat * 4)).block,(ad122.add ((x5_2).toNat * 4)).off + 2,none⟩ = some (.string ((rd_T28 l1_3 x5_2).f2))∧w'.cell? ⟨(ad122.add ((x5_2).toNat * 4)).block,(ad122.add ((x5_2).toNat * 4)).off + 3,none⟩ = some (.slice A122_3 ((rd_T28 l1_3 x5_2).f3).length c122_3)) (ds:=[]) #[false,false,false,false,false,false,false,false,false,false,false,false] (by kernel_rfl) rfl rfl ⟨kb4 BK119.out,kb4 BK120.out,(cb HB hw121_0 :),(cb HB hw121_1 :),(cb HB hw121_2 :),(cb HB hw121_3 :),(cb HB hw122_0 :),(cb HB hw122_1 :),(cb HB hw122_2 :),(cb HB hw122_3 :)⟩ (fun hHeld=>?_);refine with_tabW spec_SameTerm.tab6 spec_SameTerm.bits6 (fun HT_ HW_=>?_)
         generalize wr.drew = w29 at BK119 BK120 HB HR121_3 HR122_3 hx121_0 hx121_1 hx121_2 hx121_3 hx122_0 hx122_1 hx122_2 hx122_3 hHeld ⊢;refine pu 0 41 ?_;refine pu 2 43 ?_;refine pu 5 46 ?_;refine pu 7 48 ?_;refine ta 1 42 hHeld ?_;refine pu 3 44 ?_;refine ta 4 45 hHeld ?_;refine ta 6 47 hHeld ?_;refine pu 8 49 ?_;refine ta 9 50 hHeld ?_
         refine one_ (i:=10) (N:=some 51) #[true,true,true,true,true,true,true,true,true,true,true,false] rfl rfl (one_of HT_.out (by kernel_rfl)) (by decide) (fun K hK=>?_)
         refine goes_ Try.func24 (by kernel_rfl) rfl #[.agg #[.int .i64 ((rd_T28 l0_3 x5_2).f0),.int .i64 ((rd_T28 l0_3 x5_2).f1),.string ((rd_T28 l0_3 x5_2).f2),.slice A121_3 ((rd_T28 l0_3 x5_2).f3).length c121_3],.agg #[.int .i64 ((rd_T28 l1_3 x5_2).f0),.int .i64 ((rd_T28 l1_3 x5_2).f1),.string ((rd_T28 l1_3 x5_2).f2),.slice A122_3 ((rd_T28 l1_3 x5_2).f3).length c122_3]] (by rfl) rfl rfl gs ?_
         with_reducible refine (ih k2 (by have:=HJ2.out;have:=HK2.out;omega) ((rd_T28 l0_3 x5_2).f0) ((rd_T28 l0_3 x5_2).f1) ((rd_T28 l0_3 x5_2).f2) _ _ ((rd_T28 l0_3 x5_2).f3) ((rd_T28 l1_3 x5_2).f0) ((rd_T28 l1_3 x5_2).f1) ((rd_T28 l1_3 x5_2).f2) _ _ ((rd_T28 l1_3 x5_2).f3) t123 _ ?side1 ?side2 ?side3 ?side4 A25.out).mono ?_
         (case side1=>exact ck (Kd.C_below HR121_3.out HB.out))
         (case side2=>exact HC121_3.out)
         (case side3=>exact ck (Kd.C_below HR122_3.out HB.out))
         (case side4=>exact HC122_3.out)
         rintro e w30 ⟨rfl,hb⟩
         refine ⟨_,rfl,?_⟩
         have n_:=ai (bw BK119 hb) <| ai (bw BK120 hb) <| bq HB hb;clear BK119 BK120 HB;obtain ⟨BK119,BK120,HB⟩:=n_;(try clear hb)
         refine hK.out _ _ ⟨kb4 BK119.out,kb4 BK120.out,(cb HB hw121_0 :),(cb HB hw121_1 :),(cb HB hw121_2 :),(cb HB hw121_3 :),(cb HB hw122_0 :),(cb HB hw122_1 :),(cb HB hw122_2 :),(cb HB hw122_3 :)⟩ (fun hHeld=>?_)
         clear hK K
         refine norm_ (a':=?_) ?_ ?_
         rotate_left
         ·show Act.put _ (some 51) _ = _
          simp only [Act.put,List.setIfInBounds_toArray,List.set_cons_zero,List.set_cons_succ,i64_w,i32_w]
          rfl
         refine pu 11 52 ?_
         refine done_ (done_of HT_.out (by kernel_rfl)) ?_
         by_cases c26:t123 = true
         ·subst c26
          have H1:(spec_SameTerm.l0 k2 (wrap64 (x5_2 + 1)) a0_0 a0_1 a0_2 l0_3 a1_0 a1_1 a1_2 l1_3) = some r:=by rw [if_pos rfl] at H;exact H
          clear H;have H:=H1;clear H1;have H':=Aside0.mk H;clear H
          try go_wp2
          go_roundg k2
          case measure=>have:=HJ2.out;have:=HK2.out;omega
          case rel=>exact ⟨(wrap64 (x5_2 + 1)),(cl2),H',⟨by have:=HJ2.out;have:=HK2.out;omega⟩,⟨bk BK119.out⟩,⟨bk BK120.out⟩,⟨bl HB.out⟩⟩
         ·replace c26:=Bool.eq_false_iff.mpr c26
          subst c26;have H1:(some false) = some r:=by rw [if_neg (show ¬ (false = true) by decide)] at H;exact H
          clear H;have H:=H1;clear H1;obtain rfl:=Option.some.inj H
          try go_wp2
          go_ret
          exact ⟨cl,bl HB.out⟩
        ·rw [if_neg c24] at H
         exact absurd H (by simp)
       ·rw [if_neg c23] at H
        exact absurd H (by simp)
      ·rw [if_neg c22] at H
       have c22b0:decide (x5_2 < (l0_3.length:Int)) = false:=decide_eq_false c22;clear c22;obtain rfl:=Option.some.inj H;have:=NB119_120.out;have:=NB120_119.out;obtain ⟨h36_0,h36_1,h36_2,h36_3⟩:=kb4 BK119.out
       go_wp2
       go_ret
       exact ⟨cl,bl HB.out⟩

end Go.Proofs.Ytiooogcjoobjnaa.QFnExactOperate
