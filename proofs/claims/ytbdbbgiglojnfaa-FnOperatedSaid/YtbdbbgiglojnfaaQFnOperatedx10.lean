-- Written by a program of this workplace (print2.py) for this claim, over the print's words.
import Derived.Test.YtbdbbgiglojnfaaQFnOperatedx0
namespace Go.Proofs.Ytbdbbgiglojnfaa.QFnOperated
open Go.RowKit Go.Proofs.YtbdbbgiglojnfaaW.PrintWords Go.Proofs.YtbdbbgiglojnfaaW.PrintLast Go.Proofs.YtbdbbgiglojnfaaW.PrintMore
attribute [local go_sem] binOp_string_gtr max2_int min2_int max_two min_two max_three min_three max_four min_four   -- for this text's walks alone
set_option linter.unusedVariables false
set_option linter.unusedSimpArgs false

/-! ### spec_SameTerm: function 31 -/
mutual
def spec_SameTerm.j0:Nat → Bool → Int → Int → ByteArray → List (S26) → Int → Int → ByteArray → List (S26) → Option (Bool)
 | 0,_,_,_,_,_,_,_,_,_=>none
 | k + 1,x33,x398000,x398001,x398002,x398003,x399000,x399001,x399002,x399003=>if x33 = true then (some false) else (spec_SameTerm.l0 k 0 x398000 x398001 x398002 x398003 x399000 x399001 x399002 x399003)
def spec_SameTerm.l0:Nat → Int → Int → Int → ByteArray → List (S26) → Int → Int → ByteArray → List (S26) → Option (Bool)
 | 0,_,_,_,_,_,_,_,_,_=>none
 | k + 1,x5,x398000,x398001,x398002,x398003,x399000,x399001,x399002,x399003=>if x5 < (x398003.length:Int) then (if 0≤x5 then (if x5 < (x399003.length:Int) then ((spec_SameTerm.f k ((rd_T26 x398003 x5).f0) ((rd_T26 x398003 x5).f1) ((rd_T26 x398003 x5).f2) ((rd_T26 x398003 x5).f3) ((rd_T26 x399003 x5).f0) ((rd_T26 x399003 x5).f1) ((rd_T26 x399003 x5).f2) ((rd_T26 x399003 x5).f3)).bind fun t401=>(if t401 = true then (spec_SameTerm.l0 k (wrap64 (x5 + 1)) x398000 x398001 x398002 x398003 x399000 x399001 x399002 x399003) else (some false))) else (none)) else (none)) else (some true)
def spec_SameTerm.f:Nat → Int → Int → ByteArray → List (S26) → Int → Int → ByteArray → List (S26) → Option (Bool)
 | 0,_,_,_,_,_,_,_,_=>none
 | k + 1,a0_0,a0_1,a0_2,l0_3,a1_0,a1_1,a1_2,l1_3=>if a0_0 = a1_0 then (if a0_1 = a1_1 then (if a0_2.toList = a1_2.toList then (spec_SameTerm.j0 k ((l0_3.length:Int) != (l1_3.length:Int)) a0_0 a0_1 a0_2 l0_3 a1_0 a1_1 a1_2 l1_3) else (spec_SameTerm.j0 k true a0_0 a0_1 a0_2 l0_3 a1_0 a1_1 a1_2 l1_3)) else (spec_SameTerm.j0 k true a0_0 a0_1 a0_2 l0_3 a1_0 a1_1 a1_2 l1_3)) else (spec_SameTerm.j0 k true a0_0 a0_1 a0_2 l0_3 a1_0 a1_1 a1_2 l1_3)
end
theorem spec_SameTerm.mono_l:∀ k,(∀ y0 y1 y2 y3 y4 y5 y6 y7,LeO (spec_SameTerm.f k y0 y1 y2 y3 y4 y5 y6 y7) (spec_SameTerm.f (k + 1) y0 y1 y2 y3 y4 y5 y6 y7))∧(∀ y0 y1 y2 y3 y4 y5 y6 y7 y8,LeO (spec_SameTerm.j0 k y0 y1 y2 y3 y4 y5 y6 y7 y8) (spec_SameTerm.j0 (k + 1) y0 y1 y2 y3 y4 y5 y6 y7 y8))∧(∀ y0 y1 y2 y3 y4 y5 y6 y7 y8,LeO (spec_SameTerm.l0 k y0 y1 y2 y3 y4 y5 y6 y7 y8) (spec_SameTerm.l0 (k + 1) y0 y1 y2 y3 y4 y5 y6 y7 y8))
 | 0=>⟨fun _ _ _ _ _ _ _ _ r h=>by simp [spec_SameTerm.f] at h,fun _ _ _ _ _ _ _ _ _ r h=>by simp [spec_SameTerm.j0] at h,fun _ _ _ _ _ _ _ _ _ r h=>by simp [spec_SameTerm.l0] at h⟩
 | k + 1=>by
  obtain ⟨ih0,ih1,ih2⟩:=spec_SameTerm.mono_l k
  refine ⟨?_,?_,?_⟩
  ·intro y0 y1 y2 y3 y4 y5 y6 y7
   unfold spec_SameTerm.f
   with_reducible repeat' first|apply ih0|apply ih1|apply ih2|apply LeO.refl|apply LeO.none|apply LeO.ite|refine LeO.bind ?_ (fun _=>?_)
  ·intro y0 y1 y2 y3 y4 y5 y6 y7 y8
   unfold spec_SameTerm.j0
   with_reducible repeat' first|apply ih0|apply ih1|apply ih2|apply LeO.refl|apply LeO.none|apply LeO.ite|refine LeO.bind ?_ (fun _=>?_)
  ·intro y0 y1 y2 y3 y4 y5 y6 y7 y8
   unfold spec_SameTerm.l0
   with_reducible repeat' first|apply ih0|apply ih1|apply ih2|apply LeO.refl|apply LeO.none|apply LeO.ite|refine LeO.bind ?_ (fun _=>?_)
theorem spec_SameTerm.mono:∀ a0 a1 a2 a3 a4 a5 a6 a7 k,LeO (spec_SameTerm.f k a0 a1 a2 a3 a4 a5 a6 a7) (spec_SameTerm.f (k + 1) a0 a1 a2 a3 a4 a5 a6 a7):=by
 intro a0 a1 a2 a3 a4 a5 a6 a7 k;obtain ⟨ih0,ih1,ih2⟩:=spec_SameTerm.mono_l k
 exact ih0 a0 a1 a2 a3 a4 a5 a6 a7
def spec_SameTerm.T6:Bool × List (List Nat × List Nat):=(true,[([],[]),([0],[0]),([],[]),([1,2],[1,2]),([3],[3]),([],[]),([5],[5]),([],[]),([6,7],[6,7]),([8],[8]),([4,9],[4,9]),([10],[10])])
def spec_SameTerm.B6:List Nat:=[0,1,0,7,15,0,32,0,224,480,1023,2047]
theorem spec_SameTerm.tab6:rtab .any (opsOf Try.f31 6) = spec_SameTerm.T6:=by kernel_rfl
theorem spec_SameTerm.bits6:waitsOk spec_SameTerm.T6.2 spec_SameTerm.B6 = true:=by kernel_rfl
set_option maxHeartbeats 8000000 in
set_option maxRecDepth 100000 in
theorem spec_SameTerm.calls (k:Nat):∀ (a0_0:Int) (a0_1:Int) (a0_2:ByteArray) (A0_3:Option Addr) (c0_3:Nat) (l0_3:List (S26)) (a1_0:Int) (a1_1:Int) (a1_2:ByteArray) (A1_3:Option Addr) (c1_3:Nat) (l1_3:List (S26)) (r:Bool) (w:World) (hr0_3:Kd.C k26 w A0_3 l0_3.length l0_3) (hc0_3:l0_3.length≤c0_3) (hr1_3:Kd.C k26 w A1_3 l1_3.length l1_3) (hc1_3:l1_3.length≤c1_3) (h:spec_SameTerm.f k a0_0 a0_1 a0_2 l0_3 a1_0 a1_1 a1_2 l1_3 = some r),
  Calls Try.prog 31 #[.agg #[.int .i64 a0_0,.int .i64 a0_1,.string a0_2,.slice A0_3 l0_3.length c0_3],.agg #[.int .i64 a1_0,.int .i64 a1_1,.string a1_2,.slice A1_3 l1_3.length c1_3]] w fun e w'=>e = .returned (.bool r)∧Below w.heap.size w w':=by
 induction k using Nat.strongRecOn with
 | _ k ih =>
 intro a0_0 a0_1 a0_2 A0_3 c0_3 l0_3 a1_0 a1_1 a1_2 A1_3 c1_3 l1_3 r w hr0_3 hc0_3 hr1_3 hc1_3 h
 cases k with
 | zero=>exact absurd h (by simp [spec_SameTerm.f])
 | succ k =>
 simp only [spec_SameTerm.f] at h;have hu26:=Try.underlying26;have HR0_3:=Aside0.mk hr0_3;have HC0_3:=Aside0.mk hc0_3;clear hr0_3 hc0_3;have HR1_3:=Aside0.mk hr1_3;have HC1_3:=Aside0.mk hc1_3;clear hr1_3 hc1_3;have HB:=Aside0.mk (Below.refl w.heap.size w);have H:(if a0_0 = a1_0 then (if a0_1 = a1_1 then (if a0_2.toList = a1_2.toList then (spec_SameTerm.j0 k ((l0_3.length:Int) != (l1_3.length:Int)) a0_0 a0_1 a0_2 l0_3 a1_0 a1_1 a1_2 l1_3) else (spec_SameTerm.j0 k true a0_0 a0_1 a0_2 l0_3 a1_0 a1_1 a1_2 l1_3)) else (spec_SameTerm.j0 k true a0_0 a0_1 a0_2 l0_3 a1_0 a1_1 a1_2 l1_3)) else (spec_SameTerm.j0 k true a0_0 a0_1 a0_2 l0_3 a1_0 a1_1 a1_2 l1_3)) = some r:=h;clear h;have HC3:=Aside0.mk H;clear H
 go_enter Try.func31,Try.ntmps31
 go_upto_region 1 with (first|((with_reducible refine gate_dst (N:=2) rfl ?_);(try (refine gate_guard (by rfl) ?_;dsimp only));refine box_event ?hg (N:=2) ?hd (cs:=#[.int .i64 a0_0,.int .i64 a0_1,.string a0_2,.slice A0_3 l0_3.length c0_3]) (t:=26) ?hr ?_;(case hd=>rfl);(case hg=>rfl);(case hr=>first|(go_simp;done)|(go_simp;rfl));intro gb397 hg w4 hbox hb;have n_:=ai (bq HB hb) <| ai (Aside0.mk (hbox)) <| ai (bz hg HB) <| bz hg HB;clear HB;obtain ⟨HB,BK397,GW397,GE397⟩:=n_;clear hb hbox hg)|((with_reducible refine gate_dst (N:=3) rfl ?_);(try (refine gate_guard (by rfl) ?_;dsimp only));refine box_event ?hg (N:=3) ?hd (cs:=#[.int .i64 a1_0,.int .i64 a1_1,.string a1_2,.slice A1_3 l1_3.length c1_3]) (t:=26) ?hr ?_;(case hd=>rfl);(case hg=>rfl);(case hr=>first|(go_simp;done)|(go_simp;rfl));intro gb398 hg w5 hbox hb;have n_:=ai (bw BK397 hb) <| ai (bq HB hb) <| ai (Aside0.mk (hbox)) <| ai (bz hg HB) <| ai (bz hg HB) <| ai (nl hg BK397) <| ng hg BK397;clear BK397 HB;obtain ⟨BK397,HB,BK398,GW398,GE398,NB397_398,NB398_397⟩:=n_;clear hb hbox hg))
 (try simp only [Act.put,List.setIfInBounds_toArray,List.set_cons_zero,List.set_cons_succ])
 go_cut [33] (fun v33 wc=>∃ (kq:Nat) (x33_2:Bool),v33 = .bool x33_2∧Aside0 (spec_SameTerm.j0 kq x33_2 a0_0 a0_1 a0_2 l0_3 a1_0 a1_1 a1_2 l1_3 = some r)∧Aside0 (kq≤k)∧Aside0 (wc.heap[gb397]? = some (.cells #[.int .i64 a0_0,.int .i64 a0_1,.string a0_2,(.slice A0_3 l0_3.length c0_3)] 26 (0,0)))∧Aside0 (wc.heap[gb398]? = some (.cells #[.int .i64 a1_0,.int .i64 a1_1,.string a1_2,(.slice A1_3 l1_3.length c1_3)] 26 (0,0)))∧Aside0 (Below w.heap.size w wc))
 case first =>
  have H:=HC3.out;clear HC3
  by_cases c6:a0_0 = a1_0
  ·rw [if_pos c6] at H
   have c6b0:(a0_0 == a1_0) = true:=beq_iff_eq.mpr c6;have c6b1:(a0_0 != a1_0) = false:=bne_eq_false_iff_eq.mpr c6;clear c6
   (first|rw [c6b0]|(simp only [i64_w,i32_w];rw [c6b0])|(simp only [c6b2,Bool.not_true,Bool.not_false])|skip)
   by_cases c7:a0_1 = a1_1
   ·rw [if_pos c7] at H
    have c7b0:(a0_1 == a1_1) = true:=beq_iff_eq.mpr c7;have c7b1:(a0_1 != a1_1) = false:=bne_eq_false_iff_eq.mpr c7;clear c7
    by_cases c8:a0_2.toList = a1_2.toList
    ·rw [if_pos c8] at H
     have c8b0:(a0_2.toList == a1_2.toList) = true:=beq_iff_eq.mpr c8;have c8b1:(a0_2.toList != a1_2.toList) = false:=bne_eq_false_iff_eq.mpr c8;clear c8;have H':=Aside0.mk H;clear H;have:=NB397_398.out;have:=NB398_397.out;obtain ⟨h10_0,h10_1,h10_2,h10_3⟩:=kb4 BK397.out;obtain ⟨h11_0,h11_1,h11_2,h11_3⟩:=kb4 BK398.out
     go_wp2
     go_meet
     case rel=>exact ⟨_,(((l0_3.length:Int) != (l1_3.length:Int))),(cl2),H',⟨by first|omega|exact Nat.le_refl _⟩,⟨bk BK397.out⟩,⟨bk BK398.out⟩,⟨bl HB.out⟩⟩
    ·rw [if_neg c8] at H
     have c8b0:(a0_2.toList == a1_2.toList) = false:=beq_eq_false_iff_ne.mpr c8;have c8b1:(a0_2.toList != a1_2.toList) = true:=bne_iff_ne.mpr c8;have H':=Aside0.mk H;clear H;have:=NB397_398.out;have:=NB398_397.out;obtain ⟨h13_0,h13_1,h13_2,h13_3⟩:=kb4 BK397.out;obtain ⟨h14_0,h14_1,h14_2,h14_3⟩:=kb4 BK398.out
     go_wp2
     go_meet
     case rel=>exact ⟨_,(true),(cl2),H',⟨by first|omega|exact Nat.le_refl _⟩,⟨bk BK397.out⟩,⟨bk BK398.out⟩,⟨bl HB.out⟩⟩
   ·rw [if_neg c7] at H
    have c7b0:(a0_1 == a1_1) = false:=beq_eq_false_iff_ne.mpr c7;have c7b1:(a0_1 != a1_1) = true:=bne_iff_ne.mpr c7;have H':=Aside0.mk H;clear H;have:=NB397_398.out;have:=NB398_397.out;obtain ⟨h16_0,h16_1,h16_2,h16_3⟩:=kb4 BK397.out;obtain ⟨h17_0,h17_1,h17_2,h17_3⟩:=kb4 BK398.out
    go_wp2
    go_meet
    case rel=>exact ⟨_,(true),(cl2),H',⟨by first|omega|exact Nat.le_refl _⟩,⟨bk BK397.out⟩,⟨bk BK398.out⟩,⟨bl HB.out⟩⟩
  ·rw [if_neg c6] at H
   have c6b0:(a0_0 == a1_0) = false:=beq_eq_false_iff_ne.mpr c6;have c6b1:(a0_0 != a1_0) = true:=bne_iff_ne.mpr c6
   (first|rw [c6b0]|(simp only [i64_w,i32_w];rw [c6b0])|(simp only [c6b2,Bool.not_true,Bool.not_false])|skip)
   have H':=Aside0.mk H;clear H;have:=NB397_398.out;have:=NB398_397.out;obtain ⟨h19_0,h19_1,h19_2,h19_3⟩:=kb4 BK397.out;obtain ⟨h20_0,h20_1,h20_2,h20_3⟩:=kb4 BK398.out
   go_wp2
   go_meet
   case rel=>exact ⟨_,(true),(cl2),H',⟨by first|omega|exact Nat.le_refl _⟩,⟨bk BK397.out⟩,⟨bk BK398.out⟩,⟨bl HB.out⟩⟩
 case rest =>
  clear HC3;(try clear BK397);(try clear BK398);(try clear HB);obtain ⟨kq,x33_2,rfl,HA,HJ2,BK397,BK398,HB⟩:=hcut
  cases kq with
  | zero=>exact absurd HA.out (by simp [spec_SameTerm.j0])
  | succ kj2 =>
   have H:=HA.out;clear HA;simp only [spec_SameTerm.j0] at H
   by_cases c21:x33_2 = true
   ·subst c21
    have H1:(some false) = some r:=by rw [if_pos rfl] at H;exact H
    clear H;have H:=H1;clear H1;obtain rfl:=Option.some.inj H
    go_wp2
    go_ret
    exact ⟨cl,bl HB.out⟩
   ·replace c21:=Bool.eq_false_iff.mpr c21
    subst c21;have H1:(spec_SameTerm.l0 kj2 0 a0_0 a0_1 a0_2 l0_3 a1_0 a1_1 a1_2 l1_3) = some r:=by rw [if_neg (show ¬ (false = true) by decide)] at H;exact H
    clear H;have H:=H1;clear H1;have H':=Aside0.mk H;clear H
    go_wp2
    go_loopg [5] kj2 (fun kq v5 w'=>∃ (x5_2:Int),v5 = .int .i64 x5_2∧Aside0 (spec_SameTerm.l0 kq x5_2 a0_0 a0_1 a0_2 l0_3 a1_0 a1_1 a1_2 l1_3 = some r)∧Aside0 (kq≤kj2)∧Aside0 (w'.heap[gb397]? = some (.cells #[.int .i64 a0_0,.int .i64 a0_1,.string a0_2,(.slice A0_3 l0_3.length c0_3)] 26 (0,0)))∧Aside0 (w'.heap[gb398]? = some (.cells #[.int .i64 a1_0,.int .i64 a1_1,.string a1_2,(.slice A1_3 l1_3.length c1_3)] 26 (0,0)))∧Aside0 (Below w.heap.size w w'))
    case atStart=>exact ⟨(0),(cl2),H',⟨Nat.le_refl _⟩,⟨bk BK397.out⟩,⟨bk BK398.out⟩,⟨bl HB.out⟩⟩
    case round =>
     clear H';(try clear c21);(try clear p2);(try clear BK397);(try clear BK398);(try clear HB);obtain ⟨x5_2,rfl,HA,HK2,BK397,BK398,HB⟩:=hrel
     cases gk with
     | zero=>exact absurd HA.out (by simp [spec_SameTerm.l0])
     | succ k2 =>
      have H:=HA.out;clear HA;simp only [spec_SameTerm.l0] at H
      by_cases c22:x5_2 < (l0_3.length:Int)
      ·rw [if_pos c22] at H
       have c22b0:decide (x5_2 < (l0_3.length:Int)) = true:=decide_eq_true c22;clear c22
       by_cases c23:0≤x5_2
       ·rw [if_pos c23] at H
        have c23b0:decide (0≤x5_2) = true:=decide_eq_true c23;clear c23
        by_cases c24:x5_2 < (l1_3.length:Int)
        ·rw [if_pos c24] at H
         have c24b0:decide (x5_2 < (l1_3.length:Int)) = true:=decide_eq_true c24;clear c24;replace H:=Option.bind_eq_some_iff.mp H;obtain ⟨t401,A250,H⟩:=H;replace H:(if t401 = true then (spec_SameTerm.l0 k2 (wrap64 (x5_2 + 1)) a0_0 a0_1 a0_2 l0_3 a1_0 a1_1 a1_2 l1_3) else (some false)) = some r:=H;have A25:=Aside0.mk A250;clear A250;have:=NB397_398.out;have:=NB398_397.out;obtain ⟨h28_0,h28_1,h28_2,h28_3⟩:=kb4 BK397.out
         try go_wp2
         have n_:=ai (dk BK397) <| ai (dk BK398) <| dh HB;clear BK397 BK398 HB;obtain ⟨BK397,BK398,HB⟩:=n_;have p399:0≤(x5_2:Int):=od;have q399:x5_2 < (l0_3.length:Int):=od;obtain ⟨ad399,A399_3,c399_3,e399,hx399_0,hx399_1,hx399_2,hx399_3,hl399_3,hi399_3⟩:=at_T26 HR0_3.out x5_2 p399 q399;have hw399_3:=hx399_3;have hw399_2:=hx399_2;have hw399_1:=hx399_1;have hw399_0:=hx399_0;cases e399;replace hx399_0:=cb HB hx399_0;replace hx399_1:=cb HB hx399_1;replace hx399_2:=cb HB hx399_2;replace hx399_3:=cb HB hx399_3;have HR399_3:=Aside0.mk hi399_3;have HC399_3:=Aside0.mk hl399_3;clear hi399_3 hl399_3;replace p399:=eq_true p399;replace q399:=eq_true q399;have p400:0≤(x5_2:Int):=od;have q400:x5_2 < (l1_3.length:Int):=od;obtain ⟨ad400,A400_3,c400_3,e400,hx400_0,hx400_1,hx400_2,hx400_3,hl400_3,hi400_3⟩:=at_T26 HR1_3.out x5_2 p400 q400;have hw400_3:=hx400_3;have hw400_2:=hx400_2;have hw400_1:=hx400_1;have hw400_0:=hx400_0;cases e400;replace hx400_0:=cb HB hx400_0;replace hx400_1:=cb HB hx400_1;replace hx400_2:=cb HB hx400_2;replace hx400_3:=cb HB hx400_3;have HR400_3:=Aside0.mk hi400_3;have HC400_3:=Aside0.mk hl400_3;clear hi400_3 hl400_3;replace p400:=eq_true p400;replace q400:=eq_true q400
         refine start_ (n:=12) (S:=fun w'=>(w'.cell? ⟨gb397,0,none⟩ = some (.int .i64 a0_0)∧w'.cell? ⟨gb397,1,none⟩ = some (.int .i64 a0_1)∧w'.cell? ⟨gb397,2,none⟩ = some (.string a0_2)∧w'.cell? ⟨gb397,3,none⟩ = some (.slice (some ad399) l0_3.length c0_3))∧(w'.cell? ⟨gb398,0,none⟩ = some (.int .i64 a1_0)∧w'.cell? ⟨gb398,1,none⟩ = some (.int .i64 a1_1)∧w'.cell? ⟨gb398,2,none⟩ = some (.string a1_2)∧w'.cell? ⟨gb398,3,none⟩ = some (.slice (some ad400) l1_3.length c1_3))∧w'.cell? (ad399.add ((x5_2).toNat * 4)) = some (.int .i64 ((rd_T26 l0_3 x5_2).f0))∧w'.cell? ⟨(ad399.add ((x5_2).toNat * 4)).block,(ad399.add ((x5_2).toNat * 4)).off + 1,none⟩ = some (.int .i64 ((rd_T26 l0_3 x5_2).f1))∧w'.cell? ⟨(ad399.add ((x5_2).toNat * 4)).block,(ad399.add ((x5_2).toNat * 4)).off + 2,none⟩ = some (.string ((rd_T26 l0_3 x5_2).f2))∧w'.cell? ⟨(ad399.add ((x5_2).toNat * 4)).block,(ad399.add ((x5_2).toNat * 4)).off + 3,none⟩ = some (.slice A399_3 ((rd_T26 l0_3 x5_2).f3).length c399_3)∧w'.cell? (ad400.add ((x5_2).toNat * 4)) = some (.int .i64 ((rd_T26 l1_3 x5_2).f0))∧w'.cell? ⟨(ad400.add ((x5_2).toNat * 4)).block,(ad400.add ((x5_2).toNat * 4)).off + 1,none⟩ = some (.int .i64 ((rd_T26 l1_3 x5_2).f1))∧w'.cell? ⟨(ad400.add ((x5_2).toNat * 4)).block,(ad400.add ((x5_2).toNat * 4)).off + 2,none⟩ = some (.string ((rd_T26 l1_3 x5_2).f2))∧w'.cell? ⟨(ad400.add ((x5_2).toNat * 4)).block,(ad400.add ((x5_2).toNat * 4)).off + 3,none⟩ = some (.slice A400_3 ((rd_T26 l1_3 x5_2).f3).length c400_3)) (ds:=[]) #[false,false,false,false,false,false,false,false,false,false,false,false] (by kernel_rfl) rfl rfl ⟨kb4 BK397.out,kb4 BK398.out,(cb HB hw399_0 :),(cb HB hw399_1 :),(cb HB hw399_2 :),(cb HB hw399_3 :),(cb HB hw400_0 :),(cb HB hw400_1 :),(cb HB hw400_2 :),(cb HB hw400_3 :)⟩ (fun hHeld=>?_);refine with_tabW spec_SameTerm.tab6 spec_SameTerm.bits6 (fun HT_ HW_=>?_)
         generalize wr.drew = w29 at BK397 BK398 HB HR399_3 HR400_3 hx399_0 hx399_1 hx399_2 hx399_3 hx400_0 hx400_1 hx400_2 hx400_3 hHeld ⊢;refine pu 0 41 ?_;refine pu 2 43 ?_;refine pu 5 46 ?_;refine pu 7 48 ?_;refine ta 1 42 hHeld ?_;refine pu 3 44 ?_;refine ta 4 45 hHeld ?_;refine ta 6 47 hHeld ?_;refine pu 8 49 ?_;refine ta 9 50 hHeld ?_
         refine one_ (i:=10) (N:=some 51) #[true,true,true,true,true,true,true,true,true,true,true,false] rfl rfl (one_of HT_.out (by kernel_rfl)) (by decide) (fun K hK=>?_)
         refine goes_ Try.func31 (by kernel_rfl) rfl #[.agg #[.int .i64 ((rd_T26 l0_3 x5_2).f0),.int .i64 ((rd_T26 l0_3 x5_2).f1),.string ((rd_T26 l0_3 x5_2).f2),.slice A399_3 ((rd_T26 l0_3 x5_2).f3).length c399_3],.agg #[.int .i64 ((rd_T26 l1_3 x5_2).f0),.int .i64 ((rd_T26 l1_3 x5_2).f1),.string ((rd_T26 l1_3 x5_2).f2),.slice A400_3 ((rd_T26 l1_3 x5_2).f3).length c400_3]] (by rfl) rfl rfl gs ?_
         with_reducible refine (ih k2 (by have:=HJ2.out;have:=HK2.out;omega) ((rd_T26 l0_3 x5_2).f0) ((rd_T26 l0_3 x5_2).f1) ((rd_T26 l0_3 x5_2).f2) _ _ ((rd_T26 l0_3 x5_2).f3) ((rd_T26 l1_3 x5_2).f0) ((rd_T26 l1_3 x5_2).f1) ((rd_T26 l1_3 x5_2).f2) _ _ ((rd_T26 l1_3 x5_2).f3) t401 _ ?side1 ?side2 ?side3 ?side4 A25.out).mono ?_
         (case side1=>exact ck (Kd.C_below HR399_3.out HB.out))
         (case side2=>exact HC399_3.out)
         (case side3=>exact ck (Kd.C_below HR400_3.out HB.out))
         (case side4=>exact HC400_3.out)
         rintro e w30 ⟨rfl,hb⟩
         refine ⟨_,rfl,?_⟩
         have n_:=ai (bw BK397 hb) <| ai (bw BK398 hb) <| bq HB hb;clear BK397 BK398 HB;obtain ⟨BK397,BK398,HB⟩:=n_;(try clear hb)
         refine hK.out _ _ ⟨kb4 BK397.out,kb4 BK398.out,(cb HB hw399_0 :),(cb HB hw399_1 :),(cb HB hw399_2 :),(cb HB hw399_3 :),(cb HB hw400_0 :),(cb HB hw400_1 :),(cb HB hw400_2 :),(cb HB hw400_3 :)⟩ (fun hHeld=>?_)
         clear hK K
         refine norm_ (a':=?_) ?_ ?_
         rotate_left
         ·show Act.put _ (some 51) _ = _
          simp only [Act.put,List.setIfInBounds_toArray,List.set_cons_zero,List.set_cons_succ,i64_w,i32_w]
          rfl
         refine pu 11 52 ?_
         refine done_ (done_of HT_.out (by kernel_rfl)) ?_
         by_cases c26:t401 = true
         ·subst c26
          have H1:(spec_SameTerm.l0 k2 (wrap64 (x5_2 + 1)) a0_0 a0_1 a0_2 l0_3 a1_0 a1_1 a1_2 l1_3) = some r:=by rw [if_pos rfl] at H;exact H
          clear H;have H:=H1;clear H1;have H':=Aside0.mk H;clear H
          try go_wp2
          go_roundg k2
          case measure=>have:=HJ2.out;have:=HK2.out;omega
          case rel=>exact ⟨(wrap64 (x5_2 + 1)),(cl2),H',⟨by have:=HJ2.out;have:=HK2.out;omega⟩,⟨bk BK397.out⟩,⟨bk BK398.out⟩,⟨bl HB.out⟩⟩
         ·replace c26:=Bool.eq_false_iff.mpr c26
          subst c26;have H1:(some false) = some r:=by rw [if_neg (show ¬ (false = true) by decide)] at H;exact H
          clear H;have H:=H1;clear H1;obtain rfl:=Option.some.inj H
          try go_wp2
          go_ret
          exact ⟨cl,bl HB.out⟩
        ·rw [if_neg c24] at H
         exact absurd H (by simp)
       ·rw [if_neg c23] at H
        exact absurd H (by simp)
      ·rw [if_neg c22] at H
       have c22b0:decide (x5_2 < (l0_3.length:Int)) = false:=decide_eq_false c22;clear c22;obtain rfl:=Option.some.inj H;have:=NB397_398.out;have:=NB398_397.out;obtain ⟨h36_0,h36_1,h36_2,h36_3⟩:=kb4 BK397.out
       go_wp2
       go_ret
       exact ⟨cl,bl HB.out⟩

end Go.Proofs.Ytbdbbgiglojnfaa.QFnOperated
