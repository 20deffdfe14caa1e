-- Written by a program of this workplace (print2.py) for this claim, over the print's words.
import Derived.Test.YtghhbdmjafedbaaQFnExactCodeOkx0
import Derived.Test.YtghhbdmjafedbaaQFnExactCodeOkx1
import Derived.Test.YtghhbdmjafedbaaQFnExactCodeOkx3
namespace Go.Proofs.Ytghhbdmjafedbaa.QFnExactCodeOk
open Go.RowKit Go.Proofs.YtghhbdmjafedbaaW.PrintWords Go.Proofs.YtghhbdmjafedbaaW.PrintLast Go.Proofs.YtghhbdmjafedbaaW.PrintMore
attribute [local go_sem] max2_int min2_int max_two min_two max_three min_three max_four min_four   -- for this text's walks alone
set_option linter.unusedVariables false
set_option linter.unusedSimpArgs false

/-! ### spec_PatFits: function 39 -/
mutual
def spec_PatFits.j0:Nat → Bool → Int → Int → ByteArray → List (S67) → Option (Bool)
 | 0,_,_,_,_,_=>none
 | k + 1,x16,x146000,x146001,x146002,x146003=>if x16 = true then (some false) else ((spec_l9Slots.f k x146000 x146001 x146002 x146003).bind fun t148=>(spec_PatFits.l0 k t148 0))
def spec_PatFits.l0:Nat → List Int → Int → Option (Bool)
 | 0,_,_=>none
 | k + 1,x5,x6=>if x6 < (x5.length:Int) then (spec_PatFits.l1 k x5 x6 0) else (some true)
def spec_PatFits.l1:Nat → List Int → Int → Int → Option (Bool)
 | 0,_,_,_=>none
 | k + 1,x5,x6,x7=>if x7 < x6 then (if 0≤x7 then (if x7 < (x5.length:Int) then (if 0≤x6 then (if x6 < (x5.length:Int) then (if (rd x5 x7) = (rd x5 x6) then (some false) else (spec_PatFits.l1 k x5 x6 (wrap64 (x7 + 1)))) else (none)) else (none)) else (none)) else (none)) else (spec_PatFits.l0 k x5 (wrap64 (x6 + 1)))
end
def spec_PatFits.f (k:Nat) (a0_0:Int) (a0_1:Int) (a0_2:ByteArray) (l0_3:List (S67)) (a1:Int):Option (Bool):=(spec_l1In.f a1 0 400).bind fun t146=>(if t146 = true then ((spec_l9Look.f k a0_0 a0_1 a0_2 l0_3 a1 10 300).bind fun t147=>(spec_PatFits.j0 k (decide (t147 < 0)) a0_0 a0_1 a0_2 l0_3)) else (spec_PatFits.j0 k true a0_0 a0_1 a0_2 l0_3))
theorem spec_PatFits.mono_l:∀ k,(∀ y0 y1 y2 y3 y4,LeO (spec_PatFits.j0 k y0 y1 y2 y3 y4) (spec_PatFits.j0 (k + 1) y0 y1 y2 y3 y4))∧(∀ y0 y1,LeO (spec_PatFits.l0 k y0 y1) (spec_PatFits.l0 (k + 1) y0 y1))∧(∀ y0 y1 y2,LeO (spec_PatFits.l1 k y0 y1 y2) (spec_PatFits.l1 (k + 1) y0 y1 y2))
 | 0=>⟨fun _ _ _ _ _ r h=>by simp [spec_PatFits.j0] at h,fun _ _ r h=>by simp [spec_PatFits.l0] at h,fun _ _ _ r h=>by simp [spec_PatFits.l1] at h⟩
 | k + 1=>by
  obtain ⟨ih0,ih1,ih2⟩:=spec_PatFits.mono_l k
  refine ⟨?_,?_,?_⟩
  ·intro y0 y1 y2 y3 y4
   unfold spec_PatFits.j0
   with_reducible repeat' first|apply ih0|apply ih1|apply ih2|apply spec_l9Look.mono|apply spec_l9Slots.mono|apply LeO.refl|apply LeO.none|apply LeO.ite|refine LeO.bind ?_ (fun _=>?_)
  ·intro y0 y1
   unfold spec_PatFits.l0
   with_reducible repeat' first|apply ih0|apply ih1|apply ih2|apply spec_l9Look.mono|apply spec_l9Slots.mono|apply LeO.refl|apply LeO.none|apply LeO.ite|refine LeO.bind ?_ (fun _=>?_)
  ·intro y0 y1 y2
   unfold spec_PatFits.l1
   with_reducible repeat' first|apply ih0|apply ih1|apply ih2|apply spec_l9Look.mono|apply spec_l9Slots.mono|apply LeO.refl|apply LeO.none|apply LeO.ite|refine LeO.bind ?_ (fun _=>?_)
theorem spec_PatFits.mono:∀ a0 a1 a2 a3 a4 k,LeO (spec_PatFits.f k a0 a1 a2 a3 a4) (spec_PatFits.f (k + 1) a0 a1 a2 a3 a4):=by
 intro a0 a1 a2 a3 a4 k;obtain ⟨ih0,ih1,ih2⟩:=spec_PatFits.mono_l k
 unfold spec_PatFits.f
 with_reducible repeat' first|apply ih0|apply ih1|apply ih2|apply spec_l9Look.mono|apply spec_l9Slots.mono|apply LeO.refl|apply LeO.none|apply LeO.ite|refine LeO.bind ?_ (fun _=>?_)
set_option maxHeartbeats 8000000 in
set_option maxRecDepth 100000 in
theorem spec_PatFits.calls (k:Nat) (a0_0:Int) (a0_1:Int) (a0_2:ByteArray) (A0_3:Option Addr) (c0_3:Nat) (l0_3:List (S67)) (a1:Int) (r:Bool) (w:World) (hr0_3:Kd.C k67 w A0_3 l0_3.length l0_3) (hc0_3:l0_3.length≤c0_3) (h:spec_PatFits.f k a0_0 a0_1 a0_2 l0_3 a1 = some r) :
  Calls Try.prog 39 #[.agg #[.int .i64 a0_0,.int .i64 a0_1,.string a0_2,.slice A0_3 l0_3.length c0_3],.int .i64 a1] w fun e w'=>e = .returned (.bool r)∧Below w.heap.size w w':=by
 have hu67:=Try.underlying67;have HR0_3:=Aside0.mk hr0_3;have HC0_3:=Aside0.mk hc0_3;clear hr0_3 hc0_3;have HB:=Aside0.mk (Below.refl w.heap.size w);have H:((spec_l1In.f a1 0 400).bind fun t146=>(if t146 = true then ((spec_l9Look.f k a0_0 a0_1 a0_2 l0_3 a1 10 300).bind fun t147=>(spec_PatFits.j0 k (decide (t147 < 0)) a0_0 a0_1 a0_2 l0_3)) else (spec_PatFits.j0 k true a0_0 a0_1 a0_2 l0_3))) = some r:=h;clear h;have HC3:=Aside0.mk H;clear H
 go_enter Try.func39,Try.ntmps39
 go_upto_region 1 with (first|((with_reducible refine gate_dst (N:=2) rfl ?_);refine box_event ?hg (N:=2) ?hd (cs:=#[.int .i64 a0_0,.int .i64 a0_1,.string a0_2,.slice A0_3 l0_3.length c0_3]) (t:=67) ?hr ?_;(case hd=>rfl);(case hg=>rfl);(case hr=>first|(go_simp;done)|(go_simp;rfl));intro gb145 hg w4 hbox hb;have n_:=ai (bq HB hb) <| ai (Aside0.mk (hbox)) <| ai (bz hg HB) <| bz hg HB;clear HB;obtain ⟨HB,BK145,GW145,GE145⟩:=n_;clear hb hbox hg))
 repeat (go_quiet (first|((with_reducible refine gate_dst (N:=2) rfl ?_);refine box_event ?hg (N:=2) ?hd (cs:=#[.int .i64 a0_0,.int .i64 a0_1,.string a0_2,.slice A0_3 l0_3.length c0_3]) (t:=67) ?hr ?_;(case hd=>rfl);(case hg=>rfl);(case hr=>first|(go_simp;done)|(go_simp;rfl));intro gb145 hg w4 hbox hb;have n_:=ai (bq HB hb) <| ai (Aside0.mk (hbox)) <| ai (bz hg HB) <| bz hg HB;clear HB;obtain ⟨HB,BK145,GW145,GE145⟩:=n_;clear hb hbox hg));go_upto_region 1 with (first|((with_reducible refine gate_dst (N:=2) rfl ?_);refine box_event ?hg (N:=2) ?hd (cs:=#[.int .i64 a0_0,.int .i64 a0_1,.string a0_2,.slice A0_3 l0_3.length c0_3]) (t:=67) ?hr ?_;(case hd=>rfl);(case hg=>rfl);(case hr=>first|(go_simp;done)|(go_simp;rfl));intro gb145 hg w4 hbox hb;have n_:=ai (bq HB hb) <| ai (Aside0.mk (hbox)) <| ai (bz hg HB) <| bz hg HB;clear HB;obtain ⟨HB,BK145,GW145,GE145⟩:=n_;clear hb hbox hg)))
 (try simp only [Act.put,List.setIfInBounds_toArray,List.set_cons_zero,List.set_cons_succ])
 go_cut [16] (fun v16 wc=>∃ (kq:Nat) (x16_2:Bool),v16 = .bool x16_2∧Aside0 (spec_PatFits.j0 kq x16_2 a0_0 a0_1 a0_2 l0_3 = some r)∧Aside0 (kq≤k)∧Aside0 (wc.heap[gb145]? = some (.cells #[.int .i64 a0_0,.int .i64 a0_1,.string a0_2,(.slice A0_3 l0_3.length c0_3)] 67 (0,0)))∧Aside0 (Below w.heap.size w wc))
 case first =>
  have H:=HC3.out;clear HC3;replace H:=Option.bind_eq_some_iff.mp H;obtain ⟨t146,A50,H⟩:=H;replace H:(if t146 = true then ((spec_l9Look.f k a0_0 a0_1 a0_2 l0_3 a1 10 300).bind fun t147=>(spec_PatFits.j0 k (decide (t147 < 0)) a0_0 a0_1 a0_2 l0_3)) else (spec_PatFits.j0 k true a0_0 a0_1 a0_2 l0_3)) = some r:=H;have A5:=Aside0.mk A50;clear A50
  by_cases c6:t146 = true
  ·subst c6
   have H1:((spec_l9Look.f k a0_0 a0_1 a0_2 l0_3 a1 10 300).bind fun t147=>(spec_PatFits.j0 k (decide (t147 < 0)) a0_0 a0_1 a0_2 l0_3)) = some r:=by rw [if_pos rfl] at H;exact H
   clear H;have H:=H1;clear H1;replace H:=Option.bind_eq_some_iff.mp H;obtain ⟨t147,A70,H⟩:=H;replace H:(spec_PatFits.j0 k (decide (t147 < 0)) a0_0 a0_1 a0_2 l0_3) = some r:=H;have A7:=Aside0.mk A70;clear A70;have H':=Aside0.mk H;clear H
   go_wp2_with (first|(go_at_call 22;(with_reducible refine (spec_l1In.calls a1 0 400 true _ A5.out).mono ?_);rintro e w' ⟨rfl,⟨nd,rfl⟩⟩;(try first|exact ⟨rfl,_,World.drewN_drewN _ _ _⟩|exact ⟨rfl,_,Eq.trans (World.drewN_drewN _ _ _) (congrArg (World.drewN _) (Nat.add_assoc _ _ _))⟩);obtain ⟨hcz8_0,hcz8_1,hcz8_2,hcz8_3⟩:=kb4 BK145.out;obtain ⟨hfz8_0,hfz8_1,hfz8_2,hfz8_3⟩:=kz4 BK145.out)|(go_at_call 50;(with_reducible refine (spec_l9Look.calls k a0_0 a0_1 a0_2 _ _ l0_3 a1 10 300 t147 _ ?side1 ?side2 A7.out).mono ?_);(case side1=>repeat (first|exact (Kd.C_below HR0_3.out (bl HB.out))|(with_reducible refine Kd.C_alloc ?_ _)|(with_reducible refine Kd.C_drewN ?_ _)|(with_reducible refine Kd.C_drew ?_)));(case side2=>exact HC0_3.out);rintro e w9 ⟨rfl,hb⟩;have n_:=ai (bw BK145 hb) <| bq HB hb;clear BK145 HB;obtain ⟨BK145,HB⟩:=n_;(try clear hb);(try clear hb2);(try clear hk);(try clear hi)))
   repeat (go_quiet (first|(go_at_call 22;(with_reducible refine (spec_l1In.calls a1 0 400 true _ A5.out).mono ?_);rintro e w' ⟨rfl,⟨nd,rfl⟩⟩;(try first|exact ⟨rfl,_,World.drewN_drewN _ _ _⟩|exact ⟨rfl,_,Eq.trans (World.drewN_drewN _ _ _) (congrArg (World.drewN _) (Nat.add_assoc _ _ _))⟩);obtain ⟨hcz8_0,hcz8_1,hcz8_2,hcz8_3⟩:=kb4 BK145.out;obtain ⟨hfz8_0,hfz8_1,hfz8_2,hfz8_3⟩:=kz4 BK145.out)|(go_at_call 50;(with_reducible refine (spec_l9Look.calls k a0_0 a0_1 a0_2 _ _ l0_3 a1 10 300 t147 _ ?side1 ?side2 A7.out).mono ?_);(case side1=>repeat (first|exact (Kd.C_below HR0_3.out (bl HB.out))|(with_reducible refine Kd.C_alloc ?_ _)|(with_reducible refine Kd.C_drewN ?_ _)|(with_reducible refine Kd.C_drew ?_)));(case side2=>exact HC0_3.out);rintro e w9 ⟨rfl,hb⟩;have n_:=ai (bw BK145 hb) <| bq HB hb;clear BK145 HB;obtain ⟨BK145,HB⟩:=n_;(try clear hb);(try clear hb2);(try clear hk);(try clear hi)));try go_wp2_with (first|(go_at_call 22;(with_reducible refine (spec_l1In.calls a1 0 400 true _ A5.out).mono ?_);rintro e w' ⟨rfl,⟨nd,rfl⟩⟩;(try first|exact ⟨rfl,_,World.drewN_drewN _ _ _⟩|exact ⟨rfl,_,Eq.trans (World.drewN_drewN _ _ _) (congrArg (World.drewN _) (Nat.add_assoc _ _ _))⟩);obtain ⟨hcz8_0,hcz8_1,hcz8_2,hcz8_3⟩:=kb4 BK145.out;obtain ⟨hfz8_0,hfz8_1,hfz8_2,hfz8_3⟩:=kz4 BK145.out)|(go_at_call 50;(with_reducible refine (spec_l9Look.calls k a0_0 a0_1 a0_2 _ _ l0_3 a1 10 300 t147 _ ?side1 ?side2 A7.out).mono ?_);(case side1=>repeat (first|exact (Kd.C_below HR0_3.out (bl HB.out))|(with_reducible refine Kd.C_alloc ?_ _)|(with_reducible refine Kd.C_drewN ?_ _)|(with_reducible refine Kd.C_drew ?_)));(case side2=>exact HC0_3.out);rintro e w9 ⟨rfl,hb⟩;have n_:=ai (bw BK145 hb) <| bq HB hb;clear BK145 HB;obtain ⟨BK145,HB⟩:=n_;(try clear hb);(try clear hb2);(try clear hk);(try clear hi))))
   go_meet
   case rel=>exact ⟨_,(decide (t147 < 0)),(cl2),H',⟨by first|omega|exact Nat.le_refl _⟩,⟨bk BK145.out⟩,⟨bl HB.out⟩⟩
  ·replace c6:=Bool.eq_false_iff.mpr c6
   subst c6;have H1:(spec_PatFits.j0 k true a0_0 a0_1 a0_2 l0_3) = some r:=by rw [if_neg (show ¬ (false = true) by decide)] at H;exact H
   clear H;have H:=H1;clear H1;have H':=Aside0.mk H;clear H
   go_wp2_with (first|(go_at_call 22;(with_reducible refine (spec_l1In.calls a1 0 400 false _ A5.out).mono ?_);rintro e w' ⟨rfl,⟨nd,rfl⟩⟩;(try first|exact ⟨rfl,_,World.drewN_drewN _ _ _⟩|exact ⟨rfl,_,Eq.trans (World.drewN_drewN _ _ _) (congrArg (World.drewN _) (Nat.add_assoc _ _ _))⟩)))
   repeat (go_quiet (first|(go_at_call 22;(with_reducible refine (spec_l1In.calls a1 0 400 false _ A5.out).mono ?_);rintro e w' ⟨rfl,⟨nd,rfl⟩⟩;(try first|exact ⟨rfl,_,World.drewN_drewN _ _ _⟩|exact ⟨rfl,_,Eq.trans (World.drewN_drewN _ _ _) (congrArg (World.drewN _) (Nat.add_assoc _ _ _))⟩)));try go_wp2_with (first|(go_at_call 22;(with_reducible refine (spec_l1In.calls a1 0 400 false _ A5.out).mono ?_);rintro e w' ⟨rfl,⟨nd,rfl⟩⟩;(try first|exact ⟨rfl,_,World.drewN_drewN _ _ _⟩|exact ⟨rfl,_,Eq.trans (World.drewN_drewN _ _ _) (congrArg (World.drewN _) (Nat.add_assoc _ _ _))⟩))))
   go_meet
   case rel=>exact ⟨_,(true),(cl2),H',⟨by first|omega|exact Nat.le_refl _⟩,⟨bk BK145.out⟩,⟨bl HB.out⟩⟩
 case rest =>
  clear HC3;(try clear p2);(try clear c3);(try clear c6);(try clear hcz8_0);(try clear hcz8_1);(try clear hcz8_2);(try clear hcz8_3);(try clear hfz8_0);(try clear hfz8_1);(try clear hfz8_2);(try clear hfz8_3);(try clear BK145);(try clear HB);obtain ⟨kq,x16_2,rfl,HA,HJ2,BK145,HB⟩:=hcut
  cases kq with
  | zero=>exact absurd HA.out (by simp [spec_PatFits.j0])
  | succ kj2 =>
   have H:=HA.out;clear HA;simp only [spec_PatFits.j0] at H
   by_cases c10:x16_2 = true
   ·subst c10
    have H1:(some false) = some r:=by rw [if_pos rfl] at H;exact H
    clear H;have H:=H1;clear H1;obtain rfl:=Option.some.inj H
    go_wp2
    repeat (go_quiet (fail);try go_wp2)
    go_ret
    exact ⟨cl,bl HB.out⟩
   ·replace c10:=Bool.eq_false_iff.mpr c10
    subst c10;have H1:((spec_l9Slots.f kj2 a0_0 a0_1 a0_2 l0_3).bind fun t148=>(spec_PatFits.l0 kj2 t148 0)) = some r:=by rw [if_neg (show ¬ (false = true) by decide)] at H;exact H
    clear H;have H:=H1;clear H1;replace H:=Option.bind_eq_some_iff.mp H;obtain ⟨t148,A110,H⟩:=H;replace H:(spec_PatFits.l0 kj2 t148 0) = some r:=H;have A11:=Aside0.mk A110;clear A110;have H':=Aside0.mk H;clear H;obtain ⟨hcz12_0,hcz12_1,hcz12_2,hcz12_3⟩:=kb4 BK145.out
    go_wp2_with (first|(go_at_call 51;(with_reducible refine (spec_l9Slots.calls kj2 a0_0 a0_1 a0_2 _ _ l0_3 t148 _ ?side1 ?side2 A11.out).mono ?_);(case side1=>exact ck (Kd.C_below HR0_3.out HB.out));(case side2=>exact HC0_3.out);rintro e w13 ⟨v149,rfl,ho0,hb⟩;have n_:=ai (Aside0.mk (Kd.R_lower ho0 (below_size (bl HB.out)))) <| ai (bw BK145 hb) <| bq HB hb;clear BK145 HB;obtain ⟨HO150,BK145,HB⟩:=n_;(try clear hb);(try clear hb2);(try clear hk);(try clear hi);(try clear ho0)))
    repeat (go_quiet (first|(go_at_call 51;(with_reducible refine (spec_l9Slots.calls kj2 a0_0 a0_1 a0_2 _ _ l0_3 t148 _ ?side1 ?side2 A11.out).mono ?_);(case side1=>exact ck (Kd.C_below HR0_3.out HB.out));(case side2=>exact HC0_3.out);rintro e w13 ⟨v149,rfl,ho0,hb⟩;have n_:=ai (Aside0.mk (Kd.R_lower ho0 (below_size (bl HB.out)))) <| ai (bw BK145 hb) <| bq HB hb;clear BK145 HB;obtain ⟨HO150,BK145,HB⟩:=n_;(try clear hb);(try clear hb2);(try clear hk);(try clear hi);(try clear ho0)));try go_wp2_with (first|(go_at_call 51;(with_reducible refine (spec_l9Slots.calls kj2 a0_0 a0_1 a0_2 _ _ l0_3 t148 _ ?side1 ?side2 A11.out).mono ?_);(case side1=>exact ck (Kd.C_below HR0_3.out HB.out));(case side2=>exact HC0_3.out);rintro e w13 ⟨v149,rfl,ho0,hb⟩;have n_:=ai (Aside0.mk (Kd.R_lower ho0 (below_size (bl HB.out)))) <| ai (bw BK145 hb) <| bq HB hb;clear BK145 HB;obtain ⟨HO150,BK145,HB⟩:=n_;(try clear hb);(try clear hb2);(try clear hk);(try clear hi);(try clear ho0))))
    go_loopg [6] kj2 (fun kq v6 w'=>∃ (x6_2:Int),v6 = .int .i64 x6_2∧Aside0 (spec_PatFits.l0 kq t148 x6_2 = some r)∧Aside0 (kq≤kj2)∧Aside0 (Kd.R (Kd.int .i64) 3 w' w.heap.size (fun _=>True) v149 t148)∧Aside0 (w'.heap[gb145]? = some (.cells #[.int .i64 a0_0,.int .i64 a0_1,.string a0_2,(.slice A0_3 l0_3.length c0_3)] 67 (0,0)))∧Aside0 (Below w.heap.size w w'))
    case atStart=>exact ⟨(0),(cl2),H',⟨Nat.le_refl _⟩,⟨rk HO150.out⟩,⟨bk BK145.out⟩,⟨bl HB.out⟩⟩
    case round =>
     clear H';(try clear c1);(try clear p2);(try clear c3);(try clear c6);(try clear c10);(try clear hcz12_0);(try clear hcz12_1);(try clear hcz12_2);(try clear hcz12_3);(try clear hcz8_0);(try clear hcz8_1);(try clear hcz8_2);(try clear hcz8_3);(try clear hfz12_0);(try clear hfz12_1);(try clear hfz12_2);(try clear hfz12_3);(try clear hfz8_0);(try clear hfz8_1);(try clear hfz8_2);(try clear hfz8_3);(try clear p2);(try clear HO_5);(try clear BK145);(try clear HB);obtain ⟨x6_2,rfl,HA,HK2,HO_5,BK145,HB⟩:=hrel
     cases gk with
     | zero=>exact absurd HA.out (by simp [spec_PatFits.l0])
     | succ k2 =>
      have H:=HA.out;clear HA;simp only [spec_PatFits.l0] at H
      by_cases c14:x6_2 < (t148.length:Int)
      ·rw [if_pos c14] at H
       have c14b0:decide (x6_2 < (t148.length:Int)) = true:=decide_eq_true c14;clear c14;have H':=Aside0.mk H;clear H;obtain ⟨Ao15,co15,eo15⟩:=Kd.R_slice HO_5.out;subst eo15
       go_wp2
       repeat (go_quiet (fail);try go_wp2)
       go_loopg [7] k2 (fun kq v7 w'=>∃ (x7_3:Int),v7 = .int .i64 x7_3∧Aside0 (spec_PatFits.l1 kq t148 x6_2 x7_3 = some r)∧Aside0 (kq≤k2)∧Aside0 (Kd.R (Kd.int .i64) 3 w' w.heap.size (fun _=>True) (.slice Ao15 t148.length co15) t148)∧Aside0 (w'.heap[gb145]? = some (.cells #[.int .i64 a0_0,.int .i64 a0_1,.string a0_2,(.slice A0_3 l0_3.length c0_3)] 67 (0,0)))∧Aside0 (Below w.heap.size w w'))
       case atStart=>exact ⟨(0),(cl2),H',⟨Nat.le_refl _⟩,⟨rk HO_5.out⟩,⟨bk BK145.out⟩,⟨bl HB.out⟩⟩
       case round =>
        clear H';(try clear c1);(try clear p2);(try clear c3);(try clear c6);(try clear c10);(try clear c14);(try clear c14b0);(try clear hcz12_0);(try clear hcz12_1);(try clear hcz12_2);(try clear hcz12_3);(try clear hcz8_0);(try clear hcz8_1);(try clear hcz8_2);(try clear hcz8_3);(try clear hfz12_0);(try clear hfz12_1);(try clear hfz12_2);(try clear hfz12_3);(try clear hfz8_0);(try clear hfz8_1);(try clear hfz8_2);(try clear hfz8_3);(try clear p2);(try clear HO_5);(try clear BK145);(try clear HB);obtain ⟨x7_3,rfl,HA,HK3,HO_5,BK145,HB⟩:=hrel
        cases gk with
        | zero=>exact absurd HA.out (by simp [spec_PatFits.l1])
        | succ k3 =>
         have H:=HA.out;clear HA;simp only [spec_PatFits.l1] at H
         by_cases c16:x7_3 < x6_2
         ·rw [if_pos c16] at H
          have c16b0:decide (x7_3 < x6_2) = true:=decide_eq_true c16;clear c16
          by_cases c17:0≤x7_3
          ·rw [if_pos c17] at H
           have c17b0:decide (0≤x7_3) = true:=decide_eq_true c17;clear c17
           by_cases c18:x7_3 < (t148.length:Int)
           ·rw [if_pos c18] at H
            have c18b0:decide (x7_3 < (t148.length:Int)) = true:=decide_eq_true c18;clear c18
            by_cases c19:0≤x6_2
            ·rw [if_pos c19] at H
             have c19b0:decide (0≤x6_2) = true:=decide_eq_true c19;clear c19
             by_cases c20:x6_2 < (t148.length:Int)
             ·rw [if_pos c20] at H
              have c20b0:decide (x6_2 < (t148.length:Int)) = true:=decide_eq_true c20;clear c20
              by_cases c21:(rd t148 x7_3) = (rd t148 x6_2)
              ·rw [if_pos c21] at H
               have c21b0:((rd t148 x7_3) == (rd t148 x6_2)) = true:=beq_iff_eq.mpr c21;have c21b1:((rd t148 x7_3) != (rd t148 x6_2)) = false:=bne_eq_false_iff_eq.mpr c21;clear c21;obtain rfl:=Option.some.inj H;have p151:0≤(x7_3:Int):=od;have q151:x7_3 < (t148.length:Int):=od;obtain ⟨ad151,e151,hx151_0⟩:=Kd.at_int (Kd.R_reads' HO_5.out).2.2 x7_3 p151 q151;cases e151;replace p151:=eq_true p151;replace q151:=eq_true q151;have p152:0≤(x6_2:Int):=od;have q152:x6_2 < (t148.length:Int):=od;obtain ⟨ad152,e152,hx152_0⟩:=Kd.at_int (Kd.R_reads' HO_5.out).2.2 x6_2 p152 q152;obtain rfl:ad151 = ad152:=(by injection e152);replace p152:=eq_true p152;replace q152:=eq_true q152
               go_wp2
               repeat (go_quiet (fail);try go_wp2)
               go_ret
               exact ⟨cl,bl HB.out⟩
              ·rw [if_neg c21] at H
               have c21b0:((rd t148 x7_3) == (rd t148 x6_2)) = false:=beq_eq_false_iff_ne.mpr c21;have c21b1:((rd t148 x7_3) != (rd t148 x6_2)) = true:=bne_iff_ne.mpr c21;have H':=Aside0.mk H;clear H;have p151:0≤(x7_3:Int):=od;have q151:x7_3 < (t148.length:Int):=od;obtain ⟨ad151,e151,hx151_0⟩:=Kd.at_int (Kd.R_reads' HO_5.out).2.2 x7_3 p151 q151;cases e151;replace p151:=eq_true p151;replace q151:=eq_true q151;have p152:0≤(x6_2:Int):=od;have q152:x6_2 < (t148.length:Int):=od;obtain ⟨ad152,e152,hx152_0⟩:=Kd.at_int (Kd.R_reads' HO_5.out).2.2 x6_2 p152 q152;obtain rfl:ad151 = ad152:=(by injection e152);replace p152:=eq_true p152;replace q152:=eq_true q152
               go_wp2
               repeat (go_quiet (fail);try go_wp2)
               go_roundg k3
               case measure=>have:=HJ2.out;have:=HK2.out;have:=HK3.out;omega
               case rel=>exact ⟨(wrap64 (x7_3 + 1)),(cl2),H',⟨by have:=HJ2.out;have:=HK2.out;have:=HK3.out;omega⟩,⟨rk HO_5.out⟩,⟨bk BK145.out⟩,⟨bl HB.out⟩⟩
             ·rw [if_neg c20] at H
              exact absurd H (by simp)
            ·rw [if_neg c19] at H
             exact absurd H (by simp)
           ·rw [if_neg c18] at H
            exact absurd H (by simp)
          ·rw [if_neg c17] at H
           exact absurd H (by simp)
         ·rw [if_neg c16] at H
          have c16b0:decide (x7_3 < x6_2) = false:=decide_eq_false c16;clear c16;have H':=Aside0.mk H;clear H
          go_wp2
          repeat (go_quiet (fail);try go_wp2)
          go_roundg k3
          case measure=>have:=HJ2.out;have:=HK2.out;have:=HK3.out;omega
          case rel=>exact ⟨(wrap64 (x6_2 + 1)),(cl2),H',⟨by have:=HJ2.out;have:=HK2.out;have:=HK3.out;omega⟩,⟨rk HO_5.out⟩,⟨bk BK145.out⟩,⟨bl HB.out⟩⟩
      ·rw [if_neg c14] at H
       have c14b0:decide (x6_2 < (t148.length:Int)) = false:=decide_eq_false c14;clear c14;obtain rfl:=Option.some.inj H;obtain ⟨Ao22,co22,eo22⟩:=Kd.R_slice HO_5.out;subst eo22
       go_wp2
       repeat (go_quiet (fail);try go_wp2)
       go_ret
       exact ⟨cl,bl HB.out⟩

end Go.Proofs.Ytghhbdmjafedbaa.QFnExactCodeOk
