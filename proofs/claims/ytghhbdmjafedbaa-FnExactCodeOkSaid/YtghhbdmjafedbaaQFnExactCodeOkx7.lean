-- Written by a program of this workplace (print2.py) for this claim, over the print's words.
import Derived.Test.YtghhbdmjafedbaaQFnExactCodeOkx0
import Derived.Test.YtghhbdmjafedbaaQFnExactCodeOkx6
namespace Go.Proofs.Ytghhbdmjafedbaa.QFnExactCodeOk
open Go.RowKit Go.Proofs.YtghhbdmjafedbaaW.PrintWords Go.Proofs.YtghhbdmjafedbaaW.PrintLast Go.Proofs.YtghhbdmjafedbaaW.PrintMore
attribute [local go_sem] max2_int min2_int max_two min_two max_three min_three max_four min_four   -- for this text's walks alone
set_option linter.unusedVariables false
set_option linter.unusedSimpArgs false

/-! ### spec_l9Heights: function 24 -/
mutual
def spec_l9Heights.l0:Nat → List Int → Int → ByteArray → Int → Int → List (S64) → Option (List Int × Bool)
 | 0,_,_,_,_,_,_=>none
 | k + 1,x4,x5,x176000,x176001,x176002,x176003=>if x5 < (x4.length:Int) then (if 0≤x5 then (spec_l9Heights.l0 k (x4.set (x5:Int).toNat (-1)) (wrap64 (x5 + 1)) x176000 x176001 x176002 x176003) else (none)) else (spec_l9Heights.l1 k x4 0 x176000 x176001 x176002 x176003)
def spec_l9Heights.l1:Nat → List Int → Int → ByteArray → Int → Int → List (S64) → Option (List Int × Bool)
 | 0,_,_,_,_,_,_=>none
 | k + 1,x4,x6,x176000,x176001,x176002,x176003=>if x6 < (x4.length:Int) then (if 0≤x6 then (if x6 < (x176003.length:Int) then ((spec_l9Takes.f k ((rd_T64 x176003 x6).f0) ((rd_T64 x176003 x6).f1) ((rd_T64 x176003 x6).f2) ((rd_T64 x176003 x6).f3)).bind fun bt182=>(if (rd x4 x6) < bt182.1 then (spec_l9Heights.j2 k x4 x6 bt182.1 bt182.2 (rd x4 x6) true x176000 x176001 x176002 x176003 ((rd_T64 x176003 x6).f0) ((rd_T64 x176003 x6).f1) ((rd_T64 x176003 x6).f2) ((rd_T64 x176003 x6).f3)) else (if (rd x4 x6) > 300 then (spec_l9Heights.j2 k x4 x6 bt182.1 bt182.2 (rd x4 x6) true x176000 x176001 x176002 x176003 ((rd_T64 x176003 x6).f0) ((rd_T64 x176003 x6).f1) ((rd_T64 x176003 x6).f2) ((rd_T64 x176003 x6).f3)) else (if ((rd_T64 x176003 x6).f0) = 12 then (spec_l9Heights.j2 k x4 x6 bt182.1 bt182.2 (rd x4 x6) ((rd x4 x6) != 1) x176000 x176001 x176002 x176003 ((rd_T64 x176003 x6).f0) ((rd_T64 x176003 x6).f1) ((rd_T64 x176003 x6).f2) ((rd_T64 x176003 x6).f3)) else (spec_l9Heights.j2 k x4 x6 bt182.1 bt182.2 (rd x4 x6) false x176000 x176001 x176002 x176003 ((rd_T64 x176003 x6).f0) ((rd_T64 x176003 x6).f1) ((rd_T64 x176003 x6).f2) ((rd_T64 x176003 x6).f3)))))) else (none)) else (none)) else (some (x4,true))
def spec_l9Heights.j2:Nat → List Int → Int → Int → Int → Int → Bool → ByteArray → Int → Int → List (S64) → Int → Int → ByteArray → Int → Option (List Int × Bool)
 | 0,_,_,_,_,_,_,_,_,_,_,_,_,_,_=>none
 | k + 1,x4,x6,x8,x9,x10,x60,x176000,x176001,x176002,x176003,x182000,x182001,x182002,x182003=>if x60 = true then (some (x4,false)) else (if x182000 = 11 then (spec_l9Heights.j3 k x4 x6 x8 x9 x10 true x182000 (x182000 == 11) x176000 x176001 x176002 x176003 x182000 x182001 x182002 x182003) else (spec_l9Heights.j3 k x4 x6 x8 x9 x10 true x182000 (x182000 == 12) x176000 x176001 x176002 x176003 x182000 x182001 x182002 x182003))
def spec_l9Heights.j3:Nat → List Int → Int → Int → Int → Int → Bool → Int → Bool → ByteArray → Int → Int → List (S64) → Int → Int → ByteArray → Int → Option (List Int × Bool)
 | 0,_,_,_,_,_,_,_,_,_,_,_,_,_,_,_,_=>none
 | k + 1,x4,x6,x8,x9,x10,x11,x63,x80,x176000,x176001,x176002,x176003,x182000,x182001,x182002,x182003=>if x80 = true then (if x11 = true then (spec_l9Heights.l1 k x4 (wrap64 (x6 + 1)) x176000 x176001 x176002 x176003) else (some (x4,false))) else (if x63 = 10 then ((spec_l9Come.f x4 x182003 x10).bind fun bt185=>(if bt185.1 = true then (spec_l9Heights.l1 k bt185.2 (wrap64 (x6 + 1)) x176000 x176001 x176002 x176003) else (some (bt185.2,false)))) else (if x63 = 9 then ((spec_l9Come.f x4 x182003 x10).bind fun bt187=>(if bt187.1 = true then (if (wrap64 (x6 + 1)) < (x4.length:Int) then ((spec_l9Come.f bt187.2 (wrap64 (x6 + 1)) (wrap64 (x10 - 1))).bind fun bt189=>(if bt189.1 = true then (spec_l9Heights.l1 k bt189.2 (wrap64 (x6 + 1)) x176000 x176001 x176002 x176003) else (some (bt189.2,false)))) else (some (bt187.2,false))) else (some (bt187.2,false)))) else (if (wrap64 (x6 + 1)) < (x4.length:Int) then ((spec_l9Come.f x4 (wrap64 (x6 + 1)) (wrap64 ((wrap64 (x10 - x8)) + x9))).bind fun bt191=>(if bt191.1 = true then (spec_l9Heights.l1 k bt191.2 (wrap64 (x6 + 1)) x176000 x176001 x176002 x176003) else (some (bt191.2,false)))) else (some (x4,false)))))
end
def spec_l9Heights.f (k:Nat) (a0_0:ByteArray) (a0_1:Int) (a0_2:Int) (l0_3:List (S64)):Option (List Int × Bool):=if 0≤(l0_3.length:Int) then (if ((l0_3.length:Int):Int).toNat≤35184372088832 then (spec_l9Heights.l0 k (List.replicate ((l0_3.length:Int):Int).toNat 0) 1 a0_0 a0_1 a0_2 l0_3) else (none)) else (none)
theorem spec_l9Heights.mono_l:∀ k,(∀ y0 y1 y2 y3 y4 y5,LeO (spec_l9Heights.l0 k y0 y1 y2 y3 y4 y5) (spec_l9Heights.l0 (k + 1) y0 y1 y2 y3 y4 y5))∧(∀ y0 y1 y2 y3 y4 y5,LeO (spec_l9Heights.l1 k y0 y1 y2 y3 y4 y5) (spec_l9Heights.l1 (k + 1) y0 y1 y2 y3 y4 y5))∧(∀ y0 y1 y2 y3 y4 y5 y6 y7 y8 y9 y10 y11 y12 y13,LeO (spec_l9Heights.j2 k y0 y1 y2 y3 y4 y5 y6 y7 y8 y9 y10 y11 y12 y13) (spec_l9Heights.j2 (k + 1) y0 y1 y2 y3 y4 y5 y6 y7 y8 y9 y10 y11 y12 y13))∧(∀ y0 y1 y2 y3 y4 y5 y6 y7 y8 y9 y10 y11 y12 y13 y14 y15,LeO (spec_l9Heights.j3 k y0 y1 y2 y3 y4 y5 y6 y7 y8 y9 y10 y11 y12 y13 y14 y15) (spec_l9Heights.j3 (k + 1) y0 y1 y2 y3 y4 y5 y6 y7 y8 y9 y10 y11 y12 y13 y14 y15))
 | 0=>⟨fun _ _ _ _ _ _ r h=>by simp [spec_l9Heights.l0] at h,fun _ _ _ _ _ _ r h=>by simp [spec_l9Heights.l1] at h,fun _ _ _ _ _ _ _ _ _ _ _ _ _ _ r h=>by simp [spec_l9Heights.j2] at h,fun _ _ _ _ _ _ _ _ _ _ _ _ _ _ _ _ r h=>by simp [spec_l9Heights.j3] at h⟩
 | k + 1=>by
  obtain ⟨ih0,ih1,ih2,ih3⟩:=spec_l9Heights.mono_l k
  refine ⟨?_,?_,?_,?_⟩
  ·intro y0 y1 y2 y3 y4 y5
   unfold spec_l9Heights.l0
   with_reducible repeat' first|apply ih0|apply ih1|apply ih2|apply ih3|apply spec_l9Takes.mono|apply LeO.refl|apply LeO.none|apply LeO.ite|refine LeO.bind ?_ (fun _=>?_)
  ·intro y0 y1 y2 y3 y4 y5
   unfold spec_l9Heights.l1
   with_reducible repeat' first|apply ih0|apply ih1|apply ih2|apply ih3|apply spec_l9Takes.mono|apply LeO.refl|apply LeO.none|apply LeO.ite|refine LeO.bind ?_ (fun _=>?_)
  ·intro y0 y1 y2 y3 y4 y5 y6 y7 y8 y9 y10 y11 y12 y13
   unfold spec_l9Heights.j2
   with_reducible repeat' first|apply ih0|apply ih1|apply ih2|apply ih3|apply spec_l9Takes.mono|apply LeO.refl|apply LeO.none|apply LeO.ite|refine LeO.bind ?_ (fun _=>?_)
  ·intro y0 y1 y2 y3 y4 y5 y6 y7 y8 y9 y10 y11 y12 y13 y14 y15
   unfold spec_l9Heights.j3
   with_reducible repeat' first|apply ih0|apply ih1|apply ih2|apply ih3|apply spec_l9Takes.mono|apply LeO.refl|apply LeO.none|apply LeO.ite|refine LeO.bind ?_ (fun _=>?_)
theorem spec_l9Heights.mono:∀ a0 a1 a2 a3 k,LeO (spec_l9Heights.f k a0 a1 a2 a3) (spec_l9Heights.f (k + 1) a0 a1 a2 a3):=by
 intro a0 a1 a2 a3 k;obtain ⟨ih0,ih1,ih2,ih3⟩:=spec_l9Heights.mono_l k
 unfold spec_l9Heights.f
 with_reducible repeat' first|apply ih0|apply ih1|apply ih2|apply ih3|apply spec_l9Takes.mono|apply LeO.refl|apply LeO.none|apply LeO.ite|refine LeO.bind ?_ (fun _=>?_)
set_option maxHeartbeats 8000000 in
set_option maxRecDepth 100000 in
theorem spec_l9Heights.calls (k:Nat) (a0_0:ByteArray) (a0_1:Int) (a0_2:Int) (A0_3:Option Addr) (c0_3:Nat) (l0_3:List (S64)) (r1:List Int) (r2:Bool) (w:World) (hr0_3:Kd.C k64 w A0_3 l0_3.length l0_3) (hc0_3:l0_3.length≤c0_3) (h:spec_l9Heights.f k a0_0 a0_1 a0_2 l0_3 = some (r1,r2)) :
  Calls Try.prog 24 #[.agg #[.string a0_0,.int .i64 a0_1,.int .i64 a0_2,.slice A0_3 l0_3.length c0_3]] w fun e w'=>∃ v0_:Value,e = .returned (.tuple #[v0_,.bool r2])∧Kd.R (Kd.int .i64) 3 w' w.heap.size (fun _=>True) v0_ r1∧Below w.heap.size w w':=by
 have hu44:=Try.underlying44;have hu64:=Try.underlying64;have HR0_3:=Aside0.mk hr0_3;have HC0_3:=Aside0.mk hc0_3;clear hr0_3 hc0_3;have HB:=Aside0.mk (Below.refl w.heap.size w);have H:(if 0≤(l0_3.length:Int) then (if ((l0_3.length:Int):Int).toNat≤35184372088832 then (spec_l9Heights.l0 k (List.replicate ((l0_3.length:Int):Int).toNat 0) 1 a0_0 a0_1 a0_2 l0_3) else (none)) else (none)) = some (r1,r2):=h;clear h
 by_cases c2:0≤(l0_3.length:Int)
 ·rw [if_pos c2] at H
  have c2b0:=eq_true c2;have c2b1:decide (0≤(l0_3.length:Int)) = true:=decide_eq_true c2;clear c2
  by_cases c3:((l0_3.length:Int):Int).toNat≤35184372088832
  ·rw [if_pos c3] at H
   have c3b0:=eq_true c3;have c3b1:decide (((l0_3.length:Int):Int).toNat≤35184372088832) = true:=decide_eq_true c3;clear c3;obtain ⟨y176,hy176⟩:∃ y_:List Int,y_ = (List.replicate ((l0_3.length:Int):Int).toNat 0):=⟨_,rfl⟩;replace H:(spec_l9Heights.l0 k y176 1 a0_0 a0_1 a0_2 l0_3) = some (r1,r2):=by first|(rw [hy176];with_reducible exact H)|(have H2_:=(Option.bind_some _ _).symm.trans H;rw [hy176];with_reducible exact H2_)|(have H2_:=(Option.bind_some _ _).symm.trans H;with_reducible exact H2_)|with_reducible exact H|(rw [hy176];exact H)|exact H
   have Ny176:=Aside0.mk hy176;clear hy176;have H':=Aside0.mk H;clear H
   go_enter Try.func24,Try.ntmps24
   go_wp2_with (first|((with_reducible refine gate_dst (N:=1) rfl ?_);(try (refine gate_guard (by rfl) ?_;dsimp only));refine box_event ?hg (N:=1) ?hd (cs:=#[.string a0_0,.int .i64 a0_1,.int .i64 a0_2,.slice A0_3 l0_3.length c0_3]) (t:=44) ?hr ?_;(case hd=>rfl);(case hg=>rfl);(case hr=>first|(go_simp;done)|(go_simp;rfl));intro gb175 hg w4 hbox hb;have n_:=ai (bq HB hb) <| ai (Aside0.mk (hbox)) <| ai (bz hg HB) <| bz hg HB;clear HB;obtain ⟨HB,BK175,GW175,GE175⟩:=n_;clear hb hbox hg;obtain ⟨hcz5_0,hcz5_1,hcz5_2,hcz5_3⟩:=kb4 BK175.out;obtain ⟨hfz5_0,hfz5_1,hfz5_2,hfz5_3⟩:=kz4 BK175.out)|((with_reducible refine gate_dst (N:=15) rfl ?_);(try (refine gate_guard (by rfl) ?_;dsimp only));refine Kd.R_make (Kd.int .i64) _ 3 rfl (N:=15) rfl 60 _ _ rfl (l0_3.length:Int) rfl rfl Try.underlying60 (.int .i64 0) 8 info3 rfl (by decide) (by omega) 0 (ok:=fun _=>True) (okp:=fun _=>True) rfl (fun _ hk=>hk) trivial (od) (Nat.le_trans (Nat.mul_le_mul_right _ (od:(l0_3.length:Int).toNat≤35184372088832)) (by omega)) (Below.refl _ _) (Nat.le_refl _) ?_;intro v177 w6 ho7 hb hg_ hnew_;clear hg_ hnew_;(first|rw [← Ny176.out] at ho7|(simp only [Int.reduceToNat] at ho7;rw [← Ny176.out] at ho7));have n_:=ai (Aside0.mk (Kd.R_lower ho7 (below_size (bl HB.out)))) <| ai (bw BK175 hb) <| bq HB hb;clear BK175 HB;obtain ⟨HO178,BK175,HB⟩:=n_;clear hb ho7))
   go_loopg [5] k (fun kq v5 w'=>∃ (x4_1:List Int) (x5_1:Int),v5 = .int .i64 x5_1∧Aside0 (spec_l9Heights.l0 kq x4_1 x5_1 a0_0 a0_1 a0_2 l0_3 = some (r1,r2))∧Aside0 (kq≤k)∧Aside0 (Kd.R (Kd.int .i64) 3 w' w.heap.size (fun _=>True) v177 x4_1)∧Aside0 (w'.heap[gb175]? = some (.cells #[.string a0_0,.int .i64 a0_1,.int .i64 a0_2,(.slice A0_3 l0_3.length c0_3)] 44 (0,0)))∧Aside0 (Below w.heap.size w w'))
   case atStart=>exact ⟨(y176),(1),(cl2),H',⟨Nat.le_refl _⟩,⟨rk HO178.out⟩,⟨bk BK175.out⟩,⟨bl HB.out⟩⟩
   case round =>
    clear H';(try clear c2);(try clear c2b0);(try clear c2b1);(try clear p2);(try clear c3);(try clear c3b0);(try clear c3b1);(try clear hcz5_0);(try clear hcz5_1);(try clear hcz5_2);(try clear hcz5_3);(try clear hfz5_0);(try clear hfz5_1);(try clear hfz5_2);(try clear hfz5_3);(try clear HO_4);(try clear BK175);(try clear HB);obtain ⟨x4_1,x5_1,rfl,HA,HK1,HO_4,BK175,HB⟩:=hrel
    cases gk with
    | zero=>exact absurd HA.out (by simp [spec_l9Heights.l0])
    | succ k1 =>
     have H:=HA.out;clear HA;simp only [spec_l9Heights.l0] at H
     by_cases c8:x5_1 < (x4_1.length:Int)
     ·rw [if_pos c8] at H
      have c8b0:decide (x5_1 < (x4_1.length:Int)) = true:=decide_eq_true c8;clear c8
      by_cases c9:0≤x5_1
      ·rw [if_pos c9] at H
       have c9b0:decide (0≤x5_1) = true:=decide_eq_true c9;clear c9;obtain ⟨y179,hy179⟩:∃ y_:List Int,y_ = (x4_1.set (x5_1:Int).toNat (-1)):=⟨_,rfl⟩;replace H:(spec_l9Heights.l0 k1 y179 (wrap64 (x5_1 + 1)) a0_0 a0_1 a0_2 l0_3) = some (r1,r2):=by first|(rw [hy179];with_reducible exact H)|(have H2_:=(Option.bind_some _ _).symm.trans H;rw [hy179];with_reducible exact H2_)|(have H2_:=(Option.bind_some _ _).symm.trans H;with_reducible exact H2_)|with_reducible exact H|(rw [hy179];exact H)|exact H
       have Ny179:=Aside0.mk hy179;clear hy179;have H':=Aside0.mk H;clear H;obtain ⟨Ao11,co11,eo11⟩:=Kd.R_slice HO_4.out;subst eo11;have p10:0≤(x5_1:Int):=od;have q10:(x5_1:Int) < ((x4_1.length:Int):Int):=od;obtain ⟨go10,co10,eo10,gb10,gl10,cl10,HG10⟩:=Kd.R_form HO_4.out (by omega)
       (first|cases eo10|(injection eo10 with ea_ en_ ec_;(first|subst ea_|(injection ea_ with ea_;subst ea_));subst ec_;clear en_))
       have GB10:=Aside0.mk gb10;have GG10:=Aside0.mk HG10;clear gb10 gl10 HG10;obtain ⟨hx10_0,hf10_0⟩:=Kd.R_celln 0 HO_4.out (x5_1:Int) p10 q10;replace p10:=eq_true p10;replace q10:=eq_true q10;have HP12:=Kd.R_putg HO_4.out (x5_1:Int) (-1)
       go_wp2_with (first|((with_reducible refine gate_store (t:=3) (p:=24) rfl ?_);refine store_event (t:=3) (p:=24) (v:=?vo_w13) (w1:=(wr.setCell ⟨go10,(x5_1:Int).toNat,none⟩ (.int .i64 (-1)))) ?hg ?ho ?hn ?hr ?_;(case ho=>rfl);(case hg=>rfl);(case hn=>rfl);(case hr=>first|(go_simp;done)|(go_simp;rfl));intro w13 hw;have hg:wr.grownBy w13 (some go10):=(by rw [hw];exact HP12.2);have hp_:Kd.R (Kd.int .i64) 3 w13 w.heap.size (fun _=>True) (.slice (some ⟨go10,0,none⟩) x4_1.length co11) y179:=(by rw [hw,Ny179.out];exact HP12.1);clear HP12;have n_:=ai (Aside0.mk (hp_)) <| ai (Aside0.mk (blk_grown (g:=gb175) (o:=.cells #[.string a0_0,.int .i64 a0_1,.int .i64 a0_2,.slice A0_3 l0_3.length c0_3] 44 (0,0)) (bk BK175.out) hg (Kd.R_ne HO_4.out BK175.out (by decide)))) <| Aside0.mk ((by rw [hw];exact below_set (HB.out) GB10.out:Below w.heap.size w w13));clear HO_4 BK175 HB;obtain ⟨HO_4,BK175,HB⟩:=n_;clear hg hw hp_))
       go_roundg k1
       case measure=>have:=HK1.out;omega
       case rel=>exact ⟨(y179),(wrap64 (x5_1 + 1)),(cl2),H',⟨by have:=HK1.out;omega⟩,⟨rk HO_4.out⟩,⟨bk BK175.out⟩,⟨bl HB.out⟩⟩
      ·rw [if_neg c9] at H
       exact absurd H (by simp)
     ·rw [if_neg c8] at H
      have c8b0:decide (x5_1 < (x4_1.length:Int)) = false:=decide_eq_false c8;clear c8;have H':=Aside0.mk H;clear H;obtain ⟨Ao14,co14,eo14⟩:=Kd.R_slice HO_4.out;subst eo14
      go_wp2
      go_loopg [6] k1 (fun kq v6 w'=>∃ (x4_2:List Int) (x6_2:Int),v6 = .int .i64 x6_2∧Aside0 (spec_l9Heights.l1 kq x4_2 x6_2 a0_0 a0_1 a0_2 l0_3 = some (r1,r2))∧Aside0 (kq≤k1)∧Aside0 (Kd.R (Kd.int .i64) 3 w' w.heap.size (fun _=>True) (.slice Ao14 x4_1.length co14) x4_2)∧Aside0 (w'.heap[gb175]? = some (.cells #[.string a0_0,.int .i64 a0_1,.int .i64 a0_2,(.slice A0_3 l0_3.length c0_3)] 44 (0,0)))∧Aside0 (Below w.heap.size w w'))
      case atStart=>exact ⟨(x4_1),(0),(cl2),H',⟨Nat.le_refl _⟩,⟨rk HO_4.out⟩,⟨bk BK175.out⟩,⟨bl HB.out⟩⟩
      case round =>
       clear H';(try clear p1);(try clear q1);(try clear hx1);(try clear hf1);(try clear c2);(try clear c2b0);(try clear c2b1);(try clear p2);(try clear c3);(try clear c3b0);(try clear c3b1);(try clear p6);(try clear c8);(try clear c8b0);(try clear c9);(try clear c9b0);(try clear p10);(try clear q10);(try clear hx10);(try clear hf10);(try clear hcz5_0);(try clear hcz5_1);(try clear hcz5_2);(try clear hcz5_3);(try clear hfz5_0);(try clear hfz5_1);(try clear hfz5_2);(try clear hfz5_3);(try clear hx10_0);(try clear p10);(try clear p2);(try clear q10);(try clear HO_4);(try clear BK175);(try clear HB);obtain ⟨x4_2,x6_2,rfl,HA,HK2,HO_4,BK175,HB⟩:=hrel;have hl4_2:=(Kd.R_reads' HO_4.out).1;rw [hl4_2] at HO_4;(try simp only [hl4_2]);(try simp only [hl4_2] at BK175)
       cases gk with
       | zero=>exact absurd HA.out (by simp [spec_l9Heights.l1])
       | succ k2 =>
        have H:=HA.out;clear HA;simp only [spec_l9Heights.l1] at H
        by_cases c15:x6_2 < (x4_2.length:Int)
        ·rw [if_pos c15] at H
         have c15b0:decide (x6_2 < (x4_2.length:Int)) = true:=decide_eq_true c15;clear c15
         by_cases c16:0≤x6_2
         ·rw [if_pos c16] at H
          have c16b0:decide (0≤x6_2) = true:=decide_eq_true c16;clear c16
          by_cases c17:x6_2 < (l0_3.length:Int)
          ·rw [if_pos c17] at H
           have c17b0:decide (x6_2 < (l0_3.length:Int)) = true:=decide_eq_true c17;clear c17;replace H:=Option.bind_eq_some_iff.mp H;obtain ⟨⟨t182,t183⟩,A180,H⟩:=H;replace H:(if (rd x4_2 x6_2) < t182 then (spec_l9Heights.j2 k2 x4_2 x6_2 t182 t183 (rd x4_2 x6_2) true a0_0 a0_1 a0_2 l0_3 ((rd_T64 l0_3 x6_2).f0) ((rd_T64 l0_3 x6_2).f1) ((rd_T64 l0_3 x6_2).f2) ((rd_T64 l0_3 x6_2).f3)) else (if (rd x4_2 x6_2) > 300 then (spec_l9Heights.j2 k2 x4_2 x6_2 t182 t183 (rd x4_2 x6_2) true a0_0 a0_1 a0_2 l0_3 ((rd_T64 l0_3 x6_2).f0) ((rd_T64 l0_3 x6_2).f1) ((rd_T64 l0_3 x6_2).f2) ((rd_T64 l0_3 x6_2).f3)) else (if ((rd_T64 l0_3 x6_2).f0) = 12 then (spec_l9Heights.j2 k2 x4_2 x6_2 t182 t183 (rd x4_2 x6_2) ((rd x4_2 x6_2) != 1) a0_0 a0_1 a0_2 l0_3 ((rd_T64 l0_3 x6_2).f0) ((rd_T64 l0_3 x6_2).f1) ((rd_T64 l0_3 x6_2).f2) ((rd_T64 l0_3 x6_2).f3)) else (spec_l9Heights.j2 k2 x4_2 x6_2 t182 t183 (rd x4_2 x6_2) false a0_0 a0_1 a0_2 l0_3 ((rd_T64 l0_3 x6_2).f0) ((rd_T64 l0_3 x6_2).f1) ((rd_T64 l0_3 x6_2).f2) ((rd_T64 l0_3 x6_2).f3))))) = some (r1,r2):=H;have A18:=Aside0.mk A180;clear A180;have HC19:=Aside0.mk H;clear H;obtain ⟨hcz20_0,hcz20_1,hcz20_2,hcz20_3⟩:=kb4 BK175.out;have p180:0≤(x6_2:Int):=od;have q180:x6_2 < (l0_3.length:Int):=od;obtain ⟨ad180,e180,hx180_0,hx180_1,hx180_2,hx180_3⟩:=at_T64 HR0_3.out x6_2 p180 q180;cases e180;replace hx180_0:=cb HB hx180_0;replace hx180_1:=cb HB hx180_1;replace hx180_2:=cb HB hx180_2;replace hx180_3:=cb HB hx180_3;replace p180:=eq_true p180;replace q180:=eq_true q180
           go_upto_region 12 with (first|((with_reducible refine gate_dst (N:=7) rfl ?_);(try (refine gate_guard (by rfl) ?_;dsimp only));refine box_event ?hg (N:=7) ?hd (cs:=#[.int .i64 0,.int .i64 0,.string (⟨#[]⟩:ByteArray),.int .i64 0]) (t:=64) ?hr ?_;(case hd=>rfl);(case hg=>rfl);(case hr=>first|(go_simp;done)|(go_simp;rfl));intro gb181 hg w21 hbox hb;have n_:=ai (Aside0.mk (Kd.R_below (rk HO_4.out) hb)) <| ai (bw BK175 hb) <| ai (bq HB hb) <| ai (Aside0.mk (hbox)) <| ai (bz hg HB) <| ai (bz hg HB) <| ai (nl hg BK175) <| ng hg BK175;clear HO_4 BK175 HB;obtain ⟨HO_4,BK175,HB,BK181,GW181,GE181,NB175_181,NB181_175⟩:=n_;clear hb hbox hg;have hnb22:=NB181_175.out;have hnc22:=NB175_181.out;obtain ⟨hcz23_0,hcz23_1,hcz23_2,hcz23_3⟩:=kb4 BK181.out;obtain ⟨hfz23_0,hfz23_1,hfz23_2,hfz23_3⟩:=kz4 BK181.out)|((with_reducible refine gate_callee (f:=40) rfl ?_);refine goesL_ (some 38) rfl rfl Try.func40 (by kernel_rfl) rfl #[.agg #[.int .i64 ((rd_T64 l0_3 x6_2).f0),.int .i64 ((rd_T64 l0_3 x6_2).f1),.string ((rd_T64 l0_3 x6_2).f2),.int .i64 ((rd_T64 l0_3 x6_2).f3)]] rfl gs ?_;(with_reducible refine (spec_l9Takes.calls k2 ((rd_T64 l0_3 x6_2).f0) ((rd_T64 l0_3 x6_2).f1) ((rd_T64 l0_3 x6_2).f2) ((rd_T64 l0_3 x6_2).f3) t182 t183 _ A18.out).mono ?_);rintro e w24 ⟨rfl,hb⟩;refine ⟨_,rfl,?_⟩;have n_:=ai (Aside0.mk (Kd.R_below (by (with_reducible repeat (first|apply Kd.R_alloc|apply Kd.R_drewN|apply Kd.R_drew));exact (Kd.R_mono (Kd.R_far (p:=⟨gb181,3,none⟩) (Kd.R_far (p:=⟨gb181,2,none⟩) (Kd.R_far (p:=⟨gb181,1,none⟩) (Kd.R_far (p:=⟨gb181,0,none⟩) (Kd.R_types HO_4.out BK181.out (by decide)) (fun _ hk=>hk.2) (.int .i64 ((rd_T64 l0_3 x6_2).f0))) (fun _ hk=>hk.2) (.int .i64 ((rd_T64 l0_3 x6_2).f1))) (fun _ hk=>hk.2) (.string ((rd_T64 l0_3 x6_2).f2))) (fun _ hk=>hk.2) (.int .i64 ((rd_T64 l0_3 x6_2).f3))) (fun _ h_=>h_.1))) hb)) <| ai (Aside0.mk (blk_below (g:=gb175) (o:=.cells #[.string a0_0,.int .i64 a0_1,.int .i64 a0_2,.slice (some ad180) l0_3.length c0_3] 44 (0,0)) (by (with_reducible repeat (first|refine blk_drewN ?_ _|refine blk_drew ?_|refine blk_alloc ?_ _));refine blk_far ?_ NB175_181.out _;(with_reducible repeat (first|refine blk_drewN ?_ _|refine blk_drew ?_|refine blk_alloc ?_ _));refine blk_far ?_ NB175_181.out _;(with_reducible repeat (first|refine blk_drewN ?_ _|refine blk_drew ?_|refine blk_alloc ?_ _));refine blk_far ?_ NB175_181.out _;(with_reducible repeat (first|refine blk_drewN ?_ _|refine blk_drew ?_|refine blk_alloc ?_ _));refine blk_far ?_ NB175_181.out _;(with_reducible repeat (first|refine blk_drewN ?_ _|refine blk_drew ?_|refine blk_alloc ?_ _));exact BK175.out) hb)) <| ai (Aside0.mk (blk_below (g:=gb181) (o:=.cells #[.int .i64 ((rd_T64 l0_3 x6_2).f0),.int .i64 ((rd_T64 l0_3 x6_2).f1),.string ((rd_T64 l0_3 x6_2).f2),.int .i64 ((rd_T64 l0_3 x6_2).f3)] 64 (0,0)) (by (with_reducible repeat (first|refine blk_drewN ?_ _|refine blk_drew ?_|refine blk_alloc ?_ _));refine blk_put (cs:=#[.int .i64 ((rd_T64 l0_3 x6_2).f0),.int .i64 ((rd_T64 l0_3 x6_2).f1),.string ((rd_T64 l0_3 x6_2).f2),.int .i64 0]) ?_ 3 _ rfl;(with_reducible repeat (first|refine blk_drewN ?_ _|refine blk_drew ?_|refine blk_alloc ?_ _));refine blk_put (cs:=#[.int .i64 ((rd_T64 l0_3 x6_2).f0),.int .i64 ((rd_T64 l0_3 x6_2).f1),.string (⟨#[]⟩:ByteArray),.int .i64 0]) ?_ 2 _ rfl;(with_reducible repeat (first|refine blk_drewN ?_ _|refine blk_drew ?_|refine blk_alloc ?_ _));refine blk_put (cs:=#[.int .i64 ((rd_T64 l0_3 x6_2).f0),.int .i64 0,.string (⟨#[]⟩:ByteArray),.int .i64 0]) ?_ 1 _ rfl;(with_reducible repeat (first|refine blk_drewN ?_ _|refine blk_drew ?_|refine blk_alloc ?_ _));refine blk_put (cs:=#[.int .i64 0,.int .i64 0,.string (⟨#[]⟩:ByteArray),.int .i64 0]) ?_ 0 _ rfl;(with_reducible repeat (first|refine blk_drewN ?_ _|refine blk_drew ?_|refine blk_alloc ?_ _));exact BK181.out) hb)) <| bq HB hb;clear HO_4 BK175 BK181 HB;obtain ⟨HO_4,BK175,BK181,HB⟩:=n_;(try clear hb);(try clear hb2);(try clear hk);(try clear hi);have p184:0≤(x6_2:Int):=od;have q184:x6_2 < (x4_2.length:Int):=od;obtain ⟨ad184,e184,hx184_0⟩:=Kd.at_int (Kd.R_reads' HO_4.out).2.2 x6_2 p184 q184;cases e184;replace p184:=eq_true p184;replace q184:=eq_true q184))
           (try simp only [Act.put,List.setIfInBounds_toArray,List.set_cons_zero,List.set_cons_succ])
           go_cut [60] (fun v60 wc=>∃ (kq:Nat) (x60_18:Bool),v60 = .bool x60_18∧Aside0 (spec_l9Heights.j2 kq x4_2 x6_2 t182 t183 (rd x4_2 x6_2) x60_18 a0_0 a0_1 a0_2 l0_3 ((rd_T64 l0_3 x6_2).f0) ((rd_T64 l0_3 x6_2).f1) ((rd_T64 l0_3 x6_2).f2) ((rd_T64 l0_3 x6_2).f3) = some (r1,r2))∧Aside0 (kq≤k2)∧Aside0 (Kd.R (Kd.int .i64) 3 wc w.heap.size (fun _=>True) (.slice (some ad184) x4_2.length co14) x4_2)∧Aside0 (wc.heap[gb175]? = some (.cells #[.string a0_0,.int .i64 a0_1,.int .i64 a0_2,(.slice (some ad180) l0_3.length c0_3)] 44 (0,0)))∧Aside0 (wc.heap[gb181]? = some (.cells #[.int .i64 ((rd_T64 l0_3 x6_2).f0),.int .i64 ((rd_T64 l0_3 x6_2).f1),.string ((rd_T64 l0_3 x6_2).f2),.int .i64 ((rd_T64 l0_3 x6_2).f3)] 64 (0,0)))∧Aside0 (Below w.heap.size w wc))
           case first =>
            have H:=HC19.out;clear HC19
            by_cases c25:(rd x4_2 x6_2) < t182
            ·rw [if_pos c25] at H
             have c25b0:decide ((rd x4_2 x6_2) < t182) = true:=decide_eq_true c25;clear c25
             (first|rw [c25b0]|(simp only [i64_w,i32_w];rw [c25b0])|(simp only [c25b2,Bool.not_true,Bool.not_false])|skip)
             have H':=Aside0.mk H;clear H
             go_wp2
             go_meet
             case rel=>exact ⟨_,(true),(cl2),H',⟨by have:=HK1.out;have:=HK2.out;first|omega|exact Nat.le_refl _⟩,⟨by (try simp only [hl4_2]);(with_reducible repeat (first|apply Kd.R_alloc|apply Kd.R_drewN|apply Kd.R_drew));exact HO_4.out⟩,⟨by (try simp only [hl4_2]);(with_reducible repeat (first|refine blk_drewN ?_ _|refine blk_drew ?_|refine blk_alloc ?_ _));exact BK175.out⟩,⟨by (try simp only [hl4_2]);(with_reducible repeat (first|refine blk_drewN ?_ _|refine blk_drew ?_|refine blk_alloc ?_ _));exact BK181.out⟩,⟨bl HB.out⟩⟩
            ·rw [if_neg c25] at H
             have c25b0:decide ((rd x4_2 x6_2) < t182) = false:=decide_eq_false c25;clear c25
             (first|rw [c25b0]|(simp only [i64_w,i32_w];rw [c25b0])|(simp only [c25b2,Bool.not_true,Bool.not_false])|skip)
             by_cases c26:(rd x4_2 x6_2) > 300
             ·rw [if_pos c26] at H
              have c26b0:decide (300 < (rd x4_2 x6_2)) = true:=decide_eq_true c26;clear c26;have H':=Aside0.mk H;clear H
              go_wp2
              go_meet
              case rel=>exact ⟨_,(true),(cl2),H',⟨by have:=HK1.out;have:=HK2.out;first|omega|exact Nat.le_refl _⟩,⟨by (try simp only [hl4_2]);(with_reducible repeat (first|apply Kd.R_alloc|apply Kd.R_drewN|apply Kd.R_drew));exact HO_4.out⟩,⟨by (try simp only [hl4_2]);(with_reducible repeat (first|refine blk_drewN ?_ _|refine blk_drew ?_|refine blk_alloc ?_ _));exact BK175.out⟩,⟨by (try simp only [hl4_2]);(with_reducible repeat (first|refine blk_drewN ?_ _|refine blk_drew ?_|refine blk_alloc ?_ _));exact BK181.out⟩,⟨bl HB.out⟩⟩
             ·rw [if_neg c26] at H
              have c26b0:decide (300 < (rd x4_2 x6_2)) = false:=decide_eq_false c26;clear c26
              by_cases c27:((rd_T64 l0_3 x6_2).f0) = 12
              ·rw [if_pos c27] at H
               have c27b0:(((rd_T64 l0_3 x6_2).f0) == 12) = true:=beq_iff_eq.mpr c27;have c27b1:(((rd_T64 l0_3 x6_2).f0) != 12) = false:=bne_eq_false_iff_eq.mpr c27;clear c27;have H':=Aside0.mk H;clear H;have hnb28:=NB181_175.out;have hnc28:=NB175_181.out;obtain ⟨hcz29_0,hcz29_1,hcz29_2,hcz29_3⟩:=kb4 BK181.out
               go_wp2
               go_meet
               case rel=>exact ⟨_,(((rd x4_2 x6_2) != 1)),(cl2),H',⟨by have:=HK1.out;have:=HK2.out;first|omega|exact Nat.le_refl _⟩,⟨by (try simp only [hl4_2]);(with_reducible repeat (first|apply Kd.R_alloc|apply Kd.R_drewN|apply Kd.R_drew));exact HO_4.out⟩,⟨by (try simp only [hl4_2]);(with_reducible repeat (first|refine blk_drewN ?_ _|refine blk_drew ?_|refine blk_alloc ?_ _));exact BK175.out⟩,⟨by (try simp only [hl4_2]);(with_reducible repeat (first|refine blk_drewN ?_ _|refine blk_drew ?_|refine blk_alloc ?_ _));exact BK181.out⟩,⟨bl HB.out⟩⟩
              ·rw [if_neg c27] at H
               have c27b0:(((rd_T64 l0_3 x6_2).f0) == 12) = false:=beq_eq_false_iff_ne.mpr c27;have c27b1:(((rd_T64 l0_3 x6_2).f0) != 12) = true:=bne_iff_ne.mpr c27;have H':=Aside0.mk H;clear H;have hnb30:=NB181_175.out;have hnc30:=NB175_181.out;obtain ⟨hcz31_0,hcz31_1,hcz31_2,hcz31_3⟩:=kb4 BK181.out
               go_wp2
               go_meet
               case rel=>exact ⟨_,(false),(cl2),H',⟨by have:=HK1.out;have:=HK2.out;first|omega|exact Nat.le_refl _⟩,⟨by (try simp only [hl4_2]);(with_reducible repeat (first|apply Kd.R_alloc|apply Kd.R_drewN|apply Kd.R_drew));exact HO_4.out⟩,⟨by (try simp only [hl4_2]);(with_reducible repeat (first|refine blk_drewN ?_ _|refine blk_drew ?_|refine blk_alloc ?_ _));exact BK175.out⟩,⟨by (try simp only [hl4_2]);(with_reducible repeat (first|refine blk_drewN ?_ _|refine blk_drew ?_|refine blk_alloc ?_ _));exact BK181.out⟩,⟨bl HB.out⟩⟩
           case rest =>
            clear HC19;(try clear c1);(try clear p1);(try clear q1);(try clear hx1);(try clear hf1);(try clear c2);(try clear c2b0);(try clear c2b1);(try clear p2);(try clear c3);(try clear c3b0);(try clear c3b1);(try clear c4);(try clear p6);(try clear c8);(try clear c8b0);(try clear c9);(try clear c9b0);(try clear p10);(try clear q10);(try clear hx10);(try clear hf10);(try clear c15);(try clear c15b0);(try clear c16);(try clear c16b0);(try clear c17);(try clear c17b0);(try clear p18);(try clear q18);(try clear hx18);(try clear c22);(try clear c24);(try clear c25);(try clear c25b0);(try clear c25b2);(try clear c26);(try clear c26b0);(try clear c27);(try clear c27b0);(try clear c27b1);(try clear c28);(try clear c30);(try clear hcz20_0);(try clear hcz20_1);(try clear hcz20_2);(try clear hcz20_3);(try clear hcz23_0);(try clear hcz23_1);(try clear hcz23_2);(try clear hcz23_3);(try clear hcz29_0);(try clear hcz29_1);(try clear hcz29_2);(try clear hcz29_3);(try clear hcz31_0);(try clear hcz31_1);(try clear hcz31_2);(try clear hcz31_3);(try clear hcz5_0);(try clear hcz5_1);(try clear hcz5_2);(try clear hcz5_3);(try clear hfz20_0);(try clear hfz20_1);(try clear hfz20_2);(try clear hfz20_3);(try clear hfz23_0);(try clear hfz23_1);(try clear hfz23_2);(try clear hfz23_3);(try clear hfz29_0);(try clear hfz29_1);(try clear hfz29_2);(try clear hfz29_3);(try clear hfz31_0);(try clear hfz31_1);(try clear hfz31_2);(try clear hfz31_3);(try clear hfz5_0);(try clear hfz5_1);(try clear hfz5_2);(try clear hfz5_3);(try clear hx10_0);(try clear hx180_0);(try clear hx180_1);(try clear hx180_2);(try clear hx180_3);(try clear hx184_0);(try clear p1);(try clear p10);(try clear p180);(try clear p184);(try clear p2);(try clear p6);(try clear q1);(try clear q10);(try clear q180);(try clear q184);(try clear HO_4);(try clear BK175);(try clear BK181);(try clear HB);obtain ⟨kq,x60_18,rfl,HA,HJ18,HO_4,BK175,BK181,HB⟩:=hcut
            cases kq with
            | zero=>exact absurd HA.out (by simp [spec_l9Heights.j2])
            | succ kj18 =>
             have H:=HA.out;clear HA;simp only [spec_l9Heights.j2] at H
             by_cases c32:x60_18 = true
             ·subst c32
              have H1:(some (x4_2,false)) = some (r1,r2):=by rw [if_pos rfl] at H;exact H
              clear H;have H:=H1;clear H1;simp only [Option.some.injEq,Prod.mk.injEq] at H;obtain ⟨rfl,rfl⟩:=H
              go_wp2
              go_ret2
              exact ⟨_,cl,rk HO_4.out,bl HB.out⟩
             ·replace c32:=Bool.eq_false_iff.mpr c32
              subst c32;have H1:(if ((rd_T64 l0_3 x6_2).f0) = 11 then (spec_l9Heights.j3 kj18 x4_2 x6_2 t182 t183 (rd x4_2 x6_2) true ((rd_T64 l0_3 x6_2).f0) (((rd_T64 l0_3 x6_2).f0) == 11) a0_0 a0_1 a0_2 l0_3 ((rd_T64 l0_3 x6_2).f0) ((rd_T64 l0_3 x6_2).f1) ((rd_T64 l0_3 x6_2).f2) ((rd_T64 l0_3 x6_2).f3)) else (spec_l9Heights.j3 kj18 x4_2 x6_2 t182 t183 (rd x4_2 x6_2) true ((rd_T64 l0_3 x6_2).f0) (((rd_T64 l0_3 x6_2).f0) == 12) a0_0 a0_1 a0_2 l0_3 ((rd_T64 l0_3 x6_2).f0) ((rd_T64 l0_3 x6_2).f1) ((rd_T64 l0_3 x6_2).f2) ((rd_T64 l0_3 x6_2).f3))) = some (r1,r2):=by rw [if_neg (show ¬ (false = true) by decide)] at H;exact H
              clear H;have H:=H1;clear H1;have HC33:=Aside0.mk H;clear H;have hnb34:=NB181_175.out;have hnc34:=NB175_181.out;obtain ⟨hcz35_0,hcz35_1,hcz35_2,hcz35_3⟩:=kb4 BK181.out
              go_upto_if 80 with (fail)
              go_cut [80] (fun v80 wc=>∃ (kq:Nat) (x80_32:Bool),v80 = .bool x80_32∧Aside0 (spec_l9Heights.j3 kq x4_2 x6_2 t182 t183 (rd x4_2 x6_2) true ((rd_T64 l0_3 x6_2).f0) x80_32 a0_0 a0_1 a0_2 l0_3 ((rd_T64 l0_3 x6_2).f0) ((rd_T64 l0_3 x6_2).f1) ((rd_T64 l0_3 x6_2).f2) ((rd_T64 l0_3 x6_2).f3) = some (r1,r2))∧Aside0 (kq≤kj18)∧Aside0 (Kd.R (Kd.int .i64) 3 wc w.heap.size (fun _=>True) (.slice (some ad184) x4_2.length co14) x4_2)∧Aside0 (wc.heap[gb175]? = some (.cells #[.string a0_0,.int .i64 a0_1,.int .i64 a0_2,(.slice (some ad180) l0_3.length c0_3)] 44 (0,0)))∧Aside0 (wc.heap[gb181]? = some (.cells #[.int .i64 ((rd_T64 l0_3 x6_2).f0),.int .i64 ((rd_T64 l0_3 x6_2).f1),.string ((rd_T64 l0_3 x6_2).f2),.int .i64 ((rd_T64 l0_3 x6_2).f3)] 64 (0,0)))∧Aside0 (Below w.heap.size w wc))
              case first =>
               have H:=HC33.out;clear HC33
               by_cases c36:((rd_T64 l0_3 x6_2).f0) = 11
               ·rw [if_pos c36] at H
                have c36b0:(((rd_T64 l0_3 x6_2).f0) == 11) = true:=beq_iff_eq.mpr c36;have c36b1:(((rd_T64 l0_3 x6_2).f0) != 11) = false:=bne_eq_false_iff_eq.mpr c36;clear c36
                (first|rw [c36b0]|(simp only [i64_w,i32_w];rw [c36b0])|(simp only [c36b2,Bool.not_true,Bool.not_false])|skip)
                have H':=Aside0.mk H;clear H
                go_wp2
                go_meet
                case rel=>exact ⟨_,((((rd_T64 l0_3 x6_2).f0) == 11)),(cl2),H',⟨by have:=HK1.out;have:=HK2.out;have:=HJ18.out;first|omega|exact Nat.le_refl _⟩,⟨by (try simp only [hl4_2]);(with_reducible repeat (first|apply Kd.R_alloc|apply Kd.R_drewN|apply Kd.R_drew));exact HO_4.out⟩,⟨by (try simp only [hl4_2]);(with_reducible repeat (first|refine blk_drewN ?_ _|refine blk_drew ?_|refine blk_alloc ?_ _));exact BK175.out⟩,⟨by (try simp only [hl4_2]);(with_reducible repeat (first|refine blk_drewN ?_ _|refine blk_drew ?_|refine blk_alloc ?_ _));exact BK181.out⟩,⟨bl HB.out⟩⟩
               ·rw [if_neg c36] at H
                have c36b0:(((rd_T64 l0_3 x6_2).f0) == 11) = false:=beq_eq_false_iff_ne.mpr c36;have c36b1:(((rd_T64 l0_3 x6_2).f0) != 11) = true:=bne_iff_ne.mpr c36
                (first|rw [c36b0]|(simp only [i64_w,i32_w];rw [c36b0])|(simp only [c36b2,Bool.not_true,Bool.not_false])|skip)
                have H':=Aside0.mk H;clear H
                go_wp2
                go_meet
                case rel=>exact ⟨_,((((rd_T64 l0_3 x6_2).f0) == 12)),(cl2),H',⟨by have:=HK1.out;have:=HK2.out;have:=HJ18.out;first|omega|exact Nat.le_refl _⟩,⟨by (try simp only [hl4_2]);(with_reducible repeat (first|apply Kd.R_alloc|apply Kd.R_drewN|apply Kd.R_drew));exact HO_4.out⟩,⟨by (try simp only [hl4_2]);(with_reducible repeat (first|refine blk_drewN ?_ _|refine blk_drew ?_|refine blk_alloc ?_ _));exact BK175.out⟩,⟨by (try simp only [hl4_2]);(with_reducible repeat (first|refine blk_drewN ?_ _|refine blk_drew ?_|refine blk_alloc ?_ _));exact BK181.out⟩,⟨bl HB.out⟩⟩
              case rest =>
               clear HC33;(try clear c1);(try clear p1);(try clear q1);(try clear hx1);(try clear hf1);(try clear c2);(try clear c2b0);(try clear c2b1);(try clear p2);(try clear c3);(try clear c3b0);(try clear c3b1);(try clear c4);(try clear p6);(try clear c8);(try clear c8b0);(try clear c9);(try clear c9b0);(try clear p10);(try clear q10);(try clear hx10);(try clear hf10);(try clear c15);(try clear c15b0);(try clear c16);(try clear c16b0);(try clear c17);(try clear c17b0);(try clear p18);(try clear q18);(try clear hx18);(try clear c22);(try clear c24);(try clear c25);(try clear c25b0);(try clear c25b2);(try clear c26);(try clear c26b0);(try clear c27);(try clear c27b0);(try clear c27b1);(try clear c28);(try clear c30);(try clear c32);(try clear c34);(try clear c36);(try clear c36b0);(try clear c36b1);(try clear c36b2);(try clear hcz20_0);(try clear hcz20_1);(try clear hcz20_2);(try clear hcz20_3);(try clear hcz23_0);(try clear hcz23_1);(try clear hcz23_2);(try clear hcz23_3);(try clear hcz29_0);(try clear hcz29_1);(try clear hcz29_2);(try clear hcz29_3);(try clear hcz31_0);(try clear hcz31_1);(try clear hcz31_2);(try clear hcz31_3);(try clear hcz35_0);(try clear hcz35_1);(try clear hcz35_2);(try clear hcz35_3);(try clear hcz5_0);(try clear hcz5_1);(try clear hcz5_2);(try clear hcz5_3);(try clear hfz20_0);(try clear hfz20_1);(try clear hfz20_2);(try clear hfz20_3);(try clear hfz23_0);(try clear hfz23_1);(try clear hfz23_2);(try clear hfz23_3);(try clear hfz29_0);(try clear hfz29_1);(try clear hfz29_2);(try clear hfz29_3);(try clear hfz31_0);(try clear hfz31_1);(try clear hfz31_2);(try clear hfz31_3);(try clear hfz35_0);(try clear hfz35_1);(try clear hfz35_2);(try clear hfz35_3);(try clear hfz5_0);(try clear hfz5_1);(try clear hfz5_2);(try clear hfz5_3);(try clear hx10_0);(try clear hx180_0);(try clear hx180_1);(try clear hx180_2);(try clear hx180_3);(try clear hx184_0);(try clear p1);(try clear p10);(try clear p18);(try clear p180);(try clear p184);(try clear p2);(try clear p6);(try clear q1);(try clear q10);(try clear q18);(try clear q180);(try clear q184);(try clear HO_4);(try clear BK175);(try clear BK181);(try clear HB);obtain ⟨kq,x80_32,rfl,HA,HJ32,HO_4,BK175,BK181,HB⟩:=hcut
               cases kq with
               | zero=>exact absurd HA.out (by simp [spec_l9Heights.j3])
               | succ kj32 =>
                have H:=HA.out;clear HA;simp only [spec_l9Heights.j3] at H
                by_cases c37:x80_32 = true
                ·subst c37
                 have H1:(if true = true then (spec_l9Heights.l1 kj32 x4_2 (wrap64 (x6_2 + 1)) a0_0 a0_1 a0_2 l0_3) else (some (x4_2,false))) = some (r1,r2):=by rw [if_pos rfl] at H;exact H
                 clear H;have H:=H1;clear H1
                 by_cases c38:true = true
                 ·clear c38
                  have H1:(spec_l9Heights.l1 kj32 x4_2 (wrap64 (x6_2 + 1)) a0_0 a0_1 a0_2 l0_3) = some (r1,r2):=by rw [if_pos rfl] at H;exact H
                  clear H;have H:=H1;clear H1;have H':=Aside0.mk H;clear H
                  go_wp2
                  (try simp only [← hl4_2])
                  go_roundg kj32
                  case measure=>have:=HK1.out;have:=HK2.out;have:=HJ18.out;have:=HJ32.out;omega
                  case rel=>exact ⟨(x4_2),(wrap64 (x6_2 + 1)),(cl2),H',⟨by have:=HK1.out;have:=HK2.out;have:=HJ18.out;have:=HJ32.out;omega⟩,⟨by (try simp only [hl4_2]);(with_reducible repeat (first|apply Kd.R_alloc|apply Kd.R_drewN|apply Kd.R_drew));exact HO_4.out⟩,⟨by (try simp only [hl4_2]);(with_reducible repeat (first|refine blk_drewN ?_ _|refine blk_drew ?_|refine blk_alloc ?_ _));exact BK175.out⟩,⟨bl HB.out⟩⟩
                 ·exact absurd rfl c38
                ·replace c37:=Bool.eq_false_iff.mpr c37
                 subst c37;have H1:(if ((rd_T64 l0_3 x6_2).f0) = 10 then ((spec_l9Come.f x4_2 ((rd_T64 l0_3 x6_2).f3) (rd x4_2 x6_2)).bind fun bt185=>(if bt185.1 = true then (spec_l9Heights.l1 kj32 bt185.2 (wrap64 (x6_2 + 1)) a0_0 a0_1 a0_2 l0_3) else (some (bt185.2,false)))) else (if ((rd_T64 l0_3 x6_2).f0) = 9 then ((spec_l9Come.f x4_2 ((rd_T64 l0_3 x6_2).f3) (rd x4_2 x6_2)).bind fun bt187=>(if bt187.1 = true then (if (wrap64 (x6_2 + 1)) < (x4_2.length:Int) then ((spec_l9Come.f bt187.2 (wrap64 (x6_2 + 1)) (wrap64 ((rd x4_2 x6_2) - 1))).bind fun bt189=>(if bt189.1 = true then (spec_l9Heights.l1 kj32 bt189.2 (wrap64 (x6_2 + 1)) a0_0 a0_1 a0_2 l0_3) else (some (bt189.2,false)))) else (some (bt187.2,false))) else (some (bt187.2,false)))) else (if (wrap64 (x6_2 + 1)) < (x4_2.length:Int) then ((spec_l9Come.f x4_2 (wrap64 (x6_2 + 1)) (wrap64 ((wrap64 ((rd x4_2 x6_2) - t182)) + t183))).bind fun bt191=>(if bt191.1 = true then (spec_l9Heights.l1 kj32 bt191.2 (wrap64 (x6_2 + 1)) a0_0 a0_1 a0_2 l0_3) else (some (bt191.2,false)))) else (some (x4_2,false))))) = some (r1,r2):=by rw [if_neg (show ¬ (false = true) by decide)] at H;exact H
                 clear H;have H:=H1;clear H1
                 by_cases c39:((rd_T64 l0_3 x6_2).f0) = 10
                 ·rw [if_pos c39] at H
                  have c39b0:(((rd_T64 l0_3 x6_2).f0) == 10) = true:=beq_iff_eq.mpr c39;have c39b1:(((rd_T64 l0_3 x6_2).f0) != 10) = false:=bne_eq_false_iff_eq.mpr c39;clear c39;replace H:=Option.bind_eq_some_iff.mp H;obtain ⟨⟨t185,t186⟩,A400,H⟩:=H;replace H:(if t185 = true then (spec_l9Heights.l1 kj32 t186 (wrap64 (x6_2 + 1)) a0_0 a0_1 a0_2 l0_3) else (some (t186,false))) = some (r1,r2):=H;have A40:=Aside0.mk A400;clear A400
                  by_cases c41:t185 = true
                  ·subst c41
                   have H1:(spec_l9Heights.l1 kj32 t186 (wrap64 (x6_2 + 1)) a0_0 a0_1 a0_2 l0_3) = some (r1,r2):=by rw [if_pos rfl] at H;exact H
                   clear H;have H:=H1;clear H1;have H':=Aside0.mk H;clear H;have hnb42:=NB181_175.out;have hnc42:=NB175_181.out;obtain ⟨hcz43_0,hcz43_1,hcz43_2,hcz43_3⟩:=kb4 BK181.out
                   go_wp2_with (first|((with_reducible refine gate_callee (f:=41) rfl ?_);refine goesL_ (some 89) rfl rfl Try.func41 (by kernel_rfl) rfl #[.slice (some ad184) x4_2.length co14,.int .i64 ((rd_T64 l0_3 x6_2).f3),.int .i64 (rd x4_2 x6_2)] rfl gs ?_;(with_reducible refine (spec_l9Come.calls (fun k_=>some k_ = (.slice (some ad184) x4_2.length co14:Value).ownBlock) (.slice (some ad184) x4_2.length co14) x4_2 ((rd_T64 l0_3 x6_2).f3) (rd x4_2 x6_2) true t186 w _ ?side1 ?side2 A40.out).mono ?_);(case side1=>exact bl HB.out);(case side2=>exact Kd.R_tight rfl HO_4.out);rintro e w44 ⟨rfl,hy0,hb,hkp⟩;refine ⟨_,rfl,?_⟩;have n_:=ai (Aside0.mk (Kd.R_reok rfl hy0 (fun k_ e_=>HO_4.out.1 k_ e_))) <| ai (Aside0.mk (blk_kept (bk BK175.out) hkp (fun hs_=>(fun e_=>(Kd.R_ne HO_4.out BK175.out (by decide)) e_) hs_))) <| ai (Aside0.mk (blk_kept (bk BK181.out) hkp (fun hs_=>(fun e_=>(Kd.R_ne HO_4.out BK181.out (by decide)) e_) hs_))) <| Aside0.mk (hb);clear HO_4 BK175 BK181 HB;obtain ⟨HO_4,BK175,BK181,HB⟩:=n_;(try clear hb);(try clear hkp);(try clear hy0)))
                   (try simp only [← hl4_2])
                   go_roundg kj32
                   case measure=>have:=HK1.out;have:=HK2.out;have:=HJ18.out;have:=HJ32.out;omega
                   case rel=>exact ⟨(t186),(wrap64 (x6_2 + 1)),(cl2),H',⟨by have:=HK1.out;have:=HK2.out;have:=HJ18.out;have:=HJ32.out;omega⟩,⟨by (try simp only [hl4_2]);(with_reducible repeat (first|apply Kd.R_alloc|apply Kd.R_drewN|apply Kd.R_drew));exact HO_4.out⟩,⟨by (try simp only [hl4_2]);(with_reducible repeat (first|refine blk_drewN ?_ _|refine blk_drew ?_|refine blk_alloc ?_ _));exact BK175.out⟩,⟨bl HB.out⟩⟩
                  ·replace c41:=Bool.eq_false_iff.mpr c41
                   subst c41;have H1:(some (t186,false)) = some (r1,r2):=by rw [if_neg (show ¬ (false = true) by decide)] at H;exact H
                   clear H;have H:=H1;clear H1;simp only [Option.some.injEq,Prod.mk.injEq] at H;obtain ⟨rfl,rfl⟩:=H;have hnb45:=NB181_175.out;have hnc45:=NB175_181.out;obtain ⟨hcz46_0,hcz46_1,hcz46_2,hcz46_3⟩:=kb4 BK181.out
                   go_wp2_with (first|((with_reducible refine gate_callee (f:=41) rfl ?_);refine goesL_ (some 89) rfl rfl Try.func41 (by kernel_rfl) rfl #[.slice (some ad184) x4_2.length co14,.int .i64 ((rd_T64 l0_3 x6_2).f3),.int .i64 (rd x4_2 x6_2)] rfl gs ?_;(with_reducible refine (spec_l9Come.calls (fun k_=>some k_ = (.slice (some ad184) x4_2.length co14:Value).ownBlock) (.slice (some ad184) x4_2.length co14) x4_2 ((rd_T64 l0_3 x6_2).f3) (rd x4_2 x6_2) false t186 w _ ?side1 ?side2 A40.out).mono ?_);(case side1=>exact bl HB.out);(case side2=>exact Kd.R_tight rfl HO_4.out);rintro e w47 ⟨rfl,hy0,hb,hkp⟩;refine ⟨_,rfl,?_⟩;have n_:=ai (Aside0.mk (Kd.R_reok rfl hy0 (fun k_ e_=>HO_4.out.1 k_ e_))) <| ai (Aside0.mk (blk_kept (bk BK175.out) hkp (fun hs_=>(fun e_=>(Kd.R_ne HO_4.out BK175.out (by decide)) e_) hs_))) <| ai (Aside0.mk (blk_kept (bk BK181.out) hkp (fun hs_=>(fun e_=>(Kd.R_ne HO_4.out BK181.out (by decide)) e_) hs_))) <| Aside0.mk (hb);clear HO_4 BK175 BK181 HB;obtain ⟨HO_4,BK175,BK181,HB⟩:=n_;(try clear hb);(try clear hkp);(try clear hy0)))
                   go_ret2
                   exact ⟨_,cl,rk HO_4.out,bl HB.out⟩
                 ·rw [if_neg c39] at H
                  have c39b0:(((rd_T64 l0_3 x6_2).f0) == 10) = false:=beq_eq_false_iff_ne.mpr c39;have c39b1:(((rd_T64 l0_3 x6_2).f0) != 10) = true:=bne_iff_ne.mpr c39
                  by_cases c48:((rd_T64 l0_3 x6_2).f0) = 9
                  ·rw [if_pos c48] at H
                   have c48b0:(((rd_T64 l0_3 x6_2).f0) == 9) = true:=beq_iff_eq.mpr c48;have c48b1:(((rd_T64 l0_3 x6_2).f0) != 9) = false:=bne_eq_false_iff_eq.mpr c48;clear c48;replace H:=Option.bind_eq_some_iff.mp H;obtain ⟨⟨t187,t188⟩,A490,H⟩:=H;replace H:(if t187 = true then (if (wrap64 (x6_2 + 1)) < (x4_2.length:Int) then ((spec_l9Come.f t188 (wrap64 (x6_2 + 1)) (wrap64 ((rd x4_2 x6_2) - 1))).bind fun bt189=>(if bt189.1 = true then (spec_l9Heights.l1 kj32 bt189.2 (wrap64 (x6_2 + 1)) a0_0 a0_1 a0_2 l0_3) else (some (bt189.2,false)))) else (some (t188,false))) else (some (t188,false))) = some (r1,r2):=H;have A49:=Aside0.mk A490;clear A490
                   by_cases c50:t187 = true
                   ·subst c50
                    have H1:(if (wrap64 (x6_2 + 1)) < (x4_2.length:Int) then ((spec_l9Come.f t188 (wrap64 (x6_2 + 1)) (wrap64 ((rd x4_2 x6_2) - 1))).bind fun bt189=>(if bt189.1 = true then (spec_l9Heights.l1 kj32 bt189.2 (wrap64 (x6_2 + 1)) a0_0 a0_1 a0_2 l0_3) else (some (bt189.2,false)))) else (some (t188,false))) = some (r1,r2):=by rw [if_pos rfl] at H;exact H
                    clear H;have H:=H1;clear H1
                    by_cases c51:(wrap64 (x6_2 + 1)) < (x4_2.length:Int)
                    ·rw [if_pos c51] at H
                     have c51b0:decide ((wrap64 (x6_2 + 1)) < (x4_2.length:Int)) = true:=decide_eq_true c51;clear c51;replace H:=Option.bind_eq_some_iff.mp H;obtain ⟨⟨t189,t190⟩,A520,H⟩:=H;replace H:(if t189 = true then (spec_l9Heights.l1 kj32 t190 (wrap64 (x6_2 + 1)) a0_0 a0_1 a0_2 l0_3) else (some (t190,false))) = some (r1,r2):=H;have A52:=Aside0.mk A520;clear A520
                     by_cases c53:t189 = true
                     ·subst c53
                      have H1:(spec_l9Heights.l1 kj32 t190 (wrap64 (x6_2 + 1)) a0_0 a0_1 a0_2 l0_3) = some (r1,r2):=by rw [if_pos rfl] at H;exact H
                      clear H;have H:=H1;clear H1;have H':=Aside0.mk H;clear H;have hnb54:=NB181_175.out;have hnc54:=NB175_181.out;obtain ⟨hcz55_0,hcz55_1,hcz55_2,hcz55_3⟩:=kb4 BK181.out
                      go_wp2_with (first|((with_reducible refine gate_callee (f:=41) rfl ?_);refine goesL_ (some 96) rfl rfl Try.func41 (by kernel_rfl) rfl #[.slice (some ad184) x4_2.length co14,.int .i64 ((rd_T64 l0_3 x6_2).f3),.int .i64 (rd x4_2 x6_2)] rfl gs ?_;(with_reducible refine (spec_l9Come.calls (fun k_=>some k_ = (.slice (some ad184) x4_2.length co14:Value).ownBlock) (.slice (some ad184) x4_2.length co14) x4_2 ((rd_T64 l0_3 x6_2).f3) (rd x4_2 x6_2) true t188 w _ ?side1 ?side2 A49.out).mono ?_);(case side1=>exact bl HB.out);(case side2=>exact Kd.R_tight rfl HO_4.out);rintro e w56 ⟨rfl,hy0,hb,hkp⟩;refine ⟨_,rfl,?_⟩;have n_:=ai (Aside0.mk (Kd.R_reok rfl hy0 (fun k_ e_=>HO_4.out.1 k_ e_))) <| ai (Aside0.mk (blk_kept (bk BK175.out) hkp (fun hs_=>(fun e_=>(Kd.R_ne HO_4.out BK175.out (by decide)) e_) hs_))) <| ai (Aside0.mk (blk_kept (bk BK181.out) hkp (fun hs_=>(fun e_=>(Kd.R_ne HO_4.out BK181.out (by decide)) e_) hs_))) <| Aside0.mk (hb);clear HO_4 BK175 BK181 HB;obtain ⟨HO_4,BK175,BK181,HB⟩:=n_;(try clear hb);(try clear hkp);(try clear hy0))|(go_at_call 41;(with_reducible refine (spec_l9Come.calls (fun k_=>some k_ = (.slice (some ad184) x4_2.length co14:Value).ownBlock) (.slice (some ad184) x4_2.length co14) t188 (wrap64 (x6_2 + 1)) (wrap64 ((rd x4_2 x6_2) - 1)) true t190 w _ ?side1 ?side2 A52.out).mono ?_);(case side1=>exact bl HB.out);(case side2=>exact Kd.R_tight rfl HO_4.out);rintro e w57 ⟨rfl,hy0,hb,hkp⟩;have n_:=ai (Aside0.mk (Kd.R_reok rfl hy0 (fun k_ e_=>HO_4.out.1 k_ e_))) <| ai (Aside0.mk (blk_kept (bk BK175.out) hkp (fun hs_=>(fun e_=>(Kd.R_ne HO_4.out BK175.out (by decide)) e_) hs_))) <| ai (Aside0.mk (blk_kept (bk BK181.out) hkp (fun hs_=>(fun e_=>(Kd.R_ne HO_4.out BK181.out (by decide)) e_) hs_))) <| Aside0.mk (hb);clear HO_4 BK175 BK181 HB;obtain ⟨HO_4,BK175,BK181,HB⟩:=n_;(try clear hb);(try clear hkp);(try clear hy0)))
                      (try simp only [← hl4_2])
                      go_roundg kj32
                      case measure=>have:=HK1.out;have:=HK2.out;have:=HJ18.out;have:=HJ32.out;omega
                      case rel=>exact ⟨(t190),(wrap64 (x6_2 + 1)),(cl2),H',⟨by have:=HK1.out;have:=HK2.out;have:=HJ18.out;have:=HJ32.out;omega⟩,⟨by (try simp only [hl4_2]);(with_reducible repeat (first|apply Kd.R_alloc|apply Kd.R_drewN|apply Kd.R_drew));exact HO_4.out⟩,⟨by (try simp only [hl4_2]);(with_reducible repeat (first|refine blk_drewN ?_ _|refine blk_drew ?_|refine blk_alloc ?_ _));exact BK175.out⟩,⟨bl HB.out⟩⟩
                     ·replace c53:=Bool.eq_false_iff.mpr c53
                      subst c53;have H1:(some (t190,false)) = some (r1,r2):=by rw [if_neg (show ¬ (false = true) by decide)] at H;exact H
                      clear H;have H:=H1;clear H1;simp only [Option.some.injEq,Prod.mk.injEq] at H;obtain ⟨rfl,rfl⟩:=H;have hnb58:=NB181_175.out;have hnc58:=NB175_181.out;obtain ⟨hcz59_0,hcz59_1,hcz59_2,hcz59_3⟩:=kb4 BK181.out
                      go_wp2_with (first|((with_reducible refine gate_callee (f:=41) rfl ?_);refine goesL_ (some 96) rfl rfl Try.func41 (by kernel_rfl) rfl #[.slice (some ad184) x4_2.length co14,.int .i64 ((rd_T64 l0_3 x6_2).f3),.int .i64 (rd x4_2 x6_2)] rfl gs ?_;(with_reducible refine (spec_l9Come.calls (fun k_=>some k_ = (.slice (some ad184) x4_2.length co14:Value).ownBlock) (.slice (some ad184) x4_2.length co14) x4_2 ((rd_T64 l0_3 x6_2).f3) (rd x4_2 x6_2) true t188 w _ ?side1 ?side2 A49.out).mono ?_);(case side1=>exact bl HB.out);(case side2=>exact Kd.R_tight rfl HO_4.out);rintro e w60 ⟨rfl,hy0,hb,hkp⟩;refine ⟨_,rfl,?_⟩;have n_:=ai (Aside0.mk (Kd.R_reok rfl hy0 (fun k_ e_=>HO_4.out.1 k_ e_))) <| ai (Aside0.mk (blk_kept (bk BK175.out) hkp (fun hs_=>(fun e_=>(Kd.R_ne HO_4.out BK175.out (by decide)) e_) hs_))) <| ai (Aside0.mk (blk_kept (bk BK181.out) hkp (fun hs_=>(fun e_=>(Kd.R_ne HO_4.out BK181.out (by decide)) e_) hs_))) <| Aside0.mk (hb);clear HO_4 BK175 BK181 HB;obtain ⟨HO_4,BK175,BK181,HB⟩:=n_;(try clear hb);(try clear hkp);(try clear hy0))|(go_at_call 41;(with_reducible refine (spec_l9Come.calls (fun k_=>some k_ = (.slice (some ad184) x4_2.length co14:Value).ownBlock) (.slice (some ad184) x4_2.length co14) t188 (wrap64 (x6_2 + 1)) (wrap64 ((rd x4_2 x6_2) - 1)) false t190 w _ ?side1 ?side2 A52.out).mono ?_);(case side1=>exact bl HB.out);(case side2=>exact Kd.R_tight rfl HO_4.out);rintro e w61 ⟨rfl,hy0,hb,hkp⟩;have n_:=ai (Aside0.mk (Kd.R_reok rfl hy0 (fun k_ e_=>HO_4.out.1 k_ e_))) <| ai (Aside0.mk (blk_kept (bk BK175.out) hkp (fun hs_=>(fun e_=>(Kd.R_ne HO_4.out BK175.out (by decide)) e_) hs_))) <| ai (Aside0.mk (blk_kept (bk BK181.out) hkp (fun hs_=>(fun e_=>(Kd.R_ne HO_4.out BK181.out (by decide)) e_) hs_))) <| Aside0.mk (hb);clear HO_4 BK175 BK181 HB;obtain ⟨HO_4,BK175,BK181,HB⟩:=n_;(try clear hb);(try clear hkp);(try clear hy0)))
                      go_ret2
                      exact ⟨_,cl,rk HO_4.out,bl HB.out⟩
                    ·rw [if_neg c51] at H
                     have c51b0:decide ((wrap64 (x6_2 + 1)) < (x4_2.length:Int)) = false:=decide_eq_false c51;clear c51;simp only [Option.some.injEq,Prod.mk.injEq] at H;obtain ⟨rfl,rfl⟩:=H;have hnb62:=NB181_175.out;have hnc62:=NB175_181.out;obtain ⟨hcz63_0,hcz63_1,hcz63_2,hcz63_3⟩:=kb4 BK181.out
                     go_wp2_with (first|((with_reducible refine gate_callee (f:=41) rfl ?_);refine goesL_ (some 96) rfl rfl Try.func41 (by kernel_rfl) rfl #[.slice (some ad184) x4_2.length co14,.int .i64 ((rd_T64 l0_3 x6_2).f3),.int .i64 (rd x4_2 x6_2)] rfl gs ?_;(with_reducible refine (spec_l9Come.calls (fun k_=>some k_ = (.slice (some ad184) x4_2.length co14:Value).ownBlock) (.slice (some ad184) x4_2.length co14) x4_2 ((rd_T64 l0_3 x6_2).f3) (rd x4_2 x6_2) true t188 w _ ?side1 ?side2 A49.out).mono ?_);(case side1=>exact bl HB.out);(case side2=>exact Kd.R_tight rfl HO_4.out);rintro e w64 ⟨rfl,hy0,hb,hkp⟩;refine ⟨_,rfl,?_⟩;have n_:=ai (Aside0.mk (Kd.R_reok rfl hy0 (fun k_ e_=>HO_4.out.1 k_ e_))) <| ai (Aside0.mk (blk_kept (bk BK175.out) hkp (fun hs_=>(fun e_=>(Kd.R_ne HO_4.out BK175.out (by decide)) e_) hs_))) <| ai (Aside0.mk (blk_kept (bk BK181.out) hkp (fun hs_=>(fun e_=>(Kd.R_ne HO_4.out BK181.out (by decide)) e_) hs_))) <| Aside0.mk (hb);clear HO_4 BK175 BK181 HB;obtain ⟨HO_4,BK175,BK181,HB⟩:=n_;(try clear hb);(try clear hkp);(try clear hy0)))
                     go_ret2
                     exact ⟨_,cl,rk HO_4.out,bl HB.out⟩
                   ·replace c50:=Bool.eq_false_iff.mpr c50
                    subst c50;have H1:(some (t188,false)) = some (r1,r2):=by rw [if_neg (show ¬ (false = true) by decide)] at H;exact H
                    clear H;have H:=H1;clear H1;simp only [Option.some.injEq,Prod.mk.injEq] at H;obtain ⟨rfl,rfl⟩:=H;have hnb65:=NB181_175.out;have hnc65:=NB175_181.out;obtain ⟨hcz66_0,hcz66_1,hcz66_2,hcz66_3⟩:=kb4 BK181.out
                    go_wp2_with (first|((with_reducible refine gate_callee (f:=41) rfl ?_);refine goesL_ (some 96) rfl rfl Try.func41 (by kernel_rfl) rfl #[.slice (some ad184) x4_2.length co14,.int .i64 ((rd_T64 l0_3 x6_2).f3),.int .i64 (rd x4_2 x6_2)] rfl gs ?_;(with_reducible refine (spec_l9Come.calls (fun k_=>some k_ = (.slice (some ad184) x4_2.length co14:Value).ownBlock) (.slice (some ad184) x4_2.length co14) x4_2 ((rd_T64 l0_3 x6_2).f3) (rd x4_2 x6_2) false t188 w _ ?side1 ?side2 A49.out).mono ?_);(case side1=>exact bl HB.out);(case side2=>exact Kd.R_tight rfl HO_4.out);rintro e w67 ⟨rfl,hy0,hb,hkp⟩;refine ⟨_,rfl,?_⟩;have n_:=ai (Aside0.mk (Kd.R_reok rfl hy0 (fun k_ e_=>HO_4.out.1 k_ e_))) <| ai (Aside0.mk (blk_kept (bk BK175.out) hkp (fun hs_=>(fun e_=>(Kd.R_ne HO_4.out BK175.out (by decide)) e_) hs_))) <| ai (Aside0.mk (blk_kept (bk BK181.out) hkp (fun hs_=>(fun e_=>(Kd.R_ne HO_4.out BK181.out (by decide)) e_) hs_))) <| Aside0.mk (hb);clear HO_4 BK175 BK181 HB;obtain ⟨HO_4,BK175,BK181,HB⟩:=n_;(try clear hb);(try clear hkp);(try clear hy0)))
                    go_ret2
                    exact ⟨_,cl,rk HO_4.out,bl HB.out⟩
                  ·rw [if_neg c48] at H
                   have c48b0:(((rd_T64 l0_3 x6_2).f0) == 9) = false:=beq_eq_false_iff_ne.mpr c48;have c48b1:(((rd_T64 l0_3 x6_2).f0) != 9) = true:=bne_iff_ne.mpr c48
                   by_cases c68:(wrap64 (x6_2 + 1)) < (x4_2.length:Int)
                   ·rw [if_pos c68] at H
                    have c68b0:decide ((wrap64 (x6_2 + 1)) < (x4_2.length:Int)) = true:=decide_eq_true c68;clear c68;replace H:=Option.bind_eq_some_iff.mp H;obtain ⟨⟨t191,t192⟩,A690,H⟩:=H;replace H:(if t191 = true then (spec_l9Heights.l1 kj32 t192 (wrap64 (x6_2 + 1)) a0_0 a0_1 a0_2 l0_3) else (some (t192,false))) = some (r1,r2):=H;have A69:=Aside0.mk A690;clear A690
                    by_cases c70:t191 = true
                    ·subst c70
                     have H1:(spec_l9Heights.l1 kj32 t192 (wrap64 (x6_2 + 1)) a0_0 a0_1 a0_2 l0_3) = some (r1,r2):=by rw [if_pos rfl] at H;exact H
                     clear H;have H:=H1;clear H1;have H':=Aside0.mk H;clear H
                     go_wp2_with (first|(go_at_call 41;(with_reducible refine (spec_l9Come.calls (fun k_=>some k_ = (.slice (some ad184) x4_2.length co14:Value).ownBlock) (.slice (some ad184) x4_2.length co14) x4_2 (wrap64 (x6_2 + 1)) (wrap64 ((wrap64 ((rd x4_2 x6_2) - t182)) + t183)) true t192 w _ ?side1 ?side2 A69.out).mono ?_);(case side1=>exact bl HB.out);(case side2=>exact Kd.R_tight rfl HO_4.out);rintro e w71 ⟨rfl,hy0,hb,hkp⟩;have n_:=ai (Aside0.mk (Kd.R_reok rfl hy0 (fun k_ e_=>HO_4.out.1 k_ e_))) <| ai (Aside0.mk (blk_kept (bk BK175.out) hkp (fun hs_=>(fun e_=>(Kd.R_ne HO_4.out BK175.out (by decide)) e_) hs_))) <| ai (Aside0.mk (blk_kept (bk BK181.out) hkp (fun hs_=>(fun e_=>(Kd.R_ne HO_4.out BK181.out (by decide)) e_) hs_))) <| Aside0.mk (hb);clear HO_4 BK175 BK181 HB;obtain ⟨HO_4,BK175,BK181,HB⟩:=n_;(try clear hb);(try clear hkp);(try clear hy0)))
                     (try simp only [← hl4_2])
                     go_roundg kj32
                     case measure=>have:=HK1.out;have:=HK2.out;have:=HJ18.out;have:=HJ32.out;omega
                     case rel=>exact ⟨(t192),(wrap64 (x6_2 + 1)),(cl2),H',⟨by have:=HK1.out;have:=HK2.out;have:=HJ18.out;have:=HJ32.out;omega⟩,⟨by (try simp only [hl4_2]);(with_reducible repeat (first|apply Kd.R_alloc|apply Kd.R_drewN|apply Kd.R_drew));exact HO_4.out⟩,⟨by (try simp only [hl4_2]);(with_reducible repeat (first|refine blk_drewN ?_ _|refine blk_drew ?_|refine blk_alloc ?_ _));exact BK175.out⟩,⟨bl HB.out⟩⟩
                    ·replace c70:=Bool.eq_false_iff.mpr c70
                     subst c70;have H1:(some (t192,false)) = some (r1,r2):=by rw [if_neg (show ¬ (false = true) by decide)] at H;exact H
                     clear H;have H:=H1;clear H1;simp only [Option.some.injEq,Prod.mk.injEq] at H;obtain ⟨rfl,rfl⟩:=H
                     go_wp2_with (first|(go_at_call 41;(with_reducible refine (spec_l9Come.calls (fun k_=>some k_ = (.slice (some ad184) x4_2.length co14:Value).ownBlock) (.slice (some ad184) x4_2.length co14) x4_2 (wrap64 (x6_2 + 1)) (wrap64 ((wrap64 ((rd x4_2 x6_2) - t182)) + t183)) false t192 w _ ?side1 ?side2 A69.out).mono ?_);(case side1=>exact bl HB.out);(case side2=>exact Kd.R_tight rfl HO_4.out);rintro e w72 ⟨rfl,hy0,hb,hkp⟩;have n_:=ai (Aside0.mk (Kd.R_reok rfl hy0 (fun k_ e_=>HO_4.out.1 k_ e_))) <| ai (Aside0.mk (blk_kept (bk BK175.out) hkp (fun hs_=>(fun e_=>(Kd.R_ne HO_4.out BK175.out (by decide)) e_) hs_))) <| ai (Aside0.mk (blk_kept (bk BK181.out) hkp (fun hs_=>(fun e_=>(Kd.R_ne HO_4.out BK181.out (by decide)) e_) hs_))) <| Aside0.mk (hb);clear HO_4 BK175 BK181 HB;obtain ⟨HO_4,BK175,BK181,HB⟩:=n_;(try clear hb);(try clear hkp);(try clear hy0)))
                     go_ret2
                     exact ⟨_,cl,rk HO_4.out,bl HB.out⟩
                   ·rw [if_neg c68] at H
                    have c68b0:decide ((wrap64 (x6_2 + 1)) < (x4_2.length:Int)) = false:=decide_eq_false c68;clear c68;simp only [Option.some.injEq,Prod.mk.injEq] at H;obtain ⟨rfl,rfl⟩:=H
                    go_wp2
                    go_ret2
                    exact ⟨_,cl,rk HO_4.out,bl HB.out⟩
          ·rw [if_neg c17] at H
           exact absurd H (by simp)
         ·rw [if_neg c16] at H
          exact absurd H (by simp)
        ·rw [if_neg c15] at H
         have c15b0:decide (x6_2 < (x4_2.length:Int)) = false:=decide_eq_false c15;clear c15;simp only [Option.some.injEq,Prod.mk.injEq] at H;obtain ⟨rfl,rfl⟩:=H
         go_wp2
         go_ret2
         exact ⟨_,cl,rk HO_4.out,bl HB.out⟩
  ·rw [if_neg c3] at H
   exact absurd H (by simp)
 ·rw [if_neg c2] at H
  exact absurd H (by simp)

end Go.Proofs.Ytghhbdmjafedbaa.QFnExactCodeOk
